import PyProof.Rows.All
import Wide.All
import OpenK.AllK
import Wide.FinOn
import HandS.ForMost
import HandS.ForExc
import HandS.IsInst
import HandS.Style
import HandS.TupAny
import HandS.Flow
import HandS.Dict
import KE.KeyNested
import KE.KDictPairs
import KE.KDictCopyH
import HandS.Deep
import HandS.TupLe
import HandS.Wide
import PyProof.ListMulRoad
import PyProof.FactsAll.tuple_2
import HandS.TupMul
import HandS.RaiseMore
import KE.KTupSum
import HandS.SortInts
import KE.GoesEnum
import KE.GoesMore
import KE.GoesZip
import HandS.WordsExc
import HandS.SetFor
import HandS.Strs
import HandS.Conv
import HandS.TupLen
import KE.KDictDisplayH
import HandS.DictEq
import KE.KDictWalk
import PySem.Challenge.RW_signway_k22_whole_snakes_and_coils
set_option Elab.async false
set_option linter.all false
set_option maxRecDepth 100000
set_option maxHeartbeats 4000000
/-! Q0: dicts whose keys are tuples without texts, as objects of the abstract heap -/
namespace Sg
open PySem PySem.Spec PyProof.Rows L2
mutual
/-- the hash of a key without texts -/
def kh : NestedKey → Int
  | .none => reduceHash 0xFCA86420
  | .num i => hashInt i
  | .text _ => 0
  | .tup ks => reduceHash (Builtin.Tuple.tupleHashOf (khs ks))
def khs : List NestedKey → List Int
  | [] => []
  | k :: ks => kh k :: khs ks
end
mutual
/-- no text in it -/
def ntx : NestedKey → Bool
  | .none => true
  | .num _ => true
  | .text _ => false
  | .tup ks => ntxs ks
def ntxs : List NestedKey → Bool
  | [] => true
  | k :: ks => ntx k && ntxs ks
end
mutual
theorem kh_eq (w : World) : ∀ k : NestedKey, ntx k = true → k.hash w = kh k
  | .none, _ => rfl
  | .num _, _ => rfl
  | .text _, h => by simp [ntx] at h
  | .tup ks, h => by
    have e := khs_eq w ks (by simpa [ntx] using h)
    simp only [NestedKey.hash, kh, e]
theorem khs_eq (w : World) : ∀ ks : List NestedKey, ntxs ks = true → NestedKey.hashes w ks = khs ks
  | [], _ => rfl
  | k :: ks, h => by
    simp only [ntxs, Bool.and_eq_true] at h
    simp only [NestedKey.hashes, khs, kh_eq w k h.1, khs_eq w ks h.2]
end
abbrev DK := NestedKey × Addr × V
def KR (p : DK) (q : NestedKey × Addr × Value) : Prop := p.1 = q.1 ∧ p.2.1 = q.2.1 ∧ RelV p.2.2 q.2.2
def kOk (k : NestedKey) : Bool := ntx k && decide (k.depth ≤ 8)
def DicP (a : Addr) (x : Nat × List DK) (h : Heap) : Prop :=
  x.2.length ≤ sizeLine ∧ (a == sysModules) = false ∧ (∀ p ∈ x.2, kOk p.1 = true) ∧ ∃ xs : List (NestedKey × Addr × Value), Paired KR x.2 xs ∧
    ∃ o es, h.get? a = some o ∧ o.ExactDict ∧ o.data = .dict es x.1 ∧ es.toList = xs.map (fun x => (⟨kh x.1, .ref x.2.1, x.2.2⟩ : DictEntry)) ∧ (xs.map (·.1)).Nodup
def DicO (a : Addr) (x : Nat × List DK) : HO := .ext (DicP a x)
theorem DicP.stay {a : Addr} {kvs : Nat × List DK} {h h' : Heap} (p : DicP a kvs h) (e : ∀ o, h.get? a = some o → h'.get? a = some o) : DicP a kvs h' := by
  obtain ⟨p1, p2, p3, xs, r, o, es, h1, h2⟩ := p
  exact ⟨p1, p2, p3, xs, r, o, es, e _ h1, h2⟩
theorem DicP.obj {P : Program} {w : World} {H : Hp} {a : Addr} {kvs : Nat × List DK} {h : Heap} (p : DicP a kvs h) : ObjOk P w H h a (DicO a kvs) :=
  ⟨p, let ⟨_, _, _, _, _, o, _, e, _⟩ := p; ⟨o, e⟩, fun _ _ q e => q.stay e⟩
theorem keys_entries {w : World} {P : Program} {kvs : List DK} {xs : List (NestedKey × Addr × Value)} (r : Paired KR kvs xs) (h : ∀ p ∈ kvs, kOk p.1 = true) :
    xs.map (entryOfKey (nestedKind P w)) = xs.map (fun x => (⟨kh x.1, .ref x.2.1, x.2.2⟩ : DictEntry)) := by
  induction r with
  | nil => rfl
  | @cons p q ps qs h1 t ih =>
    rw [List.map_cons, List.map_cons, ih (fun p hp => h p (List.mem_cons_of_mem _ hp))]
    have e := h p (List.mem_cons_self ..)
    rw [h1.1] at e
    simp only [kOk, Bool.and_eq_true] at e
    have : (nestedKind P w).hash q.1 = kh q.1 := kh_eq w _ e.1
    rw [entryOfKey, this]
/-- the kit's word of it, where the keys stand -/
theorem DicP.of {P : Program} {w : World} {a : Addr} {ep : Nat} {kvs : List DK} {h : Heap} (p : DicP a (ep, kvs) h) (hk : ∀ q ∈ kvs, NestedIs h q.1 (.ref q.2.1)) :
    ∃ xs, Paired KR kvs xs ∧ h.DictOfH (nestedKind P w) a xs ∧ xs.length ≤ sizeLine := by
  obtain ⟨p1, p2, p3, xs, r, o, es, h1, h2, h3, h4, h5⟩ := p
  dsimp only at p1 p3 r
  refine ⟨xs, r, ⟨o, es, ep, h1, h2, h3, by rw [keys_entries r p3]; exact h4, ?_, h5⟩, by rw [← Paired.length r]; exact p1⟩
  clear h1 h2 h3 h4 h5 p1 p2
  induction r with
  | nil => intro x hx; exact nomatch hx
  | @cons p q ps qs z t ih =>
    intro x hx
    rcases List.mem_cons.mp hx with e | hx
    · subst e
      have e1 := hk p (List.mem_cons_self ..)
      have e2 := p3 p (List.mem_cons_self ..)
      simp only [kOk, Bool.and_eq_true, decide_eq_true_eq] at e2
      rw [z.1, z.2.1] at e1
      rw [z.1] at e2
      exact ⟨e1, e2.2⟩
    · exact ih (fun q hq => hk q (List.mem_cons_of_mem _ hq)) (fun q hq => p3 q (List.mem_cons_of_mem _ hq)) x hx
/-- and back -/
theorem DicP.mk' {P : Program} {w : World} {a : Addr} {kvs : List DK} {xs : List (NestedKey × Addr × Value)} {h : Heap} (z : kvs.length ≤ sizeLine) (hs : (a == sysModules) = false) (hk : ∀ p ∈ kvs, kOk p.1 = true) (r : Paired KR kvs xs)
    (d : h.DictOfH (nestedKind P w) a xs) : ∃ ep, DicP a (ep, kvs) h := by
  obtain ⟨o, es, ep, h1, h2, h3, h4, _, h5⟩ := d
  exact ⟨ep, z, hs, hk, xs, r, o, es, h1, h2, h3, by rw [← keys_entries r hk]; exact h4, h5⟩
def kGet (kvs : List DK) (k : NestedKey) : Option V := (kvs.find? fun x => decide (x.1 = k)).map (·.2.2)
def kPutAt (k : NestedKey) (v : V) (x : DK) : DK := if x.1 = k then (x.1, x.2.1, v) else x
def kPut (kvs : List DK) (k : NestedKey) (a : Addr) (v : V) : List DK := if (kGet kvs k).isSome then kvs.map (kPutAt k v) else kvs ++ [(k, a, v)]
theorem kGet_rel {kvs : List DK} {xs : List (NestedKey × Addr × Value)} (r : Paired KR kvs xs) (k : NestedKey) : RelO (kGet kvs k) ((atKey xs k).map (·.2)) := by
  induction r with
  | nil => exact True.intro
  | @cons p q ps qs h t ih =>
    by_cases e : p.1 = k
    · have e' : q.1 = k := h.1.symm.trans e
      have a1 : kGet (p :: ps) k = some p.2.2 := by unfold kGet; simp only [List.find?_cons, decide_eq_true e]; rfl
      have a2 : atKey (q :: qs) k = some q.2 := by unfold atKey; simp only [List.find?_cons, decide_eq_true e']; rfl
      rw [a1, a2]; exact h.2.2
    · have e' : ¬ q.1 = k := fun z => e (h.1.trans z)
      have a1 : kGet (p :: ps) k = kGet ps k := by unfold kGet; simp only [List.find?_cons, decide_eq_false e]
      have a2 : atKey (q :: qs) k = atKey qs k := by unfold atKey; simp only [List.find?_cons, decide_eq_false e']
      rw [a1, a2]; exact ih
theorem kPut_rel {kvs : List DK} {xs : List (NestedKey × Addr × Value)} (r : Paired KR kvs xs) (k : NestedKey) (a : Addr) {v : V} {u : Value} (rv : RelV v u) : Paired KR (kPut kvs k a v) (storedH xs k a u) := by
  have e : (kGet kvs k).isSome = (atKey xs k).isSome := by
    have := (kGet_rel r k).isSome_eq
    rwa [Option.isSome_map] at this
  unfold kPut storedH
  rw [e]
  by_cases q : (atKey xs k).isSome = true
  · rw [if_pos q, if_pos q]
    clear e q
    induction r with
    | nil => exact .nil
    | @cons p q ps qs h t ih =>
      refine .cons ?_ ih
      unfold kPutAt putAt
      by_cases e : p.1 = k
      · rw [if_pos e, if_pos (h.1.symm.trans e)]; exact ⟨h.1, h.2.1, rv⟩
      · rw [if_neg e, if_neg (fun z => e (h.1.trans z))]; exact h
  · rw [if_neg q, if_neg q]
    exact Paired.snoc r ⟨rfl, rfl, rv⟩
theorem kPut_len (kvs : List DK) (k : NestedKey) (a : Addr) (v : V) : (kPut kvs k a v).length ≤ kvs.length + 1 := by
  unfold kPut
  split
  · rw [List.length_map]; omega
  · rw [List.length_append]; simp
theorem kPut_mem {kvs : List DK} {k : NestedKey} {a : Addr} {v : V} {x : DK} (h : x ∈ kPut kvs k a v) : (∃ y ∈ kvs, x.1 = y.1 ∧ x.2.1 = y.2.1) ∨ (x.1 = k ∧ x.2.1 = a) := by
  unfold kPut at h
  split at h
  · obtain ⟨y, hy, rfl⟩ := List.mem_map.mp h
    left
    refine ⟨y, hy, ?_⟩
    unfold kPutAt
    split <;> exact ⟨rfl, rfl⟩
  · rcases List.mem_append.mp h with h | h
    · exact .inl ⟨x, h, rfl, rfl⟩
    · right
      have := List.mem_singleton.mp h
      subst this
      exact ⟨rfl, rfl⟩
section
variable {X : Cx} {pins : List (Addr × Obj)} {σ : L2.St} {H : Hp} {s : Shared} {a b : Addr} {ep : Nat} {kvs : List DK} {k : NestedKey} {u r : Value} {v : V} {A : Around} {E : Value → Shared → Prop}
theorem dic_rd {x : Nat × List DK} (I : Inv X pins σ H s) (e : Rd H a (DicO a x)) : DicP a x s.heap := (show ObjOk X.prog X.w H s.heap a (DicO a x) from rd_of I.hok e).1
theorem dic_get {w' : V} {Q : Value → Shared → Prop} (hu : A.units + 9 < cLine) (I : Inv X pins σ H s) (e : Rd H a (DicO a (ep, kvs))) (hk : ∀ q ∈ kvs, NestedIs s.heap q.1 (.ref q.2.1)) (kb : NestedIs s.heap k (.ref b)) (ko : kOk k = true)
    (l : kGet kvs k = some w') (h : ∀ u' s', Inv X pins σ H s' → RelV w' u' → Q u' s') : wpAny (model X.prog X.w) A (getItem (.ref a) (.ref b)) Q E s := by
  obtain ⟨xs, rel, dd, _⟩ := (dic_rd I e).of (P := X.prog) (w := X.w) hk
  simp only [kOk, Bool.and_eq_true, decide_eq_true_eq] at ko
  obtain ⟨u', hw, ru⟩ := RelO.some_of (v := w') (o := (atKey xs k).map (·.2)) (by rw [← l]; exact kGet_rel rel k)
  obtain ⟨p, hp, hp2⟩ := Option.map_eq_some_iff.mp hw
  refine wpAny_getItem_heap (knd := nestedKind X.prog X.w) (by show A.in1.units + 8 < cLine; rw [Around.in1_units]; omega) ⟨kb, ko.2⟩ dd hp ?_
  rw [hp2]
  exact h u' _ (I.tok _) ru
theorem dic_in {Q : Value → Shared → Prop} (hu : A.units + 9 < cLine) (I : Inv X pins σ H s) (e : Rd H a (DicO a (ep, kvs))) (hk : ∀ q ∈ kvs, NestedIs s.heap q.1 (.ref q.2.1)) (kb : NestedIs s.heap k (.ref b)) (ko : kOk k = true)
    (h : ∀ s', Inv X pins σ H s' → Q (.bool (kGet kvs k).isSome) s') : wpAny (model X.prog X.w) A (compareOp .In (.ref b) (.ref a)) Q E s := by
  have dp := dic_rd I e
  obtain ⟨xs, rel, dd, _⟩ := dp.of (P := X.prog) (w := X.w) hk
  simp only [kOk, Bool.and_eq_true, decide_eq_true_eq] at ko
  refine wpAny_in_heap (knd := nestedKind X.prog X.w) (by show A.in1.units + 8 < cLine; rw [Around.in1_units]; omega) ⟨kb, ko.2⟩ dp.2.1 dd ?_
  have q := (kGet_rel rel k).isSome_eq
  rw [Option.isSome_map] at q
  rw [← q]
  exact h _ (I.tok _)
theorem dic_notin {Q : Value → Shared → Prop} (hu : A.units + 9 < cLine) (I : Inv X pins σ H s) (e : Rd H a (DicO a (ep, kvs))) (hk : ∀ q ∈ kvs, NestedIs s.heap q.1 (.ref q.2.1)) (kb : NestedIs s.heap k (.ref b)) (ko : kOk k = true)
    (h : ∀ s', Inv X pins σ H s' → Q (.bool (!(kGet kvs k).isSome)) s') : wpAny (model X.prog X.w) A (compareOp .NotIn (.ref b) (.ref a)) Q E s := by
  have dp := dic_rd I e
  obtain ⟨xs, rel, dd, _⟩ := dp.of (P := X.prog) (w := X.w) hk
  simp only [kOk, Bool.and_eq_true, decide_eq_true_eq] at ko
  refine wpAny_notIn_heap (knd := nestedKind X.prog X.w) (by show A.in1.units + 8 < cLine; rw [Around.in1_units]; omega) ⟨kb, ko.2⟩ dp.2.1 dd ?_
  have q := (kGet_rel rel k).isSome_eq
  rw [Option.isSome_map] at q
  rw [← q]
  exact h _ (I.tok _)
theorem dic_put {Q : Unit → Shared → Prop} (hu : A.units + 9 < cLine) (I : Inv X pins σ H s) (e : H a = some (DicO a (ep, kvs))) (hk : ∀ q ∈ kvs, NestedIs s.heap q.1 (.ref q.2.1)) (kb : NestedIs s.heap k (.ref b)) (ko : kOk k = true)
    (l : kvs.length < sizeLine) (rv : RelV v r) (h : ∀ ep' s', Inv X pins σ (upd H a (DicO a (ep', kPut kvs k b v))) s' → Q () s') : wpAny (model X.prog X.w) A (setItem (.ref a) (.ref b) r) Q E s := by
  have dp := dic_rd I (.inl e)
  obtain ⟨xs, rel, dd, hz⟩ := dp.of (P := X.prog) (w := X.w) hk
  have ko' := ko
  simp only [kOk, Bool.and_eq_true, decide_eq_true_eq] at ko'
  refine wpAny_setItem_heap (knd := nestedKind X.prog X.w) (hsz := hz) (by show A.in1.units + 8 < cLine; rw [Around.in1_units]; omega) ⟨kb, ko'.2⟩ dd fun h' dd' hs => ?_
  have he : ∃ q, h'.get? a = some q := let ⟨q, _, _, hq, _⟩ := dd'; ⟨q, hq⟩
  have z1 : (kPut kvs k b v).length ≤ sizeLine := by have := kPut_len kvs k b v; omega
  have z2 : ∀ p ∈ kPut kvs k b v, kOk p.1 = true := by
    intro p hp
    rcases kPut_mem hp with ⟨y, hy, e1, _⟩ | ⟨e1, _⟩
    · rw [e1]; exact dp.2.2.1 y hy
    · rw [e1]; exact ko
  obtain ⟨ep', dn⟩ := DicP.mk' z1 dp.2.1 z2 (kPut_rel rel k b rv) dd'
  exact h ep' _ (d_write I (by rw [e]; exact True.intro) hs he (DicP.obj dn))
end
end Sg

/-! Q1: data, worlds, readings by mirrors -/
namespace Sg
open PySem PySem.Spec PyProof.Rows L2

/-- data that never change -/
inductive D where
  | non | bl (b : Bool) | int (i : Int) | str (x : Str) | tup (ds : List D) | lst (ds : List D) | adr (a : Addr) | ty (n : String) | dic (ks vs : List D) | set (ds : List D) | scr (ds : List D)
/-- what a name holds: data, or a thing of the store -/
inductive Y where
  | v (d : D) | ref (n : Nat)
/-- things of the store, which change -/
inductive O where
  | lst (ds : List D) | dic (ks vs : List D) | set (ds : List D) | ins (c : Addr) (fs : List (Str × Y)) | gone
abbrev Sto := List O
abbrev Ev := List (Option Y)
/-- an exception: its class's name, the ints that it bears (none: it has no own dict) -/
structure Xc where
  nm : Str
  fs : Option (List (Str × Int))
inductive Res (α : Type) where
  | ok (a : α) (S : Sto) | exc (x : Xc) (S : Sto) | bad
@[simp] def Res.bind {α β : Type} : Res α → (α → Sto → Res β) → Res β
  | .ok a S, f => f a S
  | .exc x S, _ => .exc x S
  | .bad, _ => .bad

mutual
def nkey : D → Option NestedKey
  | .non => some .none
  | .bl b => some (.num (if b = true then 1 else 0))
  | .int i => some (.num i)
  | .tup ds => match nkeys ds with
    | some ks => some (.tup ks)
    | none => none
  | _ => none
def nkeys : List D → Option (List NestedKey)
  | [] => some []
  | d :: ds => match nkey d, nkeys ds with
    | some k, some ks => some (k :: ks)
    | _, _ => none
end
mutual
inductive Rp (K : PySem.W.Frag) (F : Hp) : D → V → Prop
  | non : Rp K F .non .non
  | bl (b : Bool) : Rp K F (.bl b) (.bl b)
  | int (i : Int) : Rp K F (.int i) (.int i)
  | str (x : Str) : Rp K F (.str x) (.str x)
  | tup {a : Addr} {xs : List V} {ds : List D} : SqT K F a xs → RpL K F ds xs → Rp K F (.tup ds) (.ref a)
  | lst {a : Addr} {xs : List V} {ds : List D} : Rd F a (.lst xs) → RpL K F ds xs → Rp K F (.lst ds) (.ref a)
  | adr (a : Addr) : Rp K F (.adr a) (.ref a)
  | ty (n : String) : Rp K F (.ty n) (.ty n)
  | scr {a : Addr} {xs : List V} {ds : List D} : SqL K F a xs → RpL K F ds xs → Rp K F (.scr ds) (.ref a)
  | dic {a : Addr} {kvs : Nat × List DK} {ks vs : List D} : Rd F a (DicO a kvs) → RpD K F ks vs kvs.2 → Rp K F (.dic ks vs) (.ref a)
inductive RpL (K : PySem.W.Frag) (F : Hp) : List D → List V → Prop
  | nil : RpL K F [] []
  | cons {d : D} {ds : List D} {v : V} {vs : List V} : Rp K F d v → RpL K F ds vs → RpL K F (d :: ds) (v :: vs)
inductive RpD (K : PySem.W.Frag) (F : Hp) : List D → List D → List DK → Prop
  | nil : RpD K F [] [] []
  | cons {d e : D} {ks vs : List D} {k : NestedKey} {a : Addr} {x : V} {kvs : List DK} : nkey d = some k → Rp K F d (.ref a) → Rp K F e x → RpD K F ks vs kvs → RpD K F (d :: ks) (e :: vs) ((k, a, x) :: kvs)
end
/-- the frozen heap grows -/
def Le (F F' : Hp) : Prop := ∀ a o, F a = some o → F' a = some o
theorem Le.refl (F : Hp) : Le F F := fun _ _ h => h
theorem Le.trans {F G E : Hp} (a : Le F G) (b : Le G E) : Le F E := fun x o h => b x o (a x o h)
theorem Le.rd {F F' : Hp} (l : Le F F') {a : Addr} {u : HO} (h : Rd F a u) : Rd F' a u := by
  rcases h with h | ⟨o, h⟩
  · exact .inl (l _ _ h)
  · exact .inr ⟨o, l _ _ h⟩
theorem Le.sqT {K : PySem.W.Frag} {F F' : Hp} (l : Le F F') {a : Addr} {xs : List V} (h : SqT K F a xs) : SqT K F' a xs := h.imp l.rd id
theorem Le.sqL {K : PySem.W.Frag} {F F' : Hp} (l : Le F F') {a : Addr} {xs : List V} (h : SqL K F a xs) : SqL K F' a xs := h.imp l.rd id
mutual
theorem Rp.mono {K : PySem.W.Frag} {F F' : Hp} (l : Le F F') : ∀ {d : D} {v : V}, Rp K F d v → Rp K F' d v
  | _, _, .non => .non
  | _, _, .bl b => .bl b
  | _, _, .int i => .int i
  | _, _, .str x => .str x
  | _, _, .tup h r => .tup (l.sqT h) (RpL.mono l r)
  | _, _, .lst h r => .lst (l.rd h) (RpL.mono l r)
  | _, _, .adr a => .adr a
  | _, _, .ty n => .ty n
  | _, _, .scr h r => .scr (h.imp l.rd id) (RpL.mono l r)
  | _, _, .dic h r => .dic (l.rd h) (RpD.mono l r)
theorem RpL.mono {K : PySem.W.Frag} {F F' : Hp} (l : Le F F') : ∀ {ds : List D} {vs : List V}, RpL K F ds vs → RpL K F' ds vs
  | _, _, .nil => .nil
  | _, _, .cons h r => .cons (Rp.mono l h) (RpL.mono l r)
theorem RpD.mono {K : PySem.W.Frag} {F F' : Hp} (l : Le F F') : ∀ {ks vs : List D} {kvs : List DK}, RpD K F ks vs kvs → RpD K F' ks vs kvs
  | _, _, _, .nil => .nil
  | _, _, _, .cons e h q r => .cons e (Rp.mono l h) (Rp.mono l q) (RpD.mono l r)
end
theorem RpL.length {K : PySem.W.Frag} {F : Hp} : ∀ {ds : List D} {vs : List V}, RpL K F ds vs → ds.length = vs.length
  | _, _, .nil => rfl
  | _, _, .cons _ r => congrArg (· + 1) (RpL.length r)
theorem RpL.get {K : PySem.W.Frag} {F : Hp} : ∀ {ds : List D} {vs : List V} {i : Nat} {d : D}, RpL K F ds vs → ds[i]? = some d → ∃ v, vs[i]? = some v ∧ Rp K F d v
  | _, _, _, _, .nil, e => by simp at e
  | _, _, 0, _, .cons h _, e => by simp at e; subst e; exact ⟨_, rfl, h⟩
  | _, _, i + 1, _, .cons _ r, e => by
    obtain ⟨v, h1, h2⟩ := RpL.get (i := i) r (by simpa using e)
    exact ⟨v, by simpa using h1, h2⟩
theorem RpL.get' {K : PySem.W.Frag} {F : Hp} : ∀ {ds : List D} {vs : List V} {i : Nat} {v : V}, RpL K F ds vs → vs[i]? = some v → ∃ d, ds[i]? = some d ∧ Rp K F d v
  | _, _, _, _, .nil, e => by simp at e
  | _, _, 0, _, .cons h _, e => by simp at e; subst e; exact ⟨_, rfl, h⟩
  | _, _, i + 1, _, .cons _ r, e => by
    obtain ⟨v, h1, h2⟩ := RpL.get' (i := i) r (by simpa using e)
    exact ⟨v, by simpa using h1, h2⟩
theorem RpL.append {K : PySem.W.Frag} {F : Hp} : ∀ {ds es : List D} {vs ws : List V}, RpL K F ds vs → RpL K F es ws → RpL K F (ds ++ es) (vs ++ ws)
  | _, _, _, _, .nil, s => s
  | _, _, _, _, .cons h r, s => .cons h (RpL.append r s)
theorem RpL.take {K : PySem.W.Frag} {F : Hp} : ∀ {ds : List D} {vs : List V} (n : Nat), RpL K F ds vs → RpL K F (ds.take n) (vs.take n)
  | _, _, 0, _ => .nil
  | _, _, _ + 1, .nil => .nil
  | _, _, n + 1, .cons h r => .cons h (RpL.take n r)
theorem RpL.drop {K : PySem.W.Frag} {F : Hp} : ∀ {ds : List D} {vs : List V} (n : Nat), RpL K F ds vs → RpL K F (ds.drop n) (vs.drop n)
  | _, _, 0, r => r
  | _, _, _ + 1, .nil => .nil
  | _, _, n + 1, .cons _ r => RpL.drop n r
theorem RpL.reverse {K : PySem.W.Frag} {F : Hp} : ∀ {ds : List D} {vs : List V}, RpL K F ds vs → RpL K F ds.reverse vs.reverse
  | _, _, .nil => .nil
  | _, _, .cons h r => by rw [List.reverse_cons, List.reverse_cons]; exact RpL.append (RpL.reverse r) (.cons h .nil)
theorem RpL.set {K : PySem.W.Frag} {F : Hp} {d : D} {v : V} (q : Rp K F d v) : ∀ {ds : List D} {vs : List V} (i : Nat), RpL K F ds vs → RpL K F (ds.set i d) (vs.set i v)
  | _, _, _, .nil => .nil
  | _, _, 0, .cons _ r => .cons q r
  | _, _, i + 1, .cons h r => .cons h (RpL.set q i r)
theorem RpL.eraseIdx {K : PySem.W.Frag} {F : Hp} : ∀ {ds : List D} {vs : List V} (i : Nat), RpL K F ds vs → RpL K F (ds.eraseIdx i) (vs.eraseIdx i)
  | _, _, _, .nil => .nil
  | _, _, 0, .cons _ r => r
  | _, _, i + 1, .cons h r => .cons h (RpL.eraseIdx i r)

/-- a world: the frozen heap, the store's addresses, what the context holds besides -/
structure Wd where
  F : Hp
  io : List Addr
  X : Hp
structure Wd.le (w w' : Wd) : Prop where
  F : Le w.F w'.F
  io : ∃ more, w'.io = w.io ++ more
  X : w'.X = w.X
theorem Wd.le.refl (w : Wd) : w.le w := ⟨.refl _, ⟨[], by simp⟩, rfl⟩
theorem Wd.le.trans {a b c : Wd} (x : a.le b) (y : b.le c) : a.le c := ⟨x.F.trans y.F, by
  obtain ⟨m, e⟩ := x.io
  obtain ⟨n, f⟩ := y.io
  exact ⟨m ++ n, by rw [f, e, List.append_assoc]⟩, y.X.trans x.X⟩
theorem Wd.le.get {a b : Wd} (x : a.le b) {n : Nat} {p : Addr} (h : a.io[n]? = some p) : b.io[n]? = some p := by
  obtain ⟨m, e⟩ := x.io
  rw [e, List.getElem?_append_left (List.getElem?_eq_some_iff.mp h).1]
  exact h
/-- a value of a name -/
def RY (K : PySem.W.Frag) (w : Wd) : Y → V → Prop
  | .v d, x => Rp K w.F d x
  | .ref n, x => ∃ a, w.io[n]? = some a ∧ x = .ref a
theorem RY.mono {K : PySem.W.Frag} {w w' : Wd} (l : w.le w') : ∀ {y : Y} {v : V}, RY K w y v → RY K w' y v
  | .v _, _, h => Rp.mono l.F h
  | .ref _, _, ⟨a, h, e⟩ => ⟨a, l.get h, e⟩
inductive RYs (K : PySem.W.Frag) (w : Wd) : List Y → List V → Prop
  | nil : RYs K w [] []
  | cons {y : Y} {ys : List Y} {v : V} {vs : List V} : RY K w y v → RYs K w ys vs → RYs K w (y :: ys) (v :: vs)
theorem RYs.mono {K : PySem.W.Frag} {w w' : Wd} (l : w.le w') : ∀ {ys : List Y} {vs : List V}, RYs K w ys vs → RYs K w' ys vs
  | _, _, .nil => .nil
  | _, _, .cons h r => .cons (RY.mono l h) (RYs.mono l r)
theorem RYs.length {K : PySem.W.Frag} {w : Wd} : ∀ {ys : List Y} {vs : List V}, RYs K w ys vs → ys.length = vs.length
  | _, _, .nil => rfl
  | _, _, .cons _ r => congrArg (· + 1) (RYs.length r)
theorem RYs.get {K : PySem.W.Frag} {w : Wd} : ∀ {ys : List Y} {vs : List V} {i : Nat} {y : Y}, RYs K w ys vs → ys[i]? = some y → ∃ v, vs[i]? = some v ∧ RY K w y v
  | _, _, _, _, .nil, e => by simp at e
  | _, _, 0, _, .cons h _, e => by simp at e; subst e; exact ⟨_, rfl, h⟩
  | _, _, i + 1, _, .cons _ r, e => by
    obtain ⟨v, h1, h2⟩ := RYs.get (i := i) r (by simpa using e)
    exact ⟨v, by simpa using h1, h2⟩
/-- the slots -/
structure EnvR (K : PySem.W.Frag) (w : Wd) (env : Ev) (σ : L2.St) : Prop where
  len : env.length = σ.length
  at_ : ∀ (i : Nat) (y : Y), env[i]? = some (some y) → ∃ v : V, σ[i]? = some (some v) ∧ RY K w y v
theorem EnvR.mono {K : PySem.W.Frag} {w w' : Wd} (l : w.le w') {env : Ev} {σ : L2.St} (h : EnvR K w env σ) : EnvR K w' env σ :=
  ⟨h.len, fun i y e => let ⟨v, a, b⟩ := h.at_ i y e; ⟨v, a, b.mono l⟩⟩
theorem EnvR.set {K : PySem.W.Frag} {w : Wd} {env : Ev} {σ : L2.St} (h : EnvR K w env σ) {y : Y} {v : V} (i : Nat) (r : RY K w y v) : EnvR K w (env.set i (some y)) (σ.set i (some v)) := by
  refine ⟨by simp [h.len], fun j z e => ?_⟩
  by_cases hj : i = j
  · subst hj
    by_cases hi : i < env.length
    · rw [List.getElem?_set_self hi] at e
      cases e
      exact ⟨v, List.getElem?_set_self (by rw [← h.len]; exact hi), r⟩
    · rw [List.getElem?_eq_none (by simpa using hi)] at e; cases e
  · rw [List.getElem?_set_ne hj] at e
    obtain ⟨u, a, b⟩ := h.at_ j z e
    exact ⟨u, by rw [List.getElem?_set_ne hj]; exact a, b⟩
/-- a thing of the store, as it stands -/
def ORep (K : PySem.W.Frag) (w : Wd) (H : Hp) (a : Addr) : O → Prop
  | .lst ds => ∃ xs, H a = some (.lst xs) ∧ RpL K w.F ds xs
  | .dic ks vs => ∃ kvs : Nat × List DK, H a = some (DicO a kvs) ∧ RpD K w.F ks vs kvs.2
  | .gone => True
  | _ => False
def notFrz : HO → Prop
  | .frz _ _ => False
  | _ => True
structure Sim (K : PySem.W.Frag) (w : Wd) (S : Sto) (H : Hp) : Prop where
  len : w.io.length = S.length
  fr : ∀ a o, w.F a = some o → H a = some o ∨ (notFrz o ∧ ∃ ob, H a = some (.frz ob o))
  ob : ∀ (n : Nat) (o : O) (a : Addr), S[n]? = some o → w.io[n]? = some a → o ≠ .gone → ORep K w H a o ∧ (∃ u, H a = some u) ∧ w.F a = none ∧ w.X a = none
  inj : ∀ (n m : Nat) (a : Addr), w.io[n]? = some a → w.io[m]? = some a → S[n]? ≠ some .gone → S[m]? ≠ some .gone → n = m
  ex : ∀ a o, w.X a = some o → H a = some o ∧ w.F a = none
section
variable {K : PySem.W.Frag} {w : Wd} {S : Sto} {H : Hp}
theorem Sim.rd (s : Sim K w S H) {a : Addr} {u : HO} (h : Rd w.F a u) : Rd H a u := by
  rcases h with h | ⟨o, h⟩
  · rcases s.fr a u h with q | ⟨_, ob, q⟩
    · exact .inl q
    · exact .inr ⟨ob, q⟩
  · rcases s.fr a _ h with q | ⟨n, _⟩
    · exact .inr ⟨o, q⟩
    · exact n.elim
theorem Sim.sqT (s : Sim K w S H) {a : Addr} {xs : List V} (h : SqT K w.F a xs) : SqT K H a xs := h.imp s.rd id
theorem Sim.sqL (s : Sim K w S H) {a : Addr} {xs : List V} (h : SqL K w.F a xs) : SqL K H a xs := h.imp s.rd id
theorem Sim.freshF (s : Sim K w S H) {p : Addr} (hp : H p = none) : w.F p = none := by
  cases q : w.F p with
  | none => rfl
  | some o =>
    rcases s.fr p o q with z | ⟨_, _, z⟩
    · rw [hp] at z; cases z
    · rw [hp] at z; cases z
theorem Sim.freshX (s : Sim K w S H) {p : Addr} (hp : H p = none) : w.X p = none := by
  cases q : w.X p with
  | none => rfl
  | some o =>
    have z := (s.ex p o q).1
    rw [hp] at z; cases z
theorem le_upd {F : Hp} {p : Addr} {o : HO} (h : F p = none) : Le F (upd F p o) := fun a u e => by
  rw [upd_ne (ne_of_none e h)]; exact e
theorem Sim.live (s : Sim K w S H) {p : Addr} (hp : H p = none) {n : Nat} (hn : w.io[n]? = some p) : S[n]? = some .gone := by
  have hl : n < S.length := by rw [← s.len]; exact (List.getElem?_eq_some_iff.mp hn).1
  have e : S[n]? = some S[n] := List.getElem?_eq_getElem hl
  by_cases g : S[n] = .gone
  · rw [e, g]
  · obtain ⟨_, ⟨u, z⟩, _⟩ := s.ob n _ p e hn g
    rw [hp] at z; cases z
/-- the heap has a new object that nobody tells of -/
theorem Sim.junk (s : Sim K w S H) {p : Addr} {o : HO} (hp : H p = none) : Sim K w S (upd H p o) := by
  refine ⟨s.len, fun a u e => ?_, fun n o' a e1 e2 g => ?_, s.inj, fun a u e => ?_⟩
  · have ne : a ≠ p := ne_of_none e (s.freshF hp)
    rw [upd_ne ne]; exact s.fr a u e
  · obtain ⟨r, ⟨u, z⟩, f, x⟩ := s.ob n o' a e1 e2 g
    have ne : a ≠ p := ne_of_none z hp
    refine ⟨?_, ⟨u, by rw [upd_ne ne]; exact z⟩, f, x⟩
    cases o' with
    | lst ds => obtain ⟨xs, h1, h2⟩ := r; exact ⟨xs, by rw [upd_ne ne]; exact h1, h2⟩
    | dic ks vs => obtain ⟨xs, h1, h2⟩ := r; exact ⟨xs, by rw [upd_ne ne]; exact h1, h2⟩
    | gone => trivial
    | _ => exact r.elim
  · have ne : a ≠ p := ne_of_none e (s.freshX hp)
    rw [upd_ne ne]; exact s.ex a u e
theorem ORep.le {w w' : Wd} (l : Le w.F w'.F) {a : Addr} {o : O} (h : ORep K w H a o) : ORep K w' H a o := by
  cases o with
  | lst ds => obtain ⟨xs, h1, h2⟩ := h; exact ⟨xs, h1, h2.mono l⟩
  | dic ks vs => obtain ⟨xs, h1, h2⟩ := h; exact ⟨xs, h1, h2.mono l⟩
  | gone => trivial
  | _ => exact h.elim
/-- an object is frozen: it stands in H, nobody else tells of it -/
theorem Sim.froze (s : Sim K w S H) {p : Addr} {o : HO} (hp : H p = some o) (hF : w.F p = none) (hX : w.X p = none) (hs : ∀ n : Nat, w.io[n]? = some p → S[n]? = some .gone) : Sim K { w with F := upd w.F p o } S H := by
  have l : Le w.F (upd w.F p o) := le_upd hF
  refine ⟨s.len, fun a u e => ?_, fun n o' a e1 e2 g => ?_, s.inj, fun a u e => ?_⟩
  · by_cases ha : a = p
    · subst ha
      have e' : upd w.F a o a = some u := e
      rw [upd_same] at e'; cases e'; exact .inl hp
    · have e' : upd w.F p o a = some u := e
      rw [upd_ne ha] at e'; exact s.fr a u e'
  · obtain ⟨r, z, f, x⟩ := s.ob n o' a e1 e2 g
    have ne : a ≠ p := fun q => by
      subst q
      rw [hs n e2] at e1; cases e1; exact g rfl
    exact ⟨ORep.le l r, z, by show upd w.F p o a = none; rw [upd_ne ne]; exact f, x⟩
  · obtain ⟨h1, h2⟩ := s.ex a u e
    refine ⟨h1, ?_⟩
    have ne : a ≠ p := ne_of_none e hX
    show upd w.F p o a = none
    rw [upd_ne ne]; exact h2
theorem Wd.le.froze {w : Wd} {p : Addr} {o : HO} (hF : w.F p = none) : w.le { w with F := upd w.F p o } := ⟨le_upd hF, ⟨[], by simp⟩, rfl⟩
/-- a new frozen object -/
theorem Sim.newF (s : Sim K w S H) {p : Addr} {o : HO} (hp : H p = none) : Sim K { w with F := upd w.F p o } S (upd H p o) :=
  (s.junk hp).froze upd_same (s.freshF hp) (s.freshX hp) (fun n hn => s.live hp hn)
/-- a new thing of the store -/
theorem Sim.newO (s : Sim K w S H) {p : Addr} {o : HO} {t : O} (hp : H p = none) (ht : t ≠ .gone → ORep K w (upd H p o) p t) : Sim K { w with io := w.io ++ [p] } (S ++ [t]) (upd H p o) := by
  have j := s.junk (o := o) hp
  have hl := s.len
  refine ⟨by simp [hl], j.fr, fun n o' a e1 e2 g => ?_, fun n m a e1 e2 g1 g2 => ?_, j.ex⟩
  · by_cases hn : n < S.length
    · rw [List.getElem?_append_left hn] at e1
      have e2' : (w.io ++ [p])[n]? = some a := e2
      rw [List.getElem?_append_left (by omega)] at e2'
      obtain ⟨r, z, f, x⟩ := j.ob n o' a e1 e2' g
      refine ⟨?_, z, f, x⟩
      cases o' with
      | lst ds => exact r
      | dic ks vs => exact r
      | gone => trivial
      | _ => exact r.elim
    · rw [List.getElem?_append_right (by omega)] at e1
      have hz : n - S.length = 0 := by
        by_cases q : n - S.length = 0
        · exact q
        · rw [List.getElem?_eq_none (by simp; omega)] at e1; cases e1
      rw [hz] at e1
      have e2' : (w.io ++ [p])[n]? = some a := e2
      rw [List.getElem?_append_right (by omega), hl, hz] at e2'
      simp at e1 e2'
      subst e1; subst e2'
      refine ⟨?_, ⟨o, upd_same⟩, s.freshF hp, s.freshX hp⟩
      have r := ht g
      cases t with
      | lst ds => exact r
      | dic ks vs => exact r
      | gone => trivial
      | _ => exact r.elim
  · have gone : ∀ k : Nat, k < w.io.length → (w.io ++ [p])[k]? = some p → (S ++ [t])[k]? = some .gone := fun k hk e => by
      rw [List.getElem?_append_left hk] at e
      rw [List.getElem?_append_left (by omega)]
      exact s.live hp e
    have e1' : (w.io ++ [p])[n]? = some a := e1
    have e2' : (w.io ++ [p])[m]? = some a := e2
    have bn : n < w.io.length + 1 := by have := (List.getElem?_eq_some_iff.mp e1').1; simpa using this
    have bm : m < w.io.length + 1 := by have := (List.getElem?_eq_some_iff.mp e2').1; simpa using this
    have last : ∀ k : Nat, ¬ k < w.io.length → k < w.io.length + 1 → (w.io ++ [p])[k]? = some p := fun k h1 h2 => by
      have : k = w.io.length := by omega
      subst this; simp
    by_cases hn : n < w.io.length <;> by_cases hm : m < w.io.length
    · rw [List.getElem?_append_left hn] at e1'
      rw [List.getElem?_append_left hm] at e2'
      rw [List.getElem?_append_left (by omega)] at g1 g2
      exact s.inj n m a e1' e2' g1 g2
    · rw [last m hm bm] at e2'
      cases e2'
      exact absurd (gone n hn e1') g1
    · rw [last n hn bn] at e1'
      cases e1'
      exact absurd (gone m hm e2') g2
    · omega
theorem Wd.le.newO {w : Wd} {p : Addr} : w.le { w with io := w.io ++ [p] } := ⟨.refl _, ⟨[p], rfl⟩, rfl⟩
/-- a thing of the store changes -/
theorem Sim.setO (s : Sim K w S H) {n : Nat} {a : Addr} {o : HO} {t : O} (hn : w.io[n]? = some a) (hS : ∃ t0, S[n]? = some t0 ∧ t0 ≠ .gone) (ht : t ≠ .gone → ORep K w (upd H a o) a t) : Sim K w (S.set n t) (upd H a o) := by
  obtain ⟨t0, e0, g0⟩ := hS
  obtain ⟨_, ⟨u0, z0⟩, f0, x0⟩ := s.ob n t0 a e0 hn g0
  have hl : n < S.length := (List.getElem?_eq_some_iff.mp e0).1
  refine ⟨by simp [s.len], fun b u e => ?_, fun m o' b e1 e2 g => ?_, fun k m b e1 e2 g1 g2 => ?_, fun b u e => ?_⟩
  · have ne : b ≠ a := ne_of_none e f0
    rw [upd_ne ne]; exact s.fr b u e
  · by_cases hm : n = m
    · subst hm
      rw [List.getElem?_set_self hl] at e1
      cases e1
      rw [hn] at e2; cases e2
      exact ⟨ht g, ⟨o, upd_same⟩, f0, x0⟩
    · rw [List.getElem?_set_ne hm] at e1
      obtain ⟨r, ⟨u, z⟩, f, x⟩ := s.ob m o' b e1 e2 g
      have ne : b ≠ a := fun q => by
        subst q
        exact hm (s.inj n m b hn e2 (by rw [e0]; intro q; cases q; exact g0 rfl) (by rw [e1]; intro q; cases q; exact g rfl))
      refine ⟨?_, ⟨u, by rw [upd_ne ne]; exact z⟩, f, x⟩
      cases o' with
      | lst ds => obtain ⟨xs, h1, h2⟩ := r; exact ⟨xs, by rw [upd_ne ne]; exact h1, h2⟩
      | dic ks vs => obtain ⟨xs, h1, h2⟩ := r; exact ⟨xs, by rw [upd_ne ne]; exact h1, h2⟩
      | gone => trivial
      | _ => exact r.elim
  · have gs : ∀ i : Nat, (S.set n t)[i]? ≠ some .gone → w.io[i]? = some b → S[i]? ≠ some .gone := fun i g e q => by
      by_cases hi : n = i
      · subst hi; rw [e0] at q; cases q; exact g0 rfl
      · rw [List.getElem?_set_ne hi] at g; exact g q
    exact s.inj k m b e1 e2 (gs k g1 e1) (gs m g2 e2)
  · have ne : b ≠ a := ne_of_none e x0
    rw [upd_ne ne]; exact s.ex b u e
theorem Sim.goneO (s : Sim K w S H) (n : Nat) : Sim K w (S.set n .gone) H := by
  refine ⟨by simp [s.len], s.fr, fun m o' b e1 e2 g => ?_, fun k m b e1 e2 g1 g2 => ?_, s.ex⟩
  · by_cases hm : n = m
    · subst hm
      by_cases hl : n < S.length
      · rw [List.getElem?_set_self hl] at e1; cases e1; exact absurd rfl g
      · rw [List.getElem?_eq_none (by simpa using hl)] at e1; cases e1
    · rw [List.getElem?_set_ne hm] at e1
      exact s.ob m o' b e1 e2 g
  · have gs : ∀ i : Nat, (S.set n .gone)[i]? ≠ some .gone → S[i]? ≠ some .gone := fun i g q => by
      by_cases hi : n = i
      · subst hi
        have hl : n < S.length := (List.getElem?_eq_some_iff.mp q).1
        rw [List.getElem?_set_self hl] at g; exact g rfl
      · rw [List.getElem?_set_ne hi] at g; exact g q
    exact s.inj k m b e1 e2 (gs k g1) (gs m g2)
/-- the store's end is forgotten -/
theorem Sim.cut (s : Sim K w S H) (n : Nat) : Sim K { w with io := w.io.take n } (S.take n) H := by
  have back : ∀ {α : Type} {l : List α} {i : Nat} {x : α}, (l.take n)[i]? = some x → l[i]? = some x := fun {α l i x} h => by
    rw [List.getElem?_take] at h
    split at h
    · exact h
    · cases h
  refine ⟨by simp [s.len], s.fr, fun m o' b e1 e2 g => ?_, fun k m b e1 e2 g1 g2 => ?_, s.ex⟩
  · obtain ⟨r, z, f, x⟩ := s.ob m o' b (back e1) (back e2) g
    refine ⟨?_, z, f, x⟩
    cases o' with
    | lst ds => exact r
    | dic ks vs => exact r
    | gone => trivial
    | _ => exact r.elim
  · have gs : ∀ i : Nat, (S.take n)[i]? ≠ some .gone → (w.io.take n)[i]? = some b → S[i]? ≠ some .gone := fun i g e q => by
      have hi : i < n := by
        by_cases h : i < n
        · exact h
        · rw [List.getElem?_take, if_neg h] at e; cases e
      rw [List.getElem?_take, if_pos hi] at g
      exact g q
    exact s.inj k m b (back e1) (back e2) (gs k g1 e1) (gs m g2 e2)
end

/-! ### readings -/
/-- an exception, as it stands -/
def XR (mg : Str → Option Value) (w : Wd) (x : Xc) (cls : Value) (d : Option Addr) : Prop :=
  mg x.nm = some cls ∧ match x.fs with
    | none => d = none
    | some fs => ∃ dx, d = some dx ∧ w.F dx = some (.xd (fs.map fun p => (p.1, V.int p.2)))
theorem XR.mono {mg : Str → Option Value} {w w' : Wd} (l : w.le w') {x : Xc} {cls : Value} {d : Option Addr} (h : XR mg w x cls d) : XR mg w' x cls d := by
  obtain ⟨h1, h2⟩ := h
  refine ⟨h1, ?_⟩
  cases e : x.fs with
  | none => rw [e] at h2; exact h2
  | some fs =>
    rw [e] at h2
    obtain ⟨dx, a, b⟩ := h2
    exact ⟨dx, a, l.F _ _ b⟩
/-- what is wanted behind a mirror's end -/
def rd {α β : Type} (K : PySem.W.Frag) (mg : Str → Option Value) (E : XK) (r : Res α) (w : Wd) (R : Wd → α → β → Prop) (Q : β → Hp → Prop) : Prop :=
  match r with
  | .ok a S' => ∀ w' v H', w.le w' → Sim K w' S' H' → R w' a v → Q v H'
  | .exc x S' => ∀ w' cls d H', w.le w' → Sim K w' S' H' → XR mg w' x cls d → E cls d H'
  | .bad => False
section
variable {α β γ δ : Type} {K : PySem.W.Frag} {mg : Str → Option Value} {E : XK} {w : Wd}
theorem rd_le {r : Res α} {R : Wd → α → β → Prop} {Q : β → Hp → Prop} {w' : Wd} (l : w.le w') (h : rd K mg E r w R Q) : rd K mg E r w' R Q := by
  cases r with
  | ok a S => exact fun w2 v H' l2 => h w2 v H' (l.trans l2)
  | exc x S => exact fun w2 c d H' l2 => h w2 c d H' (l.trans l2)
  | bad => exact h
theorem rd_bind {r : Res α} {g : α → Sto → Res γ} {R1 : Wd → α → β → Prop} {R2 : Wd → γ → δ → Prop} {Q1 : β → Hp → Prop} {Q : δ → Hp → Prop} (h : rd K mg E (r.bind g) w R2 Q)
    (k : ∀ a S' w' v H', w.le w' → Sim K w' S' H' → R1 w' a v → rd K mg E (g a S') w' R2 Q → Q1 v H') : rd K mg E r w R1 Q1 := by
  cases r with
  | ok a S => exact fun w' v H' l s q => k a S w' v H' l s q (rd_le l h)
  | exc x S => exact h
  | bad => exact h
theorem rd_ok {a : α} {S : Sto} {R : Wd → α → β → Prop} {Q : β → Hp → Prop} {v : β} {H : Hp} (h : rd K mg E (.ok a S) w R Q) (s : Sim K w S H) (r : R w a v) : Q v H := h w v H (.refl w) s r
theorem rd_okLe {a : α} {S : Sto} {R : Wd → α → β → Prop} {Q : β → Hp → Prop} {v : β} {H : Hp} {w' : Wd} (h : rd K mg E (.ok a S) w R Q) (l : w.le w') (s : Sim K w' S H) (r : R w' a v) : Q v H := h w' v H l s r
end
abbrev FE (α : Type) := Ev → Sto → Res α
/-- a mirror's reading -/
def tM {α β : Type} (K : PySem.W.Frag) (mg : Str → Option Value) (W : WX) (R : Wd → α → β → Prop) (f : FE α) : L2.St → Hp → (β → Hp → Prop) → Prop := fun σ H Q =>
  ∃ w env S, EnvR K w env σ ∧ Sim K w S H ∧ rd K mg (WE W σ) (f env S) w R Q
abbrev REq : Wd → Bool → Bool → Prop := fun _ a b => a = b
abbrev tE (X : Cx) (W : WX) (f : FE Y) : TE := tM X.K X.mg W (RY X.K) f
abbrev tT (X : Cx) (W : WX) (f : FE Bool) : TT := tM X.K X.mg W REq f
abbrev tA (X : Cx) (W : WX) (f : FE (List Y)) : TA := tM X.K X.mg W (RYs X.K) f
abbrev RE (X : Cx) (W : WX) (e : Expr) (f : FE Y) : Prop := PE X e (tE X W f)
abbrev RT (X : Cx) (W : WX) (e : Expr) (f : FE Bool) : Prop := PT X e (tT X W f)
abbrev RA (X : Cx) (W : WX) (es : List Expr) (f : FE (List Y)) : Prop := PA X es (tA X W f)
theorem weakPE {X : Cx} {e : Expr} {t t' : TE} (h : PE X e t) (i : ∀ σ H Q, t' σ H Q → t σ H Q) : PE X e t' := ⟨fun pins s σ H Q I q => h.run pins s σ H Q I (i σ H Q q)⟩
theorem weakPT {X : Cx} {e : Expr} {t t' : TT} (h : PT X e t) (i : ∀ σ H Q, t' σ H Q → t σ H Q) : PT X e t' := ⟨fun pins s σ H Q I q => h.run pins s σ H Q I (i σ H Q q)⟩
theorem weakPA {X : Cx} {e : List Expr} {t t' : TA} (h : PA X e t) (i : ∀ σ H Q, t' σ H Q → t σ H Q) : PA X e t' := ⟨fun pos pins s σ H Q I q => h.run pos pins s σ H Q I (i σ H Q q)⟩
theorem weakPS {X : Cx} {e : Stmt} {t t' : TS} (h : PS X e t) (i : ∀ D σ H, t' D σ H → t D σ H) : PS X e t' := ⟨fun pins s σ H D I q => h.run pins s σ H D I (i D σ H q)⟩
theorem weakPSs {X : Cx} {e : List Stmt} {t t' : TS} (h : PSs X e t) (i : ∀ D σ H, t' D σ H → t D σ H) : PSs X e t' := ⟨fun pins s σ H D I q => h.run pins s σ H D I (i D σ H q)⟩
theorem weakPW {X : Cx} {e : Expr} {t t' : TT} (h : PW X e t) (i : ∀ σ H Q, t' σ H Q → t σ H Q) : PW X e t' := ⟨fun wh pins s σ H Q I q => h.run wh pins s σ H Q I (i σ H Q q)⟩
theorem weakPI {X : Cx} {g e : Expr} {t t' : TI} (h : PI X g e t) (i : ∀ σ H Q, t' σ H Q → t σ H Q) : PI X g e t' := ⟨fun pins s σ H Q I q => h.run pins s σ H Q I (i σ H Q q)⟩
end Sg

/-! Q2: operators by their values -/
namespace Sg
open PySem PySem.Spec PyProof.Rows L2

/-! ### equality of data -/
mutual
def D.eqv : D → D → Bool
  | .non, .non => true
  | .bl a, .bl b => a == b
  | .bl a, .int j => (if a then 1 else 0) == j
  | .int i, .bl b => i == (if b then 1 else 0)
  | .int i, .int j => i == j
  | .str x, .str y => x == y
  | .lst xs, .lst ys => D.eqvL xs ys
  | .tup xs, .tup ys => D.eqvL xs ys
  | _, _ => false
def D.eqvL : List D → List D → Bool
  | [], [] => true
  | x :: xs, y :: ys => D.eqv x y && D.eqvL xs ys
  | _, _ => false
end
mutual
def D.py : D → PyData
  | .non => .none
  | .bl b => .bool b
  | .int i => .int i
  | .str x => .str x
  | .tup ds => .tuple (D.pyL ds)
  | .lst ds => .list (D.pyL ds)
  | _ => .dict []
def D.pyL : List D → List PyData
  | [] => []
  | d :: ds => D.py d :: D.pyL ds
end
mutual
/-- plain data -/
def D.pln : D → Bool
  | .non | .bl _ | .int _ => true
  | .str x => PyData.strOk x
  | .tup ds => D.plnL ds
  | .lst ds => D.plnL ds
  | _ => false
def D.plnL : List D → Bool
  | [] => true
  | d :: ds => D.pln d && D.plnL ds
end
mutual
def D.dep : D → Nat
  | .tup ds => D.depL ds + 1
  | .lst ds => D.depL ds + 1
  | _ => 0
def D.depL : List D → Nat
  | [] => 0
  | d :: ds => max (D.dep d) (D.depL ds)
end
/-- may be compared -/
def D.eqk (d : D) : Bool := d.pln && decide (d.dep ≤ 60)
mutual
theorem eqv_py : ∀ a b : D, a.pln = true → b.pln = true → D.eqv a b = PyData.eqv a.py b.py
  | .non, b, _, h => by cases b <;> simp_all [D.eqv, D.py, PyData.eqv, D.pln]
  | .bl _, b, _, h => by cases b <;> simp_all [D.eqv, D.py, PyData.eqv, D.pln]
  | .int _, b, _, h => by cases b <;> simp_all [D.eqv, D.py, PyData.eqv, D.pln]
  | .str _, b, _, h => by cases b <;> simp_all [D.eqv, D.py, PyData.eqv, D.pln]
  | .tup xs, b, g, h => by
    cases b with
    | tup ys =>
      have g' : D.plnL xs = true := by simpa [D.pln] using g
      have h' : D.plnL ys = true := by simpa [D.pln] using h
      simpa [D.eqv, D.py, PyData.eqv] using eqvL_py xs ys g' h'
    | _ => simp_all [D.eqv, D.py, PyData.eqv, D.pln]
  | .lst xs, b, g, h => by
    cases b with
    | lst ys =>
      have g' : D.plnL xs = true := by simpa [D.pln] using g
      have h' : D.plnL ys = true := by simpa [D.pln] using h
      simpa [D.eqv, D.py, PyData.eqv] using eqvL_py xs ys g' h'
    | _ => simp_all [D.eqv, D.py, PyData.eqv, D.pln]
  | .adr _, _, g, _ => by simp [D.pln] at g
  | .ty _, _, g, _ => by simp [D.pln] at g
  | .dic _ _, _, g, _ => by simp [D.pln] at g
  | .set _, _, g, _ => by simp [D.pln] at g
  | .scr _, _, g, _ => by simp [D.pln] at g
theorem eqvL_py : ∀ a b : List D, D.plnL a = true → D.plnL b = true → D.eqvL a b = PyData.eqvAll (D.pyL a) (D.pyL b)
  | [], [], _, _ => by simp [D.eqvL, D.pyL, PyData.eqvAll]
  | [], _ :: _, _, _ => by simp [D.eqvL, D.pyL, PyData.eqvAll]
  | _ :: _, [], _, _ => by simp [D.eqvL, D.pyL, PyData.eqvAll]
  | x :: xs, y :: ys, g, h => by
    have g' : D.pln x = true ∧ D.plnL xs = true := by simpa [D.plnL] using g
    have h' : D.pln y = true ∧ D.plnL ys = true := by simpa [D.plnL] using h
    simp [D.eqvL, D.pyL, PyData.eqvAll, eqv_py x y g'.1 h'.1, eqvL_py xs ys g'.2 h'.2]
end
mutual
theorem lay_py : ∀ a : D, a.pln = true → a.py.canLay0 = true
  | .non, _ => by simp [D.py, PyData.canLay0]
  | .bl _, _ => by simp [D.py, PyData.canLay0]
  | .int _, _ => by simp [D.py, PyData.canLay0]
  | .str x, h => by simpa [D.py, PyData.canLay0, D.pln] using h
  | .tup xs, h => by simpa [D.py, PyData.canLay0] using layL_py xs (by simpa [D.pln] using h)
  | .lst xs, h => by simpa [D.py, PyData.canLay0] using layL_py xs (by simpa [D.pln] using h)
  | .adr _, g => by simp [D.pln] at g
  | .ty _, g => by simp [D.pln] at g
  | .dic _ _, g => by simp [D.pln] at g
  | .set _, g => by simp [D.pln] at g
  | .scr _, g => by simp [D.pln] at g
theorem layL_py : ∀ a : List D, D.plnL a = true → PyData.canLayAll0 (D.pyL a) = true
  | [], _ => by simp [D.pyL, PyData.canLayAll0]
  | x :: xs, h => by
    have h' : D.pln x = true ∧ D.plnL xs = true := by simpa [D.plnL] using h
    simp [D.pyL, PyData.canLayAll0, lay_py x h'.1, layL_py xs h'.2]
end
mutual
theorem dep_py : ∀ a : D, a.pln = true → a.py.depth = a.dep
  | .non, _ => by simp [D.py, PyData.depth, D.dep]
  | .bl _, _ => by simp [D.py, PyData.depth, D.dep]
  | .int _, _ => by simp [D.py, PyData.depth, D.dep]
  | .str x, h => by simp [D.py, PyData.depth, D.dep]
  | .tup xs, h => by simp [D.py, PyData.depth, D.dep, depL_py xs (by simpa [D.pln] using h)]
  | .lst xs, h => by simp [D.py, PyData.depth, D.dep, depL_py xs (by simpa [D.pln] using h)]
  | .adr _, g => by simp [D.pln] at g
  | .ty _, g => by simp [D.pln] at g
  | .dic _ _, g => by simp [D.pln] at g
  | .set _, g => by simp [D.pln] at g
  | .scr _, g => by simp [D.pln] at g
theorem depL_py : ∀ a : List D, D.plnL a = true → PyData.depthAll (D.pyL a) = D.depL a
  | [], _ => by simp [D.pyL, PyData.depthAll, D.depL]
  | x :: xs, h => by
    have h' : D.pln x = true ∧ D.plnL xs = true := by simpa [D.plnL] using h
    simp [D.pyL, PyData.depthAll, D.depL, dep_py x h'.1, depL_py xs h'.2]
end
theorem eqk_pln {d : D} (h : d.eqk = true) : d.pln = true := (Bool.and_eq_true_iff.mp h).1
theorem eqk_shaped {d : D} (h : d.eqk = true) : SeqAt.shaped d.py = true := by
  have h1 := eqk_pln h
  have h2 : d.dep ≤ 60 := of_decide_eq_true (Bool.and_eq_true_iff.mp h).2
  unfold SeqAt.shaped
  rw [lay_py d h1, dep_py d h1, decide_eq_true (by omega)] <;> rfl
mutual
theorem dp_of {K : PySem.W.Frag} {w : Wd} {S : Sto} {H : Hp} (s : Sim K w S H) : ∀ {d : D} {v : V}, Rp K w.F d v → d.pln = true → Dp K H v d.py
  | _, _, .non, _ => by simp only [D.py]; exact .non
  | _, _, .bl b, _ => by simp only [D.py]; exact .bl b
  | _, _, .int i, _ => by simp only [D.py]; exact .int i
  | _, _, .str x, _ => by simp only [D.py]; exact .str x
  | _, _, .tup h r, p => by simp only [D.py]; exact .tup (s.sqT h) (dpL_of s r (by simpa [D.pln] using p))
  | _, _, .lst h r, p => by simp only [D.py]; exact .lst (.inl (s.rd h)) (dpL_of s r (by simpa [D.pln] using p))
  | _, _, .adr a, p => by simp [D.pln] at p
  | _, _, .ty n, p => by simp [D.pln] at p
  | _, _, .scr _ _, p => by simp [D.pln] at p
  | _, _, .dic _ _, p => by simp [D.pln] at p
theorem dpL_of {K : PySem.W.Frag} {w : Wd} {S : Sto} {H : Hp} (s : Sim K w S H) : ∀ {ds : List D} {vs : List V}, RpL K w.F ds vs → D.plnL ds = true → DpAll K H vs (D.pyL ds)
  | _, _, .nil, _ => by simp only [D.pyL]; exact .nil
  | _, _, .cons h r, p => by
    have p' := (by simpa [D.plnL] using p : D.pln _ = true ∧ D.plnL _ = true)
    simp only [D.pyL]; exact .cons (dp_of s h p'.1) (dpL_of s r p'.2)
end

/-! ### what a name's thing is -/
def getD : Y → Sto → Option D
  | .v d, _ => some d
  | .ref n, S => match S[n]? with
    | some (.lst ds) => some (.lst ds)
    | _ => none
/-- a list's items -/
def getL : Y → Sto → Option (List D)
  | .v (.lst ds), _ => some ds
  | .ref n, S => match S[n]? with
    | some (.lst ds) => some ds
    | _ => none
  | _, _ => none
/-- a list's or a tuple's -/
def getS : Y → Sto → Option (List D)
  | .v (.lst ds), _ => some ds
  | .v (.tup ds), _ => some ds
  | .ref n, S => match S[n]? with
    | some (.lst ds) => some ds
    | _ => none
  | _, _ => none
@[simp] theorem getD_v (d : D) (S : Sto) : getD (.v d) S = some d := rfl
@[simp] theorem getL_v (ds : List D) (S : Sto) : getL (.v (.lst ds)) S = some ds := rfl
@[simp] theorem getS_l (ds : List D) (S : Sto) : getS (.v (.lst ds)) S = some ds := rfl
@[simp] theorem getS_t (ds : List D) (S : Sto) : getS (.v (.tup ds)) S = some ds := rfl
section
variable {K : PySem.W.Frag} {mg : Str → Option Value} {w : Wd} {S : Sto} {H : Hp} {E : XK}
theorem ref_lst (s : Sim K w S H) {n : Nat} {v : V} {ds : List D} (r : RY K w (.ref n) v) (e : S[n]? = some (.lst ds)) : ∃ a xs, v = .ref a ∧ w.io[n]? = some a ∧ H a = some (.lst xs) ∧ RpL K w.F ds xs := by
  obtain ⟨a, ha, rfl⟩ := r
  obtain ⟨⟨xs, h1, h2⟩, _⟩ := s.ob n _ a e ha (by intro z; cases z)
  exact ⟨a, xs, rfl, ha, h1, h2⟩
theorem getL_of (s : Sim K w S H) {y : Y} {v : V} {ds : List D} (r : RY K w y v) (e : getL y S = some ds) : ∃ a xs, v = .ref a ∧ Rd H a (.lst xs) ∧ RpL K w.F ds xs := by
  cases y with
  | ref n =>
    simp only [getL] at e
    split at e
    · rename_i ds' q2
      cases e
      obtain ⟨a, xs, h1, _, h2, h3⟩ := ref_lst s r q2
      exact ⟨a, xs, h1, .inl h2, h3⟩
    · cases e
  | v d =>
    cases d with
    | lst es =>
      cases e
      have r' : Rp K w.F (.lst ds) v := r
      cases r' with
      | lst h q => exact ⟨_, _, rfl, s.rd h, q⟩
    | _ => simp [getL] at e
theorem getS_of (s : Sim K w S H) {y : Y} {v : V} {ds : List D} (r : RY K w y v) (e : getS y S = some ds) : ∃ a xs, v = .ref a ∧ (Rd H a (.lst xs) ∨ SqT K H a xs) ∧ RpL K w.F ds xs := by
  cases y with
  | ref n =>
    simp only [getS] at e
    split at e
    · rename_i ds' q2
      cases e
      obtain ⟨a, xs, h1, _, h2, h3⟩ := ref_lst s r q2
      exact ⟨a, xs, h1, .inl (.inl h2), h3⟩
    · cases e
  | v d =>
    cases d with
    | lst es =>
      cases e
      have r' : Rp K w.F (.lst ds) v := r
      cases r' with
      | lst h q => exact ⟨_, _, rfl, .inl (s.rd h), q⟩
    | tup es =>
      cases e
      have r' : Rp K w.F (.tup ds) v := r
      cases r' with
      | tup h q => exact ⟨_, _, rfl, .inr (s.sqT h), q⟩
    | _ => simp [getS] at e
theorem getD_dp (s : Sim K w S H) {y : Y} {v : V} {d : D} (r : RY K w y v) (e : getD y S = some d) (p : d.pln = true) : Dp K H v d.py := by
  cases y with
  | ref n =>
    unfold getD at e
    dsimp only at e
    split at e
    · rename_i ds' q2
      cases e
      obtain ⟨a, xs, h1, _, h2, h3⟩ := ref_lst s r q2
      subst h1
      simp only [D.py]
      exact .lst (.inl (.inl h2)) (dpL_of s h3 (by simpa [D.pln] using p))
    · cases e
  | v d' =>
    cases e
    exact dp_of s r p

/-! ### new lists and tuples -/
/-- a new list: data (m = false), or a thing of the store -/
def newL (m : Bool) (ds : List D) (S : Sto) : Res Y := if m = true then .ok (.ref S.length) (S ++ [.lst ds]) else .ok (.v (.lst ds)) S
@[simp] theorem newL_f (ds : List D) (S : Sto) : newL false ds S = .ok (.v (.lst ds)) S := rfl
@[simp] theorem newL_t (ds : List D) (S : Sto) : newL true ds S = .ok (.ref S.length) (S ++ [.lst ds]) := rfl
theorem new_lst {m : Bool} {ds : List D} {Q : VK} (s : Sim K w S H) (h : rd K mg E (newL m ds S) w (RY K) Q) {p : Addr} {xs : List V} (hp : H p = none) (r : RpL K w.F ds xs) : Q (.ref p) (upd H p (.lst xs)) := by
  cases m with
  | false =>
    refine rd_okLe h (Wd.le.froze (s.freshF hp)) (s.newF hp) ?_
    exact Rp.lst (.inl upd_same) (r.mono (le_upd (s.freshF hp)))
  | true =>
    refine rd_okLe h Wd.le.newO (s.newO (t := .lst ds) hp fun _ => ⟨xs, upd_same, r⟩) ?_
    exact ⟨p, by rw [← s.len]; simp, rfl⟩
theorem new_tup {ds : List D} {Q : VK} (s : Sim K w S H) (h : rd K mg E (.ok (.v (.tup ds)) S) w (RY K) Q) {p : Addr} {xs : List V} (hp : H p = none) (r : RpL K w.F ds xs) : Q (.ref p) (upd H p (.tup xs)) := by
  refine rd_okLe h (Wd.le.froze (s.freshF hp)) (s.newF hp) ?_
  exact Rp.tup (.inl (.inl upd_same)) (r.mono (le_upd (s.freshF hp)))
end

/-! ### binary operators -/
def OpS (X : Cx) (sem : Y → Y → Sto → Res Y) (r : R2) : Prop :=
  ∀ (E : XK) (w : Wd) (S : Sto) (H : Hp) (x y : Y) (v u : V) (Q : VK), Sim X.K w S H → RY X.K w x v → RY X.K w y u → rd X.K X.mg E (sem x y S) w (RY X.K) Q → r v u H Q
def fBin (sem : Y → Y → Sto → Res Y) (f g : FE Y) : FE Y := fun env S => (f env S).bind fun x S1 => (g env S1).bind fun y S2 => sem x y S2
section
variable {X : Cx} {W : WX} {a b : Expr} {f g : FE Y} {pos : Pos}
theorem bin_read {sem : Y → Y → Sto → Res Y} {r : R2} (hs : OpS X sem r) (σ : L2.St) (H : Hp) (Q : VK) (h : tE X W (fBin sem f g) σ H Q) : tOp r (tE X W f) (tE X W g) σ H Q := by
  obtain ⟨w, env, S, he, s, h⟩ := h
  refine ⟨w, env, S, he, s, rd_bind h fun x S1 w1 v H1 l1 s1 r1 h1 => ⟨w1, env, S1, he.mono l1, s1, rd_bind h1 fun y S2 w2 u H2 l2 s2 r2 h2 => ?_⟩⟩
  exact hs _ w2 S2 H2 x y v u Q s2 (r1.mono l2) r2 h2
theorem re_bin {op : Operator} {sem : Y → Y → Sto → Res Y} {r : R2} (ho : OpR X (binaryOp op) r) (hs : OpS X sem r) (ha : RE X W a f) (hb : RE X W b g) : RE X W (.BinOp a op b pos) (fBin sem f g) :=
  weakPE (pe_op ho ha hb) fun σ H Q h => bin_read hs σ H Q h
theorem re_cmp {op : CmpOp} {sem : Y → Y → Sto → Res Y} {r : R2} (ho : OpR X (compareOp op) r) (hs : OpS X sem r) (hm : behindInMarks op b = false) (ha : RE X W a f) (hb : RE X W b g) : RE X W (.Compare a [op] [b] pos) (fBin sem f g) :=
  weakPE (pe_cmpR ho ha hb hm) fun σ H Q h => bin_read hs σ H Q h
def asB (r : Res Y) : Res Bool := r.bind fun y S => match y with
  | .v (.bl b) => .ok b S
  | _ => .bad
def fTest (f : FE Y) : FE Bool := fun env S => asB (f env S)
theorem test_read {t : TE} {f : FE Y} (hr : ∀ σ H Q, tE X W f σ H Q → t σ H Q) (σ : L2.St) (H : Hp) (Q : Bool → Hp → Prop) (h : tT X W (fTest f) σ H Q) : tTest t σ H Q := by
  obtain ⟨w, env, S, he, s, h⟩ := h
  refine hr _ _ _ ⟨w, env, S, he, s, rd_bind h fun x S1 w1 v H1 l1 s1 r1 h1 => ?_⟩
  cases x with
  | v d =>
    cases d with
    | bl k =>
      have r' : Rp X.K w1.F (.bl k) v := r1
      cases r'
      exact ⟨k, rfl, rd_ok (v := k) h1 s1 rfl⟩
    | _ => exact h1.elim
  | ref n => exact h1.elim
theorem rt_cmp {op : CmpOp} {sem : Y → Y → Sto → Res Y} {r : R2} (ho : OpR X (compareOp op) r) (hs : OpS X sem r) (hm : behindInMarks op b = false) (ha : RE X W a f) (hb : RE X W b g) : RT X W (.Compare a [op] [b] pos) (fTest (fBin sem f g)) :=
  weakPT (pt_cmpR ho ha hb hm) fun σ H Q h => test_read (fun σ H Q h => bin_read hs σ H Q h) σ H Q h
end

/-! ### ints and their kin -/
def okMul (i j : Int) : Bool := decide (i.natAbs < 18446744073709551616) || decide (j.natAbs < 18446744073709551616) || decide (i.natAbs.log2 + j.natAbs.log2 < 1000000)
def okDiv (j : Int) : Bool := decide (j ≠ 0 ∧ j.natAbs < 1073741824) || decide (0 < j ∧ j.natAbs.log2 < 9000)
def okLen (n : Nat) : Bool := decide (n ≤ 16777216)
def sAdd (m : Bool) : Y → Y → Sto → Res Y
  | .v (.int i), .v (.int j), S => .ok (.v (.int (i + j))) S
  | .v (.tup a), .v (.tup b), S => if okLen (a.length + b.length) = true then .ok (.v (.tup (a ++ b))) S else .bad
  | .v (.str a), .v (.str b), S => if okLen (a.length + b.length) = true then .ok (.v (.str (a ++ b))) S else .bad
  | x, y, S => match getL x S, getL y S with
    | some a, some b => if okLen (a.length + b.length) = true then newL m (a ++ b) S else .bad
    | _, _ => .bad
def sSub : Y → Y → Sto → Res Y
  | .v (.int i), .v (.int j), S => .ok (.v (.int (i - j))) S
  | _, _, _ => .bad
/-- k copies -/
def rep {α : Type} (k : Int) (a : List α) : List α := (List.replicate k.toNat a).flatten
def okRep (k : Int) (n : Nat) : Bool := decide (-(2 ^ 31) ≤ k ∧ k < 2 ^ 31) && okLen (n * k.toNat)
def sMul (m : Bool) : Y → Y → Sto → Res Y
  | .v (.int i), .v (.int j), S => if okMul i j = true then .ok (.v (.int (i * j))) S else .bad
  | .v (.tup a), .v (.int k), S => if okRep k a.length = true then .ok (.v (.tup (rep k a))) S else .bad
  | x, .v (.int k), S => match getL x S with
    | some a => if okRep k a.length = true then newL m (rep k a) S else .bad
    | none => .bad
  | _, _, _ => .bad
def sFdiv : Y → Y → Sto → Res Y
  | .v (.int i), .v (.int j), S => if okDiv j = true then .ok (.v (.int (i.fdiv j))) S else .bad
  | _, _, _ => .bad
def sMod : Y → Y → Sto → Res Y
  | .v (.int i), .v (.int j), S => if j = 0 then .bad else .ok (.v (.int (i.fmod j))) S
  | _, _, _ => .bad
def sPow : Y → Y → Sto → Res Y
  | .v (.int i), .v (.int j), S => if 0 ≤ j ∧ j ≤ 1000000 ∧ i.natAbs < 18446744073709551616 then .ok (.v (.int (i ^ j.toNat))) S else .bad
  | _, _, _ => .bad
def sLt : Y → Y → Sto → Res Y
  | .v (.int i), .v (.int j), S => .ok (.v (.bl (decide (i < j)))) S
  | _, _, _ => .bad
def sLe : Y → Y → Sto → Res Y
  | .v (.int i), .v (.int j), S => .ok (.v (.bl (decide (i ≤ j)))) S
  | _, _, _ => .bad
def sGt : Y → Y → Sto → Res Y
  | .v (.int i), .v (.int j), S => .ok (.v (.bl (decide (j < i)))) S
  | _, _, _ => .bad
def sGe : Y → Y → Sto → Res Y
  | .v (.int i), .v (.int j), S => .ok (.v (.bl (decide (j ≤ i)))) S
  | _, _, _ => .bad
def sEq : Y → Y → Sto → Res Y := fun x y S => match getD x S, getD y S with
  | some a, some b => if a.eqk = true ∧ b.eqk = true then .ok (.v (.bl (D.eqv a b))) S else .bad
  | _, _ => .bad
def sNe : Y → Y → Sto → Res Y := fun x y S => match getD x S, getD y S with
  | some a, some b => if a.eqk = true ∧ b.eqk = true then .ok (.v (.bl (!D.eqv a b))) S else .bad
  | _, _ => .bad
/-- is, of None, True, False -/
def sIs (n : Bool) : Y → Y → Sto → Res Y
  | .v .non, .v .non, S => .ok (.v (.bl (!n))) S
  | _, .v .non, S => .ok (.v (.bl n)) S
  | .v (.bl a), .v (.bl b), S => .ok (.v (.bl (xor n (a == b)))) S
  | _, .v (.bl _), S => .ok (.v (.bl n)) S
  | _, _, _ => .bad
def D.mem (x : D) (ds : List D) : Bool := ds.any fun z => D.eqv z x
def sIn (n : Bool) : Y → Y → Sto → Res Y := fun x y S => match getD x S, getS y S with
  | some a, some b => if a.eqk = true ∧ (D.tup b).eqk = true then .ok (.v (.bl (xor n (D.mem a b)))) S else .bad
  | _, _ => .bad

theorem any_py (x : D) (hx : x.pln = true) : ∀ ds : List D, D.plnL ds = true → ((D.pyL ds).any fun z => PyData.eqv z x.py) = D.mem x ds
  | [], _ => by simp [D.pyL, D.mem]
  | d :: ds, h => by
    have h' : D.pln d = true ∧ D.plnL ds = true := by simpa [D.plnL] using h
    have ih := any_py x hx ds h'.2
    simp only [D.pyL, List.any_cons, ih]
    simp [D.mem, eqv_py d x h'.1 hx]

section
variable {X : Cx}
theorem len_ok {n : Nat} (h : okLen n = true) : n ≤ sizeLine := by
  unfold okLen at h
  rw [sizeLine_eq]
  exact of_decide_eq_true h
/-- a list that may be locked -/
theorem lst_obj {pins : List (Addr × Obj)} {σ : L2.St} {H : Hp} {s : Shared} {a : Addr} {xs : List V} (I : Inv X pins σ H s) (h : Rd H a (.lst xs)) :
    xs.length ≤ sizeLine ∧ ∃ (its : List Value) (n : Nat), Vals xs its ∧ xs.length = its.length ∧ s.heap.get? a = some { cls := .type "list", data := .seq its.toArray n } := by
  obtain ⟨z, its, n, r, e⟩ := h.ok I.hok
  exact ⟨z, its, n, r, r.length, e⟩
def rCatR : R2 := fun x y H Q => ∃ l b xs zs, x = .ref l ∧ y = .ref b ∧ Rd H l (.lst xs) ∧ Rd H b (.lst zs) ∧ xs.length + zs.length ≤ sizeLine ∧ ∀ p, H p = none → Q (.ref p) (upd H p (.lst (xs ++ zs)))
theorem op_catR : OpR X (binaryOp .Add) rCatR := by
  intro pins s σ H x y v u Q I rx ry h
  obtain ⟨l, b, xs, zs, rfl, rfl, hH, hB, hz, q⟩ := h
  cases rx
  cases ry
  obtain ⟨z, its, n, r, hl, e⟩ := lst_obj I hH
  obtain ⟨z2, its2, n2, r2, hl2, e2⟩ := lst_obj I hB
  refine PySem.P.add_list e e2 ?_ (by rw [List.size_toArray, List.size_toArray]; omega)
  have ea : its.toArray ++ its2.toArray = (its ++ its2).toArray := by simp
  rw [ea]
  exact ⟨.ref _, _, I.lnew (t' := s.toks) (r.append r2) (by rw [List.length_append]; omega), rfl, q _ I.fresh⟩
def rAddX (K : PySem.W.Frag) : R2 := fun x y H Q => (rI0 (fun i j => .int (i + j)) x y H Q) ∨ (rCatA K x y H Q) ∨ ((∃ i j, x = .str i ∧ y = .str j ∧ i.length + j.length ≤ sizeLine ∧ Q (.str (i ++ j)) H)) ∨ rCatR x y H Q
theorem op_addX : OpR X (binaryOp .Add) (rAddX X.K) := op_add.or (op_catA.or (op_add_str.or op_catR))
theorem sAdd_ok (m : Bool) : OpS X (sAdd m) (rAddX X.K) := by
  intro E w S H x y v u Q s rx ry h
  have lists : ∀ {x y : Y}, RY X.K w x v → RY X.K w y u → rd X.K X.mg E (match getL x S, getL y S with
    | some a, some b => if okLen (a.length + b.length) = true then newL m (a ++ b) S else .bad
    | _, _ => .bad) w (RY X.K) Q → rCatR v u H Q := by
    intro x y rx ry h
    cases e1 : getL x S with
    | none => rw [e1] at h; exact h.elim
    | some a =>
      cases e2 : getL y S with
      | none => rw [e1, e2] at h; exact h.elim
      | some b =>
        rw [e1, e2] at h
        dsimp only at h
        split at h
        · rename_i hl
          obtain ⟨p, xs, rfl, h1, q1⟩ := getL_of s rx e1
          obtain ⟨p2, ys, rfl, h2, q2⟩ := getL_of s ry e2
          refine ⟨p, p2, xs, ys, rfl, rfl, h1, h2, ?_, fun q hq => new_lst s h hq (q1.append q2)⟩
          rw [← q1.length, ← q2.length]; exact len_ok hl
        · exact h.elim
  unfold sAdd at h
  split at h
  · cases rx; cases ry
    exact .inl ⟨_, _, rfl, rfl, rd_ok h s (.int _)⟩
  · rename_i a b
    split at h
    · rename_i hl
      refine .inr (.inl ?_)
      have rx' : Rp X.K w.F (.tup a) v := rx
      have ry' : Rp X.K w.F (.tup b) u := ry
      cases rx' with
      | tup h1 q1 =>
        cases ry' with
        | tup h2 q2 =>
          refine ⟨_, _, _, _, rfl, rfl, s.sqT h1, s.sqT h2, ?_, fun e => ?_, fun ne e => ?_, fun _ _ p hp => new_tup s h hp (q1.append q2)⟩
          · rw [← q1.length, ← q2.length]; exact len_ok hl
          · subst e
            cases q1
            exact rd_ok h s (Rp.tup h2 q2)
          · subst e
            cases q2
            refine rd_ok h s (Rp.tup h1 ?_)
            rw [List.append_nil]; exact q1
    · exact h.elim
  · rename_i a b
    split at h
    · rename_i hl
      cases rx; cases ry
      exact .inr (.inr (.inl ⟨_, _, rfl, rfl, len_ok hl, rd_ok h s (.str _)⟩))
    · exact h.elim
  · exact .inr (.inr (.inr (lists rx ry h)))
theorem sSub_ok : OpS X sSub (rI0 fun i j => .int (i - j)) := by
  intro E w S H x y v u Q s rx ry h
  unfold sSub at h
  split at h
  · cases rx; cases ry
    exact ⟨_, _, rfl, rfl, rd_ok h s (.int _)⟩
  · exact h.elim
theorem op_mulX : OpR X (binaryOp .Mult) (rI (fun i j => okMul i j = true) fun i j => .int (i * j)) := opI fun i j _ _ _ _ _ hc q => by
  unfold okMul at hc
  simp only [Bool.or_eq_true, decide_eq_true_eq] at hc
  rcases hc with (hc | hc) | hc
  · exact mul_int q (.of_left (intBits_le_64 (by omega) (by omega)))
  · exact mul_int q (.of_right (intBits_le_64 (by omega) (by omega)))
  · exact mul_int q (CMulW.ok hc)
theorem op_fdivX : OpR X (binaryOp .FloorDiv) (rI (fun _ j => okDiv j = true) fun i j => .int (i.fdiv j)) := by
  intro pins s σ H x y v u Q I rx ry h
  obtain ⟨i, j, rfl, rfl, hc, q⟩ := h
  unfold okDiv at hc
  simp only [Bool.or_eq_true, decide_eq_true_eq] at hc
  rcases hc with hc | hc
  · exact op_fdivN pins s σ H _ _ v u Q I rx ry ⟨i, j, rfl, rfl, hc, q⟩
  · refine op_fdivW pins s σ H _ _ v u Q I rx ry ⟨i, j, rfl, rfl, hc, ?_⟩
    have e : i.fdiv j = i / j := Int.fdiv_eq_ediv_of_nonneg _ (Int.le_of_lt hc.1)
    have q' : Q (.int (i.fdiv j)) H := q
    rw [e] at q'
    exact q'
theorem sFdiv_ok : OpS X sFdiv (rI (fun _ j => okDiv j = true) fun i j => .int (i.fdiv j)) := by
  intro E w S H x y v u Q s rx ry h
  unfold sFdiv at h
  split at h
  · split at h
    · rename_i hc
      cases rx; cases ry
      exact ⟨_, _, rfl, rfl, hc, rd_ok h s (.int _)⟩
    · exact h.elim
  · exact h.elim
theorem sMod_ok : OpS X sMod (rI (fun _ j => j ≠ 0) fun i j => .int (i.fmod j)) := by
  intro E w S H x y v u Q s rx ry h
  unfold sMod at h
  split at h
  · split at h
    · exact h.elim
    · rename_i hc
      cases rx; cases ry
      exact ⟨_, _, rfl, rfl, hc, rd_ok h s (.int _)⟩
  · exact h.elim
theorem sPow_ok : OpS X sPow (rI CPow fun i j => .int (i ^ j.toNat)) := by
  intro E w S H x y v u Q s rx ry h
  unfold sPow at h
  split at h
  · split at h
    · rename_i hc
      cases rx; cases ry
      exact ⟨_, _, rfl, rfl, ⟨hc.1, hc.2.1, by have := hc.2.2; omega⟩, rd_ok h s (.int _)⟩
    · exact h.elim
  · exact h.elim
theorem cmp_ok {g : Int → Int → Bool} {sem : Y → Y → Sto → Res Y} (hs : ∀ x y S, (∃ i j, x = .v (.int i) ∧ y = .v (.int j) ∧ sem x y S = .ok (.v (.bl (g i j))) S) ∨ sem x y S = .bad) : OpS X sem (rI0 fun i j => .bl (g i j)) := by
  intro E w S H x y v u Q s rx ry h
  rcases hs x y S with ⟨i, j, rfl, rfl, e⟩ | e
  · rw [e] at h
    cases rx; cases ry
    exact ⟨_, _, rfl, rfl, rd_ok h s (.bl _)⟩
  · rw [e] at h; exact h.elim
theorem sLt_ok : OpS X sLt (rI0 fun i j => .bl (decide (i < j))) := cmp_ok fun x y S => by unfold sLt; split <;> simp
theorem sLe_ok : OpS X sLe (rI0 fun i j => .bl (decide (i ≤ j))) := cmp_ok fun x y S => by unfold sLe; split <;> simp
theorem sGt_ok : OpS X sGt (rI0 fun i j => .bl (decide (j < i))) := cmp_ok fun x y S => by unfold sGt; split <;> simp
theorem sGe_ok : OpS X sGe (rI0 fun i j => .bl (decide (j ≤ i))) := cmp_ok fun x y S => by unfold sGe; split <;> simp
theorem sEq_ok : OpS X sEq (rEqD X.K) := by
  intro E w S H x y v u Q s rx ry h
  unfold sEq at h
  cases e1 : getD x S with
  | none => rw [e1] at h; exact h.elim
  | some a =>
    cases e2 : getD y S with
    | none => rw [e1, e2] at h; exact h.elim
    | some b =>
      rw [e1, e2] at h
      dsimp only at h
      split at h
      · rename_i hc
        refine ⟨_, _, getD_dp s rx e1 (eqk_pln hc.1), getD_dp s ry e2 (eqk_pln hc.2), eqk_shaped hc.1, eqk_shaped hc.2, ?_⟩
        rw [← eqv_py a b (eqk_pln hc.1) (eqk_pln hc.2)]
        exact rd_ok h s (.bl _)
      · exact h.elim
theorem sNe_ok : OpS X sNe (rNeD X.K) := by
  intro E w S H x y v u Q s rx ry h
  unfold sNe at h
  cases e1 : getD x S with
  | none => rw [e1] at h; exact h.elim
  | some a =>
    cases e2 : getD y S with
    | none => rw [e1, e2] at h; exact h.elim
    | some b =>
      rw [e1, e2] at h
      dsimp only at h
      split at h
      · rename_i hc
        refine ⟨_, _, getD_dp s rx e1 (eqk_pln hc.1), getD_dp s ry e2 (eqk_pln hc.2), eqk_shaped hc.1, eqk_shaped hc.2, ?_⟩
        rw [← eqv_py a b (eqk_pln hc.1) (eqk_pln hc.2)]
        exact rd_ok h s (.bl _)
      · exact h.elim
end
end Sg

/-! Q2b: tuple * int, in, is, minus, not -/
namespace L2
open PySem PySem.Spec PyProof.Rows HT
open PySem.AutoSeq1 (wpAny_loadPart')
theorem tuple_mulSame (l : Addr) (items : Array Value) (n : Nat) (dd : Option Addr) (sl : Array (Option Value)) (x : Int) (u : Tok) (c0 : (decide (x < -(2 ^ 63)) || decide (x ≥ 2 ^ 63)) = false) (c1 : (items.isEmpty || x == 1) = true) :
    Meets (Builtin.«tuple.__mul__» ⟨[.ref l, .int x u], []⟩) (fun _ R s => s.heap.get? l = some { cls := .type "tuple", dict := dd, data := .seq items n, slots := sl } ∧ R (.ok (.ret (Value.ref l))) s) :=
  .of_wp fun prog w A R s h => by
    obtain ⟨hp, g, d, tk, os⟩ := s
    obtain ⟨hl, h⟩ := h
    have f1 := AutoSeq1.idx_int
    wp_walk using wpAny_loadPart' hl
    repeat (first
      | (refine wpAny_ite_false (decide_eq_false (by rw [c0]; exact Bool.false_ne_true)) ?_; wp_walk using wpAny_loadPart' hl)
      | (refine wpAny_ite_true (decide_eq_true c1) ?_; wp_walk using wpAny_loadPart' hl))
    all_goals exact ⟨_, rfl, h⟩
theorem tuple_mulNone (l : Addr) (items : Array Value) (n : Nat) (dd : Option Addr) (sl : Array (Option Value)) (x : Int) (u : Tok) (c0 : (decide (x < -(2 ^ 63)) || decide (x ≥ 2 ^ 63)) = false) (c1 : (items.isEmpty || x == 1) = false) (c2 : (decide (x ≤ 0) || items.isEmpty) = true) :
    Meets (Builtin.«tuple.__mul__» ⟨[.ref l, .int x u], []⟩) (fun _ R s => s.heap.get? l = some { cls := .type "tuple", dict := dd, data := .seq items n, slots := sl } ∧
      R (.ok (.ret (Value.ref s.heap.objs.size))) { s with heap := s.heap.push { cls := Value.type "tuple", data := Data.seq #[] }, toks := s.toks }) :=
  .of_wp fun prog w A R s h => by
    obtain ⟨hp, g, d, tk, os⟩ := s
    obtain ⟨hl, h⟩ := h
    have f1 := AutoSeq1.idx_int
    wp_walk using wpAny_loadPart' hl
    repeat (first
      | (refine wpAny_ite_false (decide_eq_false (by rw [c0]; exact Bool.false_ne_true)) ?_; wp_walk using wpAny_loadPart' hl)
      | (refine wpAny_ite_false (decide_eq_false (by rw [c1]; exact Bool.false_ne_true)) ?_; wp_walk using wpAny_loadPart' hl)
      | (refine wpAny_ite_true (decide_eq_true c2) ?_; wp_walk using wpAny_loadPart' hl)
      | (refine wpAny_ite_false (decide_eq_false (by simp [sizeLine_eq])) ?_; wp_walk using wpAny_loadPart' hl))
    all_goals exact ⟨_, rfl, h⟩
def rRepA (K : PySem.W.Frag) : R2 := fun x y H Q => ∃ l k xs, x = .ref l ∧ y = .int k ∧ SqT K H l xs ∧ -(2 ^ 31) ≤ k ∧ k < 2 ^ 31 ∧ xs.length * k.toNat ≤ sizeLine ∧
  ((xs = [] ∨ k = 1) → Q (.ref l) H) ∧ (¬ (xs = [] ∨ k = 1) → ∀ p, H p = none → Q (.ref p) (upd H p (.tup (List.replicate k.toNat xs).flatten)))
theorem op_repA {X : Cx} : OpR X (binaryOp .Mult) (rRepA X.K) := by
  intro pins s σ H x y v u Q I rx ry h
  obtain ⟨l, k, xs, rfl, rfl, hT, h1, h2, hz, q1, q2⟩ := h
  cases rx
  obtain ⟨t, rfl⟩ := ry
  obtain ⟨its, r, ⟨⟨cls, dd, data, sl⟩, ho, hc, n, hd⟩, hs⟩ := I.tuple hT
  simp only at hc hd
  subst hc hd
  have hle : its.length = xs.length := r.length.symm
  have c0 : (decide (k < -(2 ^ 63)) || decide (k ≥ 2 ^ 63)) = false := by
    rw [decide_eq_false (by omega), decide_eq_false (by omega)] <;> rfl
  have road : ∀ {R : Value → Shared → Prop}, codeAny (model X.prog X.w) X.A (.builtin "tuple.__mul__" ⟨[.ref l, .int k t], []⟩) (fun r s' => ∃ v, r = .ok (.ret v) ∧ R v s') s → True := fun _ => trivial
  by_cases hq : xs = [] ∨ k = 1
  · have c1 : (its.toArray.isEmpty || k == 1) = true := by
      rcases hq with e | e
      · have : its = [] := List.eq_nil_of_length_eq_zero (by rw [hle, e] <;> rfl)
        subst this; simp
      · subst e; simp
    refine wpAny_binaryOp_repeat_ref (T := "tuple") (U := "int") (by decide) ⟨_, ho, rfl⟩ (fun s' => typeIs_int s' k t) noFill_tuple_mul F.fills_int_mul F.slot_int_rmul repeat_tuple F.slot_int_index.lookup
      (call_meets F.slot_int_rmul (typeIs_int s k t) F.entry_int_rmul (F.args_int_rmul_2 _ _) (int_rmul_tuple k t l its.toArray n dd sl)
        ⟨ho, rfl, ⟨_, ho, rfl⟩, call_meets F.slot_tuple_mul ⟨_, ho, rfl⟩ F.entry_tuple_mul (F.args_tuple_mul_2 _ _) (tuple_mulSame l its.toArray n dd sl k t c0 c1) ⟨ho, ?_⟩⟩)
    exact ⟨.ref l, H, I, rfl, q1 hq⟩
  · have hne : xs ≠ [] := fun e => hq (.inl e)
    have hk : k ≠ 1 := fun e => hq (.inr e)
    have hi : its.toArray.isEmpty = false := by
      cases its with
      | nil => exact absurd (List.eq_nil_of_length_eq_zero hle.symm) hne
      | cons a b => rfl
    have c1 : (its.toArray.isEmpty || k == 1) = false := by
      rw [hi, Bool.false_or]
      exact beq_eq_false_iff_ne.mpr hk
    by_cases hk0 : k ≤ 0
    · have c2 : (decide (k ≤ 0) || its.toArray.isEmpty) = true := by rw [decide_eq_true hk0] <;> rfl
      refine wpAny_binaryOp_repeat_ref (T := "tuple") (U := "int") (by decide) ⟨_, ho, rfl⟩ (fun s' => typeIs_int s' k t) noFill_tuple_mul F.fills_int_mul F.slot_int_rmul repeat_tuple F.slot_int_index.lookup
        (call_meets F.slot_int_rmul (typeIs_int s k t) F.entry_int_rmul (F.args_int_rmul_2 _ _) (int_rmul_tuple k t l its.toArray n dd sl)
          ⟨ho, rfl, ⟨_, ho, rfl⟩, call_meets F.slot_tuple_mul ⟨_, ho, rfl⟩ F.entry_tuple_mul (F.args_tuple_mul_2 _ _) (tuple_mulNone l its.toArray n dd sl k t c0 c1 c2) ⟨ho, ?_⟩⟩)
      have e0 : k.toNat = 0 := by omega
      have q3 := q2 hq _ I.fresh
      rw [e0] at q3
      refine ⟨.ref _, _, I.laid (t' := s.toks) (o := .tup []) (fun b ob q => Heap.get?_push_of_some _ q) (Nat.le_refl _) ?_, rfl, q3⟩
      exact ⟨Nat.zero_le _, [], .nil, ⟨_, Heap.get?_push_size _ rfl, rfl, _, rfl⟩⟩
    · have hsz0 : its.toArray.size = xs.length := by rw [List.size_toArray, hle]
      have flen : (List.replicate k.toNat its).flatten.length ≤ sizeLine := by
        rw [PyProof.Rows.lm_len_rep_flat, hle, Nat.mul_comm]
        exact hz
      have hm : ((its.toArray.size : Nat) : Int) * k ≤ 16777216 := by
        rw [sizeLine_eq] at hz
        have e : (k : Int) = ((k.toNat : Nat) : Int) := by omega
        rw [hsz0, e, ← Int.natCast_mul]
        omega
      have c2 : (decide (k ≤ 0) || its.toArray.isEmpty) = false := by
        rw [hi, Bool.or_false]
        exact decide_eq_false hk0
      have c4 : Builtin.Tuple.tupleTooMany (((its.toArray.size : Nat) : Int) * k) = false := by
        unfold Builtin.Tuple.tupleTooMany
        rw [sizeLine_eq]
        exact decide_eq_false (by omega)
      refine wpAny_binaryOp_repeat_ref (T := "tuple") (U := "int") (by decide) ⟨_, ho, rfl⟩ (fun s' => typeIs_int s' k t) noFill_tuple_mul F.fills_int_mul F.slot_int_rmul repeat_tuple F.slot_int_index.lookup
        (call_meets F.slot_int_rmul (typeIs_int s k t) F.entry_int_rmul (F.args_int_rmul_2 _ _) (int_rmul_tuple k t l its.toArray n dd sl)
          ⟨ho, rfl, ⟨_, ho, rfl⟩, call_meets F.slot_tuple_mul ⟨_, ho, rfl⟩ F.entry_tuple_mul (F.args_tuple_mul_2 _ _) (tuple_mulW l its.toArray n dd sl k t c0 c1 c2 (by omega) c4 (by rw [size_rep, List.size_toArray]; exact flen)) ⟨ho, ?_⟩⟩)
      rw [size_rep]
      refine ⟨.ref _, _, I.laid (t' := s.toks) (o := .tup (List.replicate k.toNat xs).flatten) (fun b ob q => Heap.get?_push_of_some _ q) (Nat.le_refl _) ?_, rfl, q2 hq _ I.fresh⟩
      refine ⟨?_, _, r.rep k.toNat, ⟨_, Heap.get?_push_size _ rfl, rfl, _, rfl⟩⟩
      rw [PyProof.Rows.lm_len_rep_flat, Nat.mul_comm]; exact hz
end L2
namespace Sg
open PySem PySem.Spec PyProof.Rows L2
/-- a list that may be locked, times an int -/
def rRepR : R2 := fun x y H Q => ∃ l k xs, x = .ref l ∧ y = .int k ∧ Rd H l (.lst xs) ∧ -(2 ^ 63) ≤ k ∧ k < 2 ^ 63 ∧ xs.length * k.toNat ≤ sizeLine ∧
  ∀ p, H p = none → Q (.ref p) (upd H p (.lst (List.replicate k.toNat xs).flatten))
theorem op_repR {X : Cx} : OpR X (binaryOp .Mult) rRepR := by
  intro pins s σ H x y v u Q I rx ry h
  obtain ⟨l, k, xs, rfl, rfl, hH, h1, h2, hz, q⟩ := h
  cases rx
  obtain ⟨t, rfl⟩ := ry
  obtain ⟨z, its, n, r, hl, e⟩ := lst_obj I hH
  have hlen : its.toArray.size * k.toNat ≤ sizeLine := by rw [List.size_toArray, ← hl]; exact hz
  have hcap : ¬ its.toArray.size * k.toNat > (2 ^ 63 - 1) / 8 := by
    have : (sizeLine : Nat) ≤ (2 ^ 63 - 1) / 8 := by decide
    omega
  have hfit : ¬ (!Builtin.List.listFitsIndex k) = true := by
    rw [fitsIndex_both h1 h2]
    exact Bool.false_ne_true
  have hlong : ¬ Builtin.List.listTooLong (its.toArray.size * k.toNat) = true := by
    rw [notLongL hlen]
    exact Bool.false_ne_true
  have hnew : List.foldl (fun x1 x2 => x1 ++ x2) #[] (List.replicate (if its.toArray.isEmpty = true then 0 else k.toNat) its.toArray) = (List.replicate k.toNat its).flatten.toArray := by
    rw [size_rep]
    cases its with
    | nil => simp
    | cons a r' => rw [if_neg (by simp)]
  refine wpAny_binaryOp_repeat_ref (T := "list") (U := "int") (by decide) ⟨_, e, rfl⟩ (fun s' => typeIs_int s' k t) noFill_list_mul F.fills_int_mul F.slot_int_rmul repeat_list F.slot_int_index.lookup
    (call_meets F.slot_int_rmul (typeIs_int s k t) F.entry_int_rmul (F.args_int_rmul_2 _ _) (int___rmul___int_list k t l its.toArray n)
      ⟨e, rfl, ⟨_, e, rfl⟩, call_meets F.slot_list_mul ⟨_, e, rfl⟩ F.entry_list_mul (F.args_list_mul_2 _ _) (AutoListH.list___mul___list_int_3 l its.toArray n k t hfit hcap hlong) ⟨e, ?_⟩⟩)
  rw [hnew]
  exact ⟨.ref _, _, I.lnew (t' := s.toks) (r.rep k.toNat) (by rw [PyProof.Rows.lm_len_rep_flat, Nat.mul_comm]; exact hz), rfl, q _ I.fresh⟩
theorem RpL.rep {K : PySem.W.Frag} {F : Hp} {ds : List D} {vs : List V} (h : RpL K F ds vs) : ∀ n : Nat, RpL K F (List.replicate n ds).flatten (List.replicate n vs).flatten
  | 0 => .nil
  | n + 1 => by
    rw [List.replicate_succ, List.replicate_succ, List.flatten_cons, List.flatten_cons]
    exact h.append (RpL.rep h n)
def rMulX (K : PySem.W.Frag) : R2 := fun x y H Q => rI (fun i j => okMul i j = true) (fun i j => .int (i * j)) x y H Q ∨ rRepA K x y H Q ∨ rRepR x y H Q
theorem op_mulA {X : Cx} : OpR X (binaryOp .Mult) (rMulX X.K) := op_mulX.or (op_repA.or op_repR)
theorem okRep_of {k : Int} {n : Nat} (h : okRep k n = true) : -(2 ^ 31) ≤ k ∧ k < 2 ^ 31 ∧ n * k.toNat ≤ sizeLine := by
  unfold okRep at h
  simp only [Bool.and_eq_true, decide_eq_true_eq] at h
  exact ⟨h.1.1, h.1.2, len_ok h.2⟩
theorem sMul_ok {X : Cx} (m : Bool) : OpS X (sMul m) (rMulX X.K) := by
  intro E w S H x y v u Q s rx ry h
  unfold sMul at h
  split at h
  · split at h
    · rename_i hc
      cases rx; cases ry
      exact .inl ⟨_, _, rfl, rfl, hc, rd_ok h s (.int _)⟩
    · exact h.elim
  · rename_i a k
    split at h
    · rename_i hc
      obtain ⟨k1, k2, k3⟩ := okRep_of hc
      cases ry
      have rx' : Rp X.K w.F (.tup a) v := rx
      cases rx' with
      | tup h1 q1 =>
        refine .inr (.inl ⟨_, _, _, rfl, rfl, s.sqT h1, k1, k2, by rw [← q1.length]; exact k3, fun e => ?_, fun _ p hp => new_tup s h hp (q1.rep k.toNat)⟩)
        refine rd_ok h s (Rp.tup h1 ?_)
        rcases e with e | e
        · subst e
          have e2 : a = [] := List.eq_nil_of_length_eq_zero q1.length
          subst e2
          have e3 : rep k ([] : List D) = [] := by unfold Sg.rep; simp
          rw [e3]; exact .nil
        · subst e
          have e3 : rep 1 a = a := by unfold Sg.rep; simp
          rw [e3]; exact q1
    · exact h.elim
  · rename_i k _ _
    split at h
    · rename_i a e1
      split at h
      · rename_i hc
        obtain ⟨k1, k2, k3⟩ := okRep_of hc
        obtain ⟨p, xs, rfl, h1, q1⟩ := getL_of s rx e1
        cases ry
        exact .inr (.inr ⟨_, _, _, rfl, rfl, h1, by omega, by omega, by rw [← q1.length]; exact k3, fun p hp => new_lst s h hp (q1.rep k.toNat)⟩)
      · exact h.elim
    · exact h.elim
  · exact h.elim

/-! ### in -/
def rInX (K : PySem.W.Frag) (n : Bool) : R2 := fun x y H Q => ∃ d ds, Dp K H x d ∧ (Dp K H y (.list ds) ∨ Dp K H y (.tuple ds)) ∧ SeqAt.shaped d = true ∧ SeqAt.shaped (.list ds) = true ∧ Q (.bl (xor n (ds.any fun z => PyData.eqv z d))) H
theorem shaped_tup {ds : List PyData} (h : SeqAt.shaped (.list ds) = true) : PyData.canLayAll0 ds = true := by
  have := SeqAt.canLay_of_shaped h
  simpa [PyData.canLay0] using this
theorem op_inX {X : Cx} (hu : X.A.units + 65 < cLine) : OpR X (compareOp .In) (rInX X.K false) := by
  intro pins s σ H x y v u Q I rx ry h
  obtain ⟨d, ds, hd, he, sd, se, q⟩ := h
  obtain ⟨as, r1⟩ := Dp.reads I d x v hd rx
  rw [Bool.false_xor] at q
  have room : X.A.units + 1 + min (PyData.depthAll ds) d.depth < cLine := by
    have := SeqAt.depth_of_shaped sd
    have h2 : min (PyData.depthAll ds) d.depth ≤ d.depth := Nat.min_le_right _ _
    omega
  rcases he with he | he
  · obtain ⟨bs, r2⟩ := Dp.reads I (.list ds) y u he ry
    exact SeqAt.in_list_reads r2 r1 (shaped_tup se) (SeqAt.canLay_of_shaped sd) room ⟨.bl _, H, I, rfl, q⟩
  · obtain ⟨bs, r2⟩ := Dp.reads I (.tuple ds) y u he ry
    exact SeqAt.in_tuple_reads r2 r1 (shaped_tup se) (SeqAt.canLay_of_shaped sd) room ⟨.bl _, H, I, rfl, q⟩
theorem op_notInX {X : Cx} (hu : X.A.units + 65 < cLine) : OpR X (compareOp .NotIn) (rInX X.K true) := by
  intro pins s σ H x y v u Q I rx ry h
  obtain ⟨d, ds, hd, he, sd, se, q⟩ := h
  obtain ⟨as, r1⟩ := Dp.reads I d x v hd rx
  rw [Bool.true_xor] at q
  have room : X.A.units + 1 + min (PyData.depthAll ds) d.depth < cLine := by
    have := SeqAt.depth_of_shaped sd
    have h2 : min (PyData.depthAll ds) d.depth ≤ d.depth := Nat.min_le_right _ _
    omega
  rcases he with he | he
  · obtain ⟨bs, r2⟩ := Dp.reads I (.list ds) y u he ry
    exact SeqAt.notIn_list_reads r2 r1 (shaped_tup se) (SeqAt.canLay_of_shaped sd) room ⟨.bl _, H, I, rfl, q⟩
  · obtain ⟨bs, r2⟩ := Dp.reads I (.tuple ds) y u he ry
    exact SeqAt.notIn_tuple_reads r2 r1 (shaped_tup se) (SeqAt.canLay_of_shaped sd) room ⟨.bl _, H, I, rfl, q⟩
theorem getS_dp {K : PySem.W.Frag} {w : Wd} {S : Sto} {H : Hp} (s : Sim K w S H) {y : Y} {v : V} {b : List D} (r : RY K w y v) (e : getS y S = some b) (p : D.plnL b = true) : Dp K H v (.list (D.pyL b)) ∨ Dp K H v (.tuple (D.pyL b)) := by
  obtain ⟨a, xs, rfl, h1, h2⟩ := getS_of s r e
  rcases h1 with h1 | h1
  · exact .inl (.lst (.inl h1) (dpL_of s h2 p))
  · exact .inr (.tup h1 (dpL_of s h2 p))
theorem sIn_ok {X : Cx} (n : Bool) : OpS X (sIn n) (rInX X.K n) := by
  intro E w S H x y v u Q s rx ry h
  unfold sIn at h
  cases e1 : getD x S with
  | none => rw [e1] at h; exact h.elim
  | some a =>
    cases e2 : getS y S with
    | none => rw [e1, e2] at h; exact h.elim
    | some b =>
      rw [e1, e2] at h
      dsimp only at h
      split at h
      · rename_i hc
        have pb : D.plnL b = true := by simpa [D.pln] using eqk_pln hc.2
        refine ⟨_, D.pyL b, getD_dp s rx e1 (eqk_pln hc.1), getS_dp s ry e2 pb, eqk_shaped hc.1, ?_, ?_⟩
        · have := eqk_shaped hc.2
          simpa [SeqAt.shaped, D.py, PyData.canLay0, PyData.depth] using this
        · rw [any_py a (eqk_pln hc.1) b pb]
          exact rd_ok h s (.bl _)
      · exact h.elim

/-! ### is -/
def rIsX (n : Bool) : R2 := fun x y H Q => (y = .non ∨ ∃ b, y = .bl b) ∧ Q (.bl (xor n (decide (x = y)))) H
theorem op_isX {X : Cx} : OpR X (compareOp .Is) (rIsX false) := by
  intro pins s σ H x y v u Q I rx ry h
  obtain ⟨hy, q⟩ := h
  rw [Bool.false_xor] at q
  rcases hy with rfl | ⟨b, rfl⟩
  · exact op_isN pins s σ H x _ v u Q I rx ry ⟨rfl, q⟩
  · cases (show u = Value.bool b from ry)
    by_cases e : x = .bl b
    · subst e
      cases (show v = Value.bool b from rx)
      exact wpAny_is_self rfl ⟨.bl true, H, I, rfl, by simpa using q⟩
    · have ne : v ≠ Value.bool b := fun z => e (rx.inj (z ▸ (rfl : RelV (.bl b) (Value.bool b))))
      refine wpAny_is_other ?_ ne ⟨.bl false, H, I, rfl, by simpa [e] using q⟩
      cases x <;> first | (cases rx; rfl) | (obtain ⟨t, rfl⟩ := rx; rfl)
theorem op_isNotX {X : Cx} : OpR X (compareOp .IsNot) (rIsX true) := by
  intro pins s σ H x y v u Q I rx ry h
  obtain ⟨hy, q⟩ := h
  rw [Bool.true_xor] at q
  rcases hy with rfl | ⟨b, rfl⟩
  · exact op_notN pins s σ H x _ v u Q I rx ry ⟨rfl, q⟩
  · cases (show u = Value.bool b from ry)
    by_cases e : x = .bl b
    · subst e
      cases (show v = Value.bool b from rx)
      exact wpAny_isNot_self rfl ⟨.bl false, H, I, rfl, by simpa using q⟩
    · have ne : v ≠ Value.bool b := fun z => e (rx.inj (z ▸ (rfl : RelV (.bl b) (Value.bool b))))
      refine wpAny_isNot_other ?_ ne ⟨.bl true, H, I, rfl, by simpa [e] using q⟩
      cases x <;> first | (cases rx; rfl) | (obtain ⟨t, rfl⟩ := rx; rfl)
theorem ry_non {K : PySem.W.Frag} {w : Wd} {x : Y} {v : V} (r : RY K w x v) : decide (v = .non) = (match x with | .v .non => true | _ => false) := by
  cases x with
  | ref n => obtain ⟨a, _, rfl⟩ := r; rfl
  | v d =>
    have r' : Rp K w.F d v := r
    cases r' <;> rfl
theorem sIs_ok {X : Cx} (n : Bool) : OpS X (sIs n) (rIsX n) := by
  intro E w S H x y v u Q s rx ry h
  unfold sIs at h
  split at h
  · cases rx; cases ry
    refine ⟨.inl rfl, ?_⟩
    have := rd_ok h s (.bl _)
    cases n <;> simpa using this
  · rename_i hx
    cases ry
    refine ⟨.inl rfl, ?_⟩
    have q := rd_ok h s (.bl _)
    have e : v ≠ .non := fun z => by
      subst z
      cases x with
      | ref m => obtain ⟨a, _, z⟩ := rx; cases z
      | v d =>
        have r' : Rp X.K w.F d .non := rx
        cases r'
        exact hx rfl
    rw [decide_eq_false e]
    cases n <;> simpa using q
  · cases rx; cases ry
    rename_i a b
    refine ⟨.inr ⟨_, rfl⟩, ?_⟩
    have q := rd_ok h s (.bl _)
    have e : decide (V.bl a = V.bl b) = (a == b) := dec_bl
    rw [e]; exact q
  · rename_i b hx
    cases ry
    refine ⟨.inr ⟨_, rfl⟩, ?_⟩
    have q := rd_ok h s (.bl _)
    have e : v ≠ .bl b := fun z => by
      subst z
      cases x with
      | ref m => obtain ⟨a, _, z⟩ := rx; cases z
      | v d =>
        have r' : Rp X.K w.F d (.bl b) := rx
        cases r'
        exact hx b rfl
    rw [decide_eq_false e]
    cases n <;> simpa using q
  · exact h.elim
end Sg

/-! Q3: expressions -/
namespace Sg
open PySem PySem.Spec PyProof.Rows L2

/-- the built-in names that must stand -/
def bls : List Str := ["len", "range", "isinstance", "abs", "sum", "min", "max", "all", "any", "sorted", "int", "str", "list", "tuple", "dict", "set", "zip", "enumerate", "bool", "type", "reversed", "super"]
structure Ok (X : Cx) (W : WX) (k : Nat) (vl wl : List (Nat × Str)) (gl : List Str) : Prop where
  tk : Takes X W
  hr : Room k X.A
  calm : X.calm = true
  nd : X.N.Nodup
  vis : ∀ (j i : Nat) (x : Str), vl[j]? = some (i, x) → X.N[i]? = some x ∧ Vis X.env.scope x ∧ (x == ("__debug__" : Str)) = false ∧ (x == ("__classdict__" : Str)) = false
  sto : ∀ (j i : Nat) (x : Str), wl[j]? = some (i, x) → X.N[i]? = some x ∧ Loc X.env.scope x ∧ (X.fn x = true ∨ X.env.scope.names.lookup x = some .local)
  glo : ∀ (j : Nat) (x : Str), gl[j]? = some x → Gl X x ∧ (x == ("__debug__" : Str)) = false ∧ x ≠ "__name__"
  blt : ∀ (j : Nat) (x : Str), bls[j]? = some x → X.mg x = none

/-! ### names, constants -/
def fVar (i : Nat) : FE Y := fun env S => match env[i]? with
  | some (some y) => .ok y S
  | _ => .bad
def fC (d : D) : FE Y := fun _ S => .ok (.v d) S
section
variable {X : Cx} {W : WX} {k : Nat} {vl wl : List (Nat × Str)} {gl : List Str} {a b c e : Expr} {es : List Expr} {f g h : FE Y} {fs : FE (List Y)} {pos p : Pos} {x : Str}
theorem re_var (C : Ok X W k vl wl gl) (j : Nat) {i : Nat} (hj : vl[j]? = some (i, x) := by rfl) : RE X W (.Name x pos) (fVar i) := by
  obtain ⟨h1, h2, h3, h4⟩ := C.vis j i x hj
  refine weakPE (pe_var h1 h2 h3 h4) fun σ H Q q => ?_
  obtain ⟨w, env, S, he, s, q⟩ := q
  unfold fVar at q
  split at q
  · rename_i y e
    obtain ⟨v, e1, r⟩ := he.at_ i y e
    exact ⟨v, e1, rd_ok q s r⟩
  · exact q.elim
theorem c_read {d : D} {v : V} (hd : ∀ (F : Hp), Rp X.K F d v) (σ : L2.St) (H : Hp) (Q : VK) (q : tE X W (fC d) σ H Q) : tC v σ H Q := by
  obtain ⟨w, env, S, he, s, q⟩ := q
  exact rd_ok q s (hd w.F)
theorem re_int {i : Int} {j : Nat} : RE X W (.Constant (.int i) j pos) (fC (.int i)) := weakPE pe_int (c_read fun _ => .int i)
theorem re_bl {i : Bool} {j : Nat} : RE X W (.Constant (.bool i) j pos) (fC (.bl i)) := weakPE pe_bl (c_read fun _ => .bl i)
theorem re_non {j : Nat} : RE X W (.Constant .none j pos) (fC .non) := weakPE pe_non (c_read fun _ => .non)
theorem re_str {i : Str} {j : Nat} : RE X W (.Constant (.str i) j pos) (fC (.str i)) := weakPE pe_str (c_read fun _ => .str i)
/-- a constant of the module -/
theorem re_glob (C : Ok X W k vl wl gl) (j : Nat) {d : D} {v : V} {u : Value} (hm : X.mg x = some u) (hv : RelV v u) (hd : ∀ (F : Hp), Rp X.K F d v) (hj : gl[j]? = some x := by rfl) : RE X W (.Name x pos) (fC d) :=
  weakPE (pe_glob (C.glo j x hj).1 hm hv (C.glo j x hj).2.1) (c_read hd)
/-- a built-in type's name as a value -/
theorem re_ty (C : Ok X W k vl wl gl) (j : Nat) {n : String} (i : Nat) (hi : bls[i]? = some x := by rfl) (hj : gl[j]? = some x := by rfl) (hv : bootBuiltins x = some (.type n) := by decide +kernel) : RE X W (.Name x pos) (fC (.ty n)) :=
  weakPE (pe_bltn (v := .ty n) (C.glo j x hj).1 (C.blt i x hi) hv rfl (C.glo j x hj).2.2 (C.glo j x hj).2.1) (c_read fun _ => .ty n)

/-! ### lists of arguments, displays -/
def fNil : FE (List Y) := fun _ S => .ok [] S
def fCons (f : FE Y) (g : FE (List Y)) : FE (List Y) := fun env S => (f env S).bind fun y S1 => (g env S1).bind fun ys S2 => .ok (y :: ys) S2
theorem ra_nil : RA X W [] fNil := weakPA pa_nil fun σ H Q q => by
  obtain ⟨w, env, S, he, s, q⟩ := q
  exact rd_ok q s .nil
theorem ra_cons (ha : RE X W e f) (hr : RA X W es fs) (hs : starEach (e :: es) X.env = (false, eval e X.env) :: starEach es X.env := by rfl) : RA X W (e :: es) (fCons f fs) := weakPA (pa_cons ha hr hs) fun σ H Q q => by
  obtain ⟨w, env, S, he, s, q⟩ := q
  refine ⟨w, env, S, he, s, rd_bind q fun y S1 w1 v H1 l1 s1 r1 q1 => ⟨w1, env, S1, he.mono l1, s1, rd_bind q1 fun ys S2 w2 vs H2 l2 s2 r2 q2 => ?_⟩⟩
  exact rd_ok q2 s2 (.cons (r1.mono l2) r2)
/-- data of values: things of the store that are kept within others are frozen -/
def thaw : List Y → Sto → Option (List D × Sto)
  | [], S => some ([], S)
  | .v d :: ys, S => match thaw ys S with
    | some (ds, S1) => some (d :: ds, S1)
    | none => none
  | .ref n :: ys, S => match S[n]? with
    | some (.lst es) => match thaw ys (S.set n .gone) with
      | some (ds, S1) => some (.lst es :: ds, S1)
      | none => none
    | some (.dic ks es) => match thaw ys (S.set n .gone) with
      | some (ds, S1) => some (.dic ks es :: ds, S1)
      | none => none
    | _ => none
theorem thaw_ok {K : PySem.W.Frag} : ∀ {ys : List Y} {S S1 : Sto} {ds : List D} {w : Wd} {H : Hp} {vs : List V}, Sim K w S H → RYs K w ys vs → thaw ys S = some (ds, S1) → ∃ w', w.le w' ∧ Sim K w' S1 H ∧ RpL K w'.F ds vs
  | [], S, S1, ds, w, H, vs, s, r, e => by
    cases r
    unfold thaw at e
    cases e
    exact ⟨w, .refl w, s, .nil⟩
  | .v d :: ys, S, S1, ds, w, H, vs, s, r, e => by
    unfold thaw at e
    cases r with
    | cons r1 r2 =>
      split at e
      · rename_i ds' S' e2
        cases e
        obtain ⟨w', l, s', q⟩ := thaw_ok s r2 e2
        exact ⟨w', l, s', .cons (Rp.mono l.F r1) q⟩
      · cases e
  | .ref n :: ys, S, S1, ds, w, H, vs, s, r, e => by
    unfold thaw at e
    cases r with
    | cons r1 r2 =>
      split at e
      · rename_i es e0
        split at e
        · rename_i ds' S' e2
          cases e
          obtain ⟨a, ha, rfl⟩ := r1
          obtain ⟨⟨xs, h1, h2⟩, _, hF, hX⟩ := s.ob n _ a e0 ha (by intro z; cases z)
          have g := s.goneO n
          have hl : n < S.length := (List.getElem?_eq_some_iff.mp e0).1
          have s2 := g.froze (o := .lst xs) h1 hF hX (fun m hm => by
            by_cases q : n = m
            · subst q; exact List.getElem?_set_self hl
            · by_cases z : S[m]? = some .gone
              · rw [List.getElem?_set_ne q]; exact z
              · exact absurd (s.inj n m a ha hm (by rw [e0]; intro z; cases z) z) q)
          have l1 : w.le { w with F := upd w.F a (.lst xs) } := Wd.le.froze hF
          obtain ⟨w', l, s', q⟩ := thaw_ok s2 (r2.mono l1) e2
          refine ⟨w', l1.trans l, s', .cons (Rp.lst (.inl (l.F _ _ upd_same)) (h2.mono (l1.F.trans l.F))) q⟩
        · cases e
      · rename_i ks es e0
        split at e
        · rename_i ds' S' e2
          cases e
          obtain ⟨a, ha, rfl⟩ := r1
          obtain ⟨⟨xs, h1, h2⟩, _, hF, hX⟩ := s.ob n _ a e0 ha (by intro z; cases z)
          have g := s.goneO n
          have hl : n < S.length := (List.getElem?_eq_some_iff.mp e0).1
          have s2 := g.froze (o := DicO a xs) h1 hF hX (fun m hm => by
            by_cases q : n = m
            · subst q; exact List.getElem?_set_self hl
            · by_cases z : S[m]? = some .gone
              · rw [List.getElem?_set_ne q]; exact z
              · exact absurd (s.inj n m a ha hm (by rw [e0]; intro z; cases z) z) q)
          have l1 : w.le { w with F := upd w.F a (DicO a xs) } := Wd.le.froze hF
          obtain ⟨w', l, s', q⟩ := thaw_ok s2 (r2.mono l1) e2
          refine ⟨w', l1.trans l, s', .cons (Rp.dic (.inl (l.F _ _ upd_same)) (h2.mono (l1.F.trans l.F))) q⟩
        · cases e
      · cases e
def fTup (f : FE (List Y)) : FE Y := fun env S => (f env S).bind fun ys S1 => match thaw ys S1 with
  | some (ds, S2) => if okLen ds.length = true then .ok (.v (.tup ds)) S2 else .bad
  | none => .bad
def fLst (m : Bool) (f : FE (List Y)) : FE Y := fun env S => (f env S).bind fun ys S1 => match thaw ys S1 with
  | some (ds, S2) => if okLen ds.length = true then newL m ds S2 else .bad
  | none => .bad
theorem re_tup {x1 : Nat} (ha : RA X W es fs) : RE X W (.Tuple es x1 pos) (fTup fs) := weakPE (pe_tup ha) fun σ H Q q => by
  obtain ⟨w, env, S, he, s, q⟩ := q
  refine ⟨w, env, S, he, s, rd_bind q fun ys S1 w1 vs H1 l1 s1 r1 q1 => ?_⟩
  split at q1
  · rename_i ds S2 e
    split at q1
    · rename_i hl
      obtain ⟨w2, l2, s2, r2⟩ := thaw_ok s1 r1 e
      exact ⟨by rw [← r2.length]; exact len_ok hl, fun p hp => new_tup s2 (rd_le l2 q1) hp r2⟩
    · exact q1.elim
  · exact q1.elim
theorem re_lst (m : Bool) (ha : RA X W es fs) : RE X W (.List es pos) (fLst m fs) := weakPE (pe_lst ha) fun σ H Q q => by
  obtain ⟨w, env, S, he, s, q⟩ := q
  refine ⟨w, env, S, he, s, rd_bind q fun ys S1 w1 vs H1 l1 s1 r1 q1 => ?_⟩
  split at q1
  · rename_i ds S2 e
    split at q1
    · rename_i hl
      obtain ⟨w2, l2, s2, r2⟩ := thaw_ok s1 r1 e
      exact ⟨by rw [← r2.length]; exact len_ok hl, fun p hp => new_lst s2 (rd_le l2 q1) hp r2⟩
    · exact q1.elim
  · exact q1.elim

/-! ### operators -/
theorem re_add (m : Bool) (ha : RE X W a f) (hb : RE X W b g) : RE X W (.BinOp a .Add b pos) (fBin (sAdd m) f g) := re_bin op_addX (sAdd_ok m) ha hb
theorem re_sub (ha : RE X W a f) (hb : RE X W b g) : RE X W (.BinOp a .Sub b pos) (fBin sSub f g) := re_bin op_sub sSub_ok ha hb
theorem re_mul (m : Bool) (ha : RE X W a f) (hb : RE X W b g) : RE X W (.BinOp a .Mult b pos) (fBin (sMul m) f g) := re_bin op_mulA (sMul_ok m) ha hb
theorem re_fdiv (ha : RE X W a f) (hb : RE X W b g) : RE X W (.BinOp a .FloorDiv b pos) (fBin sFdiv f g) := re_bin op_fdivX sFdiv_ok ha hb
theorem re_mod (ha : RE X W a f) (hb : RE X W b g) : RE X W (.BinOp a .Mod b pos) (fBin sMod f g) := re_bin op_modN sMod_ok ha hb
theorem re_pow (ha : RE X W a f) (hb : RE X W b g) : RE X W (.BinOp a .Pow b pos) (fBin sPow f g) := re_bin op_pow sPow_ok ha hb
def fUn (sem : Y → Sto → Res Y) (f : FE Y) : FE Y := fun env S => (f env S).bind sem
def sNeg : Y → Sto → Res Y
  | .v (.int i), S => .ok (.v (.int (-i))) S
  | _, _ => .bad
theorem re_neg (ha : RE X W a f) : RE X W (.UnaryOp .USub a pos) (fUn sNeg f) := weakPE (pe_un un_neg ha) fun σ H Q q => by
  obtain ⟨w, env, S, he, s, q⟩ := q
  refine ⟨w, env, S, he, s, rd_bind q fun y S1 w1 v H1 l1 s1 r1 q1 => ?_⟩
  unfold sNeg at q1
  split at q1
  · cases r1
    exact ⟨_, rfl, rd_ok q1 s1 (.int _)⟩
  · exact q1.elim

/-! ### comparisons -/
theorem re_eq (C : Ok X W k vl wl gl) (ha : RE X W a f) (hb : RE X W b g) : RE X W (.Compare a [.Eq] [b] pos) (fBin sEq f g) := re_cmp (op_eqD C.hr.units) sEq_ok (nomark _) ha hb
theorem re_ne (C : Ok X W k vl wl gl) (ha : RE X W a f) (hb : RE X W b g) : RE X W (.Compare a [.NotEq] [b] pos) (fBin sNe f g) := re_cmp (op_neD C.hr.units) sNe_ok (nomark _) ha hb
theorem re_lt (ha : RE X W a f) (hb : RE X W b g) : RE X W (.Compare a [.Lt] [b] pos) (fBin sLt f g) := re_cmp op_lt sLt_ok (nomark _) ha hb
theorem re_le (ha : RE X W a f) (hb : RE X W b g) : RE X W (.Compare a [.LtE] [b] pos) (fBin sLe f g) := re_cmp op_le sLe_ok (nomark _) ha hb
theorem re_gt (ha : RE X W a f) (hb : RE X W b g) : RE X W (.Compare a [.Gt] [b] pos) (fBin sGt f g) := re_cmp op_gt sGt_ok (nomark _) ha hb
theorem re_ge (ha : RE X W a f) (hb : RE X W b g) : RE X W (.Compare a [.GtE] [b] pos) (fBin sGe f g) := re_cmp op_ge sGe_ok (nomark _) ha hb
theorem re_is (ha : RE X W a f) (hb : RE X W b g) : RE X W (.Compare a [.Is] [b] pos) (fBin (sIs false) f g) := re_cmp op_isX (sIs_ok false) (nomark _) ha hb
theorem re_isn (ha : RE X W a f) (hb : RE X W b g) : RE X W (.Compare a [.IsNot] [b] pos) (fBin (sIs true) f g) := re_cmp op_isNotX (sIs_ok true) (nomark _) ha hb
theorem room65 {k : Nat} {A : Around} (r : Room k A) : A.units + 65 < cLine := by have := r.un; omega
theorem re_in (C : Ok X W k vl wl gl) (ha : RE X W a f) (hb : RE X W b g) (hm : behindInMarks .In b = false := by rfl) : RE X W (.Compare a [.In] [b] pos) (fBin (sIn false) f g) := re_cmp (op_inX (room65 C.hr)) (sIn_ok false) hm ha hb
theorem re_nin (C : Ok X W k vl wl gl) (ha : RE X W a f) (hb : RE X W b g) (hm : behindInMarks .NotIn b = false := by rfl) : RE X W (.Compare a [.NotIn] [b] pos) (fBin (sIn true) f g) := re_cmp (op_notInX (room65 C.hr)) (sIn_ok true) hm ha hb
theorem rt_eq (C : Ok X W k vl wl gl) (ha : RE X W a f) (hb : RE X W b g) : RT X W (.Compare a [.Eq] [b] pos) (fTest (fBin sEq f g)) := rt_cmp (op_eqD C.hr.units) sEq_ok (nomark _) ha hb
theorem rt_ne (C : Ok X W k vl wl gl) (ha : RE X W a f) (hb : RE X W b g) : RT X W (.Compare a [.NotEq] [b] pos) (fTest (fBin sNe f g)) := rt_cmp (op_neD C.hr.units) sNe_ok (nomark _) ha hb
theorem rt_lt (ha : RE X W a f) (hb : RE X W b g) : RT X W (.Compare a [.Lt] [b] pos) (fTest (fBin sLt f g)) := rt_cmp op_lt sLt_ok (nomark _) ha hb
theorem rt_le (ha : RE X W a f) (hb : RE X W b g) : RT X W (.Compare a [.LtE] [b] pos) (fTest (fBin sLe f g)) := rt_cmp op_le sLe_ok (nomark _) ha hb
theorem rt_gt (ha : RE X W a f) (hb : RE X W b g) : RT X W (.Compare a [.Gt] [b] pos) (fTest (fBin sGt f g)) := rt_cmp op_gt sGt_ok (nomark _) ha hb
theorem rt_ge (ha : RE X W a f) (hb : RE X W b g) : RT X W (.Compare a [.GtE] [b] pos) (fTest (fBin sGe f g)) := rt_cmp op_ge sGe_ok (nomark _) ha hb
theorem rt_is (ha : RE X W a f) (hb : RE X W b g) : RT X W (.Compare a [.Is] [b] pos) (fTest (fBin (sIs false) f g)) := rt_cmp op_isX (sIs_ok false) (nomark _) ha hb
theorem rt_isn (ha : RE X W a f) (hb : RE X W b g) : RT X W (.Compare a [.IsNot] [b] pos) (fTest (fBin (sIs true) f g)) := rt_cmp op_isNotX (sIs_ok true) (nomark _) ha hb
theorem rt_in (C : Ok X W k vl wl gl) (ha : RE X W a f) (hb : RE X W b g) (hm : behindInMarks .In b = false := by rfl) : RT X W (.Compare a [.In] [b] pos) (fTest (fBin (sIn false) f g)) := rt_cmp (op_inX (room65 C.hr)) (sIn_ok false) hm ha hb
theorem rt_nin (C : Ok X W k vl wl gl) (ha : RE X W a f) (hb : RE X W b g) (hm : behindInMarks .NotIn b = false := by rfl) : RT X W (.Compare a [.NotIn] [b] pos) (fTest (fBin (sIn true) f g)) := rt_cmp (op_notInX (room65 C.hr)) (sIn_ok true) hm ha hb
/-- a op b op' c -/
def fChain (s1 s2 : Y → Y → Sto → Res Y) (f g h : FE Y) : FE Y := fun env S => (f env S).bind fun x S1 => (g env S1).bind fun y S2 => (s1 x y S2).bind fun z S3 => match z with
  | .v (.bl true) => (h env S3).bind fun u S4 => s2 y u S4
  | .v (.bl false) => .ok (.v (.bl false)) S3
  | _ => .bad
theorem chain_read {s1 s2 : Y → Y → Sto → Res Y} {r r' : R2} (h1 : OpS X s1 r) (h2 : OpS X s2 r') (σ : L2.St) (H : Hp) (Q : VK) (q : tE X W (fChain s1 s2 f g h) σ H Q) : tChain r r' (tE X W f) (tE X W g) (tE X W h) σ H Q := by
  obtain ⟨w, env, S, he, s, q⟩ := q
  refine ⟨w, env, S, he, s, rd_bind q fun x S1 w1 v H1 l1 s1 r1 q1 => ⟨w1, env, S1, he.mono l1, s1, rd_bind q1 fun y S2 w2 u H2 l2 s2 r2 q2 => ?_⟩⟩
  refine h1 _ w2 S2 H2 x y v u _ s2 (r1.mono l2) r2 (rd_bind q2 fun z S3 w3 zv H3 l3 s3 r3 q3 => ?_)
  cases z with
  | ref n => exact q3.elim
  | v d =>
    cases d with
    | bl kb =>
      have r3' : Rp X.K w3.F (.bl kb) zv := r3
      cases r3'
      refine ⟨kb, rfl, ?_⟩
      cases kb with
      | true =>
        refine iteT ⟨w3, env, S3, (he.mono (l1.trans l2)).mono l3, s3, rd_bind q3 fun t S4 w4 tv H4 l4 s4 r4 q4 => ?_⟩
        exact h2 _ w4 S4 H4 y t u tv _ s4 (r2.mono (l3.trans l4)) r4 q4
      | false => exact iteF (rd_ok q3 s3 (.bl false))
    | _ => exact q3.elim
theorem re_chain {op op' : CmpOp} {s1 s2 : Y → Y → Sto → Res Y} {r r' : R2} (ho : OpR X (compareOp op) r) (ho' : OpR X (compareOp op') r') (h1 : OpS X s1 r) (h2 : OpS X s2 r') (ha : RE X W a f) (hb : RE X W b g) (hc : RE X W c h)
    (hm : lastMarks [op, op'] [b, c] = false := by rfl) : RE X W (.Compare a [op, op'] [b, c] pos) (fChain s1 s2 f g h) := weakPE (pe_chain ho ho' ha hb hc hm) fun σ H Q q => chain_read h1 h2 σ H Q q
theorem rt_chain {op op' : CmpOp} {s1 s2 : Y → Y → Sto → Res Y} {r r' : R2} (ho : OpR X (compareOp op) r) (ho' : OpR X (compareOp op') r') (h1 : OpS X s1 r) (h2 : OpS X s2 r') (ha : RE X W a f) (hb : RE X W b g) (hc : RE X W c h)
    (hm : lastMarks [op, op'] [b, c] = false := by rfl) : RT X W (.Compare a [op, op'] [b, c] pos) (fTest (fChain s1 s2 f g h)) := weakPT (pt_chain ho ho' ha hb hc hm) fun σ H Q q => test_read (fun σ H Q q => chain_read h1 h2 σ H Q q) σ H Q q
end
end Sg

/-! Q3b: logic, truth, subscripts, slices -/
namespace Sg
open PySem PySem.Spec PyProof.Rows L2
section
variable {X : Cx} {W : WX} {k : Nat} {vl wl : List (Nat × Str)} {gl : List Str} {a b c e : Expr} {es rest : List Expr} {f g h : FE Y} {t u : FE Bool} {fs : FE (List Y)} {pos p : Pos} {x : Str}

/-! ### truth -/
def truY : Y → Sto → Res Bool
  | .v .non, S => .ok false S
  | .v (.bl b), S => .ok b S
  | .v (.int i), S => .ok (i != 0) S
  | .v (.str x), S => if okLen x.length = true then .ok ((x.length : Int) != 0) S else .bad
  | y, S => match getS y S with
    | some ds => .ok (!ds.isEmpty) S
    | none => .bad
def fTru (f : FE Y) : FE Bool := fun env S => (f env S).bind truY
theorem RpL.isEmpty {K : PySem.W.Frag} {F : Hp} {ds : List D} {vs : List V} (h : RpL K F ds vs) : vs.isEmpty = ds.isEmpty := by
  cases h <;> rfl
theorem rt_tru (ha : RE X W a f) (he : ∀ whole, isTrue a X.env whole = (do let v ← whole; standAt a.pos; holding [v] (truthy v)) := by intro _; rfl) : RT X W a (fTru f) := weakPT (pt_truth ha he) fun σ H Q q => by
  obtain ⟨w, env, S, hE, s, q⟩ := q
  refine ⟨w, env, S, hE, s, rd_bind q fun y S1 w1 v H1 l1 s1 r1 q1 => ?_⟩
  unfold truY at q1
  split at q1
  · cases r1; exact ⟨false, rfl, rd_ok q1 s1 rfl⟩
  · cases r1; exact ⟨_, rfl, rd_ok q1 s1 rfl⟩
  · cases r1; exact ⟨_, rfl, rd_ok q1 s1 rfl⟩
  · split at q1
    · rename_i hl
      cases r1; exact ⟨_, ⟨len_ok hl, rfl⟩, rd_ok q1 s1 rfl⟩
    · exact q1.elim
  · split at q1
    · rename_i ds e1
      obtain ⟨p, xs, rfl, h1, h2⟩ := getS_of s1 r1 e1
      rcases h1 with h1 | h1
      · exact ⟨_, .inl ⟨xs, .inl h1, rfl⟩, rd_ok q1 s1 (by rw [h2.isEmpty])⟩
      · exact ⟨_, .inr (.inl ⟨xs, h1, rfl⟩), rd_ok q1 s1 (by rw [h2.isEmpty])⟩
    · exact q1.elim

/-! ### and, or, not, as tests -/
abbrev RW (X : Cx) (W : WX) (e : Expr) (f : FE Bool) : Prop := PW X e (tT X W f)
def fAnd (t u : FE Bool) : FE Bool := fun env S => (t env S).bind fun b S1 => if b = true then u env S1 else .ok false S1
def fOr (t u : FE Bool) : FE Bool := fun env S => (t env S).bind fun b S1 => if b = true then .ok true S1 else u env S1
def fNot (t : FE Bool) : FE Bool := fun env S => (t env S).bind fun b S1 => .ok (!b) S1
theorem rw_and1 (ha : RT X W a t) : RW X W (.BoolOp .And [a] pos) t := pw_and1 ha
theorem rw_or1 (ha : RT X W a t) : RW X W (.BoolOp .Or [a] pos) t := pw_or1 ha
theorem rw_and (ha : RT X W a t) (hb : RW X W (.BoolOp .And (b :: rest) pos) u) : RW X W (.BoolOp .And (a :: b :: rest) pos) (fAnd t u) := weakPW (pw_and ha hb) fun σ H Q q => by
  obtain ⟨w, env, S, hE, s, q⟩ := q
  refine ⟨w, env, S, hE, s, rd_bind q fun y S1 w1 v H1 l1 s1 r1 q1 => ?_⟩
  cases r1
  cases y with
  | true => exact iteT ⟨w1, env, S1, hE.mono l1, s1, q1⟩
  | false => exact iteF (rd_ok q1 s1 rfl)
theorem rw_or (ha : RT X W a t) (hb : RW X W (.BoolOp .Or (b :: rest) pos) u) : RW X W (.BoolOp .Or (a :: b :: rest) pos) (fOr t u) := weakPW (pw_or ha hb) fun σ H Q q => by
  obtain ⟨w, env, S, hE, s, q⟩ := q
  refine ⟨w, env, S, hE, s, rd_bind q fun y S1 w1 v H1 l1 s1 r1 q1 => ?_⟩
  cases r1
  cases y with
  | true => exact iteT (rd_ok q1 s1 rfl)
  | false => exact iteF ⟨w1, env, S1, hE.mono l1, s1, q1⟩
theorem rt_w (h : RW X W e t) : RT X W e t := h.pt
theorem rt_not (ha : RT X W a t) : RT X W (.UnaryOp .Not a pos) (fNot t) := weakPT (pt_not ha) fun σ H Q q => by
  obtain ⟨w, env, S, hE, s, q⟩ := q
  refine ⟨w, env, S, hE, s, rd_bind q fun y S1 w1 v H1 l1 s1 r1 q1 => ?_⟩
  cases r1
  exact rd_ok q1 s1 rfl
/-! as values: all but the last True or False -/
def fAndV (f g : FE Y) : FE Y := fun env S => (f env S).bind fun y S1 => match y with
  | .v (.bl true) => g env S1
  | .v (.bl false) => .ok (.v (.bl false)) S1
  | _ => .bad
def fOrV (f g : FE Y) : FE Y := fun env S => (f env S).bind fun y S1 => match y with
  | .v (.bl true) => .ok (.v (.bl true)) S1
  | .v (.bl false) => g env S1
  | _ => .bad
def fNotV (f : FE Y) : FE Y := fun env S => (f env S).bind fun y S1 => match y with
  | .v (.bl b) => .ok (.v (.bl (!b))) S1
  | _ => .bad
theorem bl_of {w : Wd} {d : D} {v : V} {kb : Bool} (r : RY X.K w (.v (.bl kb)) v) : v = .bl kb := by
  have r' : Rp X.K w.F (.bl kb) v := r
  cases r'; rfl
theorem re_one {op : BoolOp} (h : RE X W a f) : RE X W (.BoolOp op [a] pos) f := pe_one h
theorem re_and (ha : RE X W a f) (hb : RE X W (.BoolOp .And (b :: rest) pos) g) : RE X W (.BoolOp .And (a :: b :: rest) pos) (fAndV f g) := weakPE (pe_and ha hb) fun σ H Q q => by
  obtain ⟨w, env, S, hE, s, q⟩ := q
  refine ⟨w, env, S, hE, s, rd_bind q fun y S1 w1 v H1 l1 s1 r1 q1 => ?_⟩
  split at q1
  · cases bl_of (d := .non) r1
    exact ⟨true, rfl, iteT ⟨w1, env, S1, hE.mono l1, s1, q1⟩⟩
  · cases bl_of (d := .non) r1
    exact ⟨false, rfl, iteF (rd_ok q1 s1 (.bl false))⟩
  · exact q1.elim
theorem re_or (ha : RE X W a f) (hb : RE X W (.BoolOp .Or (b :: rest) pos) g) : RE X W (.BoolOp .Or (a :: b :: rest) pos) (fOrV f g) := weakPE (pe_or ha hb) fun σ H Q q => by
  obtain ⟨w, env, S, hE, s, q⟩ := q
  refine ⟨w, env, S, hE, s, rd_bind q fun y S1 w1 v H1 l1 s1 r1 q1 => ?_⟩
  split at q1
  · cases bl_of (d := .non) r1
    exact ⟨true, rfl, iteT (rd_ok q1 s1 (.bl true))⟩
  · cases bl_of (d := .non) r1
    exact ⟨false, rfl, iteF ⟨w1, env, S1, hE.mono l1, s1, q1⟩⟩
  · exact q1.elim
theorem re_not (ha : RE X W a f) : RE X W (.UnaryOp .Not a pos) (fNotV f) := weakPE (pe_not ha) fun σ H Q q => by
  obtain ⟨w, env, S, hE, s, q⟩ := q
  refine ⟨w, env, S, hE, s, rd_bind q fun y S1 w1 v H1 l1 s1 r1 q1 => ?_⟩
  split at q1
  · rename_i kb
    cases bl_of (d := .non) r1
    exact ⟨kb, rfl, rd_ok q1 s1 (.bl _)⟩
  · exact q1.elim
/-- a if t else b -/
def fIf (t : FE Bool) (f g : FE Y) : FE Y := fun env S => (t env S).bind fun b S1 => if b = true then f env S1 else g env S1
theorem re_if (ht : RT X W c t) (ha : RE X W a f) (hb : RE X W b g) : RE X W (.IfExp c a b pos) (fIf t f g) := weakPE (pe_ifExp ht ha hb) fun σ H Q q => by
  obtain ⟨w, env, S, hE, s, q⟩ := q
  refine ⟨w, env, S, hE, s, rd_bind q fun y S1 w1 v H1 l1 s1 r1 q1 => ?_⟩
  cases r1
  cases y with
  | true => exact iteT ⟨w1, env, S1, hE.mono l1, s1, q1⟩
  | false => exact iteF ⟨w1, env, S1, hE.mono l1, s1, q1⟩

/-! ### items -/
def sIx : Y → Y → Sto → Res Y
  | .v (.str z), .v (.int i), S => if okLen z.length = true then match atI z.cps.toList i with
    | some c => .ok (.v (.str ⟨#[c]⟩)) S
    | none => .bad
    else .bad
  | x, .v (.int i), S => match getS x S with
    | some ds => match atI ds i with
      | some d => .ok (.v d) S
      | none => .bad
    | none => .bad
  | _, _, _ => .bad
theorem RpL.atI {K : PySem.W.Frag} {F : Hp} {ds : List D} {vs : List V} (h : RpL K F ds vs) {i : Int} {d : D} (e : atI ds i = some d) : ∃ v, L2.atI vs i = some v ∧ Rp K F d v := by
  unfold L2.atI at e ⊢
  rw [← h.length]
  cases q : ixN ds.length i with
  | none => rw [q] at e; cases e
  | some j =>
    rw [q] at e
    exact h.get e
theorem sIx_ok : OpS X sIx (rIx X.K) := by
  intro E w S H x y v u Q s rx ry h
  unfold sIx at h
  split at h
  · split at h
    · rename_i hl
      split at h
      · rename_i c ec
        cases rx; cases ry
        exact .inr (.inr ⟨_, _, _, rfl, rfl, len_ok hl, ec, rd_ok h s (.str _)⟩)
      · exact h.elim
    · exact h.elim
  · split at h
    · rename_i ds e1
      split at h
      · rename_i d e2
        obtain ⟨p, xs, rfl, h1, h2⟩ := getS_of s rx e1
        cases ry
        obtain ⟨z, e3, r3⟩ := h2.atI e2
        rcases h1 with h1 | h1
        · exact .inl ⟨_, _, _, _, rfl, rfl, .inl h1, e3, rd_ok h s r3⟩
        · exact .inr (.inl ⟨_, _, _, _, rfl, rfl, h1, e3, rd_ok h s r3⟩)
      · exact h.elim
    · exact h.elim
  · exact h.elim
theorem re_ix (ha : RE X W a f) (hb : RE X W b g) (hs : PlainIx b := by intro _ _; rfl) : RE X W (.Subscript a b pos) (fBin sIx f g) := weakPE (pe_ix ix_seq ha hb hs) fun σ H Q q => bin_read sIx_ok σ H Q q

/-! ### slices -/
abbrev RO (X : Cx) (W : WX) (e : Option Expr) (f : FE (Option Int)) : Prop := PO X e (tM X.K X.mg W (fun _ a b => a = b) f)
def fNoP : FE (Option Int) := fun _ S => .ok none S
def fPart (f : FE Y) : FE (Option Int) := fun env S => (f env S).bind fun y S1 => match y with
  | .v (.int i) => .ok (some i) S1
  | _ => .bad
theorem weakPO {e : Option Expr} {t t' : TO} (h : PO X e t) (i : ∀ σ H Q, t' σ H Q → t σ H Q) : PO X e t' := ⟨fun pins s σ H Q I q => h.run pins s σ H Q I (i σ H Q q)⟩
theorem ro_none : RO X W none fNoP := weakPO po_none fun σ H Q q => by
  obtain ⟨w, env, S, hE, s, q⟩ := q
  exact rd_ok q s rfl
theorem ro_some (ha : RE X W a f) : RO X W (some a) (fPart f) := weakPO (po_some ha) fun σ H Q q => by
  obtain ⟨w, env, S, hE, s, q⟩ := q
  refine ⟨w, env, S, hE, s, rd_bind q fun y S1 w1 v H1 l1 s1 r1 q1 => ?_⟩
  split at q1
  · cases r1
    exact ⟨_, rfl, rd_ok q1 s1 rfl⟩
  · exact q1.elim
/-- the items of xs[lo:hi] -/
def cut {α : Type} (xs : List α) (lo hi : Option Int) : List α := (xs.drop (HT.sIx xs.length 0 lo)).take (HT.sIx xs.length xs.length hi - HT.sIx xs.length 0 lo)
def sSl (m : Bool) : Y → Option Int → Option Int → Sto → Res Y
  | .v (.tup ds), lo, hi, S => .ok (.v (.tup (cut ds lo hi))) S
  | x, lo, hi, S => match getL x S with
    | some ds => newL m (cut ds lo hi) S
    | none => .bad
def fSl (m : Bool) (f : FE Y) (lo hi : FE (Option Int)) : FE Y := fun env S => (f env S).bind fun y S1 => (lo env S1).bind fun l S2 => (hi env S2).bind fun u S3 => sSl m y l u S3
def rSlX (K : PySem.W.Frag) : V → Option Int → Option Int → Hp → VK → Prop := fun x lo hi H Q => rSlA K x lo hi H Q ∨ rSlL K x lo hi H Q
theorem sl_X : SlR X (rSlX X.K) := sl_tupA.or sl_list
theorem RpL.cut {K : PySem.W.Frag} {F : Hp} {ds : List D} {vs : List V} (h : RpL K F ds vs) (lo hi : Option Int) : RpL K F (Sg.cut ds lo hi) (cutV vs lo hi) := by
  unfold Sg.cut cutV
  rw [← h.length]
  exact (h.drop _).take _
theorem re_sl (m : Bool) {lo hi : Option Expr} {l r : FE (Option Int)} {p2 : Pos} (ha : RE X W a f) (hl : RO X W lo l) (hr : RO X W hi r) : RE X W (.Subscript a (.Slice lo hi none p2) pos) (fSl m f l r) := weakPE (pe_slice sl_X ha hl hr) fun σ H Q q => by
  obtain ⟨w, env, S, hE, s, q⟩ := q
  refine ⟨w, env, S, hE, s, rd_bind q fun y S1 w1 v H1 l1 s1 r1 q1 => ⟨w1, env, S1, hE.mono l1, s1, rd_bind q1 fun lo S2 w2 lo' H2 l2 s2 r2 q2 => ⟨w2, env, S2, (hE.mono l1).mono l2, s2, rd_bind q2 fun hi S3 w3 hi' H3 l3 s3 r3 q3 => ?_⟩⟩⟩
  subst r2; subst r3
  replace r1 := r1.mono (l2.trans l3)
  unfold sSl at q3
  split at q3
  · rename_i ds
    have r1' : Rp X.K w3.F (.tup ds) v := r1
    cases r1' with
    | tup h1 h2 =>
      refine .inl ⟨_, _, rfl, s3.sqT h1, fun hw => rd_ok q3 s3 ?_, fun _ p hp => new_tup s3 q3 hp (h2.cut lo hi)⟩
      have e : Sg.cut ds lo hi = ds := by
        unfold Sg.cut
        rw [h2.length, hw.1, hw.2, List.drop_zero, Nat.sub_zero, List.take_of_length_le (by rw [h2.length]; exact Nat.le_refl _)]
      rw [e]
      exact Rp.tup h1 h2
  · split at q3
    · rename_i ds e1
      obtain ⟨p, xs, rfl, h1, h2⟩ := getL_of s3 r1 e1
      exact .inr ⟨_, _, rfl, .inl h1, fun p hp => new_lst s3 q3 hp (h2.cut lo hi)⟩
    · exact q3.elim
end
end Sg

/-! Q3c: backwards -/
namespace HT
open PySem PySem.Spec PyProof.Rows L2
section
variable {prog : Program} {w : World} {A : Around} {E : Value → Shared → Prop} {s : Shared}
theorem sliceApplied_rev {sl : Addr} {vs : Value} {n : Nat} {Q : Int × Int × Nat → Shared → Prop} (hs : s.heap.IsSliceOf sl .none .none vs) (ps : IsPart vs (some (-1)))
    (h : Q ((n : Int) - 1, -1, n) s) : wpAny (model prog w) A (Builtin.Slice.sliceApplied (.ref sl) (pure (n : Int))) Q E s := by
  obtain ⟨os, hos, hcs, hds⟩ := id hs
  unfold Builtin.Slice.sliceApplied Builtin.Slice.sliceFields
  refine wpAny_bind (wpAny_bind (wpAny_field hos hds (x := .none) rfl (wpAny_bind (wpAny_field hos hds (x := .none) rfl (wpAny_bind (wpAny_field hos hds (x := vs) rfl (wpAny_pure ?_)))))))
  refine wpAny_bind (slicePart_ ps ?_)
  show wpAny _ _ (if ((-1 : Int) == 0) = true then _ else _) _ _ s
  rw [if_neg (by decide)]
  refine wpAny_bind (slicePart_none (wpAny_bind (slicePart_none (wpAny_bind (wpAny_pure ?_)))))
  show wpAny _ _ (pure ((n : Int) - 1, (-1 : Int), Builtin.Slice.slicePlaces ((n : Int) - 1) (-1) (-1))) _ _ s
  have e : Builtin.Slice.slicePlaces ((n : Int) - 1) (-1) (-1) = n := by
    unfold Builtin.Slice.slicePlaces
    have h1 : ¬ ((-1 : Int) > 0) := by decide
    simp only [h1, if_false, Int.neg_neg, Int.ediv_one]
    split <;> omega
  rw [e]
  exact wpAny_pure h
theorem pick_rev (xs : Array Value) : ((List.range xs.size).filterMap fun (m : Nat) => xs[((xs.size : Int) - 1 + (m : Int) * (-1)).toNat]?).toArray = xs.toList.reverse.toArray := by
  congr 1
  have e : ∀ (l : List Value), ((List.range l.length).filterMap fun (m : Nat) => l[((l.length : Int) - 1 + (m : Int) * (-1)).toNat]?) = l.reverse := by
    intro l
    apply List.ext_getElem?
    intro i
    have g : ∀ m ∈ List.range l.length, (l[((l.length : Int) - 1 + (m : Int) * (-1)).toNat]?) = some ((l[((l.length : Int) - 1 + (m : Int) * (-1)).toNat]?).getD .none) := by
      intro m hm
      have hm' : m < l.length := List.mem_range.mp hm
      have hlt : ((l.length : Int) - 1 + (m : Int) * (-1)).toNat < l.length := by omega
      rw [List.getElem?_eq_getElem hlt] <;> rfl
    have fm : ∀ (r : List Nat), (∀ m ∈ r, m ∈ List.range l.length) → (r.filterMap fun (m : Nat) => l[((l.length : Int) - 1 + (m : Int) * (-1)).toNat]?) = r.map fun (m : Nat) => (l[((l.length : Int) - 1 + (m : Int) * (-1)).toNat]?).getD .none := by
      intro r
      induction r with
      | nil => intro _; rfl
      | cons m r ih =>
        intro hr
        rw [List.filterMap_cons, List.map_cons, ih fun z hz => hr z (List.mem_cons_of_mem _ hz)]
        rw [g m (hr m List.mem_cons_self)]
        rfl
    have e2 := fm _ fun m hm => hm
    rw [e2, List.getElem?_map]
    by_cases hi : i < l.length
    · rw [List.getElem?_range hi, List.getElem?_reverse hi]
      have hlt : ((l.length : Int) - 1 + (i : Int) * (-1)).toNat = l.length - 1 - i := by omega
      show some ((l[((l.length : Int) - 1 + (i : Int) * (-1)).toNat]?).getD .none) = _
      rw [hlt, List.getElem?_eq_getElem (by omega)] <;> rfl
    · rw [List.getElem?_eq_none (by simpa using hi), List.getElem?_eq_none (by simpa using hi)] <;> rfl
  have := e xs.toList
  simpa using this
theorem getItem_tuple_rev {t sl : Addr} {items : Array Value} {vs : Value} {Q : Value → Shared → Prop} (ht : IsTup s.heap t items) (hs : s.heap.IsSliceOf sl .none .none vs) (ps : IsPart vs (some (-1)))
    (h : Q (.ref s.heap.objs.size) { s with heap := s.heap.push { cls := .type "tuple", data := .seq items.toList.reverse.toArray } })
    (hsz : items.size ≤ sizeLine) : wpAny (model prog w) A (getItem (.ref t) (.ref sl)) Q E s := by
  have htake : sizeOk (.seq items.toList.reverse.toArray) := by
    show items.toList.reverse.toArray.size ≤ sizeLine
    simpa using hsz
  obtain ⟨os, hos, hcs, hds⟩ := id hs
  have hTs : s.TypeIs (.ref sl) "slice" := ⟨os, hos, hcs⟩
  unfold getItem
  try with_reducible refine wpAny_holding ?_
  first | refine wpAny_bind (wpAny_pure ?_) | skip
  refine wpAny_bind (wpAny_sequenceKey ht.typeIs (by decide) ?_)
  refine wpAny_bind (wpAny_callSpecial?_slot (name := Str.ofString "__getitem__") ht.typeIs PyProof.Rows.slot_tuple_getitem
    (wpAny_call_entry PyProof.Rows.slot_tuple_getitem ht.typeIs entry_tuple_getitem ?_ (args_tuple_getitem _ _)))
  show wpAny _ _ (Builtin.Tuple.tupleItemsOf (.ref t) >>= _) _ _ s
  refine wpAny_bind (tupleItemsOf_ ht ?_)
  refine wpAny_bind (wpAny_typeOf hTs ?_)
  rw [if_pos (by decide)]
  refine wpAny_bind (sliceApplied_rev hs ps ?_)
  have hno : ¬ ((((items.size : Int) - 1) == 0 && (-1 : Int) == 1 && items.size == items.size) = true) := by
    intro q
    rw [Bool.and_eq_true, Bool.and_eq_true] at q
    exact absurd q.1.2 (by decide)
  show wpAny _ _ (if (((items.size : Int) - 1) == 0 && (-1 : Int) == 1 && items.size == items.size) = true then _ else _) _ _ s
  rw [if_neg hno, pick_rev]
  first
    | exact wpAny_bind (m := Builtin.Tuple.tupleExact _) (wpAny_newObj_type (wpAny_pure ⟨_, rfl, wpAny_pure h⟩) htake)
    | exact wpAny_bind (m := Builtin.Tuple.tupleExact _) (wpAny_newObj_type (wpAny_bind (wpAny_pure (wpAny_pure ⟨_, rfl, wpAny_pure h⟩))) htake)
    | exact wpAny_bind (wpAny_bind (m := Builtin.Tuple.tupleExact _) (wpAny_newObj_type (wpAny_pure (wpAny_pure ⟨_, rfl, wpAny_pure h⟩)) htake))
    | exact wpAny_bind (wpAny_bind (m := Builtin.Tuple.tupleExact _) (wpAny_newObj_type (wpAny_pure ⟨_, rfl, wpAny_pure h⟩) htake))
end
end HT
namespace Sg
open PySem PySem.Spec PyProof.Rows L2
def tRevX (K : PySem.W.Frag) (te : TE) : TE := fun σ H Q => te σ H fun x H1 => ∃ a xs, x = .ref a ∧ ((SqL K H1 a xs ∧ ∀ p, H1 p = none → Q (.ref p) (upd H1 p (.lst xs.reverse))) ∨ (SqT K H1 a xs ∧ ∀ p, H1 p = none → Q (.ref p) (upd H1 p (.tup xs.reverse))))
theorem pe_revX {X : Cx} {e : Expr} {te : TE} {k : Nat} {p1 p2 p3 pos : Pos} (he : PE X e te) : PE X (.Subscript e (.Slice none none (some (.UnaryOp .USub (.Constant (.int 1) k p1) p2)) p3) pos) (tRevX X.K te) := by
  refine ⟨fun pins s σ H Q I h => ?_⟩
  refine Subscript_ (thn (he.run pins s σ H _ I h) fun v s1 ⟨x, H1, I1, r1, q1⟩ => ?_)
  obtain ⟨a, xs, ex, q⟩ := q1
  subst ex
  cases r1
  have hst : PO X (some (.UnaryOp .USub (.Constant (.int 1) k p1) p2)) (tPart (tUn (rU fun i => .int (-i)) (tC (.int 1)))) := po_some (pe_un un_neg pe_int)
  refine wpAny_Slice (thn (po_none.run pins s1 σ H1 (fun o H2 => o = none ∧ H2 = H1) I1 ⟨rfl, rfl⟩) fun vl s2 ⟨l, H2, I2, pl, el, e2⟩ => ?_)
  subst el e2
  refine thn (po_none.run pins s2 σ H2 (fun o H3 => o = none ∧ H3 = H2) I2 ⟨rfl, rfl⟩) fun vu s3 ⟨u, H3, I3, pu, eu, e3⟩ => ?_
  subst eu e3
  refine thn (hst.run pins s3 σ H3 (fun o H4 => o = some (-1) ∧ H4 = H3) I3 ⟨1, rfl, -1, rfl, rfl, rfl⟩) fun vs s4 ⟨o, H4, I4, ps, eo, e4⟩ => ?_
  subst eo e4
  have I5 : Inv X pins σ H4 { s4 with heap := s4.heap.push { cls := .type "slice", data := .fields #[vl, vu, vs] } } := I4.kept (t' := s4.toks) fun b ob q => Heap.get?_push_of_some _ q
  show wpAny (model X.prog X.w) X.A (subscriptTail e (.Slice none none (some (.UnaryOp .USub (.Constant (.int 1) k p1) p2)) p3) (.ref a) (.ref s4.heap.objs.size)) (EP X pins σ Q) X.xe { s4 with heap := s4.heap.push { cls := .type "slice", data := .fields #[vl, vu, vs] } }
  rcases q with ⟨hx, q⟩ | ⟨hx, q⟩
  · obtain ⟨its, r, ht, hz⟩ := I5.list hx
    have hlen := r.length
    refine tail_any (ops := [.ref a, .ref s4.heap.objs.size]) ht.isList.typeIs (PySem.slot_list_getitem.lookup) ?_ (by with_unfolding_all rfl)
    refine wpAny_getItem_list_slice ht.isList (Heap.IsSliceOf.new _ vl vu vs) pl pu ps (by decide) ?_ (by rw [List.size_toArray]; omega)
    rw [PySem.W.krv_pick]
    refine ⟨.ref _, _, I5.laid (t' := s4.toks) (o := .lst xs.reverse) (fun b ob q => Heap.get?_push_of_some _ q) (Nat.le_refl _) ?_, rfl, q _ (I5.hok.fresh (Nat.le_refl _))⟩
    exact ⟨by rw [List.length_reverse]; exact hz, _, 0, r.reverse, Heap.get?_push_size _ rfl⟩
  · obtain ⟨its, r, ht, hz⟩ := I5.tuple hx
    have hlen := r.length
    refine tail_any (ops := [.ref a, .ref s4.heap.objs.size]) ht.typeIs (PyProof.Rows.slot_tuple_getitem.lookup) ?_ (by with_unfolding_all rfl)
    cases pl
    cases pu
    refine HT.getItem_tuple_rev ht (Heap.IsSliceOf.new _ .none .none vs) ps ?_ (by rw [List.size_toArray]; omega)
    refine ⟨.ref _, _, I5.laid (t' := s4.toks) (o := .tup xs.reverse) (fun b ob q => Heap.get?_push_of_some _ q) (Nat.le_refl _) ?_, rfl, q _ (I5.hok.fresh (Nat.le_refl _))⟩
    exact ⟨by rw [List.length_reverse]; exact hz, _, r.reverse, ⟨_, Heap.get?_push_size _ rfl, rfl, 0, rfl⟩⟩
def sRev (m : Bool) : Y → Sto → Res Y
  | .v (.tup ds), S => .ok (.v (.tup ds.reverse)) S
  | x, S => match getL x S with
    | some ds => newL m ds.reverse S
    | none => .bad
theorem re_rev (m : Bool) {X : Cx} {W : WX} {a : Expr} {f : FE Y} {k : Nat} {p1 p2 p3 pos : Pos} (ha : RE X W a f) : RE X W (.Subscript a (.Slice none none (some (.UnaryOp .USub (.Constant (.int 1) k p1) p2)) p3) pos) (fUn (sRev m) f) := weakPE (pe_revX ha) fun σ H Q q => by
  obtain ⟨w, env, S, hE, s, q⟩ := q
  refine ⟨w, env, S, hE, s, rd_bind q fun y S1 w1 v H1 l1 s1 r1 q1 => ?_⟩
  unfold sRev at q1
  split at q1
  · rename_i ds
    have r1' : Rp X.K w1.F (.tup ds) v := r1
    cases r1' with
    | tup h1 h2 => exact ⟨_, _, rfl, .inr ⟨s1.sqT h1, fun p hp => new_tup s1 q1 hp h2.reverse⟩⟩
  · split at q1
    · rename_i ds e1
      obtain ⟨p, xs, rfl, h1, h2⟩ := getL_of s1 r1 e1
      exact ⟨_, _, rfl, .inl ⟨.inl h1, fun p hp => new_lst s1 q1 hp h2.reverse⟩⟩
    · exact q1.elim
end Sg

/-! Q3d: calls of built-ins -/
namespace Sg
open PySem PySem.Spec PyProof.Rows L2
def fCall (sem : List Y → Sto → Res Y) (fs : FE (List Y)) : FE Y := fun env S => (fs env S).bind sem
def CallS (X : Cx) (sem : List Y → Sto → Res Y) (r : List V → Hp → VK → Prop) : Prop :=
  ∀ (E : XK) (w : Wd) (S : Sto) (H : Hp) (ys : List Y) (vs : List V) (Q : VK), Sim X.K w S H → RYs X.K w ys vs → rd X.K X.mg E (sem ys S) w (RY X.K) Q → r vs H Q
section
variable {X : Cx} {W : WX} {k : Nat} {vl wl : List (Nat × Str)} {gl : List Str} {e : Expr} {es : List Expr} {fs : FE (List Y)} {pos p : Pos} {x : Str}
theorem call_read {sem : List Y → Sto → Res Y} {r : List V → Hp → VK → Prop} (hs : CallS X sem r) (σ : L2.St) (H : Hp) (Q : VK) (q : tE X W (fCall sem fs) σ H Q) : tCB r (tA X W fs) σ H Q := by
  obtain ⟨w, env, S, hE, s, q⟩ := q
  refine ⟨w, env, S, hE, s, rd_bind q fun ys S1 w1 vs H1 l1 s1 r1 q1 => ?_⟩
  exact hs _ w1 S1 H1 ys vs Q s1 r1 q1
theorem re_callB (C : Ok X W k vl wl gl) {id : String} {sem : List Y → Sto → Res Y} {r : List V → Hp → VK → Prop} (hc : CallR X (.builtin id) r) (hs : CallS X sem r) (hv : bootBuiltins x = some (.builtin id)) (i j : Nat) (hi : bls[i]? = some x) (hj : gl[j]? = some x) (ha : RA X W (e :: es) fs)
    (he : starEach (e :: es) X.env = (false, eval e X.env) :: starEach es X.env) (hpl : (backTo pos (starEach es X.env)).any (·.1) = false) : RE X W (.Call (.Name x p) (e :: es) [] pos) (fCall sem fs) :=
  weakPE (pe_callB hc (C.glo j x hj).1 (C.blt i x hi) hv ha (C.glo j x hj).2.2 (C.glo j x hj).2.1 he hpl) fun σ H Q q => call_read hs σ H Q q
theorem re_callT (C : Ok X W k vl wl gl) {T : String} {sem : List Y → Sto → Res Y} {r : List V → Hp → VK → Prop} (hc : CallR X (.type T) r) (hs : CallS X sem r) (hv : bootBuiltins x = some (.type T)) (i j : Nat) (hi : bls[i]? = some x) (hj : gl[j]? = some x) (ha : RA X W (e :: es) fs)
    (he : starEach (e :: es) X.env = (false, eval e X.env) :: starEach es X.env) (hpl : (backTo pos (starEach es X.env)).any (·.1) = false) : RE X W (.Call (.Name x p) (e :: es) [] pos) (fCall sem fs) :=
  weakPE (pe_callTy hc (C.glo j x hj).1 (C.blt i x hi) hv ha (C.glo j x hj).2.2 (C.glo j x hj).2.1 he hpl) fun σ H Q q => call_read hs σ H Q q
end

/-! ### len -/
def sLen : List Y → Sto → Res Y
  | [.v (.str z)], S => if okLen z.length = true then .ok (.v (.int z.length)) S else .bad
  | [y], S => match getS y S with
    | some ds => .ok (.v (.int ds.length)) S
    | none => .bad
  | _, _ => .bad
theorem RYs.one {K : PySem.W.Frag} {w : Wd} {y : Y} {vs : List V} (r : RYs K w [y] vs) : ∃ v, vs = [v] ∧ RY K w y v := by
  cases r with
  | cons h t => cases t; exact ⟨_, rfl, h⟩
theorem RYs.two {K : PySem.W.Frag} {w : Wd} {y z : Y} {vs : List V} (r : RYs K w [y, z] vs) : ∃ v u, vs = [v, u] ∧ RY K w y v ∧ RY K w z u := by
  cases r with
  | cons h t =>
    obtain ⟨u, rfl, h2⟩ := t.one
    exact ⟨_, _, rfl, h, h2⟩
theorem sLen_ok {X : Cx} : CallS X sLen (fun xs H Q => ∃ x n, xs = [x] ∧ LenV X.K x H n ∧ Q (.int n) H) := by
  intro E w S H ys vs Q s r h
  unfold sLen at h
  split at h
  · obtain ⟨v, rfl, r1⟩ := r.one
    split at h
    · rename_i hl
      cases r1
      exact ⟨_, _, rfl, ⟨len_ok hl, rfl⟩, rd_ok h s (.int _)⟩
    · exact h.elim
  · obtain ⟨v, rfl, r1⟩ := r.one
    split at h
    · rename_i ds e1
      obtain ⟨p, xs, rfl, h1, h2⟩ := getS_of s r1 e1
      refine ⟨_, xs.length, rfl, ?_, ?_⟩
      · rcases h1 with h1 | h1
        · exact .inl ⟨xs, .inl h1, rfl⟩
        · exact .inr ⟨xs, h1, rfl⟩
      · rw [← h2.length]; exact rd_ok h s (.int _)
    · exact h.elim
  · exact h.elim

/-! ### isinstance -/
def tyD : D → Option String
  | .non => some "NoneType"
  | .bl _ => some "bool"
  | .int _ => some "int"
  | .str _ => some "str"
  | .tup _ => some "tuple"
  | .lst _ => some "list"
  | _ => none
def tyY : Y → Sto → Option String
  | .v d, _ => tyD d
  | .ref n, S => match S[n]? with
    | some (.lst _) => some "list"
    | _ => none
def tyOk (T : String) : Bool := T == "bool" || T == "int" || T == "str" || T == "tuple" || T == "list" || T == "dict"
def isSub (t T : String) : Bool := t == T || (t == "bool" && T == "int")
def sIsi : List Y → Sto → Res Y
  | [y, .v (.ty T)], S => match tyY y S with
    | some t => if tyOk T = true then .ok (.v (.bl (isSub t T))) S else .bad
    | none => .bad
  | _, _ => .bad
def tyNames : List String := ["NoneType", "bool", "int", "str", "tuple", "list"]
def tyTops : List String := ["bool", "int", "str", "tuple", "list", "dict"]
theorem kit_tab : tyNames.all (fun t => tyTops.all fun T => decide (kitB t T = some (isSub t T))) = true := by decide +kernel
theorem kit_at {t T : String} (h1 : t ∈ tyNames) (h2 : T ∈ tyTops) : kitB t T = some (isSub t T) :=
  of_decide_eq_true (List.all_eq_true.mp (List.all_eq_true.mp kit_tab t h1) T h2)
theorem tyOk_mem {T : String} (h : tyOk T = true) : T ∈ tyTops := by
  unfold tyOk at h
  simp only [Bool.or_eq_true, beq_iff_eq] at h
  rcases h with ((((h | h) | h) | h) | h) | h <;> subst h <;> decide
theorem tyY_of {K : PySem.W.Frag} {w : Wd} {S : Sto} {H : Hp} (s : Sim K w S H) {y : Y} {v : V} {t : String} (r : RY K w y v) (e : tyY y S = some t) : TyX K H v (.type t) ∧ t ∈ tyNames := by
  have lst : ∀ {a : Addr} {xs : List V}, Rd H a (.lst xs) → TyX K H (.ref a) (.type "list") := fun h => by
    rcases h with h | ⟨o, h⟩
    · exact .base (.lst h)
    · exact .base (.frz h)
  cases y with
  | ref n =>
    simp only [tyY] at e
    split at e
    · rename_i ds e0
      cases e
      obtain ⟨a, xs, rfl, _, h2, _⟩ := ref_lst s r e0
      exact ⟨lst (.inl h2), by decide⟩
    · cases e
  | v d =>
    have r' : Rp K w.F d v := r
    cases r' with
    | non => cases e; exact ⟨.base .non, by decide⟩
    | bl b => cases e; exact ⟨.base (.bl b), by decide⟩
    | int i => cases e; exact ⟨.base (.int i), by decide⟩
    | str x => cases e; exact ⟨.base (.str x), by decide⟩
    | tup h q =>
      cases e
      refine ⟨?_, by decide⟩
      rcases s.sqT h with (h | ⟨o, h⟩) | ⟨o, its, n, hk, hc, _⟩
      · exact .base (.tup h)
      · exact .fTuple h
      · exact .kTuple hk hc
    | lst h q => cases e; exact ⟨lst (s.rd h), by decide⟩
    | adr a => cases e
    | ty n => cases e
    | scr h q => cases e
    | dic h q => cases e
theorem sIsi_ok {X : Cx} : CallS X sIsi (rIsi X.K) := by
  intro E w S H ys vs Q s r h
  unfold sIsi at h
  split at h
  · obtain ⟨v, u, rfl, r1, r2⟩ := r.two
    split at h
    · rename_i t e1
      split at h
      · rename_i hT
        obtain ⟨ty, tm⟩ := tyY_of s r1 e1
        cases r2
        exact ⟨_, _, _, _, _, rfl, .ty _, ty, kit_ty (kit_at tm (tyOk_mem hT)), rd_ok h s (.bl _)⟩
      · exact h.elim
    · exact h.elim
  · exact h.elim

/-! ### ints -/
def intsD : List D → Option (List Int)
  | [] => some []
  | .int i :: ds => match intsD ds with
    | some ns => some (i :: ns)
    | none => none
  | _ => none
@[simp] theorem intsD_nil : intsD [] = some [] := rfl
@[simp] theorem intsD_map (ns : List Int) : intsD (ns.map D.int) = some ns := by
  induction ns with
  | nil => rfl
  | cons i r ih => simp [intsD, ih]
theorem intsD_eq : ∀ {ds : List D} {ns : List Int}, intsD ds = some ns → ds = ns.map D.int
  | [], _, e => by cases e; rfl
  | .int i :: ds, ns, e => by
    simp only [intsD] at e
    split at e
    · rename_i r e1
      cases e
      rw [intsD_eq e1] <;> rfl
    · cases e
  | .non :: _, _, e => by simp [intsD] at e
  | .bl _ :: _, _, e => by simp [intsD] at e
  | .str _ :: _, _, e => by simp [intsD] at e
  | .tup _ :: _, _, e => by simp [intsD] at e
  | .lst _ :: _, _, e => by simp [intsD] at e
  | .adr _ :: _, _, e => by simp [intsD] at e
  | .ty _ :: _, _, e => by simp [intsD] at e
  | .dic _ _ :: _, _, e => by simp [intsD] at e
  | .set _ :: _, _, e => by simp [intsD] at e
theorem RpL.ints {K : PySem.W.Frag} {F : Hp} : ∀ {ns : List Int} {vs : List V}, RpL K F (ns.map D.int) vs → vs = ns.map V.int
  | [], _, .nil => rfl
  | _ :: _, _, .cons h r => by cases h; rw [RpL.ints r] <;> rfl
theorem RpL.ofInts {K : PySem.W.Frag} {F : Hp} : ∀ (ns : List Int), RpL K F (ns.map D.int) (ns.map V.int)
  | [] => .nil
  | i :: r => .cons (.int i) (RpL.ofInts r)
def sAbs : List Y → Sto → Res Y
  | [.v (.int i)], S => .ok (.v (.int (if i < 0 then -i else i))) S
  | _, _ => .bad
theorem sAbs_ok {X : Cx} : CallS X sAbs (fun xs H Q => ∃ i, xs = [.int i] ∧ Q (.int (if i < 0 then -i else i)) H) := by
  intro E w S H ys vs Q s r h
  unfold sAbs at h
  split at h
  · obtain ⟨v, rfl, r1⟩ := r.one
    cases r1
    exact ⟨_, rfl, rd_ok h s (.int _)⟩
  · exact h.elim
def sInt : List Y → Sto → Res Y
  | [.v (.int i)], S => .ok (.v (.int i)) S
  | [.v (.bl b)], S => .ok (.v (.int (if b = true then 1 else 0))) S
  | _, _ => .bad
theorem sInt_ok {X : Cx} : CallS X sInt (fun xs H Q => (∃ i, xs = [.int i] ∧ Q (.int i) H) ∨ ∃ k, xs = [.bl k] ∧ Q (.int (if k then 1 else 0)) H) := by
  intro E w S H ys vs Q s r h
  unfold sInt at h
  split at h
  · obtain ⟨v, rfl, r1⟩ := r.one
    cases r1
    exact .inl ⟨_, rfl, rd_ok h s (.int _)⟩
  · obtain ⟨v, rfl, r1⟩ := r.one
    cases r1
    exact .inr ⟨_, rfl, rd_ok h s (.int _)⟩
  · exact h.elim
def sStr : List Y → Sto → Res Y
  | [.v (.str z)], S => .ok (.v (.str z)) S
  | [.v (.int i)], S => if i.natAbs.log2 < 1920 then .ok (.v (.str (toString i : String))) S else .bad
  | _, _ => .bad
theorem sStr_ok {X : Cx} : CallS X sStr (fun xs H Q => (∃ i, xs = [.int i] ∧ i.natAbs.log2 < 1920 ∧ Q (.str (toString i : String)) H) ∨ ∃ a, xs = [.str a] ∧ Q (.str a) H) := by
  intro E w S H ys vs Q s r h
  unfold sStr at h
  split at h
  · obtain ⟨v, rfl, r1⟩ := r.one
    cases r1
    exact .inr ⟨_, rfl, rd_ok h s (.str _)⟩
  · obtain ⟨v, rfl, r1⟩ := r.one
    split at h
    · rename_i hl
      cases r1
      exact .inl ⟨_, rfl, hl, rd_ok h s (.str _)⟩
    · exact h.elim
  · exact h.elim
def sMax2 : List Y → Sto → Res Y
  | [.v (.int i), .v (.int j)], S => .ok (.v (.int (if j > i then j else i))) S
  | _, _ => .bad
theorem sMax2_ok {X : Cx} : CallS X sMax2 (fun xs H Q => ∃ i j, xs = [.int i, .int j] ∧ Q (.int (if j > i then j else i)) H) := by
  intro E w S H ys vs Q s r h
  unfold sMax2 at h
  split at h
  · obtain ⟨v, u, rfl, r1, r2⟩ := r.two
    cases r1; cases r2
    exact ⟨_, _, rfl, rd_ok h s (.int _)⟩
  · exact h.elim
def sMin2 : List Y → Sto → Res Y
  | [.v (.int i), .v (.int j)], S => .ok (.v (.int (if j < i then j else i))) S
  | _, _ => .bad
theorem sMin2_ok {X : Cx} : CallS X sMin2 (fun xs H Q => ∃ i j, xs = [.int i, .int j] ∧ Q (.int (if j < i then j else i)) H) := by
  intro E w S H ys vs Q s r h
  unfold sMin2 at h
  split at h
  · obtain ⟨v, u, rfl, r1, r2⟩ := r.two
    cases r1; cases r2
    exact ⟨_, _, rfl, rd_ok h s (.int _)⟩
  · exact h.elim
/-- the greatest, the least of some -/
def maxI : List Int → Int
  | [] => 0
  | [i] => i
  | i :: r => max i (maxI r)
def minI : List Int → Int
  | [] => 0
  | [i] => i
  | i :: r => min i (minI r)
theorem maxI_mem : ∀ {ns : List Int}, ns ≠ [] → maxI ns ∈ ns ∧ ∀ y ∈ ns, y ≤ maxI ns
  | [], h => absurd rfl h
  | [i], _ => by simp [maxI]
  | i :: j :: r, _ => by
    obtain ⟨h1, h2⟩ := maxI_mem (ns := j :: r) (by simp)
    have e : maxI (i :: j :: r) = max i (maxI (j :: r)) := rfl
    rw [e]
    refine ⟨?_, fun y hy => ?_⟩
    · by_cases q : i ≤ maxI (j :: r)
      · rw [show max i (maxI (j :: r)) = maxI (j :: r) by omega]
        exact List.mem_cons_of_mem _ h1
      · rw [show max i (maxI (j :: r)) = i by omega]
        exact List.mem_cons_self
    · rcases List.mem_cons.mp hy with rfl | hy
      · omega
      · have := h2 y hy; omega
theorem minI_mem : ∀ {ns : List Int}, ns ≠ [] → minI ns ∈ ns ∧ ∀ y ∈ ns, minI ns ≤ y
  | [], h => absurd rfl h
  | [i], _ => by simp [minI]
  | i :: j :: r, _ => by
    obtain ⟨h1, h2⟩ := minI_mem (ns := j :: r) (by simp)
    have e : minI (i :: j :: r) = min i (minI (j :: r)) := rfl
    rw [e]
    refine ⟨?_, fun y hy => ?_⟩
    · by_cases q : i ≤ minI (j :: r)
      · rw [show min i (minI (j :: r)) = i by omega]
        exact List.mem_cons_self
      · rw [show min i (minI (j :: r)) = minI (j :: r) by omega]
        exact List.mem_cons_of_mem _ h1
    · rcases List.mem_cons.mp hy with rfl | hy
      · omega
      · have := h2 y hy; omega
def sMax1 : List Y → Sto → Res Y
  | [y], S => match getL y S with
    | some ds => match intsD ds with
      | some ns => if ns = [] then .bad else .ok (.v (.int (maxI ns))) S
      | none => .bad
    | none => .bad
  | _, _ => .bad
def sMin1 : List Y → Sto → Res Y
  | [y], S => match getL y S with
    | some ds => match intsD ds with
      | some ns => if ns = [] then .bad else .ok (.v (.int (minI ns))) S
      | none => .bad
    | none => .bad
  | _, _ => .bad
theorem getL_ints {K : PySem.W.Frag} {w : Wd} {S : Sto} {H : Hp} (s : Sim K w S H) {y : Y} {v : V} {ds : List D} {ns : List Int} (r : RY K w y v) (e1 : getL y S = some ds) (e2 : intsD ds = some ns) : ∃ a, v = .ref a ∧ Rd H a (.lst (ns.map V.int)) := by
  obtain ⟨a, xs, rfl, h1, h2⟩ := getL_of s r e1
  rw [intsD_eq e2] at h2
  rw [h2.ints] at h1
  exact ⟨a, rfl, h1⟩
theorem sMax1_ok {X : Cx} : CallS X sMax1 (rMax X.K) := by
  intro E w S H ys vs Q s r h
  unfold sMax1 at h
  split at h
  · obtain ⟨v, rfl, r1⟩ := r.one
    split at h
    · rename_i ds e1
      split at h
      · rename_i ns e2
        split at h
        · exact h.elim
        · rename_i hne
          obtain ⟨a, rfl, h1⟩ := getL_ints s r1 e1 e2
          refine ⟨a, ns, rfl, .inl h1, List.length_pos_iff.mpr hne, fun m hm hle => ?_⟩
          obtain ⟨g1, g2⟩ := maxI_mem hne
          have : m = maxI ns := Int.le_antisymm (g2 m hm) (hle _ g1)
          subst this
          exact rd_ok h s (.int _)
      · exact h.elim
    · exact h.elim
  · exact h.elim
theorem sMin1_ok {X : Cx} : CallS X sMin1 (rMin X.K) := by
  intro E w S H ys vs Q s r h
  unfold sMin1 at h
  split at h
  · obtain ⟨v, rfl, r1⟩ := r.one
    split at h
    · rename_i ds e1
      split at h
      · rename_i ns e2
        split at h
        · exact h.elim
        · rename_i hne
          obtain ⟨a, rfl, h1⟩ := getL_ints s r1 e1 e2
          refine ⟨a, ns, rfl, .inl h1, List.length_pos_iff.mpr hne, fun m hm hle => ?_⟩
          obtain ⟨g1, g2⟩ := minI_mem hne
          have : m = minI ns := Int.le_antisymm (hle _ g1) (g2 m hm)
          subst this
          exact rd_ok h s (.int _)
      · exact h.elim
    · exact h.elim
  · exact h.elim
/-- sum of a list or a tuple of ints -/
def sSum : List Y → Sto → Res Y
  | [y], S => match getS y S with
    | some ds => match intsD ds with
      | some ns => .ok (.v (.int ns.sum)) S
      | none => .bad
    | none => .bad
  | _, _ => .bad
def rSumX (K : PySem.W.Frag) : List V → Hp → VK → Prop := fun vs H Q => ∃ (a : Addr) (ns : List Int), vs = [V.ref a] ∧ (SqL K H a (ns.map V.int) ∨ SqT K H a (ns.map V.int)) ∧ Q (.int ns.sum) H
theorem cr_sumX {X : Cx} (hc : X.calm = true) : CallR X (.builtin "sum") (rSumX X.K) := by
  intro pins s σ H vs us Q I r h
  obtain ⟨a, ns, rfl, hs, q⟩ := h
  rcases hs with hs | hs
  · exact cr_sum hc pins s σ H _ us Q I r ⟨a, ns, rfl, hs, q⟩
  · obtain ⟨its, rv, hl, _⟩ := I.tuple hs
    rw [Vals.ref1 r]
    have hi := rv.ints
    obtain ⟨xs, hx⟩ := hi.allInts.items
    have hn : numsOf its.toArray.toList = ns := by rw [show its.toArray.toList = its from rfl, hi.numsOf]
    have hl' : s.heap.IsTuple a its.toArray := hl
    rw [hx] at hl' hn
    rw [nums_intItems] at hn
    refine PySem.W.ktm_sumG (I.ok.hd hc) hl' fun h' tk t' hk => ⟨.int _, H, I.kept hk, ⟨t', rfl⟩, ?_⟩
    rw [preSum_eq, List.take_of_length_le (by simp), hn]
    exact q
theorem sSum_ok {X : Cx} : CallS X sSum (rSumX X.K) := by
  intro E w S H ys vs Q s r h
  unfold sSum at h
  split at h
  · obtain ⟨v, rfl, r1⟩ := r.one
    split at h
    · rename_i ds e1
      split at h
      · rename_i ns e2
        obtain ⟨a, xs, rfl, h1, h2⟩ := getS_of s r1 e1
        rw [intsD_eq e2] at h2
        rw [h2.ints] at h1
        refine ⟨a, ns, rfl, h1.imp .inl id, rd_ok h s (.int _)⟩
      · exact h.elim
    · exact h.elim
  · exact h.elim
def blsD : List D → Option (List Bool)
  | [] => some []
  | .bl i :: ds => match blsD ds with
    | some ns => some (i :: ns)
    | none => none
  | _ => none
@[simp] theorem blsD_nil : blsD [] = some [] := rfl
@[simp] theorem blsD_map (ns : List Bool) : blsD (ns.map D.bl) = some ns := by
  induction ns with
  | nil => rfl
  | cons i r ih => simp [blsD, ih]
theorem blsD_vs {K : PySem.W.Frag} {F : Hp} : ∀ {ds : List D} {ns : List Bool} {vs : List V}, blsD ds = some ns → RpL K F ds vs → vs = ns.map V.bl
  | [], _, _, e, .nil => by cases e; rfl
  | d :: ds, ns, _, e, .cons h r => by
    cases d with
    | bl b =>
      simp only [blsD] at e
      split at e
      · rename_i r' e1
        cases e
        cases h
        rw [blsD_vs e1 r] <;> rfl
      · cases e
    | _ => simp [blsD] at e
def sAll : List Y → Sto → Res Y
  | [y], S => match getL y S with
    | some ds => match blsD ds with
      | some ns => .ok (.v (.bl (ns.all id))) S
      | none => .bad
    | none => .bad
  | _, _ => .bad
def sAny : List Y → Sto → Res Y
  | [y], S => match getL y S with
    | some ds => match blsD ds with
      | some ns => .ok (.v (.bl (ns.any id))) S
      | none => .bad
    | none => .bad
  | _, _ => .bad
theorem sAll_ok {X : Cx} : CallS X sAll (rAll X.K) := by
  intro E w S H ys vs Q s r h
  unfold sAll at h
  split at h
  · obtain ⟨v, rfl, r1⟩ := r.one
    split at h
    · rename_i ds e1
      split at h
      · rename_i ns e2
        obtain ⟨a, xs, rfl, h1, h2⟩ := getL_of s r1 e1
        rw [blsD_vs e2 h2] at h1
        exact ⟨a, ns, rfl, .inl h1, rd_ok h s (.bl _)⟩
      · exact h.elim
    · exact h.elim
  · exact h.elim
theorem sAny_ok {X : Cx} : CallS X sAny (rAny X.K) := by
  intro E w S H ys vs Q s r h
  unfold sAny at h
  split at h
  · obtain ⟨v, rfl, r1⟩ := r.one
    split at h
    · rename_i ds e1
      split at h
      · rename_i ns e2
        obtain ⟨a, xs, rfl, h1, h2⟩ := getL_of s r1 e1
        rw [blsD_vs e2 h2] at h1
        exact ⟨a, ns, rfl, .inl h1, rd_ok h s (.bl _)⟩
      · exact h.elim
    · exact h.elim
  · exact h.elim
/-- list(x), tuple(x) -/
def sList (m : Bool) : List Y → Sto → Res Y
  | [.v (.scr ds)], S => newL m ds S
  | [y], S => match getS y S with
    | some ds => newL m ds S
    | none => .bad
  | _, _ => .bad
theorem sList_ok {X : Cx} (m : Bool) : CallS X (sList m) (fun xs H Q => ∃ p ys, xs = [.ref p] ∧ (SqL X.K H p ys ∨ SqT X.K H p ys) ∧ ∀ l, H l = none → Q (.ref l) (upd H l (.lst ys))) := by
  intro E w S H ys vs Q s r h
  unfold sList at h
  split at h
  · obtain ⟨v, rfl, r1⟩ := r.one
    cases r1 with
    | scr h1 h2 => exact ⟨_, _, rfl, .inl (s.sqL h1), fun l hl => new_lst s h hl h2⟩
  · obtain ⟨v, rfl, r1⟩ := r.one
    split at h
    · rename_i ds e1
      obtain ⟨a, xs, rfl, h1, h2⟩ := getS_of s r1 e1
      exact ⟨a, xs, rfl, h1.imp .inl id, fun l hl => new_lst s h hl h2⟩
    · exact h.elim
  · exact h.elim
def sTuple : List Y → Sto → Res Y
  | [y], S => match getS y S with
    | some ds => .ok (.v (.tup ds)) S
    | none => .bad
  | _, _ => .bad
theorem sTuple_ok {X : Cx} : CallS X sTuple (fun xs H Q => ∃ p ys, xs = [.ref p] ∧ ((SqL X.K H p ys ∧ ∀ l, H l = none → Q (.ref l) (upd H l (.tup ys))) ∨ (SqT X.K H p ys ∧ Q (.ref p) H))) := by
  intro E w S H ys vs Q s r h
  unfold sTuple at h
  split at h
  · rename_i y
    obtain ⟨v, rfl, r1⟩ := r.one
    split at h
    · rename_i ds e1
      by_cases hy : y = Y.v (.tup ds)
      · subst hy
        have r' : Rp X.K w.F (.tup ds) v := r1
        cases r' with
        | tup h1 h2 => exact ⟨_, _, rfl, .inr ⟨s.sqT h1, rd_ok h s (Rp.tup h1 h2)⟩⟩
      · have e2 : getL y S = some ds := by
          cases y with
          | ref n => exact e1
          | v d =>
            cases d with
            | tup es => cases e1; exact absurd rfl hy
            | lst es => exact e1
            | _ => cases e1
        obtain ⟨a, xs, rfl, h1, h2⟩ := getL_of s r1 e2
        exact ⟨a, xs, rfl, .inl ⟨.inl h1, fun l hl => new_tup s h hl h2⟩⟩
    · exact h.elim
  · exact h.elim
/-- sorted ints: by insertion -/
def insI (i : Int) : List Int → List Int
  | [] => [i]
  | j :: r => if i ≤ j then i :: j :: r else j :: insI i r
def sortI : List Int → List Int
  | [] => []
  | i :: r => insI i (sortI r)
theorem insI_perm (i : Int) : ∀ r : List Int, (insI i r).Perm (i :: r)
  | [] => .refl _
  | j :: r => by
    unfold insI
    split
    · exact .refl _
    · exact ((insI_perm i r).cons j).trans (.swap i j r)
theorem sortI_perm : ∀ r : List Int, (sortI r).Perm r
  | [] => .refl _
  | i :: r => (insI_perm i (sortI r)).trans ((sortI_perm r).cons i)
theorem insI_pw (i : Int) : ∀ {r : List Int}, r.Pairwise (· ≤ ·) → (insI i r).Pairwise (· ≤ ·)
  | [], _ => List.pairwise_singleton _ _
  | j :: r, h => by
    obtain ⟨h1, h2⟩ := List.pairwise_cons.mp h
    unfold insI
    split
    · rename_i hij
      refine List.pairwise_cons.mpr ⟨fun z hz => ?_, h⟩
      rcases List.mem_cons.mp hz with rfl | hz
      · exact hij
      · exact Int.le_trans hij (h1 z hz)
    · rename_i hij
      refine List.pairwise_cons.mpr ⟨fun z hz => ?_, insI_pw i h2⟩
      rcases List.mem_cons.mp ((insI_perm i r).mem_iff.mp hz) with rfl | hz
      · omega
      · exact h1 z hz
theorem sortI_pw : ∀ r : List Int, (sortI r).Pairwise (· ≤ ·)
  | [] => .nil
  | i :: r => insI_pw i (sortI_pw r)
theorem sort_uniq : ∀ {a b : List Int}, a.Perm b → a.Pairwise (· ≤ ·) → b.Pairwise (· ≤ ·) → a = b := fun h ha hb => h.eq_of_pairwise (fun _ _ _ _ x y => Int.le_antisymm x y) ha hb
def sSortedI (m : Bool) : List Y → Sto → Res Y
  | [y], S => match getL y S with
    | some ds => match intsD ds with
      | some ns => newL m ((sortI ns).map D.int) S
      | none => .bad
    | none => .bad
  | _, _ => .bad
theorem sSortedI_ok {X : Cx} (m : Bool) : CallS X (sSortedI m) (rSortedI X.K) := by
  intro E w S H ys vs Q s r h
  unfold sSortedI at h
  split at h
  · obtain ⟨v, rfl, r1⟩ := r.one
    split at h
    · rename_i ds e1
      split at h
      · rename_i ns e2
        obtain ⟨a, rfl, h1⟩ := getL_ints s r1 e1 e2
        refine ⟨a, ns, rfl, .inl h1, fun ns' p hp hs hn => ?_⟩
        have : ns' = sortI ns := sort_uniq (hp.trans (sortI_perm ns).symm) hs (sortI_pw ns)
        subst this
        exact new_lst s h hn (.ofInts _)
      · exact h.elim
    · exact h.elim
  · exact h.elim

section
variable {X : Cx} {W : WX} {k : Nat} {vl wl : List (Nat × Str)} {gl : List Str} {e : Expr} {es : List Expr} {fs : FE (List Y)} {pos p : Pos}
abbrev HE (X : Cx) (e : Expr) (es : List Expr) : Prop := starEach (e :: es) X.env = (false, eval e X.env) :: starEach es X.env
abbrev HP (X : Cx) (es : List Expr) (pos : Pos) : Prop := (backTo pos (starEach es X.env)).any (·.1) = false
theorem re_len (C : Ok X W k vl wl gl) (j : Nat) (ha : RA X W (e :: es) fs) (hj : gl[j]? = some "len" := by rfl) (he : HE X e es := by rfl) (hp : HP X es pos := by rfl) : RE X W (.Call (.Name "len" p) (e :: es) [] pos) (fCall sLen fs) :=
  re_callB C call_len sLen_ok (by decide +kernel) 0 j rfl hj ha he hp
theorem re_isi (C : Ok X W k vl wl gl) (j : Nat) (ha : RA X W (e :: es) fs) (hj : gl[j]? = some "isinstance" := by rfl) (he : HE X e es := by rfl) (hp : HP X es pos := by rfl) : RE X W (.Call (.Name "isinstance" p) (e :: es) [] pos) (fCall sIsi fs) :=
  re_callB C call_isi sIsi_ok (by decide +kernel) 2 j rfl hj ha he hp
theorem re_abs (C : Ok X W k vl wl gl) (j : Nat) (ha : RA X W (e :: es) fs) (hj : gl[j]? = some "abs" := by rfl) (he : HE X e es := by rfl) (hp : HP X es pos := by rfl) : RE X W (.Call (.Name "abs" p) (e :: es) [] pos) (fCall sAbs fs) :=
  re_callB C call_abs sAbs_ok (by decide +kernel) 3 j rfl hj ha he hp
theorem re_sum (C : Ok X W k vl wl gl) (j : Nat) (ha : RA X W (e :: es) fs) (hj : gl[j]? = some "sum" := by rfl) (he : HE X e es := by rfl) (hp : HP X es pos := by rfl) : RE X W (.Call (.Name "sum" p) (e :: es) [] pos) (fCall sSum fs) :=
  re_callB C (cr_sumX C.calm) sSum_ok (by decide +kernel) 4 j rfl hj ha he hp
theorem re_min2 (C : Ok X W k vl wl gl) (j : Nat) (ha : RA X W (e :: es) fs) (hj : gl[j]? = some "min" := by rfl) (he : HE X e es := by rfl) (hp : HP X es pos := by rfl) : RE X W (.Call (.Name "min" p) (e :: es) [] pos) (fCall sMin2 fs) :=
  re_callB C (call_min2 C.calm) sMin2_ok (by decide +kernel) 5 j rfl hj ha he hp
theorem re_max2 (C : Ok X W k vl wl gl) (j : Nat) (ha : RA X W (e :: es) fs) (hj : gl[j]? = some "max" := by rfl) (he : HE X e es := by rfl) (hp : HP X es pos := by rfl) : RE X W (.Call (.Name "max" p) (e :: es) [] pos) (fCall sMax2 fs) :=
  re_callB C (call_max2 C.calm) sMax2_ok (by decide +kernel) 6 j rfl hj ha he hp
theorem re_min1 (C : Ok X W k vl wl gl) (j : Nat) (ha : RA X W (e :: es) fs) (hj : gl[j]? = some "min" := by rfl) (he : HE X e es := by rfl) (hp : HP X es pos := by rfl) : RE X W (.Call (.Name "min" p) (e :: es) [] pos) (fCall sMin1 fs) :=
  re_callB C (cr_min C.calm) sMin1_ok (by decide +kernel) 5 j rfl hj ha he hp
theorem re_max1 (C : Ok X W k vl wl gl) (j : Nat) (ha : RA X W (e :: es) fs) (hj : gl[j]? = some "max" := by rfl) (he : HE X e es := by rfl) (hp : HP X es pos := by rfl) : RE X W (.Call (.Name "max" p) (e :: es) [] pos) (fCall sMax1 fs) :=
  re_callB C (cr_max C.calm) sMax1_ok (by decide +kernel) 6 j rfl hj ha he hp
theorem re_all (C : Ok X W k vl wl gl) (j : Nat) (ha : RA X W (e :: es) fs) (hj : gl[j]? = some "all" := by rfl) (he : HE X e es := by rfl) (hp : HP X es pos := by rfl) : RE X W (.Call (.Name "all" p) (e :: es) [] pos) (fCall sAll fs) :=
  re_callB C (cr_all C.calm) sAll_ok (by decide +kernel) 7 j rfl hj ha he hp
theorem re_any (C : Ok X W k vl wl gl) (j : Nat) (ha : RA X W (e :: es) fs) (hj : gl[j]? = some "any" := by rfl) (he : HE X e es := by rfl) (hp : HP X es pos := by rfl) : RE X W (.Call (.Name "any" p) (e :: es) [] pos) (fCall sAny fs) :=
  re_callB C (cr_any C.calm) sAny_ok (by decide +kernel) 8 j rfl hj ha he hp
theorem re_sortedI (m : Bool) (C : Ok X W k vl wl gl) (j : Nat) (ha : RA X W (e :: es) fs) (hj : gl[j]? = some "sorted" := by rfl) (he : HE X e es := by rfl) (hp : HP X es pos := by rfl) : RE X W (.Call (.Name "sorted" p) (e :: es) [] pos) (fCall (sSortedI m) fs) :=
  re_callB C cr_sortedI (sSortedI_ok m) (by decide +kernel) 9 j rfl hj ha he hp
theorem re_intc (C : Ok X W k vl wl gl) (j : Nat) (ha : RA X W (e :: es) fs) (hj : gl[j]? = some "int" := by rfl) (he : HE X e es := by rfl) (hp : HP X es pos := by rfl) : RE X W (.Call (.Name "int" p) (e :: es) [] pos) (fCall sInt fs) :=
  re_callT C call_int1 sInt_ok (by decide +kernel) 10 j rfl hj ha he hp
theorem re_strc (C : Ok X W k vl wl gl) (j : Nat) (ha : RA X W (e :: es) fs) (hj : gl[j]? = some "str" := by rfl) (he : HE X e es := by rfl) (hp : HP X es pos := by rfl) : RE X W (.Call (.Name "str" p) (e :: es) [] pos) (fCall sStr fs) :=
  re_callT C (call_str_int.or SkE.call_str_str) sStr_ok (by decide +kernel) 11 j rfl hj ha he hp
theorem re_listc (m : Bool) (C : Ok X W k vl wl gl) (j : Nat) (ha : RA X W (e :: es) fs) (hj : gl[j]? = some "list" := by rfl) (he : HE X e es := by rfl) (hp : HP X es pos := by rfl) : RE X W (.Call (.Name "list" p) (e :: es) [] pos) (fCall (sList m) fs) :=
  re_callT C call_list_of (sList_ok m) (by decide +kernel) 12 j rfl hj ha he hp
theorem re_tupc (C : Ok X W k vl wl gl) (j : Nat) (ha : RA X W (e :: es) fs) (hj : gl[j]? = some "tuple" := by rfl) (he : HE X e es := by rfl) (hp : HP X es pos := by rfl) : RE X W (.Call (.Name "tuple" p) (e :: es) [] pos) (fCall sTuple fs) :=
  re_callT C call_tuple_of sTuple_ok (by decide +kernel) 13 j rfl hj ha he hp

/-! ### calls of the text's own defs -/
/-- a def's promise by its mirror -/
def spM (K : PySem.W.Frag) (mg : Str → Option Value) (n : Nat) (m : List Y → Sto → Res Y) : Sp := fun vs H Q E => vs.length = n ∧ ∃ w S ys, Sim K w S H ∧ RYs K w ys vs ∧ rd K mg E (m ys S) w (RY K) Q
/-- the def x, of n parameters, is mirrored by m, j calls deep at most -/
structure Def (P : Program) (w : World) (K : PySem.W.Frag) (mg : Str → Option Value) (base : Heap) (x : Str) (n j : Nat) (m : List Y → Sto → Res Y) : Prop where
  ex : ∃ (f : Addr) (fd : FuncData) (ps : List Str), mg x = some (.ref f) ∧ PySem.W.keepIn K (.ref f) = true ∧ ps.length = n ∧ FnOk P w K mg base (L2.CX P w) j f fd ps (spM K mg n m) ∧ Binds K fd ps []
theorem Def.mono {P : Program} {w : World} {K : PySem.W.Frag} {mg : Str → Option Value} {base : Heap} {x : Str} {n j k : Nat} {m : List Y → Sto → Res Y} (d : Def P w K mg base x n j m) (h : j ≤ k) : Def P w K mg base x n k m := by
  obtain ⟨f, fd, ps, a, b, c, d, e⟩ := d.ex
  exact ⟨f, fd, ps, a, b, c, d.mono h, e⟩
theorem re_call (C : Ok X W k vl wl gl) {x : Str} {n j : Nat} {m : List Y → Sto → Res Y} (d : Def X.prog X.w X.K X.mg X.base x n j m) (i : Nat) (ha : RA X W (e :: es) fs) (hn : (e :: es).length = n := by rfl) (hk : j ≤ k := by omega) (hj : gl[i]? = some x := by rfl) (he : HE X e es := by rfl) (hp : HP X es pos := by rfl) :
    RE X W (.Call (.Name x p) (e :: es) [] pos) (fCall (fun ys S => if ys.length = n then m ys S else .bad) fs) := by
  obtain ⟨f, fd, ps, h1, h2, h3, h4, h5⟩ := d.ex
  refine weakPE (pe_callS h4 (C.hr.mono hk) (C.glo i x hj).1 h1 h2 h5 (fun σ => passAt C.tk σ) ha (C.glo i x hj).2.1 he hp) fun σ H Q q => ?_
  obtain ⟨w, env, S, hE, s, q⟩ := q
  refine ⟨w, env, S, hE, s, rd_bind q fun ys S1 w1 vs H1 l1 s1 r1 q1 => ?_⟩
  split at q1
  · rename_i hl
    exact ⟨by rw [← r1.length]; exact hl, w1, S1, ys, s1, r1, q1⟩
  · exact q1.elim
end
end Sg

/-! Q4a: what is walked: lists and tuples alike, in pairs, by threes, counted -/
namespace Sg
open PySem PySem.Spec PyProof.Rows L2
/-- a list (false) or a tuple (true) -/
def SQ (K : PySem.W.Frag) (H : Hp) : Bool → Addr → List V → Prop
  | false, a, xs => SqL K H a xs
  | true, a, xs => SqT K H a xs
def SIt : Bool → Heap → Addr → Addr → Nat → Prop
  | false, h, it, a, i => h.IsListIter it a i
  | true, h, it, a, i => h.IsTupleIter it a i
def SSq : Bool → Heap → Addr → Array Value → Prop
  | false, h, a, xs => h.IsList a xs
  | true, h, a, xs => h.IsTuple a xs
def SOb : Bool → Addr → Obj
  | false, a => { cls := .type "list_iterator", data := .fields #[.ref a, .int 0 0] }
  | true, a => { cls := .type "tuple_iterator", data := .fields #[.ref a, .int 0 0] }
section
variable {X : Cx} {pins : List (Addr × Obj)} {σ : L2.St} {H : Hp} {s : Shared} {t : Bool} {a it : Addr} {xs : List V}
theorem Inv.sq (I : Inv X pins σ H s) (h : SQ X.K H t a xs) : ∃ its : List Value, Vals xs its ∧ SSq t s.heap a its.toArray ∧ xs.length ≤ sizeLine := by
  cases t with
  | false => obtain ⟨its, r, p, z⟩ := I.list h; exact ⟨its, r, p.isList, z⟩
  | true => obtain ⟨its, r, p, z⟩ := I.tuple h; exact ⟨its, r, p, z⟩
theorem Inv.sq_inj {ys : List V} (I : Inv X pins σ H s) (h : SQ X.K H t a xs) (h' : SQ X.K H t a ys) : xs = ys := by
  cases t with
  | false => exact I.list_inj h h'
  | true => exact I.tuple_inj h h'
theorem SSq.there {h : Heap} {its : Array Value} (x : SSq t h a its) : ∃ o c, h.get? a = some o ∧ o.cls = .type c ∧ (c = "list" ∨ c = "tuple") := by
  cases t with
  | false => obtain ⟨o, e, c, _⟩ := x; exact ⟨o, _, e, c, .inl rfl⟩
  | true => obtain ⟨o, e, c, _⟩ := x; exact ⟨o, _, e, c, .inr rfl⟩
theorem SIt.there {h : Heap} {i : Nat} (x : SIt t h it a i) : ∃ o c, h.get? it = some o ∧ o.cls = .type c ∧ (c = "list_iterator" ∨ c = "tuple_iterator") ∧ ∀ v, o.data ≠ .cell v := by
  cases t with
  | false => obtain ⟨o, e, c, d⟩ := x; exact ⟨o, _, e, c, .inl rfl, fun v z => by rw [d] at z; cases z⟩
  | true => obtain ⟨o, e, c, d⟩ := x; exact ⟨o, _, e, c, .inr rfl, fun v z => by rw [d] at z; cases z⟩
theorem SIt.at {h h' : Heap} {i : Nat} (x : SIt t h it a i) (k : ∀ o, h.get? it = some o → h'.get? it = some o) : SIt t h' it a i := by
  cases t with
  | false => exact Heap.IsListIter.at x k
  | true => exact Heap.IsTupleIter.at x k
theorem SSq.at {h h' : Heap} {its : Array Value} (x : SSq t h a its) (k : ∀ o, h.get? a = some o → h'.get? a = some o) : SSq t h' a its := by
  cases t with
  | false => exact Heap.IsList.at x k
  | true => exact Heap.IsTuple.at x k
theorem apart_si {h : Heap} {i : Nat} {its : Array Value} (x : SSq t h a its) {t' : Bool} {b : Addr} (y : SIt t' h it b i) : a ≠ it := fun e => by
  subst e
  obtain ⟨o, c, e1, c1, q⟩ := x.there
  obtain ⟨o', c', e2, c2, q', _⟩ := y.there
  rw [e1] at e2; cases e2
  rw [c1] at c2; cases c2
  rcases q with q | q <;> rcases q' with q' | q' <;> rw [q] at q' <;> exact absurd q' (by decide)
theorem draws_sq {prog : Program} {w : World} {A : Around} (hh : A.handled = none) (it a : Addr) (hne : a ≠ it) (items : Array Value) :
    Draws prog w A it [it, a] items.size (fun i v => items[i]? = some v) (fun i h => SIt t h it a i ∧ SSq t h a items) := by
  cases t with
  | false => exact Draws.list hh it a hne items
  | true => exact Draws.tuple hh it a hne items
theorem begins_sq (a : Addr) (items : Array Value) : Begins (.ref a) (SOb t a) fun h => SSq t h a items := by
  cases t with
  | false => exact begins_list a items
  | true => exact begins_tuple a items
theorem SIt.new {h : Heap} (e : h.get? it = some (SOb t a)) : SIt t h it a 0 := by
  cases t with
  | false => exact ⟨_, e, rfl, rfl⟩
  | true => exact ⟨_, e, rfl, rfl⟩
end

/-! ### plain walks -/
def ItS (K : PySem.W.Frag) : Bool → Addr → It
  | false, a => Itl K a
  | true, a => Itt K a
def iSeq (K : PySem.W.Frag) (tl : TE) : TI := fun σ H R => tl σ H fun x H1 => ∃ t a, x = .ref a ∧ (∃ xs, SQ K H1 t a xs) ∧ R (ItS K t a) H1
theorem pi_seq {X : Cx} {tg l : Expr} {tl : TE} (hl : PE X l tl) : PI X tg l (iSeq X.K tl) := by
  refine ⟨fun pins s σ H R I h => ?_⟩
  refine thn (hl.run pins s σ H _ I h) fun v s1 ⟨x, H1, I1, r1, q1⟩ => ?_
  obtain ⟨t, a, e, ⟨xs, hq⟩, q⟩ := q1
  subst e
  cases r1
  cases t with
  | false =>
    obtain ⟨its, rv, p, hz⟩ := I1.list hq
    refine wpAny_pyIter_list p.isList ?_
    refine ⟨s1.heap.objs.size, [s1.heap.objs.size], _, _, H1, rfl, I1.kept (t' := s1.toks) fun b o e => Heap.get?_push_of_some _ e, turn_list a _, ⟨_, Heap.get?_push_size _ rfl, rfl, rfl⟩, fun b hb => ?_, q⟩
    have e : b = s1.heap.objs.size := by simpa using hb
    subst e
    exact I1.fpOk (Nat.le_refl _) (I1.hok.fresh (Nat.le_refl _))
  | true =>
    obtain ⟨its, rv, p, hz⟩ := I1.tuple hq
    refine wpAny_pyIter_tuple (show s1.heap.IsTuple a its.toArray from p) ?_
    refine ⟨s1.heap.objs.size, [s1.heap.objs.size], _, _, H1, rfl, I1.kept (t' := s1.toks) fun b o e => Heap.get?_push_of_some _ e, turn_tuple a _, ⟨_, Heap.get?_push_size _ rfl, rfl, rfl⟩, fun b hb => ?_, q⟩
    have e : b = s1.heap.objs.size := by simpa using hb
    subst e
    exact I1.fpOk (Nat.le_refl _) (I1.hok.fresh (Nat.le_refl _))

/-! ### enumerate -/
def ItE (K : PySem.W.Frag) (t : Bool) (a : Addr) : It :=
  ⟨fun i H => ∃ (xs : List V) (x : V), SQ K H t a xs ∧ xs[i]? = some x, fun i H v H' => ∃ T x, v = .ref T ∧ H T = none ∧ H' = upd H T (.tup [.int (i : Nat), x]) ∧ ∀ xs, SQ K H t a xs → xs[i]? = some x, fun i H => ∃ xs : List V, SQ K H t a xs ∧ xs.length = i⟩
theorem turn_enumX {P : Program} {w : World} {K : PySem.W.Frag} {elts : List Expr} {kk : Nat} {tpos : Pos} {t : Bool} (a e it : Addr) :
    Turn P w K (.Tuple elts kk tpos) (ItE K t a) [e, it] e (fun i h => (∃ old, IsEnum h e it ((i : Nat) : Int) old) ∧ SIt t h it a i ∧ e ≠ it) where
  mem := by simp
  obj := fun i h st b hb => by
    obtain ⟨⟨old, he⟩, hi, _⟩ := st
    obtain ⟨o, _, ho, _, _, hd⟩ := hi.there
    have e' : b = e ∨ b = it := by simpa using hb
    rcases e' with z | z
    · rw [z]; exact ⟨_, he, fun v q => nomatch q⟩
    · rw [z]; exact ⟨o, ho, hd⟩
  keep := fun i h h' st k => let ⟨⟨old, he⟩, hi, hne⟩ := st; ⟨⟨old, k e (by simp) _ he⟩, hi.at fun o q => k it (by simp) o q, hne⟩
  item := by
    intro X hP hw hK hc i pins s σ H E I hf st hg
    subst hP hw hK
    obtain ⟨⟨old, he⟩, hit, hne⟩ := st
    obtain ⟨xs, x, hq, hx⟩ := hg
    obtain ⟨its, rv, p, hz⟩ := Inv.sq I hq
    obtain ⟨u, hu, ru⟩ := rv.get hx
    have hel : e < s.heap.objs.size := Heap.lt_size he
    have hil : it < s.heap.objs.size := by obtain ⟨_, _, q, _⟩ := hit.there; exact Heap.lt_size q
    have hai : a ≠ it := apart_si p hit
    have hea : e ≠ a := fun z => by
      subst z
      obtain ⟨o, c, e1, c1, q⟩ := p.there
      rw [he] at e1; cases e1
      cases c1
      rcases q with q | q <;> exact absurd q (by decide)
    have D := draws_sq (prog := X.prog) (w := X.w) (A := X.A.in1) (t := t) (I.ok.hd hc) it a hai its.toArray
    refine wpAny_pyNext_enum_itemD D he ⟨hit, p⟩ (by have := (List.getElem?_eq_some_iff.mp hu).1; simpa using this) hne (by simp [hne, hea]) fun x' h' tk hP ho hst hT hsz hk => ?_
    have ex : x' = u := by
      have q : its[i]? = some x' := by simpa using hP
      rw [hu] at q; exact (Option.some.inj q).symm
    subst ex
    refine ⟨_, rfl, wpAny_letOwnedTupleGo_enum (s := { s with heap := h', toks := tk + 1 }) ho fun h'' he' sb => ?_⟩
    have hT2 : h''.get? s.heap.objs.size = some { cls := .type "tuple", data := .seq #[.int i tk, x'] } := (sb.2 _ (Nat.ne_of_gt hel)).trans hT
    have new : ObjOk X.prog X.w (upd H s.heap.objs.size (.tup [.int (i : Nat), x])) h'' s.heap.objs.size (.tup [.int (i : Nat), x]) :=
      ⟨by show 2 ≤ sizeLine; decide, [.int i tk, x'], .cons ⟨_, rfl⟩ (.cons ru .nil), ⟨_, hT2, rfl, _, rfl⟩⟩
    have I1 : Inv X pins σ (upd H s.heap.objs.size (.tup [.int (i : Nat), x])) { s with heap := h'', toks := tk + 1 } :=
      I.turnedNew (ch := [e, it]) (fun b ob hb q => (sb.2 b (fun z => hb (by simp [z]))).trans (hk b ob (fun z => hb (by simp [z])) (fun z => hb (by simp [z])) q)) hf (Nat.le_refl _) new
    refine ⟨.ref s.heap.objs.size, _, I1, rfl, ⟨_, x, rfl, I.hok.fresh (Nat.le_refl _), rfl, fun ys hy => by rw [Inv.sq_inj I hy hq]; exact hx⟩, ⟨⟨x', ?_⟩, hst.1.at fun o q => (sb.2 it (Ne.symm hne)).trans q, hne⟩, fun b hb => ?_⟩
    · have e1 : ((i + 1 : Nat) : Int) = (i : Int) + 1 := by omega
      rw [e1]; exact he'
    · have hb' : b < s.heap.objs.size := by
        have e' : b = e ∨ b = it := by simpa using hb
        rcases e' with z | z
        · rw [z]; exact hel
        · rw [z]; exact hil
      rw [upd_ne (Nat.ne_of_lt hb')]
      exact (hf b hb).1
  done := by
    intro X hP hw hK hc i pins s σ H E I hf st hg
    subst hP hw hK
    obtain ⟨⟨old, he⟩, hit, hne⟩ := st
    obtain ⟨xs, hq, hx⟩ := hg
    obtain ⟨its, rv, p, hz⟩ := Inv.sq I hq
    obtain ⟨f0, f1, f2, f3, f4, f5⟩ := hf it (by simp)
    have hl := rv.length
    have hai : a ≠ it := apart_si p hit
    have D := draws_sq (prog := X.prog) (w := X.w) (A := X.A.in1) (t := t) (I.ok.hd hc) it a hai its.toArray
    have hi : i = its.toArray.size := by rw [List.size_toArray]; omega
    subst hi
    exact wpAny_pyNext_enum_endD D he ⟨hit, p⟩ fun h' eb => ⟨rfl, I.turned (t' := s.toks) (fun b o hb q => eb b o hb q) f0 f1 f3 f4 f5⟩
  self := fun A i s Q E st h => let ⟨⟨_, he⟩, _⟩ := st; wpAny_pyIter_enum he h
theorem meets_enum1 {v : Value} {o : Obj} {H : Heap → Prop} (B : Begins v o H) :
    Meets (Builtin.«enumerate.__new__» ⟨[.type "enumerate", v], []⟩) (fun _ R s => H s.heap ∧
      R (.ok (.ret (.ref (s.heap.push o).objs.size))) { s with heap := (s.heap.push o).push { cls := .type "enumerate", data := .fields #[.none, .bool false, .ref s.heap.objs.size, rawInt 0, .none, .none] } }) :=
  .of_wp fun prog w A R s h => by
    obtain ⟨hp, g, d, tk, os⟩ := s; obtain ⟨h1, h⟩ := h
    have hsub := sub_enumerate
    have q1 : ∀ {A' : Around} {E : Value → Shared → Prop} {Q : Value → Shared → Prop}, Q (.ref hp.objs.size) ⟨hp.push o, g, d, tk, os⟩ → wpAny (model prog w) A' (pyIter v) Q E ⟨hp, g, d, tk, os⟩ :=
      fun q => B.iter prog w _ _ ⟨hp, g, d, tk, os⟩ _ h1 q
    wp_walk using q1
    refine wpAny_stack_any fun st => wpAny_pure ?_
    split
    · rename_i c _ _ _ _ _
      cases (c == Value.type "enumerate")
      · wp_walk using q1
        exact ⟨_, rfl, h⟩
      · wp_walk using q1
        exact ⟨_, rfl, h⟩
    · wp_walk using q1
      exact ⟨_, rfl, h⟩
theorem call_enum1 {prog : Program} {w : World} {A : Around} {E : Value → Shared → Prop} {s : Shared} {v : Value} {o : Obj} {H : Heap → Prop} {Q : Value → Shared → Prop} (B : Begins v o H) (hH : H s.heap)
    (h : ∀ h', IsEnum h' (s.heap.objs.size + 1) s.heap.objs.size 0 .none → h'.get? s.heap.objs.size = some o → h'.objs.size = s.heap.objs.size + 2 →
      (∀ b o, s.heap.get? b = some o → h'.get? b = some o) → Q (.ref (s.heap.objs.size + 1)) { s with heap := h' }) :
    wpAny (model prog w) A (call (.type "enumerate") [v]) Q E s := by
  refine callType_new F.called_enumerate (by decide) (F.typeCall_enumerate_1 _) (F.newCall_enumerate_1 _) (fun obj => F.args_object_init_2 obj _) F.entry_enumerate_new
    (meets_enum1 B) ⟨hH, ?_⟩
  have hz : (s.heap.push o).objs.size = s.heap.objs.size + 1 := Heap.size_push ..
  show _ ∧ _
  rw [hz]
  have he : IsEnum ((s.heap.push o).push { cls := .type "enumerate", data := .fields #[.none, .bool false, .ref s.heap.objs.size, rawInt 0, .none, .none] }) (s.heap.objs.size + 1) s.heap.objs.size 0 .none := by
    have := Heap.get?_push_size (s.heap.push o) (o := { cls := .type "enumerate", data := .fields #[.none, .bool false, .ref s.heap.objs.size, rawInt 0, .none, .none] }) rfl
    rw [hz] at this; exact this
  exact ⟨⟨_, he, rfl⟩, h _ he (Heap.get?_push_of_some _ (Heap.get?_push_size _ B.free)) (by rw [Heap.size_push, hz]) fun b o x => Heap.get?_push_of_some _ (Heap.get?_push_of_some _ x)⟩
def iEnumX (K : PySem.W.Frag) (ta : TA) : TI := fun σ H R => ta σ H fun vs H1 => ∃ t a xs, vs = [.ref a] ∧ SQ K H1 t a xs ∧ R (ItE K t a) H1
theorem pi_enumX {X : Cx} {e : Expr} {ta : TA} {p pos tpos : Pos} {elts : List Expr} {kk : Nat} (hg : Gl X "enumerate") (hm : X.mg "enumerate" = none) (ha : PA X [e] ta) (hs : starEach [e] X.env = [(false, eval e X.env)]) :
    PI X (.Tuple elts kk tpos) (.Call (.Name "enumerate" p) [e] [] pos) (iEnumX X.K ta) := by
  refine ⟨fun pins s σ H R I h => ?_⟩
  refine Call_ (ld_blt I hg hm boot_enumerate (PyProof.Rows.callWith_type1 (thn (ha.run pos pins s σ H _ I h) fun us s1 ⟨vs, H1, I1, r1, q1⟩ => ?_) hs rfl))
  obtain ⟨t, a, xs, ex, hq, q⟩ := q1
  subst ex
  cases r1 with
  | cons r rr =>
    cases rr
    cases r
    obtain ⟨its, rv, p', hz⟩ := Inv.sq I1 hq
    refine call_enum1 (begins_sq (t := t) a its.toArray) p' fun h' he hit hsz hk => wpAny_pyIter_enum he ?_
    have I2 : Inv X pins σ H1 { s1 with heap := h' } := I1.kept (t' := s1.toks) hk
    refine ⟨s1.heap.objs.size + 1, [s1.heap.objs.size + 1, s1.heap.objs.size], _, _, H1, rfl, I2, turn_enumX (t := t) a (s1.heap.objs.size + 1) s1.heap.objs.size, ⟨⟨.none, he⟩, SIt.new hit, Nat.succ_ne_self _⟩, fun b hb => ?_, q⟩
    have e' : b = s1.heap.objs.size + 1 ∨ b = s1.heap.objs.size := by simpa using hb
    have hle : s1.heap.objs.size ≤ b := by
      rcases e' with z | z
      · rw [z]; exact Nat.le_add_right _ _
      · rw [z]; exact Nat.le_refl _
    exact I1.fpOk hle (I1.hok.fresh hle)

/-! ### zip of two -/
def ItZ (K : PySem.W.Frag) (t1 t2 : Bool) (a b : Addr) : It :=
  ⟨fun i H => ∃ (xs ys : List V) (x y : V), SQ K H t1 a xs ∧ SQ K H t2 b ys ∧ xs[i]? = some x ∧ ys[i]? = some y,
    fun i H v H' => ∃ T x y, v = .ref T ∧ H T = none ∧ H' = upd H T (.tup [x, y]) ∧ (∀ xs, SQ K H t1 a xs → xs[i]? = some x) ∧ ∀ ys, SQ K H t2 b ys → ys[i]? = some y,
    fun i H => ∃ xs ys : List V, SQ K H t1 a xs ∧ SQ K H t2 b ys ∧ i ≤ xs.length ∧ i ≤ ys.length ∧ (i = xs.length ∨ i = ys.length)⟩
/-- the cells of a zip of two lie apart, and stay -/
structure ZS2 (z TI TO i1 i2 : Addr) : Prop where
  TIz : TI ≠ z
  TOz : TO ≠ z
  TITO : TI ≠ TO
  TIi1 : TI ≠ i1
  TIi2 : TI ≠ i2
  zi1 : z ≠ i1
  zi2 : z ≠ i2
  Ti1 : TO ≠ i1
  Ti2 : TO ≠ i2
  i12 : i1 ≠ i2
theorem not_sq {h : Heap} {t : Bool} {a b : Addr} {its : Array Value} {o : Obj} {c : String} (p : SSq t h a its) (e : h.get? b = some o) (hc : o.cls = .type c) (h1 : c ≠ "list") (h2 : c ≠ "tuple") : b ≠ a := fun z => by
  subst z
  obtain ⟨o', c', e', k, q⟩ := p.there
  rw [e] at e'; cases e'
  rw [hc] at k; cases k
  rcases q with q | q
  · exact h1 q
  · exact h2 q
theorem turn_zipX {P : Program} {w : World} {K : PySem.W.Frag} {elts : List Expr} {kk : Nat} {tpos : Pos} {t1 t2 : Bool} {a b z TI TO i1 i2 : Addr} (Z : ZS2 z TI TO i1 i2) :
    Turn P w K (.Tuple elts kk tpos) (ItZ K t1 t2 a b) [z, TI, TO, i1, i2] z (fun i h => IsZip h z TI TO .none ∧ IsTupOf2 h TI (.ref i1) (.ref i2) ∧ (∃ x y, IsTupOf2 h TO x y) ∧ SIt t1 h i1 a i ∧ SIt t2 h i2 b i) where
  mem := by simp
  obj := fun i h st c hc => by
    obtain ⟨hz, hTI, ⟨x, y, hTO⟩, s1, s2⟩ := st
    obtain ⟨o1, _, e1, _, _, d1⟩ := s1.there
    obtain ⟨o2, _, e2, _, _, d2⟩ := s2.there
    have e' : c = z ∨ c = TI ∨ c = TO ∨ c = i1 ∨ c = i2 := by simpa using hc
    rcases e' with q | q | q | q | q
    · rw [q]; exact ⟨_, hz, fun v q => nomatch q⟩
    · rw [q]; exact ⟨_, hTI, fun v q => nomatch q⟩
    · rw [q]; exact ⟨_, hTO, fun v q => nomatch q⟩
    · rw [q]; exact ⟨o1, e1, d1⟩
    · rw [q]; exact ⟨o2, e2, d2⟩
  keep := fun i h h' st k => by
    obtain ⟨hz, hTI, ⟨x, y, hTO⟩, h1, h2⟩ := st
    exact ⟨k z (by simp) _ hz, k TI (by simp) _ hTI, ⟨x, y, k TO (by simp) _ hTO⟩, h1.at fun o q => k i1 (by simp) o q, h2.at fun o q => k i2 (by simp) o q⟩
  item := by
    intro X hP hw hK hc i pins s σ H E I hf st hg
    subst hP hw hK
    obtain ⟨hz, hTI, ⟨x0, y0, hTO⟩, h1, h2⟩ := st
    obtain ⟨xs, ys, x, y, hqx, hqy, hx, hy⟩ := hg
    obtain ⟨its, rv, p, _⟩ := Inv.sq I hqx
    obtain ⟨its2, rv2, p2, _⟩ := Inv.sq I hqy
    obtain ⟨u, hu, ru⟩ := rv.get hx
    obtain ⟨u2, hu2, ru2⟩ := rv2.get hy
    have hzl : z < s.heap.objs.size := Heap.lt_size hz
    have tk1 : ∀ {c xs' t'}, c ∈ [z, TI, TO, i1, i2] → SQ X.K H t' a xs' → True := fun _ _ => trivial
    have nK : ∀ c ∈ [z, TI, TO, i1, i2], ∀ (t' : Bool) (d : Addr) (zs : List V) (is : Array Value), SQ X.K H t' d zs → SSq t' s.heap d is → c ≠ d := fun c hcm t' d zs is hq hs hcd => by
      subst hcd
      obtain ⟨f0, _, _, f3, _⟩ := hf c hcm
      have tracked : ∀ {u : HO}, Rd H c u → False := fun r => by
        rcases r with r | ⟨o, r⟩ <;> (rw [f0] at r; cases r)
      have written : ∀ {o : Obj}, X.K.lookup c = some o → False := fun {o} r => by
        have hb : X.base.get? c = some o := I.mod.kin c o r
        rcases f3 with q | q
        · exact I.ok.noex c o hb q
        · exact absurd (Heap.lt_size hb) (Nat.not_lt.mpr (Nat.le_trans I.ok.bsz q))
      cases t' with
      | false =>
        rcases hq with r | ⟨o, its, n, r, _⟩
        · exact tracked r
        · exact written r
      | true =>
        rcases hq with r | ⟨o, its, n, r, _⟩
        · exact tracked r
        · exact written r
    have n1 : ∀ c ∈ [z, TI, TO, i1, i2], c ≠ a := fun c hcm => nK c hcm _ a xs _ hqx p
    have n2 : ∀ c ∈ [z, TI, TO, i1, i2], c ≠ b := fun c hcm => nK c hcm _ b ys _ hqy p2
    have D1 := draws_sq (prog := X.prog) (w := X.w) (A := X.A.in1) (t := t1) (I.ok.hd hc) i1 a (n1 i1 (by simp)).symm its.toArray
    have D2 := draws_sq (prog := X.prog) (w := X.w) (A := X.A.in1) (t := t2) (I.ok.hd hc) i2 b (n2 i2 (by simp)).symm its2.toArray
    have S : ZipSep2 z TI TO i1 i2 [i1, a] [i2, b] := { TIz := Z.TIz, TOz := Z.TOz, TITO := Z.TITO, TIi1 := Z.TIi1, mem1 := by simp, zf1 := by simp [Z.zi1, n1 z], Tf1 := by simp [Z.Ti1, n1 TO], TIi2 := Z.TIi2, mem2 := by simp, zf2 := by simp [Z.zi2, n2 z], Tf2 := by simp [Z.Ti2, n2 TO], sep1_2 := by simp [Z.i12, n2 i1], sep2_1 := by simp [Z.i12.symm, n1 i2] }
    refine wpAny_pyNext_zipD2_item S D1 D2 hz hTI hTO ⟨h1, p⟩ ⟨h2, p2⟩ (by have := (List.getElem?_eq_some_iff.mp hu).1; simpa using this) (by have := (List.getElem?_eq_some_iff.mp hu2).1; simpa using this) fun x1 x2 h' tk y1 y2 z' TO' h1' h2' hT hsz hk => ?_
    have ex1 : x1 = u := by
      have q : its[i]? = some x1 := by simpa using y1
      rw [hu] at q; exact (Option.some.inj q).symm
    have ex2 : x2 = u2 := by
      have q : its2[i]? = some x2 := by simpa using y2
      rw [hu2] at q; exact (Option.some.inj q).symm
    subst ex1 ex2
    refine ⟨_, rfl, wpAny_letOwnedTupleGo_zip (s := { s with heap := h', toks := tk }) z' fun h'' z'' sb => ?_⟩
    have hT2 : h''.get? s.heap.objs.size = some { cls := .type "tuple", data := .seq #[x1, x2] } := (sb.2 _ (Nat.ne_of_gt hzl)).trans hT
    have new : ObjOk X.prog X.w (upd H s.heap.objs.size (.tup [x, y])) h'' s.heap.objs.size (.tup [x, y]) :=
      ⟨by show 2 ≤ sizeLine; decide, [x1, x2], .cons ru (.cons ru2 .nil), ⟨_, hT2, rfl, _, rfl⟩⟩
    have I1 : Inv X pins σ (upd H s.heap.objs.size (.tup [x, y])) { s with heap := h'', toks := tk } :=
      I.turnedNew (t' := tk) (ch := [z, TI, TO, i1, i2]) (fun c o hb q => (sb.2 c (fun q' => hb (by simp [q']))).trans (hk c o (fun q' => hb (by simp [q'])) (fun q' => hb (by simp [q'])) (fun q' => hb (by simp [q'])) (fun q' => hb (by simp [q'])) q)) hf (Nat.le_refl _) new
    refine ⟨.ref s.heap.objs.size, _, I1, rfl, ⟨_, x, y, rfl, I.hok.fresh (Nat.le_refl _), rfl, fun l hl => by rw [Inv.sq_inj I hl hqx]; exact hx, fun l hl => by rw [Inv.sq_inj I hl hqy]; exact hy⟩, ⟨z'', ?_, ⟨x1, x2, ?_⟩, ?_, ?_⟩, fun c hcm => ?_⟩
    · exact (sb.2 _ Z.TIz).trans (hk _ _ Z.TIz Z.TITO Z.TIi1 Z.TIi2 hTI)
    · exact (sb.2 _ Z.TOz).trans TO'
    · exact h1'.1.at fun o q => (sb.2 _ Z.zi1.symm).trans q
    · exact h2'.1.at fun o q => (sb.2 _ Z.zi2.symm).trans q
    · have hlt : c < s.heap.objs.size := by
        have e' : c = z ∨ c = TI ∨ c = TO ∨ c = i1 ∨ c = i2 := by simpa using hcm
        rcases e' with q | q | q | q | q
        · rw [q]; exact hzl
        · rw [q]; exact Heap.lt_size hTI
        · rw [q]; exact Heap.lt_size hTO
        · rw [q]; obtain ⟨_, _, e1, _⟩ := h1.there; exact Heap.lt_size e1
        · rw [q]; obtain ⟨_, _, e2, _⟩ := h2.there; exact Heap.lt_size e2
      rw [upd_ne (Nat.ne_of_lt hlt)]
      exact (hf c hcm).1
  done := by
    intro X hP hw hK hc i pins s σ H E I hf st hg
    subst hP hw hK
    obtain ⟨hz, hTI, ⟨x0, y0, hTO⟩, h1, h2⟩ := st
    obtain ⟨xs, ys, hqx, hqy, hle1, hle2, hend⟩ := hg
    obtain ⟨its, rv, p, _⟩ := Inv.sq I hqx
    obtain ⟨its2, rv2, p2, _⟩ := Inv.sq I hqy
    have l1 := rv.length
    have l2 := rv2.length
    have nK : ∀ c ∈ [z, TI, TO, i1, i2], ∀ (t' : Bool) (d : Addr) (zs : List V), SQ X.K H t' d zs → c ≠ d := fun c hcm t' d zs hq hcd => by
      subst hcd
      obtain ⟨f0, _, _, f3, _⟩ := hf c hcm
      have tracked : ∀ {u : HO}, Rd H c u → False := fun r => by
        rcases r with r | ⟨o, r⟩ <;> (rw [f0] at r; cases r)
      have written : ∀ {o : Obj}, X.K.lookup c = some o → False := fun {o} r => by
        have hb : X.base.get? c = some o := I.mod.kin c o r
        rcases f3 with q | q
        · exact I.ok.noex c o hb q
        · exact absurd (Heap.lt_size hb) (Nat.not_lt.mpr (Nat.le_trans I.ok.bsz q))
      cases t' with
      | false =>
        rcases hq with r | ⟨o, its, n, r, _⟩
        · exact tracked r
        · exact written r
      | true =>
        rcases hq with r | ⟨o, its, n, r, _⟩
        · exact tracked r
        · exact written r
    have n1 : ∀ c ∈ [z, TI, TO, i1, i2], c ≠ a := fun c hcm => nK c hcm _ a xs hqx
    have n2 : ∀ c ∈ [z, TI, TO, i1, i2], c ≠ b := fun c hcm => nK c hcm _ b ys hqy
    have D1 := draws_sq (prog := X.prog) (w := X.w) (A := X.A.in1) (t := t1) (I.ok.hd hc) i1 a (n1 i1 (by simp)).symm its.toArray
    have D2 := draws_sq (prog := X.prog) (w := X.w) (A := X.A.in1) (t := t2) (I.ok.hd hc) i2 b (n2 i2 (by simp)).symm its2.toArray
    have S : ZipSep2 z TI TO i1 i2 [i1, a] [i2, b] := { TIz := Z.TIz, TOz := Z.TOz, TITO := Z.TITO, TIi1 := Z.TIi1, mem1 := by simp, zf1 := by simp [Z.zi1, n1 z], Tf1 := by simp [Z.Ti1, n1 TO], TIi2 := Z.TIi2, mem2 := by simp, zf2 := by simp [Z.zi2, n2 z], Tf2 := by simp [Z.Ti2, n2 TO], sep1_2 := by simp [Z.i12, n2 i1], sep2_1 := by simp [Z.i12.symm, n1 i2] }
    exact wpAny_pyNext_zipD2_end S D1 D2 hz hTI hTO ⟨h1, p⟩ ⟨h2, p2⟩ (by simp; omega) (by simp; omega) (by simp; omega) fun h' tk hk => ⟨rfl, I.turnedL (t' := tk) (ch := [z, TI, TO, i1, i2]) (fun c o hb q =>
      hk c o (fun q' => hb (by simp [q'])) (fun q' => hb (by simp [q'])) (fun q' => hb (by simp [q'])) (fun q' => hb (by simp [q'])) q) hf⟩
  self := fun A i s Q E st h => wpAny_pyIter_zip st.1 h
def iZipX (K : PySem.W.Frag) (ta : TA) : TI := fun σ H R => ta σ H fun vs H1 => ∃ t1 t2 a b xs ys, vs = [.ref a, .ref b] ∧ SQ K H1 t1 a xs ∧ SQ K H1 t2 b ys ∧ R (ItZ K t1 t2 a b) H1
theorem pi_zipX {X : Cx} {e e2 : Expr} {ta : TA} {p pos tpos : Pos} {elts : List Expr} {kk : Nat} (hg : Gl X "zip") (hm : X.mg "zip" = none) (ha : PA X [e, e2] ta)
    (hs : starEach [e, e2] X.env = (false, eval e X.env) :: starEach [e2] X.env) (hpl : (backTo pos (starEach [e2] X.env)).any (·.1) = false) :
    PI X (.Tuple elts kk tpos) (.Call (.Name "zip" p) [e, e2] [] pos) (iZipX X.K ta) := by
  refine ⟨fun pins s σ H R I h => ?_⟩
  refine Call_ (ld_blt I hg hm PyProof.Rows.boot_zip (PyProof.Rows.callWith_type1 (thn (ha.run pos pins s σ H _ I h) fun us s1 ⟨vs, H1, I1, r1, q1⟩ => ?_) hs hpl))
  obtain ⟨t1, t2, a, b, xs, ys, ex, hqx, hqy, q⟩ := q1
  subst ex
  obtain ⟨u1, u2, rfl, r1', r2'⟩ := vals2 r1
  cases r1'
  cases r2'
  obtain ⟨its, rv, p1, _⟩ := Inv.sq I1 hqx
  obtain ⟨its2, rv2, p2, _⟩ := Inv.sq I1 hqy
  refine zip_begins2 (begins_sq (t := t1) a its.toArray) (begins_sq (t := t2) b its2.toArray) p1 p2 fun h' hz hTI hTO h1 h2 hsz hk => wpAny_pyIter_zip hz ?_
  have I2 : Inv X pins σ H1 { s1 with heap := h' } := I1.kept (t' := s1.toks) hk
  have Z : ZS2 (s1.heap.objs.size + 4) (s1.heap.objs.size + 2) (s1.heap.objs.size + 3) s1.heap.objs.size (s1.heap.objs.size + 1) := by
    generalize s1.heap.objs.size = n
    constructor <;> (intro z; have z' : (_ : Nat) = _ := z; omega)
  refine ⟨s1.heap.objs.size + 4, [s1.heap.objs.size + 4, s1.heap.objs.size + 2, s1.heap.objs.size + 3, s1.heap.objs.size, s1.heap.objs.size + 1], _, _, H1, rfl, I2, turn_zipX (t1 := t1) (t2 := t2) Z, ⟨hz, hTI, ⟨_, _, hTO⟩, SIt.new h1, SIt.new h2⟩, fun c hcm => ?_, q⟩
  have e' : c = s1.heap.objs.size + 4 ∨ c = s1.heap.objs.size + 2 ∨ c = s1.heap.objs.size + 3 ∨ c = s1.heap.objs.size ∨ c = s1.heap.objs.size + 1 := by simpa using hcm
  have hle : s1.heap.objs.size ≤ c := by
    rcases e' with z | z | z | z | z
    · rw [z]; exact Nat.le_add_right _ _
    · rw [z]; exact Nat.le_add_right _ _
    · rw [z]; exact Nat.le_add_right _ _
    · rw [z]; exact Nat.le_refl _
    · rw [z]; exact Nat.le_add_right _ _
  exact I1.fpOk hle (I1.hok.fresh hle)
end Sg

/-! Q4b: iterables, targets, comprehensions, statements -/
namespace Sg
open PySem PySem.Spec PyProof.Rows L2

/-! ### iterables -/
def Good (K : PySem.W.Frag) (F : Hp) (J : It) (ds : List D) : Prop := ∀ (w : Wd) (S : Sto) (H : Hp) (i : Nat), Le F w.F → Sim K w S H →
  (i = ds.length → J.stop i H) ∧ (∀ d, ds[i]? = some d → J.go i H ∧ ∀ x H', J.yld i H x H' → ∃ F', Le w.F F' ∧ Sim K { w with F := F' } S H' ∧ Rp K F' d x)
theorem Good.le {K : PySem.W.Frag} {F F' : Hp} {J : It} {ds : List D} (g : Good K F J ds) (l : Le F F') : Good K F' J ds := fun w S H i l' s => g w S H i (l.trans l') s
abbrev RG (w : Wd) : Prop := True
abbrev RI (X : Cx) (W : WX) (tg e : Expr) (f : FE (List D)) : Prop := PI X tg e (tM X.K X.mg W (fun w ds J => Good X.K w.F J ds) f)
section
variable {X : Cx} {W : WX} {k : Nat} {vl wl : List (Nat × Str)} {gl : List Str} {tg a b c e : Expr} {es : List Expr} {f g h : FE Y} {fs : FE (List Y)} {pos p : Pos} {x : Str}
def itS : Y → Sto → Res (List D)
  | .v (.lst ds), S => .ok ds S
  | .v (.tup ds), S => .ok ds S
  | _, _ => .bad
def fItS (f : FE Y) : FE (List D) := fun env S => (f env S).bind itS
theorem Sim.sq {K : PySem.W.Frag} {w : Wd} {S : Sto} {H : Hp} (s : Sim K w S H) {t : Bool} {a : Addr} {xs : List V} (h : SQ K w.F t a xs) : SQ K H t a xs := by
  cases t with
  | false => exact s.sqL h
  | true => exact s.sqT h
theorem Le.sq {K : PySem.W.Frag} {F F' : Hp} (l : Le F F') {t : Bool} {a : Addr} {xs : List V} (h : SQ K F t a xs) : SQ K F' t a xs := by
  cases t with
  | false => exact l.sqL h
  | true => exact l.sqT h
theorem itS_of {K : PySem.W.Frag} {w : Wd} {S S' : Sto} {y : Y} {v : V} {ds : List D} (r : RY K w y v) (e : itS y S = .ok ds S') : S' = S ∧ ∃ t a xs, v = .ref a ∧ SQ K w.F t a xs ∧ RpL K w.F ds xs := by
  unfold itS at e
  split at e
  · rename_i es
    cases e
    have r' : Rp K w.F (.lst ds) v := r
    cases r' with
    | lst h q => exact ⟨rfl, false, _, _, rfl, .inl h, q⟩
  · rename_i es
    cases e
    have r' : Rp K w.F (.tup ds) v := r
    cases r' with
    | tup h q => exact ⟨rfl, true, _, _, rfl, h, q⟩
  · cases e
theorem itS_cases (y : Y) (S : Sto) : (∃ ds, itS y S = .ok ds S) ∨ itS y S = .bad := by
  unfold itS
  split
  · exact .inl ⟨_, rfl⟩
  · exact .inl ⟨_, rfl⟩
  · exact .inr rfl
theorem good_seq {K : PySem.W.Frag} {F : Hp} {t : Bool} {a : Addr} {xs : List V} {ds : List D} (h : SQ K F t a xs) (r : RpL K F ds xs) : Good K F (ItS K t a) ds := by
  intro w S H i l s
  have hq := s.sq (l.sq h)
  have hl := r.length
  refine ⟨fun e => ?_, fun d e => ?_⟩
  · cases t with
    | false => exact ⟨xs, hq, by omega⟩
    | true => exact ⟨xs, hq, by omega⟩
  · obtain ⟨x, e1, r1⟩ := r.get e
    cases t with
    | false =>
      refine ⟨⟨xs, x, hq, e1⟩, fun z H' hy => ?_⟩
      obtain ⟨rfl, fz⟩ := hy
      have ez : z = x := Option.some.inj ((fz xs hq).symm.trans e1)
      subst ez
      exact ⟨w.F, .refl _, s, r1.mono l⟩
    | true =>
      refine ⟨⟨xs, x, hq, e1⟩, fun z H' hy => ?_⟩
      obtain ⟨rfl, fz⟩ := hy
      have ez : z = x := Option.some.inj ((fz xs hq).symm.trans e1)
      subst ez
      exact ⟨w.F, .refl _, s, r1.mono l⟩
theorem ri_seq (ha : RE X W a f) : RI X W tg a (fItS f) := weakPI (pi_seq ha) fun σ H Q q => by
  obtain ⟨w, env, S, hE, s, q⟩ := q
  refine ⟨w, env, S, hE, s, rd_bind q fun y S1 w1 v H1 l1 s1 r1 q1 => ?_⟩
  rcases itS_cases y S1 with ⟨ds, e1⟩ | e1
  · rw [e1] at q1
    obtain ⟨_, t, a, xs, rfl, h1, h2⟩ := itS_of r1 e1
    exact ⟨t, a, rfl, ⟨xs, s1.sq h1⟩, rd_ok q1 s1 (good_seq h1 h2)⟩
  · rw [e1] at q1; exact q1.elim
/-- lo, lo + 1, .. -/
def rngD (lo : Int) (n : Nat) : List D := (List.range n).map fun (i : Nat) => D.int (lo + i)
@[simp] theorem rngD_len (lo : Int) (n : Nat) : (rngD lo n).length = n := by simp [rngD]
theorem rngD_get {lo : Int} {n i : Nat} {d : D} (e : (rngD lo n)[i]? = some d) : i < n ∧ d = .int (lo + i) := by
  have hi : i < n := by have := (List.getElem?_eq_some_iff.mp e).1; simpa using this
  unfold rngD at e
  rw [List.getElem?_map, List.getElem?_range hi] at e
  exact ⟨hi, (Option.some.inj e).symm⟩
theorem good_rng {K : PySem.W.Frag} {F : Hp} (lo : Int) (n : Nat) : Good K F (Itr lo n) (rngD lo n) := by
  intro w S H i l s
  refine ⟨fun e => ?_, fun d e => ?_⟩
  · show n ≤ i
    rw [e, rngD_len]; exact Nat.le_refl _
  · obtain ⟨hi, rfl⟩ := rngD_get e
    refine ⟨hi, fun z H' hy => ?_⟩
    obtain ⟨rfl, rfl⟩ := hy
    exact ⟨w.F, .refl _, s, .int _⟩
def okR (j : Int) : Bool := decide (-(2 ^ 62) ≤ j ∧ j < 2 ^ 62)
def sRng1 : List Y → Sto → Res (List D)
  | [.v (.int j)], S => if okR j = true then .ok (rngD 0 j.toNat) S else .bad
  | _, _ => .bad
def sRng2 : List Y → Sto → Res (List D)
  | [.v (.int i), .v (.int j)], S => if okR i = true ∧ okR j = true then .ok (rngD i (j - i).toNat) S else .bad
  | _, _ => .bad
def fIt (sem : List Y → Sto → Res (List D)) (fs : FE (List Y)) : FE (List D) := fun env S => (fs env S).bind sem
theorem ri_rng1 (C : Ok X W k vl wl gl) (j : Nat) (ha : RA X W [a] fs) (hj : gl[j]? = some "range" := by rfl) (hs : starEach [a] X.env = [(false, eval a X.env)] := by rfl) : RI X W tg (.Call (.Name "range" p) [a] [] pos) (fIt sRng1 fs) :=
  weakPI (pi_range1 (C.glo j _ hj).1 (C.blt 1 _ rfl) ha hs) fun σ H Q q => by
    obtain ⟨w, env, S, hE, s, q⟩ := q
    refine ⟨w, env, S, hE, s, rd_bind q fun ys S1 w1 vs H1 l1 s1 r1 q1 => ?_⟩
    unfold sRng1 at q1
    split at q1
    · split at q1
      · rename_i hk
        obtain ⟨v, rfl, r⟩ := r1.one
        cases r
        have := of_decide_eq_true hk
        exact ⟨_, rfl, this.1, this.2, rd_ok q1 s1 (good_rng _ _)⟩
      · exact q1.elim
    · exact q1.elim
theorem ri_rng2 (C : Ok X W k vl wl gl) (j : Nat) (ha : RA X W [a, b] fs) (hj : gl[j]? = some "range" := by rfl) (hs : starEach [a, b] X.env = [(false, eval a X.env), (false, eval b X.env)] := by rfl) (hs2 : starEach [b] X.env = [(false, eval b X.env)] := by rfl) : RI X W tg (.Call (.Name "range" p) [a, b] [] pos) (fIt sRng2 fs) :=
  weakPI (pi_range2 (C.glo j _ hj).1 (C.blt 1 _ rfl) ha hs hs2) fun σ H Q q => by
    obtain ⟨w, env, S, hE, s, q⟩ := q
    refine ⟨w, env, S, hE, s, rd_bind q fun ys S1 w1 vs H1 l1 s1 r1 q1 => ?_⟩
    unfold sRng2 at q1
    split at q1
    · split at q1
      · rename_i hk
        obtain ⟨v, u, rfl, r, r'⟩ := r1.two
        cases r; cases r'
        have h1 := of_decide_eq_true hk.1
        have h2 := of_decide_eq_true hk.2
        exact ⟨_, _, rfl, ⟨h1.1, h1.2, h2.1, h2.2⟩, rd_ok q1 s1 (good_rng _ _)⟩
      · exact q1.elim
    · exact q1.elim
/-- lo, lo + c, .. (n of them) -/
def rngC (lo c : Int) (n : Nat) : List D := (List.range n).map fun (i : Nat) => D.int (lo + i * c)
@[simp] theorem rngC_len (lo c : Int) (n : Nat) : (rngC lo c n).length = n := by simp [rngC]
theorem good_rngC {K : PySem.W.Frag} {F : Hp} (lo c : Int) (n : Nat) : Good K F (Itc lo c n) (rngC lo c n) := by
  intro w S H i l s
  refine ⟨fun e => ?_, fun d e => ?_⟩
  · show n ≤ i
    rw [e, rngC_len]; exact Nat.le_refl _
  · have hi : i < n := by have := (List.getElem?_eq_some_iff.mp e).1; simpa using this
    unfold rngC at e
    rw [List.getElem?_map, List.getElem?_range hi] at e
    have e' := (Option.some.inj e).symm
    subst e'
    refine ⟨hi, fun z H' hy => ?_⟩
    obtain ⟨rfl, rfl⟩ := hy
    exact ⟨w.F, .refl _, s, .int _⟩
/-- downwards by ones -/
def sRng3 : List Y → Sto → Res (List D)
  | [.v (.int i), .v (.int j), .v (.int (-1))], S => if okR i = true ∧ okR j = true then .ok (rngC i (-1) (i - j).toNat) S else .bad
  | _, _ => .bad
theorem ri_rng3 (C : Ok X W k vl wl gl) (j : Nat) (ha : RA X W [a, b, c] fs) (hj : gl[j]? = some "range" := by rfl) (hs : starEach [a, b, c] X.env = (false, eval a X.env) :: starEach [b, c] X.env := by rfl) (hpl : (backTo pos (starEach [b, c] X.env)).any (·.1) = false := by rfl) : RI X W tg (.Call (.Name "range" p) [a, b, c] [] pos) (fIt sRng3 fs) :=
  weakPI (pi_range3 (C.glo j _ hj).1 (C.blt 1 _ rfl) ha hs hpl) fun σ H Q q => by
    obtain ⟨w, env, S, hE, s, q⟩ := q
    refine ⟨w, env, S, hE, s, rd_bind q fun ys S1 w1 vs H1 l1 s1 r1 q1 => ?_⟩
    unfold sRng3 at q1
    split at q1
    · split at q1
      · rename_i hk
        cases r1 with
        | cons r rr =>
          obtain ⟨v, u, rfl, r', r''⟩ := rr.two
          cases r; cases r'; cases r''
          have h1 := of_decide_eq_true hk.1
          have h2 := of_decide_eq_true hk.2
          exact ⟨_, _, _, _, rfl, RgC.neg h1.1 h1.2 h2.1 h2.2, rd_ok q1 s1 (good_rngC _ _ _)⟩
      · exact q1.elim
    · exact q1.elim
/-- counted -/
def enumL : Nat → List D → List D
  | _, [] => []
  | i, d :: ds => .tup [.int i, d] :: enumL (i + 1) ds
@[simp] theorem enumL_len : ∀ (i : Nat) (ds : List D), (enumL i ds).length = ds.length
  | _, [] => rfl
  | i, _ :: ds => congrArg (· + 1) (enumL_len (i + 1) ds)
theorem enumL_get : ∀ {k : Nat} {ds : List D} {i : Nat} {d : D}, (enumL k ds)[i]? = some d → ∃ c, ds[i]? = some c ∧ d = .tup [.int ((k + i : Nat) : Int), c]
  | _, [], _, _, e => by simp [enumL] at e
  | k, d :: ds, 0, _, e => by simp [enumL] at e; exact ⟨d, rfl, by simp [← e]⟩
  | k, _ :: ds, i + 1, _, e => by
    obtain ⟨c, h1, h2⟩ := enumL_get (k := k + 1) (ds := ds) (i := i) (by simpa [enumL] using e)
    refine ⟨c, by simpa using h1, ?_⟩
    rw [h2]
    congr 4
    omega
theorem new_tupF {K : PySem.W.Frag} {w : Wd} {S : Sto} {H : Hp} (s : Sim K w S H) {T : Addr} {xs : List V} {ds : List D} (hT : H T = none) (r : RpL K w.F ds xs) :
    ∃ F', Le w.F F' ∧ Sim K { w with F := F' } S (upd H T (.tup xs)) ∧ Rp K F' (.tup ds) (.ref T) :=
  ⟨upd w.F T (.tup xs), le_upd (s.freshF hT), s.newF hT, Rp.tup (.inl (.inl upd_same)) (r.mono (le_upd (s.freshF hT)))⟩
theorem good_enum {K : PySem.W.Frag} {F : Hp} {t : Bool} {a : Addr} {xs : List V} {ds : List D} (h : SQ K F t a xs) (r : RpL K F ds xs) : Good K F (ItE K t a) (enumL 0 ds) := by
  intro w S H i l s
  have hq := s.sq (l.sq h)
  have hl := r.length
  refine ⟨fun e => ⟨xs, hq, by rw [e, enumL_len]; omega⟩, fun d e => ?_⟩
  obtain ⟨c, e0, rfl⟩ := enumL_get e
  obtain ⟨x, e1, r1⟩ := r.get e0
  refine ⟨⟨xs, x, hq, e1⟩, fun z H' hy => ?_⟩
  obtain ⟨T, x', rfl, hT, rfl, fz⟩ := hy
  have ez : x' = x := Option.some.inj ((fz xs hq).symm.trans e1)
  subst ez
  refine new_tupF s hT (.cons ?_ (.cons (r1.mono l) .nil))
  rw [Nat.zero_add]; exact .int _
def itS1 (g : List D → List D) : List Y → Sto → Res (List D)
  | [y], S => (itS y S).bind fun ds S1 => .ok (g ds) S1
  | _, _ => .bad
theorem ri_enum {elts : List Expr} {kk : Nat} {tpos : Pos} (C : Ok X W k vl wl gl) (j : Nat) (ha : RA X W [a] fs) (hj : gl[j]? = some "enumerate" := by rfl) (hs : starEach [a] X.env = [(false, eval a X.env)] := by rfl) : RI X W (.Tuple elts kk tpos) (.Call (.Name "enumerate" p) [a] [] pos) (fIt (itS1 (enumL 0)) fs) :=
  weakPI (pi_enumX (C.glo j _ hj).1 (C.blt 17 _ rfl) ha hs) fun σ H Q q => by
    obtain ⟨w, env, S, hE, s, q⟩ := q
    refine ⟨w, env, S, hE, s, rd_bind q fun ys S1 w1 vs H1 l1 s1 r1 q1 => ?_⟩
    unfold itS1 at q1
    split at q1
    · rename_i y
      obtain ⟨v, rfl, r⟩ := r1.one
      rcases itS_cases y S1 with ⟨ds, e1⟩ | e1
      · rw [e1] at q1
        obtain ⟨_, t, a, xs, rfl, h1, h2⟩ := itS_of r e1
        exact ⟨t, a, xs, rfl, s1.sq h1, rd_ok q1 s1 (good_enum h1 h2)⟩
      · rw [e1] at q1; exact q1.elim
    · exact q1.elim
/-- in pairs -/
def zipL : List D → List D → List D
  | a :: as, b :: bs => .tup [a, b] :: zipL as bs
  | _, _ => []
@[simp] theorem zipL_len : ∀ (as bs : List D), (zipL as bs).length = min as.length bs.length
  | [], bs => by simp [zipL]
  | _ :: _, [] => by simp [zipL]
  | _ :: as, _ :: bs => by simp [zipL, zipL_len as bs]
theorem zipL_get : ∀ {as bs : List D} {i : Nat} {d : D}, (zipL as bs)[i]? = some d → ∃ x y, as[i]? = some x ∧ bs[i]? = some y ∧ d = .tup [x, y]
  | [], _, _, _, e => by simp [zipL] at e
  | _ :: _, [], _, _, e => by simp [zipL] at e
  | a :: as, b :: bs, 0, _, e => by simp [zipL] at e; exact ⟨a, b, rfl, rfl, e.symm⟩
  | a :: as, b :: bs, i + 1, _, e => by
    obtain ⟨x, y, h1, h2, h3⟩ := zipL_get (as := as) (bs := bs) (i := i) (by simpa [zipL] using e)
    exact ⟨x, y, by simpa using h1, by simpa using h2, h3⟩
theorem good_zip {K : PySem.W.Frag} {F : Hp} {t1 t2 : Bool} {a b : Addr} {xs ys : List V} {ds es : List D} (h1 : SQ K F t1 a xs) (r1 : RpL K F ds xs) (h2 : SQ K F t2 b ys) (r2 : RpL K F es ys) : Good K F (ItZ K t1 t2 a b) (zipL ds es) := by
  intro w S H i l s
  have hq1 := s.sq (l.sq h1)
  have hq2 := s.sq (l.sq h2)
  have hl1 := r1.length
  have hl2 := r2.length
  refine ⟨fun e => ?_, fun d e => ?_⟩
  · rw [zipL_len] at e
    exact ⟨xs, ys, hq1, hq2, by omega, by omega, by omega⟩
  · obtain ⟨c1, c2, e1, e2, rfl⟩ := zipL_get e
    obtain ⟨x1, g1, q1⟩ := r1.get e1
    obtain ⟨x2, g2, q2⟩ := r2.get e2
    refine ⟨⟨xs, ys, x1, x2, hq1, hq2, g1, g2⟩, fun z H' hy => ?_⟩
    obtain ⟨T, y1, y2, rfl, hT, rfl, f1, f2⟩ := hy
    have ez1 : y1 = x1 := Option.some.inj ((f1 xs hq1).symm.trans g1)
    have ez2 : y2 = x2 := Option.some.inj ((f2 ys hq2).symm.trans g2)
    subst ez1 ez2
    exact new_tupF s hT (.cons (q1.mono l) (.cons (q2.mono l) .nil))
def itS2 (g : List D → List D → List D) : List Y → Sto → Res (List D)
  | [y, z], S => (itS y S).bind fun ds S1 => (itS z S1).bind fun es S2 => .ok (g ds es) S2
  | _, _ => .bad
theorem ri_zip {elts : List Expr} {kk : Nat} {tpos : Pos} (C : Ok X W k vl wl gl) (j : Nat) (ha : RA X W [a, b] fs) (hj : gl[j]? = some "zip" := by rfl) (hs : starEach [a, b] X.env = (false, eval a X.env) :: starEach [b] X.env := by rfl) (hpl : (backTo pos (starEach [b] X.env)).any (·.1) = false := by rfl) :
    RI X W (.Tuple elts kk tpos) (.Call (.Name "zip" p) [a, b] [] pos) (fIt (itS2 zipL) fs) :=
  weakPI (pi_zipX (C.glo j _ hj).1 (C.blt 16 _ rfl) ha hs hpl) fun σ H Q q => by
    obtain ⟨w, env, S, hE, s, q⟩ := q
    refine ⟨w, env, S, hE, s, rd_bind q fun ys S1 w1 vs H1 l1 s1 r1 q1 => ?_⟩
    unfold itS2 at q1
    split at q1
    · rename_i y z
      obtain ⟨v, u, rfl, r, r'⟩ := r1.two
      rcases itS_cases y S1 with ⟨ds, e1⟩ | e1
      · rw [e1] at q1
        rcases itS_cases z S1 with ⟨es, e2⟩ | e2
        · simp only [Res.bind] at q1
          rw [e2] at q1
          obtain ⟨_, t1, a, xs, rfl, h1, h2⟩ := itS_of r e1
          obtain ⟨_, t2, b, ys, rfl, h3, h4⟩ := itS_of r' e2
          exact ⟨t1, t2, a, b, xs, ys, rfl, s1.sq h1, s1.sq h3, rd_ok q1 s1 (good_zip h1 h2 h3 h4)⟩
        · simp only [Res.bind] at q1
          rw [e2] at q1; exact q1.elim
      · rw [e1] at q1; exact q1.elim
    · exact q1.elim

/-- a thing of the store, frozen for good -/
def frz : Y → Sto → Res Y
  | .v d, S => .ok (.v d) S
  | .ref n, S => match S[n]? with
    | some (.lst ds) => .ok (.v (.lst ds)) (S.set n .gone)
    | some (.dic ks vs) => .ok (.v (.dic ks vs)) (S.set n .gone)
    | _ => .bad
def fFrz (f : FE Y) : FE Y := fun env S => (f env S).bind frz
theorem frz_read {K : PySem.W.Frag} {mg : Str → Option Value} {E : XK} {w : Wd} {S : Sto} {H : Hp} {y : Y} {v : V} {Q : VK} (s : Sim K w S H) (r : RY K w y v) (h : rd K mg E (frz y S) w (RY K) Q) : Q v H := by
  cases y with
  | v d => exact rd_ok h s r
  | ref n =>
    unfold frz at h
    dsimp only at h
    split at h
    · rename_i ds e0
      have t0 : thaw [.ref n] S = some ([.lst ds], S.set n .gone) := by simp [thaw, e0]
      obtain ⟨w', l, s', q⟩ := thaw_ok s (.cons r .nil) t0
      cases q with
      | cons q _ => exact rd_okLe h l s' q
    · rename_i ks vs e0
      have t0 : thaw [.ref n] S = some ([.dic ks vs], S.set n .gone) := by simp [thaw, e0]
      obtain ⟨w', l, s', q⟩ := thaw_ok s (.cons r .nil) t0
      cases q with
      | cons q _ => exact rd_okLe h l s' q
    · exact h.elim
theorem re_frz (ha : RE X W a f) : RE X W a (fFrz f) := weakPE ha fun σ H Q q => by
  obtain ⟨w, env, S, hE, s, q⟩ := q
  refine ⟨w, env, S, hE, s, rd_bind q fun y S1 w1 v H1 l1 s1 r1 q1 => frz_read s1 r1 q1⟩
end

/-! ### targets -/
inductive Tg where
  | nm (i : Nat)
  | tp (ts : List Tg)
mutual
def Tg.asg : Tg → D → Ev → Option Ev
  | .nm i, d, env => some (env.set i (some (.v d)))
  | .tp ts, .tup ds, env => Tg.asgL ts ds env
  | .tp _, _, _ => none
def Tg.asgL : List Tg → List D → Ev → Option Ev
  | [], [], env => some env
  | t :: ts, d :: ds, env => match Tg.asg t d env with
    | some env1 => Tg.asgL ts ds env1
    | none => none
  | _, _, _ => none
end
mutual
def Tg.slots : Tg → List Nat
  | .nm i => [i]
  | .tp ts => Tg.slotsL ts
def Tg.slotsL : List Tg → List Nat
  | [] => []
  | t :: ts => Tg.slots t ++ Tg.slotsL ts
end
mutual
def Tg.rd (K : PySem.W.Frag) : Tg → TG
  | .nm i => gName i
  | .tp ts => gTup K ts.length (Tg.rdL K ts)
def Tg.rdL (K : PySem.W.Frag) : List Tg → TGs
  | [] => gNil
  | t :: ts => gCons (Tg.rd K t) (Tg.rdL K ts)
end
abbrev RGt (X : Cx) (e : Expr) (t : Tg) : Prop := PG X e (t.rd X.K)
abbrev RGs (X : Cx) (es : List Expr) (ts : List Tg) : Prop := PGs X es (Tg.rdL X.K ts)
section
variable {X : Cx} {W : WX} {k : Nat} {vl wl : List (Nat × Str)} {gl : List Str} {x : Str} {pos : Pos}
theorem rg_nm (C : Ok X W k vl wl gl) (j : Nat) {i : Nat} (hj : wl[j]? = some (i, x) := by rfl) : RGt X (.Name x pos) (.nm i) := by
  obtain ⟨h1, h2, h3⟩ := C.sto j i x hj
  exact pg_name C.nd h1 h2 h3
theorem rg_nil : RGs X [] [] := pgs_nil
theorem rg_cons {e : Expr} {es : List Expr} {t : Tg} {ts : List Tg} (h1 : RGt X e t) (h2 : RGs X es ts) (hs : (assignEach (e :: es) X.env).map (·.2) = assign e X.env :: (assignEach es X.env).map (·.2) := by rfl) : RGs X (e :: es) (t :: ts) := pgs_cons h1 h2 hs
theorem rg_tp (C : Ok X W k vl wl gl) {es : List Expr} {kk : Nat} {ts : List Tg} (h : RGs X es ts) (hn : (assignEach es X.env).length = ts.length := by rfl) (hst : (assignEach es X.env).findIdx? (·.1) = none := by rfl) : RGt X (.Tuple es kk pos) (.tp ts) :=
  pg_tup C.calm h hn hst
end
theorem wipe_get {σ : L2.St} {i : Nat} : ∀ {vs : List Nat}, i ∈ vs → i < σ.length → (wipe σ vs)[i]? = some none
  | v :: vs, h, hl => by
    unfold wipe
    by_cases e : v = i
    · subst e
      exact List.getElem?_set_self (by rw [wipe_length]; exact hl)
    · rw [List.getElem?_set_ne e]
      exact wipe_get ((List.mem_cons.mp h).resolve_left fun q => e q.symm) hl
theorem wipe_set {σ : L2.St} {i : Nat} {o : Option V} {vs : List Nat} (h : i ∈ vs) : wipe (σ.set i o) vs = wipe σ vs := by
  apply List.ext_getElem?
  intro j
  by_cases hj : j ∈ vs
  · by_cases hl : j < σ.length
    · rw [wipe_get hj hl, wipe_get hj (by simpa using hl)]
    · rw [List.getElem?_eq_none (by rw [wipe_length]; simpa using hl), List.getElem?_eq_none (by rw [wipe_length]; simpa using hl)]
  · rw [wipe_out hj, wipe_out hj, List.getElem?_set_ne (by intro q; exact hj (by rw [← q]; exact h))]
mutual
theorem asg_ok {K : PySem.W.Frag} {w : Wd} {S : Sto} {H : Hp} (s : Sim K w S H) {vs : List Nat} : ∀ (t : Tg) {d : D} {env env' : Ev} {σ : L2.St} {v : V} {Q : L2.St → Hp → Prop}, EnvR K w env σ → Rp K w.F d v → t.asg d env = some env' → (∀ i ∈ t.slots, i ∈ vs) →
    (∀ σ', EnvR K w env' σ' → wipe σ' vs = wipe σ vs → Q σ' H) → t.rd K v σ H Q
  | .nm i, d, env, env', σ, v, Q, hE, r, e, hv, q => by
    simp only [Tg.asg] at e
    cases e
    simp only [Tg.rd]
    exact q _ (hE.set i r) (wipe_set (hv i (by simp [Tg.slots])))
  | .tp ts, d, env, env', σ, v, Q, hE, r, e, hv, q => by
    cases d with
    | tup ds =>
      simp only [Tg.asg] at e
      simp only [Tg.rd]
      cases r with
      | tup h1 h2 =>
        have hl : ds.length = ts.length := asgL_len ts e
        exact ⟨_, _, rfl, s.sqT h1, by rw [← h2.length]; exact hl, asgL_ok s ts hE h2 e (fun i hi => hv i (by simpa [Tg.slots] using hi)) q⟩
    | _ => simp [Tg.asg] at e
theorem asgL_ok {K : PySem.W.Frag} {w : Wd} {S : Sto} {H : Hp} (s : Sim K w S H) {vs : List Nat} : ∀ (ts : List Tg) {ds : List D} {env env' : Ev} {σ : L2.St} {xs : List V} {Q : L2.St → Hp → Prop}, EnvR K w env σ → RpL K w.F ds xs → Tg.asgL ts ds env = some env' → (∀ i ∈ Tg.slotsL ts, i ∈ vs) →
    (∀ σ', EnvR K w env' σ' → wipe σ' vs = wipe σ vs → Q σ' H) → Tg.rdL K ts xs σ H Q
  | [], ds, env, env', σ, xs, Q, hE, r, e, hv, q => by
    cases ds with
    | nil =>
      simp only [Tg.asgL] at e
      cases e
      cases r
      simp only [Tg.rdL]
      exact ⟨rfl, q σ hE rfl⟩
    | cons d ds => simp [Tg.asgL] at e
  | t :: ts, ds, env, env', σ, xs, Q, hE, r, e, hv, q => by
    cases ds with
    | nil => simp [Tg.asgL] at e
    | cons d ds =>
      simp only [Tg.asgL] at e
      split at e
      · rename_i env1 e1
        cases r with
        | cons r1 r2 =>
          simp only [Tg.rdL]
          refine ⟨_, _, rfl, asg_ok s t hE r1 e1 (fun i hi => hv i (by simp [Tg.slotsL, hi])) fun σ1 hE1 hw1 => ?_⟩
          exact asgL_ok s ts hE1 r2 e (fun i hi => hv i (by simp [Tg.slotsL, hi])) fun σ2 hE2 hw2 => q σ2 hE2 (hw2.trans hw1)
      · cases e
theorem asgL_len : ∀ (ts : List Tg) {ds : List D} {env env' : Ev}, Tg.asgL ts ds env = some env' → ds.length = ts.length
  | [], [], _, _, _ => rfl
  | [], _ :: _, _, _, e => by simp [Tg.asgL] at e
  | _ :: _, [], _, _, e => by simp [Tg.asgL] at e
  | t :: ts, d :: ds, _, _, e => by
    simp only [Tg.asgL] at e
    split at e
    · rw [List.length_cons, List.length_cons, asgL_len ts e]
    · cases e
end
end Sg

/-! Q4c: contexts of blocks, comprehensions -/
namespace Sg
open PySem PySem.Spec PyProof.Rows L2

/-! ### contexts -/
def visC (N : List Str) (sc : Scope) (vl : List (Nat × Str)) : Bool := vl.all fun p => decide (N[p.1]? = some p.2) && (match sc.names.lookup p.2 with | some .local => true | some .cell => true | some .free => true | _ => false) && !(p.2 == ("__debug__" : Str)) && !(p.2 == ("__classdict__" : Str))
def stoC (N : List Str) (fn : Str → Bool) (sc : Scope) (wl : List (Nat × Str)) : Bool := wl.all fun p => decide (N[p.1]? = some p.2) && (match sc.names.lookup p.2 with | some .local => true | some .cell => fn p.2 | _ => false)
def gloC (sc : Scope) (gl : List Str) : Bool := gl.all fun x => (match sc.names.lookup x with | some .globalImplicit => true | _ => false) && !(x == ("__debug__" : Str)) && !decide (x = "__name__")
def ctxC (N : List Str) (fn : Str → Bool) (sc : Scope) (vl wl : List (Nat × Str)) (gl : List Str) : Bool := visC N sc vl && stoC N fn sc wl && gloC sc gl
theorem mem_get {α : Type} {l : List α} {j : Nat} {x : α} (h : l[j]? = some x) : x ∈ l := List.mem_of_getElem? h
theorem ok_of {X : Cx} {W : WX} {k : Nat} {vl wl : List (Nat × Str)} {gl : List Str} {N : List Str} {sc : Scope} {fn : Str → Bool} (tk : Takes X W) (hr : Room k X.A) (calm : X.calm = true) (nd : X.N.Nodup) (eN : X.N = N) (es : X.env.scope = sc) (ef : ∀ x, fn x = true → X.fn x = true) (h : ctxC N fn sc vl wl gl = true)
    (blt : ∀ (j : Nat) (x : Str), bls[j]? = some x → X.mg x = none) : Ok X W k vl wl gl := by
  unfold ctxC at h
  simp only [Bool.and_eq_true] at h
  obtain ⟨⟨h1, h2⟩, h3⟩ := h
  unfold visC at h1; unfold stoC at h2; unfold gloC at h3
  rw [List.all_eq_true] at h1 h2 h3
  refine ⟨tk, hr, calm, nd, fun j i x e => ?_, fun j i x e => ?_, fun j x e => ?_, blt⟩
  · have q := h1 _ (mem_get e)
    simp only [Bool.and_eq_true, decide_eq_true_eq, Bool.not_eq_true'] at q
    obtain ⟨⟨⟨q1, q2⟩, q3⟩, q4⟩ := q
    refine ⟨by rw [eN]; exact q1, ?_, q3, q4⟩
    unfold Vis
    rw [es]
    split at q2
    · exact .inl (by assumption)
    · exact .inr (.inl (by assumption))
    · exact .inr (.inr (by assumption))
    · cases q2
  · have q := h2 _ (mem_get e)
    simp only [Bool.and_eq_true, decide_eq_true_eq] at q
    obtain ⟨q1, q2⟩ := q
    refine ⟨by rw [eN]; exact q1, ?_⟩
    unfold L2.Loc
    rw [es]
    split at q2
    · exact ⟨.inl (by assumption), .inr (by assumption)⟩
    · exact ⟨.inr (by assumption), .inl (ef x q2)⟩
    · cases q2
  · have q := h3 _ (mem_get e)
    simp only [Bool.and_eq_true, Bool.not_eq_true', decide_eq_false_iff_not] at q
    obtain ⟨⟨q1, q2⟩, q3⟩ := q
    refine ⟨?_, q2, q3⟩
    show X.env.scope.names.lookup x = some .globalImplicit
    rw [es]
    split at q1
    · assumption
    · cases q1
def W0 : WX := fun _ _ _ _ => False
theorem takes0 {X : Cx} : Takes X W0 := fun u s' x => by
  obtain ⟨a, B, sI, pins, σ, H, cls, d, e, I, nb, up, sky, na, os, ag, w⟩ := x
  exact w.elim
abbrev Bk (X : Cx) (scope : Scope) (s : Shared) (H : Hp) (C : Addr) (cl : List (Str × Addr)) (fp : List Addr) : Cx := X.blk s H scope (compEnvC scope cl C X.env) fp
theorem Ok.blk {X : Cx} {W : WX} {k : Nat} {vl wl vl' wl' : List (Nat × Str)} {gl gl' : List Str} (O : Ok X W k vl wl gl) {N : List Str} {sc scope : Scope} (eN : X.N = N) (es : X.env.scope = sc) (h : ctxC N (fun x => scope.names.lookup x == some .cell) (relS scope sc) vl' wl' gl' = true)
    (s : Shared) (H : Hp) (C : Addr) (cl : List (Str × Addr)) (fp : List Addr) : Ok (Bk X scope s H C cl fp) W0 k vl' wl' gl' :=
  ok_of (N := N) (sc := relS scope sc) (fn := fun x => scope.names.lookup x == some .cell) takes0 O.hr O.calm O.nd eN (by rw [← es]; rfl) (fun _ h => h) h O.blt

/-! ### comprehensions -/
@[simp] def Res.bindX {α β : Type} : Res α → (α → Sto → Res β) → Res β
  | .ok a S, f => f a S
  | _, _ => .bad
theorem rd_bindX {α β γ δ : Type} {K : PySem.W.Frag} {mg : Str → Option Value} {E E' : XK} {w : Wd} {r : Res α} {g : α → Sto → Res γ} {R1 : Wd → α → β → Prop} {R2 : Wd → γ → δ → Prop} {Q1 : β → Hp → Prop} {Q : δ → Hp → Prop} (h : rd K mg E (r.bindX g) w R2 Q)
    (k : ∀ a S' w' v H', w.le w' → Sim K w' S' H' → R1 w' a v → rd K mg E (g a S') w' R2 Q → Q1 v H') : rd K mg E' r w R1 Q1 := by
  cases r with
  | ok a S => exact fun w' v H' l s q => k a S w' v H' l s q (rd_le l h)
  | exc x S => exact h.elim
  | bad => exact h
def wipeE : List Nat → Ev → Ev
  | [], env => env
  | v :: vs, env => (wipeE vs env).set v none
theorem EnvR.wipe {K : PySem.W.Frag} {w : Wd} {env : Ev} {σ : L2.St} (h : EnvR K w env σ) : ∀ vs : List Nat, EnvR K w (wipeE vs env) (L2.wipe σ vs)
  | [] => h
  | v :: vs => by
    have ih := h.wipe vs
    refine ⟨by simp [wipeE, L2.wipe, ih.len], fun j z e => ?_⟩
    unfold wipeE at e
    unfold L2.wipe
    by_cases hj : v = j
    · subst hj
      by_cases hi : v < (wipeE vs env).length
      · rw [List.getElem?_set_self hi] at e; cases e
      · rw [List.getElem?_eq_none (by simpa using hi)] at e; cases e
    · rw [List.getElem?_set_ne hj] at e
      rw [List.getElem?_set_ne hj]
      exact ih.at_ j z e
def thaw1 (y : Y) (S : Sto) : Res D := match thaw [y] S with
  | some ([d], S1) => .ok d S1
  | _ => .bad
@[simp] theorem thaw1_v (d : D) (S : Sto) : thaw1 (.v d) S = .ok d S := by simp [thaw1, thaw]
theorem thaw1_ok {K : PySem.W.Frag} {w : Wd} {S S1 : Sto} {H : Hp} {y : Y} {v : V} {d : D} (s : Sim K w S H) (r : RY K w y v) (e : thaw1 y S = .ok d S1) : ∃ w', w.le w' ∧ Sim K w' S1 H ∧ Rp K w'.F d v := by
  unfold thaw1 at e
  split at e
  · rename_i d' S1' e1
    cases e
    obtain ⟨w', l, s', q⟩ := thaw_ok s (.cons r .nil) e1
    cases q with
    | cons q _ => exact ⟨w', l, s', q⟩
  · cases e
theorem thaw1_cases (y : Y) (S : Sto) : (∃ d S1, thaw1 y S = .ok d S1) ∨ thaw1 y S = .bad := by
  unfold thaw1
  split
  · exact .inl ⟨_, _, rfl⟩
  · exact .inr rfl
def lcD (t : Tg) (ft : FE Bool) (fe : FE Y) (env : Ev) : List D → List D → Sto → Res (List D)
  | [], acc, S => .ok acc S
  | d :: ds, acc, S => match t.asg d env with
    | none => .bad
    | some env1 => (ft env1 S).bindX fun b S1 => if b = true then (fe env1 S1).bindX fun y S2 => (thaw1 y S2).bindX fun d' S3 => if okLen (acc.length + 1) = true then lcD t ft fe env ds (acc ++ [d']) S3 else .bad else lcD t ft fe env ds acc S1
def fLc (m : Bool) (vs : List Nat) (fi : FE (List D)) (t : Tg) (ft : FE Bool) (fe : FE Y) : FE Y := fun env S => (fi env S).bind fun ds S1 => (lcD t ft fe (wipeE vs env) ds [] S1).bindX fun out S2 => newL m out S2
def fYes : FE Bool := fun _ S => .ok true S
section
variable {X : Cx} {W : WX} {k : Nat} {vl wl : List (Nat × Str)} {gl : List Str} {e : Expr} {es : List Expr} {fs : FE (List Y)} {pos p : Pos} {x : Str}
abbrev RTs (X : Cx) (W : WX) (es : List Expr) (f : FE Bool) : Prop := PTs X es (tT X W f)
theorem rts_nil : RTs X W [] fYes := ⟨fun pins s σ H Q I q => by
  obtain ⟨w, env, S, hE, s', q⟩ := q
  exact pts_nil.run pins s σ H Q I (rd_ok q s' rfl)⟩
theorem rts_one {c : Expr} {f : FE Bool} (h : RT X W c f) : RTs X W [c] f := pts_one h
theorem RpL.snoc {K : PySem.W.Frag} {F : Hp} {ds : List D} {vs : List V} {d : D} {v : V} (r : RpL K F ds vs) (q : Rp K F d v) : RpL K F (ds ++ [d]) (vs ++ [v]) := r.append (.cons q .nil)
end
theorem EnvR.to {K : PySem.W.Frag} {w w' : Wd} {env : Ev} {σ : L2.St} (h : EnvR K w env σ) (lF : Le w.F w'.F) (lio : ∃ more, w'.io = w.io ++ more) : EnvR K w' env σ := by
  have h1 : EnvR K { w with X := w'.X } env σ := ⟨h.len, fun i y e => by
    obtain ⟨v, e1, r⟩ := h.at_ i y e
    refine ⟨v, e1, ?_⟩
    cases y with
    | v d => exact r
    | ref n => exact r⟩
  exact EnvR.mono (w := { w with X := w'.X }) ⟨lF, lio, rfl⟩ h1
theorem RY.to {K : PySem.W.Frag} {w w' : Wd} {y : Y} {v : V} (h : RY K w y v) (lF : Le w.F w'.F) (lio : ∃ more, w'.io = w.io ++ more) : RY K w' y v := by
  cases y with
  | v d => exact Rp.mono lF h
  | ref n =>
    obtain ⟨a, e, z⟩ := h
    obtain ⟨m, q⟩ := lio
    exact ⟨a, by rw [q, List.getElem?_append_left (List.getElem?_eq_some_iff.mp e).1]; exact e, z⟩
theorem ORep.mv {K : PySem.W.Frag} {w w' : Wd} (lF : Le w.F w'.F) {H H' : Hp} {a : Addr} {o : O} (hH : ∀ u, H a = some u → H' a = some u) (h : ORep K w H a o) : ORep K w' H' a o := by
  cases o with
  | lst ds => obtain ⟨xs, h1, h2⟩ := h; exact ⟨xs, hH _ h1, h2.mono lF⟩
  | dic ks vs => obtain ⟨xs, h1, h2⟩ := h; exact ⟨xs, hH _ h1, h2.mono lF⟩
  | gone => trivial
  | _ => exact h.elim
section
variable {K : PySem.W.Frag} {w : Wd} {S : Sto} {H : Hp}
theorem Sim.hold (s : Sim K w S H) {A : Addr} (hA : H A = none) (o : HO) : Sim K { w with X := upd w.X A o } S (upd H A o) := by
  have j := s.junk (o := o) hA
  refine ⟨j.len, j.fr, fun n o' a e1 e2 gn => ?_, j.inj, fun a o' e => ?_⟩
  · obtain ⟨r, z, f, x⟩ := j.ob n o' a e1 e2 gn
    have ne : a ≠ A := fun q => by
      subst q
      have := s.live hA e2
      rw [e1] at this; exact gn (Option.some.inj this)
    exact ⟨r.mv (.refl _) fun _ h => h, z, f, by show upd w.X A o a = none; rw [upd_ne ne]; exact x⟩
  · have e' : upd w.X A o a = some o' := e
    by_cases ha : a = A
    · subst ha
      rw [upd_same] at e'; cases e'
      exact ⟨upd_same, s.freshF hA⟩
    · rw [upd_ne ha] at e'
      exact j.ex a o' e'
theorem Sim.setX {X0 : Hp} {A : Addr} {o o' : HO} (s : Sim K { w with X := upd X0 A o } S H) : Sim K { w with X := upd X0 A o' } S (upd H A o') := by
  have hA : H A = some o ∧ w.F A = none := s.ex A o upd_same
  refine ⟨s.len, fun a u e => ?_, fun n t a e1 e2 gn => ?_, s.inj, fun a u e => ?_⟩
  · have ne : a ≠ A := ne_of_none e hA.2
    rw [upd_ne ne]; exact s.fr a u e
  · obtain ⟨r, ⟨u, z⟩, f, x⟩ := s.ob n t a e1 e2 gn
    have ne : a ≠ A := fun q => by
      subst q
      have x' : upd X0 a o a = none := x
      rw [upd_same] at x'; cases x'
    refine ⟨r.mv (.refl _) fun v h => by rw [upd_ne ne]; exact h, ⟨u, by rw [upd_ne ne]; exact z⟩, f, ?_⟩
    have x' : upd X0 A o a = none := x
    show upd X0 A o' a = none
    rw [upd_ne ne] at x' ⊢; exact x'
  · have e' : upd X0 A o' a = some u := e
    by_cases ha : a = A
    · subst ha
      rw [upd_same] at e'; cases e'
      exact ⟨upd_same, hA.2⟩
    · rw [upd_ne ha] at e'
      obtain ⟨h1, h2⟩ := s.ex a u (by show upd X0 A o a = some u; rw [upd_ne ha]; exact e')
      exact ⟨by rw [upd_ne ha]; exact h1, h2⟩
/-- what the context held becomes nobody's -/
theorem Sim.drop {X0 : Hp} {A : Addr} {o : HO} (hX0 : X0 A = none) (s : Sim K { w with X := upd X0 A o } S H) : Sim K { w with X := X0 } S H ∧ H A = some o ∧ w.F A = none ∧ ∀ n : Nat, w.io[n]? = some A → S[n]? = some .gone := by
  have hA : H A = some o ∧ w.F A = none := s.ex A o upd_same
  refine ⟨⟨s.len, s.fr, fun n t a e1 e2 gn => ?_, s.inj, fun a u e => ?_⟩, hA.1, hA.2, fun n e => ?_⟩
  · obtain ⟨r, z, f, x⟩ := s.ob n t a e1 e2 gn
    have x' : upd X0 A o a = none := x
    refine ⟨r.mv (.refl _) fun _ h => h, z, f, ?_⟩
    by_cases ha : a = A
    · subst ha; exact hX0
    · rw [upd_ne ha] at x'; exact x'
  · have e0 : X0 a = some u := e
    have ne : a ≠ A := ne_of_none e0 hX0
    exact s.ex a u (by show upd X0 A o a = some u; rw [upd_ne ne]; exact e0)
  · have hl : n < S.length := by rw [← s.len]; exact (List.getElem?_eq_some_iff.mp e).1
    have e1 : S[n]? = some S[n] := List.getElem?_eq_getElem hl
    by_cases gg : S[n] = .gone
    · rw [e1, gg]
    · obtain ⟨_, _, _, x⟩ := s.ob n _ A e1 e gg
      have x' : upd X0 A o A = none := x
      rw [upd_same] at x'; cases x'
/-- an object that stands and is nobody's becomes a thing of the store -/
theorem Sim.adopt (s : Sim K w S H) {A : Addr} {o : HO} {t : O} (hA : H A = some o) (hF : w.F A = none) (hX : w.X A = none) (hs : ∀ n : Nat, w.io[n]? = some A → S[n]? = some .gone) (ht : ORep K w H A t) : Sim K { w with io := w.io ++ [A] } (S ++ [t]) H := by
  have hl := s.len
  refine ⟨by simp [hl], s.fr, fun n o' a e1 e2 gn => ?_, fun n m a e1 e2 g1 g2 => ?_, s.ex⟩
  · by_cases hn : n < S.length
    · rw [List.getElem?_append_left hn] at e1
      have e2' : (w.io ++ [A])[n]? = some a := e2
      rw [List.getElem?_append_left (by omega)] at e2'
      obtain ⟨r, z, f, x⟩ := s.ob n o' a e1 e2' gn
      exact ⟨r.mv (.refl _) fun _ h => h, z, f, x⟩
    · rw [List.getElem?_append_right (by omega)] at e1
      have hz : n - S.length = 0 := by
        by_cases q : n - S.length = 0
        · exact q
        · rw [List.getElem?_eq_none (by simp; omega)] at e1; cases e1
      rw [hz] at e1
      have e2' : (w.io ++ [A])[n]? = some a := e2
      rw [List.getElem?_append_right (by omega), hl, hz] at e2'
      simp at e1 e2'
      subst e1; subst e2'
      exact ⟨ht.mv (.refl _) fun _ h => h, ⟨o, hA⟩, hF, hX⟩
  · have gone : ∀ k : Nat, k < w.io.length → (w.io ++ [A])[k]? = some A → (S ++ [t])[k]? = some .gone := fun k hk e => by
      rw [List.getElem?_append_left hk] at e
      rw [List.getElem?_append_left (by omega)]
      exact hs k e
    have e1' : (w.io ++ [A])[n]? = some a := e1
    have e2' : (w.io ++ [A])[m]? = some a := e2
    have bn : n < w.io.length + 1 := by have := (List.getElem?_eq_some_iff.mp e1').1; simpa using this
    have bm : m < w.io.length + 1 := by have := (List.getElem?_eq_some_iff.mp e2').1; simpa using this
    have last : ∀ k : Nat, ¬ k < w.io.length → k < w.io.length + 1 → (w.io ++ [A])[k]? = some A := fun k h1 h2 => by
      have : k = w.io.length := by omega
      subst this; simp
    by_cases hn : n < w.io.length <;> by_cases hm : m < w.io.length
    · rw [List.getElem?_append_left hn] at e1'
      rw [List.getElem?_append_left hm] at e2'
      rw [List.getElem?_append_left (by omega)] at g1 g2
      exact s.inj n m a e1' e2' g1 g2
    · rw [last m hm bm] at e2'
      cases e2'
      exact absurd (gone n hn e1') g1
    · rw [last n hn bn] at e1'
      cases e1'
      exact absurd (gone m hm e2') g2
    · omega
/-- a list that nobody tells of comes out -/
theorem newL_out {mg : Str → Option Value} {E : XK} {m : Bool} {ds : List D} {Q : VK} {A : Addr} {xs : List V} (s : Sim K w S H) (hA : H A = some (.lst xs)) (hF : w.F A = none) (hX : w.X A = none) (hs : ∀ n : Nat, w.io[n]? = some A → S[n]? = some .gone) (r : RpL K w.F ds xs)
    (h : rd K mg E (newL m ds S) w (RY K) Q) : Q (.ref A) H := by
  unfold newL at h
  split at h
  · refine rd_okLe h .newO (s.adopt hA hF hX hs ⟨xs, hA, r⟩) ⟨A, ?_, rfl⟩
    show (w.io ++ [A])[S.length]? = some A
    rw [← s.len]; simp
  · exact rd_okLe h (.froze hF) (s.froze hA hF hX hs) (Rp.lst (.inl upd_same) (r.mono (le_upd hF)))
end
theorem wipe_wipe {σ : L2.St} (vs : List Nat) : L2.wipe (L2.wipe σ vs) vs = L2.wipe σ vs := by
  apply List.ext_getElem?
  intro j
  by_cases hj : j ∈ vs
  · by_cases hl : j < σ.length
    · rw [wipe_get hj hl, wipe_get hj (by rw [wipe_length]; exact hl)]
    · rw [List.getElem?_eq_none (by rw [wipe_length, wipe_length]; omega), List.getElem?_eq_none (by rw [wipe_length]; omega)]
  · rw [wipe_out hj]
/-- the state of a comprehension ahead of turn i: n turns are left -/
def LcI (K : PySem.W.Frag) (w1 : Wd) (A : Addr) (P : Wd → List D → Sto → Prop) (H : Hp) : Prop :=
  ∃ (w' : Wd) (S' : Sto) (acc : List D) (xs : List V), w1.le w' ∧ Sim K { w' with X := upd w1.X A (.lst xs) } S' H ∧ RpL K w'.F acc xs ∧ P w' acc S'
theorem LcI.out {K : PySem.W.Frag} {w1 : Wd} {A : Addr} {mg : Str → Option Value} {E : XK} {m : Bool} {Q : VK} {H : Hp} (hX : w1.X A = none) (h : LcI K w1 A (fun w' acc S' => rd K mg E (newL m acc S') w' (RY K) Q) H) : Q (.ref A) H := by
  obtain ⟨w', S', acc, xs, l', s', ra, q⟩ := h
  obtain ⟨s0, h1, h2, h3⟩ := s'.drop hX
  have ew : ({ w' with X := w1.X } : Wd) = w' := by rw [← l'.X]
  rw [ew] at s0
  exact newL_out s0 h1 h2 (by rw [l'.X]; exact hX) h3 ra q
/-- an element -/
theorem LcI.elt {K : PySem.W.Frag} {w1 : Wd} {A : Addr} {mg : Str → Option Value} {fe : FE Y} {env1 : Ev} {S' : Sto} {H : Hp} {P P' : Wd → List D → Sto → Prop} {σ2 : L2.St} {w' : Wd} {acc : List D} {xs : List V} (l' : w1.le w') (hE : EnvR K w' env1 σ2) (s' : Sim K { w' with X := upd w1.X A (.lst xs) } S' H) (ra : RpL K w'.F acc xs)
    (h : ∃ y S1 d S2, fe env1 S' = .ok y S1 ∧ thaw1 y S1 = .ok d S2 ∧ okLen (acc.length + 1) = true ∧ ∀ w2, w'.le w2 → P' w2 (acc ++ [d]) S2) :
    tM K mg W0 (RY K) fe σ2 H fun y H4 => ∃ ac, H4 A = some (.lst ac) ∧ ac.length < sizeLine ∧ LcI K w1 A P' (upd H4 A (.lst (ac ++ [y]))) := by
  obtain ⟨y, S1, d, S2, e1, e2, hl, p⟩ := h
  refine ⟨{ w' with X := upd w1.X A (.lst xs) }, env1, S', hE.to (.refl _) ⟨[], by simp⟩, s', ?_⟩
  rw [e1]
  intro w3 v H4 l3 s3 r3
  obtain ⟨w4, l4, s4, r4⟩ := thaw1_ok s3 r3 e2
  have eX : w4.X = upd w1.X A (.lst xs) := by rw [l4.X, l3.X]
  have ew : w4 = { w4 with X := upd w1.X A (.lst xs) } := by rw [← eX]
  rw [ew] at s4
  have hA : H4 A = some (.lst xs) := (s4.ex A (.lst xs) upd_same).1
  have lw : w'.le { w4 with X := w'.X } := ⟨l3.F.trans l4.F, (l3.trans l4).io, rfl⟩
  refine ⟨xs, hA, ?_, { w4 with X := w'.X }, S2, acc ++ [d], xs ++ [v], l'.trans lw, s4.setX, ?_, p _ lw⟩
  · have := len_ok hl
    rw [← ra.length]; omega
  · exact (ra.mono (l3.F.trans l4.F)).snoc r4
theorem LcI.test {K : PySem.W.Frag} {w1 : Wd} {A : Addr} {mg : Str → Option Value} {ft : FE Bool} {env1 : Ev} {S' S1 : Sto} {H : Hp} {σ2 : L2.St} {w' : Wd} {xs : List V} {b : Bool} {Q : Bool → Hp → Prop} (hE : EnvR K w' env1 σ2) (s' : Sim K { w' with X := upd w1.X A (.lst xs) } S' H) (e : ft env1 S' = .ok b S1)
    (h : ∀ w2 H2, w'.le w2 → Sim K { w2 with X := upd w1.X A (.lst xs) } S1 H2 → Q b H2) : tM K mg W0 REq ft σ2 H Q := by
  refine ⟨{ w' with X := upd w1.X A (.lst xs) }, env1, S', hE.to (.refl _) ⟨[], by simp⟩, s', ?_⟩
  rw [e]
  intro w3 v H4 l3 s3 r3
  have r3' : b = v := r3
  subst r3'
  have ew : w3 = { ({ w3 with X := w'.X } : Wd) with X := upd w1.X A (.lst xs) } := by
    have := l3.X
    cases w3
    simp at this ⊢
    exact this
  rw [ew] at s3
  exact h { w3 with X := w'.X } H4 ⟨l3.F, l3.io, rfl⟩ s3
/-- the accumulator's address is the context's -/
theorem lc_read {K : PySem.W.Frag} {mg : Str → Option Value} {m : Bool} {vs : List Nat} {t : Tg} {fi : FE (List D)} {ft : FE Bool} {fe : FE Y} (hv : ∀ i ∈ t.slots, i ∈ vs) (σ : L2.St) (H : Hp) (Q : VK)
    (q : tM K mg W (RY K) (fLc m vs fi t ft fe) σ H Q) :
    tLc (tM K mg W (fun w ds J => Good K w.F J ds) fi) (t.rd K) (tM K mg W0 REq ft) (tM K mg W0 (RY K) fe) vs σ H Q := by
  obtain ⟨w, env, S, hE, s, q⟩ := q
  refine ⟨w, env, S, hE, s, rd_bind q fun ds S1 w1 J H1 l1 s1 g q1 A hA => ?_⟩
  have hE1 := hE.mono l1
  have hX1 : w1.X A = none := s1.freshX hA
  refine ⟨fun i n H' => n + i = ds.length ∧ LcI K w1 A (fun w' acc S' => rd K mg (WE W σ) ((lcD t ft fe (wipeE vs env) (ds.drop i) acc S').bindX fun out S2 => newL m out S2) w' (RY K) Q) H',
    ⟨ds.length, rfl, w1, S1, [], [], .refl w1, s1.hold hA _, .nil, q1⟩, fun i n H' hW => ?_⟩
  obtain ⟨hn, w', S', acc, xs, l', s', ra, q'⟩ := hW
  obtain ⟨hstop, hgo⟩ := g { w' with X := upd w1.X A (.lst xs) } S' H' i l'.F s'
  cases ed : ds[i]? with
  | none =>
    have hi : ds.length ≤ i := List.getElem?_eq_none_iff.mp ed
    refine .inl ⟨hstop (by omega), LcI.out (mg := mg) (E := WE W σ) (m := m) hX1 ⟨w', S', acc, xs, l', s', ra, ?_⟩⟩
    rw [List.drop_eq_nil_of_le hi] at q'
    exact q'
  | some d =>
    obtain ⟨hg, hy⟩ := hgo d ed
    have hlt : i < ds.length := (List.getElem?_eq_some_iff.mp ed).1
    refine .inr ⟨hg, LcI K w1 A (fun w' acc S' => rd K mg (WE W σ) ((lcD t ft fe (wipeE vs env) (ds.drop (i + 1)) acc S').bindX fun out S2 => newL m out S2) w' (RY K) Q), fun H3 h3 => ⟨n - 1, by omega, by omega, h3⟩, fun z H2 hyl => ?_⟩
    obtain ⟨F', lF, s2, rz⟩ := hy z H2 hyl
    have l2 : w'.le { w' with F := F' } := ⟨lF, ⟨[], by simp⟩, rfl⟩
    rw [List.drop_eq_getElem_cons hlt] at q'
    have ed' : ds[i] = d := Option.some.inj ((List.getElem?_eq_getElem hlt).symm.trans ed)
    rw [ed'] at q'
    unfold lcD at q'
    cases ea : t.asg d (wipeE vs env) with
    | none => rw [ea] at q'; exact q'.elim
    | some env1 =>
      rw [ea] at q'
      dsimp only at q'
      refine asg_ok (w := { w' with F := F', X := upd w1.X A (.lst xs) }) (vs := vs) s2 t (((hE1.mono l').wipe vs).to lF ⟨[], by simp⟩) rz ea hv fun σ2 hE2 hw2 => ⟨by rw [hw2, wipe_wipe], ?_⟩
      have hE2' : EnvR K { w' with F := F' } env1 σ2 := hE2.to (.refl _) ⟨[], by simp⟩
      have q2 := rd_le l2 q'
      cases hb : ft env1 S' with
      | exc x S9 => rw [hb] at q2; exact q2.elim
      | bad => rw [hb] at q2; exact q2.elim
      | ok b S1' =>
        rw [hb] at q2
        simp only [Res.bindX] at q2
        refine LcI.test (w' := { w' with F := F' }) hE2' s2 hb fun w3 H3 l3 s3 => ?_
        have q3 := rd_le l3 q2
        cases b with
        | false =>
          rw [if_neg Bool.false_ne_true] at q3 ⊢
          exact ⟨w3, S1', acc, xs, (l'.trans l2).trans l3, s3, ra.mono ((l2.trans l3).F), q3⟩
        | true =>
          rw [if_pos rfl] at q3 ⊢
          refine LcI.elt (w' := w3) (P := fun _ _ _ => True) ((l'.trans l2).trans l3) (hE2'.mono l3) s3 (ra.mono ((l2.trans l3).F)) ?_
          cases he : fe env1 S1' with
          | exc x S9 => rw [he] at q3; exact q3.elim
          | bad => rw [he] at q3; exact q3.elim
          | ok y S2' =>
            rw [he] at q3
            simp only [Res.bindX] at q3
            rcases thaw1_cases y S2' with ⟨d', S3', e4⟩ | e4
            · rw [e4] at q3
              simp only [Res.bindX] at q3
              by_cases hl : okLen (acc.length + 1) = true
              · rw [if_pos hl] at q3
                exact ⟨y, S2', d', S3', rfl, e4, hl, fun w4 l4 => rd_le l4 q3⟩
              · rw [if_neg hl] at q3; exact q3.elim
            · rw [e4] at q3; exact q3.elim
section
variable {X : Cx} {W : WX} {k : Nat} {vl wl : List (Nat × Str)} {gl : List Str} {e : Expr} {es : List Expr} {fs : FE (List Y)} {pos p : Pos} {x : Str}
theorem re_lc (m : Bool) (O : Ok X W k vl wl gl) {elt tg iter : Expr} {ifs : List Expr} {N : List Str} {sc scope : Scope} (own : List (Str × Nat)) {t : Tg} {fi : FE (List D)} {ft : FE Bool} {fe : FE Y} (hi : RI X W tg iter fi) (eN : X.N = N) (es : X.env.scope = sc) (ok : blkC N sc scope own = true)
    (hv : (t.slots.all fun i => (own.map (·.2)).contains i) = true)
    (hg : ∀ (s : Shared) (H : Hp) (C : Addr) (cl : List (Str × Addr)) (fp : List Addr), RGt (Bk X scope s H C cl fp) tg t) (ht : ∀ (s : Shared) (H : Hp) (C : Addr) (cl : List (Str × Addr)) (fp : List Addr), RTs (Bk X scope s H C cl fp) W0 ifs ft)
    (he : ∀ (s : Shared) (H : Hp) (C : Addr) (cl : List (Str × Addr)) (fp : List Addr), RE (Bk X scope s H C cl fp) W0 elt fe) (hs : ∀ x, foldedSetIterable iter X.env x = pure x := by intro _; rfl) :
    RE X W (.ListComp elt [⟨tg, iter, ifs, 0⟩] scope pos) (fLc m (own.map (·.2)) fi t ft fe) := by
  subst eN; subst es
  refine weakPE (pe_lc (g := t.rd X.K) (tt := tM X.K X.mg W0 REq ft) (te := tM X.K X.mg W0 (RY X.K) fe) O.calm O.nd hi (blkOk_by ok) hg ht he hs) fun σ H Q q => lc_read (fun i hi => ?_) σ H Q q
  have := List.all_eq_true.mp hv i hi
  simpa using this
/-- as ps_setLc -/
theorem fLc_asg (m : Bool) {i : Nat} {y : Str} {py : Pos} (O : Ok X W k vl wl gl) {elt tg iter : Expr} {ifs : List Expr} {N : List Str} {sc scope : Scope} (own : List (Str × Nat)) {t : Tg} {fi : FE (List D)} {ft : FE Bool} {fe : FE Y} {spos : Pos} (hi : RI X W tg iter fi) (eN : X.N = N) (es : X.env.scope = sc) (ok : blkC N sc scope own = true)
    (hv : (t.slots.all fun i => (own.map (·.2)).contains i) = true) (hy : N[i]? = some y) (hyl : sc.names.lookup y = some .local)
    (hsw : swapsWith (.ListComp elt [⟨tg, iter, ifs, 0⟩] scope pos) (some (.Name y py)) spos.line X.env = pure true)
    (hg : ∀ (s : Shared) (H : Hp) (C : Addr) (cl : List (Str × Addr)) (fp : List Addr), RGt (Bk X scope s H C cl fp) tg t) (ht : ∀ (s : Shared) (H : Hp) (C : Addr) (cl : List (Str × Addr)) (fp : List Addr), RTs (Bk X scope s H C cl fp) W0 ifs ft)
    (he : ∀ (s : Shared) (H : Hp) (C : Addr) (cl : List (Str × Addr)) (fp : List Addr), RE (Bk X scope s H C cl fp) W0 elt fe) (hs : ∀ x, foldedSetIterable iter X.env x = pure x := by intro _; rfl) :
    PS X (.Assign [.Name y py] (.ListComp elt [⟨tg, iter, ifs, 0⟩] scope pos) spos) (tAsg (tM X.K X.mg W (RY X.K) (fLc m (own.map (·.2)) fi t ft fe)) (gName i)) := by
  subst eN; subst es
  refine weakPS (ps_setLc (g := t.rd X.K) (tt := tM X.K X.mg W0 REq ft) (te := tM X.K X.mg W0 (RY X.K) fe) O.calm O.nd hy hyl hsw hi (blkOk_by ok) hg ht he hs) fun D σ H q => ?_
  refine lc_read (fun i hi => ?_) σ H _ q
  have := List.all_eq_true.mp hv i hi
  simpa using this
end
end Sg

/-! Q4d: statements -/
namespace Sg
open PySem PySem.Spec PyProof.Rows L2

inductive SR where
  | nx (env : Ev) (S : Sto) | rt (y : Y) (S : Sto) | bk (env : Ev) (S : Sto) | ct (env : Ev) (S : Sto) | exc (x : Xc) (env : Ev) (S : Sto) | bad
abbrev FS := Ev → Sto → SR
def sd (K : PySem.W.Frag) (mg : Str → Option Value) (W : WX) (r : SR) (w : Wd) (D : Ends) : Prop :=
  match r with
  | .nx env S => ∀ w' σ H, w.le w' → EnvR K w' env σ → Sim K w' S H → D.nx σ H
  | .rt y S => ∀ w' v H, w.le w' → Sim K w' S H → RY K w' y v → D.rt v H
  | .bk env S => ∀ w' σ H, w.le w' → EnvR K w' env σ → Sim K w' S H → D.bk σ H
  | .ct env S => ∀ w' σ H, w.le w' → EnvR K w' env σ → Sim K w' S H → D.ct σ H
  | .exc x env S => ∀ w' σ cls d H, w.le w' → EnvR K w' env σ → Sim K w' S H → XR mg w' x cls d → W cls d σ H
  | .bad => False
theorem sd_le {K : PySem.W.Frag} {mg : Str → Option Value} {W : WX} {r : SR} {w w' : Wd} {D : Ends} (l : w.le w') (h : sd K mg W r w D) : sd K mg W r w' D := by
  cases r with
  | nx env S => exact fun w2 σ H l2 => h w2 σ H (l.trans l2)
  | rt y S => exact fun w2 v H l2 => h w2 v H (l.trans l2)
  | bk env S => exact fun w2 σ H l2 => h w2 σ H (l.trans l2)
  | ct env S => exact fun w2 σ H l2 => h w2 σ H (l.trans l2)
  | exc x env S => exact fun w2 σ c d H l2 => h w2 σ c d H (l.trans l2)
  | bad => exact h
@[simp] def Res.bindE {α : Type} : Res α → Ev → (α → Sto → SR) → SR
  | .ok a S, _, f => f a S
  | .exc x S, env, _ => .exc x env S
  | .bad, _, _ => .bad
theorem rd_bindE {α β : Type} {K : PySem.W.Frag} {mg : Str → Option Value} {W : WX} {w : Wd} {r : Res α} {env : Ev} {σ : L2.St} {g : α → Sto → SR} {R1 : Wd → α → β → Prop} {Q1 : β → Hp → Prop} {D : Ends} (hE : EnvR K w env σ) (h : sd K mg W (r.bindE env g) w D)
    (k : ∀ a S' w' v H', w.le w' → Sim K w' S' H' → R1 w' a v → EnvR K w' env σ → sd K mg W (g a S') w' D → Q1 v H') : rd K mg (WE W σ) r w R1 Q1 := by
  cases r with
  | ok a S => exact fun w' v H' l s q => k a S w' v H' l s q (hE.mono l) (sd_le l h)
  | exc x S => exact fun w' cls d H' l s xr => h w' σ cls d H' l (hE.mono l) s xr
  | bad => exact h
def tS (X : Cx) (W : WX) (f : FS) : TS := fun D σ H => ∃ w env S, EnvR X.K w env σ ∧ Sim X.K w S H ∧ sd X.K X.mg W (f env S) w D
abbrev RS (X : Cx) (W : WX) (st : Stmt) (f : FS) : Prop := PS X st (tS X W f)
abbrev RSs (X : Cx) (W : WX) (sts : List Stmt) (f : FS) : Prop := PSs X sts (tS X W f)

@[simp] def SR.seq : SR → FS → SR
  | .nx env S, g => g env S
  | .rt y S, _ => .rt y S
  | .bk env S, _ => .bk env S
  | .ct env S, _ => .ct env S
  | .exc x env S, _ => .exc x env S
  | .bad, _ => .bad
def fNx : FS := fun env S => .nx env S
def fSeq (f g : FS) : FS := fun env S => (f env S).seq g
def fBrk : FS := fun env S => .bk env S
def fCnt : FS := fun env S => .ct env S
def fDrop (f : FE Y) : FS := fun env S => (f env S).bindE env fun _ S1 => .nx env S1
def fRet (f : FE Y) : FS := fun env S => (f env S).bindE env fun y S1 => .rt y S1
def fRetN : FS := fun _ S => .rt (.v .non) S
def fIfS (t : FE Bool) (f g : FS) : FS := fun env S => (t env S).bindE env fun b S1 => if b = true then f env S1 else g env S1
def fSet (i : Nat) (f : FE Y) : FS := fun env S => (f env S).bindE env fun y S1 => .nx (env.set i (some y)) S1
def fAsg (t : Tg) (f : FE Y) : FS := fun env S => (f env S).bindE env fun y S1 => match y with
  | .v d => match t.asg d env with
    | some env1 => .nx env1 S1
    | none => .bad
  | _ => .bad
def fPar (i j : Nat) (fs : FE (List Y)) : FS := fun env S => (fs env S).bindE env fun ys S1 => match ys with
  | [y, z] => .nx ((env.set i (some y)).set j (some z)) S1
  | _ => .bad
def fPar3 (i j l : Nat) (fs : FE (List Y)) : FS := fun env S => (fs env S).bindE env fun ys S1 => match ys with
  | [y, z, u] => .nx (((env.set i (some y)).set j (some z)).set l (some u)) S1
  | _ => .bad
def fAug (i : Nat) (sem : Y → Y → Sto → Res Y) (f : FE Y) : FS := fun env S => match env[i]? with
  | some (some x) => (f env S).bindE env fun y S1 => (sem x y S1).bindE env fun z S2 => .nx (env.set i (some z)) S2
  | _ => .bad
section
variable {X : Cx} {W : WX} {k : Nat} {vl wl : List (Nat × Str)} {gl : List Str} {e : Expr} {es : List Expr} {f g : FE Y} {fs : FE (List Y)} {pos p : Pos} {x : Str} {st : Stmt} {sts a b : List Stmt} {F G : FS} {t : FE Bool}
theorem rss_nil : RSs X W [] fNx := weakPSs pss_nil fun D σ H q => by
  obtain ⟨w, env, S, hE, s, q⟩ := q
  exact q w σ H (.refl w) hE s
theorem sd_seq {K : PySem.W.Frag} {mg : Str → Option Value} {r : SR} {w : Wd} {D : Ends} (h : sd K mg W (r.seq G) w D) : sd K mg W r w { D with nx := fun σ H => ∃ w env S, EnvR K w env σ ∧ Sim K w S H ∧ sd K mg W (G env S) w D } := by
  cases r with
  | nx env S => exact fun w' σ H l hE s => ⟨w', env, S, hE, s, sd_le l h⟩
  | rt y S => exact h
  | bk env S => exact h
  | ct env S => exact h
  | exc x env S => exact h
  | bad => exact h
theorem rss_cons (h1 : RS X W st F) (h2 : RSs X W sts G) : RSs X W (st :: sts) (fSeq F G) := weakPSs (pss_cons h1 h2) fun D σ H q => by
  obtain ⟨w, env, S, hE, s, q⟩ := q
  exact ⟨w, env, S, hE, s, sd_seq q⟩
theorem rss_one (h1 : RS X W st F) : RSs X W [st] F := pss_one h1
theorem rs_pass : RS X W (.Pass pos) fNx := weakPS ps_pass fun D σ H q => by
  obtain ⟨w, env, S, hE, s, q⟩ := q
  exact q w σ H (.refl w) hE s
theorem rs_doc {z j} {pos' : Pos} : RS X W (.Expr (.Constant (.str z) j pos) pos') fNx := weakPS ps_doc fun D σ H q => by
  obtain ⟨w, env, S, hE, s, q⟩ := q
  exact q w σ H (.refl w) hE s
theorem rs_brk : RS X W (.Break pos) fBrk := weakPS ps_break fun D σ H q => by
  obtain ⟨w, env, S, hE, s, q⟩ := q
  exact q w σ H (.refl w) hE s
theorem rs_cnt : RS X W (.Continue pos) fCnt := weakPS ps_continue fun D σ H q => by
  obtain ⟨w, env, S, hE, s, q⟩ := q
  exact q w σ H (.refl w) hE s
theorem rs_expr (he : RE X W e f) (hs : swapsWith e none pos.line X.env = pure false := by rfl) : RS X W (.Expr e pos) (fDrop f) := weakPS (ps_expr he hs) fun D σ H q => by
  obtain ⟨w, env, S, hE, s, q⟩ := q
  exact ⟨w, env, S, hE, s, rd_bindE hE q fun y S1 w1 v H1 l1 s1 r1 hE1 q1 => q1 w1 σ H1 (.refl w1) hE1 s1⟩
theorem rs_ret (he : RE X W e f) : RS X W (.Return (some e) pos) (fRet f) := weakPS (ps_ret he) fun D σ H q => by
  obtain ⟨w, env, S, hE, s, q⟩ := q
  exact ⟨w, env, S, hE, s, rd_bindE hE q fun y S1 w1 v H1 l1 s1 r1 hE1 q1 => q1 w1 v H1 (.refl w1) s1 r1⟩
theorem rs_retN : RS X W (.Return none pos) fRetN := weakPS ps_retN fun D σ H q => by
  obtain ⟨w, env, S, hE, s, q⟩ := q
  exact q w .non H (.refl w) s .non
theorem rs_if {c : Expr} (hc : RT X W c t) (ha : RSs X W a F) (hb : RSs X W b G) : RS X W (.If c a b pos) (fIfS t F G) := weakPS (ps_if hc ha hb) fun D σ H q => by
  obtain ⟨w, env, S, hE, s, q⟩ := q
  refine ⟨w, env, S, hE, s, rd_bindE hE q fun y S1 w1 v H1 l1 s1 r1 hE1 q1 => ?_⟩
  have r1' : y = v := r1
  subst r1'
  cases y with
  | true => rw [if_pos rfl] at q1 ⊢; exact ⟨w1, env, S1, hE1, s1, q1⟩
  | false => rw [if_neg Bool.false_ne_true] at q1 ⊢; exact ⟨w1, env, S1, hE1, s1, q1⟩
theorem set_read {i : Nat} (D : Ends) (σ : L2.St) (H : Hp) (q : tS X W (fSet i f) D σ H) : tAsg (tE X W f) (gName i) D σ H := by
  obtain ⟨w, env, S, hE, s, q⟩ := q
  exact ⟨w, env, S, hE, s, rd_bindE hE q fun y S1 w1 v H1 l1 s1 r1 hE1 q1 => q1 w1 _ H1 (.refl w1) (hE1.set i r1) s1⟩
theorem rs_set (O : Ok X W k vl wl gl) (j : Nat) {i : Nat} {pos' : Pos} (he : RE X W e f) (hj : wl[j]? = some (i, x) := by rfl) (hs : swapsWith e (some (.Name x pos')) pos.line X.env = pure false := by rfl) : RS X W (.Assign [.Name x pos'] e pos) (fSet i f) := by
  obtain ⟨h1, h2, h3⟩ := O.sto j i x hj
  exact weakPS (ps_set O.nd h1 h2 he hs h3) fun D σ H q => set_read D σ H q
theorem rs_setLc (m : Bool) {i : Nat} {y : Str} {py : Pos} (O : Ok X W k vl wl gl) {elt tg iter : Expr} {ifs : List Expr} {N : List Str} {sc scope : Scope} (own : List (Str × Nat)) {t : Tg} {fi : FE (List D)} {ft : FE Bool} {fe : FE Y} {spos : Pos} (hi : RI X W tg iter fi) (eN : X.N = N) (es : X.env.scope = sc) (ok : blkC N sc scope own = true)
    (hv : (t.slots.all fun i => (own.map (·.2)).contains i) = true) (hy : N[i]? = some y) (hyl : sc.names.lookup y = some .local)
    (hsw : swapsWith (.ListComp elt [⟨tg, iter, ifs, 0⟩] scope pos) (some (.Name y py)) spos.line X.env = pure true)
    (hg : ∀ (s : Shared) (H : Hp) (C : Addr) (cl : List (Str × Addr)) (fp : List Addr), RGt (Bk X scope s H C cl fp) tg t) (ht : ∀ (s : Shared) (H : Hp) (C : Addr) (cl : List (Str × Addr)) (fp : List Addr), RTs (Bk X scope s H C cl fp) W0 ifs ft)
    (he : ∀ (s : Shared) (H : Hp) (C : Addr) (cl : List (Str × Addr)) (fp : List Addr), RE (Bk X scope s H C cl fp) W0 elt fe) (hs : ∀ x, foldedSetIterable iter X.env x = pure x := by intro _; rfl) :
    RS X W (.Assign [.Name y py] (.ListComp elt [⟨tg, iter, ifs, 0⟩] scope pos) spos) (fSet i (fLc m (own.map (·.2)) fi t ft fe)) :=
  weakPS (fLc_asg m O own hi eN es ok hv hy hyl hsw hg ht he hs) fun D σ H q => set_read D σ H q
theorem rs_asg (O : Ok X W k vl wl gl) {tg : Expr} {t : Tg} (he : RE X W e f) (hg : RGt X tg t) (hs : swapsWithSole [tg] e pos.line X.env = pure false := by rfl) (hw : swappedStores [tg] e X.env = pure none := by rfl)
    (h1 : (assignEach [tg] X.env).map (·.2) = [assign tg X.env] := by rfl) : RS X W (.Assign [tg] e pos) (fAsg t f) := weakPS (ps_asg he hg hs hw h1) fun D σ H q => by
  obtain ⟨w, env, S, hE, s, q⟩ := q
  refine ⟨w, env, S, hE, s, rd_bindE hE q fun y S1 w1 v H1 l1 s1 r1 hE1 q1 => ?_⟩
  cases y with
  | ref n => exact q1.elim
  | v d =>
    dsimp only at q1
    cases ea : t.asg d env with
    | none => rw [ea] at q1; exact q1.elim
    | some env1 =>
      rw [ea] at q1
      exact asg_ok s1 t hE1 r1 ea (fun i hi => hi) fun σ' hE' _ => q1 w1 σ' H1 (.refl w1) hE' s1
theorem rs_par (O : Ok X W k vl wl gl) (j1 j2 : Nat) {i j : Nat} {y : Str} {a b : Expr} {px py pt : Pos} {kt k2 pt2} (ha : RA X W [a, b] fs) (h1 : wl[j1]? = some (i, x) := by rfl) (h2 : wl[j2]? = some (j, y) := by rfl) (hij : i ≠ j := by decide)
    (hx : X.env.scope.names.lookup x = some .local := by rfl) (hy : X.env.scope.names.lookup y = some .local := by rfl)
    (hw : swappedStores [.Tuple [.Name x px, .Name y py] kt pt] (.Tuple [a, b] k2 pt2) X.env = pure (some [x, y]) := by rfl)
    (hs : swapsWithSole [.Tuple [.Name x px, .Name y py] kt pt] (.Tuple [a, b] k2 pt2) pos.line X.env = pure false := by rfl) :
    RS X W (.Assign [.Tuple [.Name x px, .Name y py] kt pt] (.Tuple [a, b] k2 pt2) pos) (fPar i j fs) := weakPS (ps_par O.calm O.nd (O.sto j1 i x h1).1 (O.sto j2 j y h2).1 hij hx hy ha hw hs) fun D σ H q => by
  obtain ⟨w, env, S, hE, s, q⟩ := q
  refine ⟨w, env, S, hE, s, rd_bindE hE q fun ys S1 w1 vs H1 l1 s1 r1 hE1 q1 => ?_⟩
  split at q1
  · obtain ⟨v, u, rfl, r, r'⟩ := r1.two
    exact ⟨v, u, rfl, q1 w1 _ H1 (.refl w1) ((hE1.set i r).set j r') s1⟩
  · exact q1.elim
theorem rs_par3 (O : Ok X W k vl wl gl) (j1 j2 j3 : Nat) {i j l : Nat} {y z : Str} {a b c : Expr} {px py pz pt : Pos} {kt k2 pt2} (ha : RA X W [a, b, c] fs) (h1 : wl[j1]? = some (i, x) := by rfl) (h2 : wl[j2]? = some (j, y) := by rfl) (h3 : wl[j3]? = some (l, z) := by rfl) (hij : i ≠ j := by decide) (hil : i ≠ l := by decide) (hjl : j ≠ l := by decide)
    (hx : X.env.scope.names.lookup x = some .local := by rfl) (hy : X.env.scope.names.lookup y = some .local := by rfl) (hz : X.env.scope.names.lookup z = some .local := by rfl)
    (hw : swappedStores [.Tuple [.Name x px, .Name y py, .Name z pz] kt pt] (.Tuple [a, b, c] k2 pt2) X.env = pure (some [x, y, z]) := by rfl)
    (hs : swapsWithSole [.Tuple [.Name x px, .Name y py, .Name z pz] kt pt] (.Tuple [a, b, c] k2 pt2) pos.line X.env = pure false := by rfl) :
    RS X W (.Assign [.Tuple [.Name x px, .Name y py, .Name z pz] kt pt] (.Tuple [a, b, c] k2 pt2) pos) (fPar3 i j l fs) := weakPS (ps_par3 O.calm O.nd (O.sto j1 i x h1).1 (O.sto j2 j y h2).1 (O.sto j3 l z h3).1 hij hil hjl hx hy hz ha hw hs) fun D σ H q => by
  obtain ⟨w, env, S, hE, s, q⟩ := q
  refine ⟨w, env, S, hE, s, rd_bindE hE q fun ys S1 w1 vs H1 l1 s1 r1 hE1 q1 => ?_⟩
  split at q1
  · cases r1 with
    | cons r rr =>
      obtain ⟨v, u, rfl, r', r''⟩ := rr.two
      exact ⟨_, v, u, rfl, q1 w1 _ H1 (.refl w1) (((hE1.set i r).set j r').set l r'') s1⟩
  · exact q1.elim
/-- in place -/
def IpS (X : Cx) (sem : Y → Y → Sto → Res Y) (r : TIp) : Prop :=
  ∀ (E : XK) (w : Wd) (S : Sto) (H : Hp) (x y : Y) (a b : V) (Q : VK), Sim X.K w S H → RY X.K w x a → RY X.K w y b → rd X.K X.mg E (sem x y S) w (RY X.K) Q → r a b H Q
def sIAdd : Y → Y → Sto → Res Y
  | .v (.int i), .v (.int j), S => .ok (.v (.int (i + j))) S
  | _, _, _ => .bad
def sISub : Y → Y → Sto → Res Y
  | .v (.int i), .v (.int j), S => .ok (.v (.int (i - j))) S
  | _, _, _ => .bad
theorem sIAdd_ok : IpS X sIAdd (ipI fun i j => i + j) := by
  intro E w S H x y a b Q s r1 r2 h
  unfold sIAdd at h
  split at h
  · cases r1; cases r2
    exact ⟨_, _, rfl, rfl, rd_ok h s (.int _)⟩
  · exact h.elim
theorem sISub_ok : IpS X sISub (ipI fun i j => i - j) := by
  intro E w S H x y a b Q s r1 r2 h
  unfold sISub at h
  split at h
  · cases r1; cases r2
    exact ⟨_, _, rfl, rfl, rd_ok h s (.int _)⟩
  · exact h.elim
theorem rs_augG (O : Ok X W k vl wl gl) {op : Operator} {sem : Y → Y → Sto → Res Y} {r : TIp} (hp : PIp X op r) (hs : IpS X sem r) (j : Nat) {i : Nat} {pos' : Pos} (he : RE X W e f) (hj : wl[j]? = some (i, x)) : RS X W (.AugAssign (.Name x pos') op e pos) (fAug i sem f) := by
  obtain ⟨h1, h2, h3⟩ := O.sto j i x hj
  refine weakPS (ps_aug O.nd h1 h2 he hp h3) fun D σ H q => ?_
  obtain ⟨w, env, S, hE, s, q⟩ := q
  unfold fAug at q
  split at q
  · rename_i y ey
    obtain ⟨v, e1, r0⟩ := hE.at_ i y ey
    refine ⟨v, e1, w, env, S, hE, s, rd_bindE hE q fun z S1 w1 u H1 l1 s1 r1 hE1 q1 => ?_⟩
    refine hs _ w1 S1 H1 y z v u _ s1 (r0.mono l1) r1 (rd_bindE hE1 q1 fun z2 S2 w2 u2 H2 l2 s2 r2 hE2 q2 => ?_)
    exact q2 w2 _ H2 (.refl w2) (hE2.set i r2) s2
  · exact q.elim
theorem rs_augA (O : Ok X W k vl wl gl) (j : Nat) {i : Nat} {pos' : Pos} (he : RE X W e f) (hj : wl[j]? = some (i, x) := by rfl) : RS X W (.AugAssign (.Name x pos') .Add e pos) (fAug i sIAdd f) := rs_augG O ip_add sIAdd_ok j he hj
theorem rs_augS (O : Ok X W k vl wl gl) (j : Nat) {i : Nat} {pos' : Pos} (he : RE X W e f) (hj : wl[j]? = some (i, x) := by rfl) : RS X W (.AugAssign (.Name x pos') .Sub e pos) (fAug i sISub f) := rs_augG O ip_sub sISub_ok j he hj

/-! ### loops -/
def forD (t : Tg) (F : FS) : List D → FS
  | [], env, S => .nx env S
  | d :: ds, env, S => match t.asg d env with
    | none => .bad
    | some env1 => match F env1 S with
      | .nx env2 S2 => forD t F ds env2 S2
      | .ct env2 S2 => forD t F ds env2 S2
      | .bk env2 S2 => .nx env2 S2
      | .rt y S2 => .rt y S2
      | .exc x env2 S2 => .exc x env2 S2
      | .bad => .bad
def fFor (t : Tg) (fi : FE (List D)) (F : FS) : FS := fun env S => (fi env S).bindE env fun ds S1 => forD t F ds env S1
theorem rs_for (O : Ok X W k vl wl gl) {tg iter : Expr} {t : Tg} {fi : FE (List D)} (hp : PassesOwn (model X.prog X.w) X.A X.env X.xe) (hi : RI X W tg iter fi) (hg : RGt X tg t) (hb : RSs X W sts F)
    (hs : ∀ x, foldedSetIterable iter X.env x = pure x := by intro _; rfl) : RS X W (.For tg iter sts [] pos) (fFor t fi F) := weakPS (ps_for hp O.calm hi hg hb hs) fun D σ H q => by
  obtain ⟨w, env, S, hE, s, q⟩ := q
  refine ⟨w, env, S, hE, s, rd_bindE hE q fun ds S1 w1 J H1 l1 s1 g hE1 q1 => ?_⟩
  refine ⟨fun i n σ' H' => n + i = ds.length ∧ ∃ w' env' S', w1.le w' ∧ EnvR X.K w' env' σ' ∧ Sim X.K w' S' H' ∧ sd X.K X.mg W (forD t F (ds.drop i) env' S') w' D, ⟨ds.length, rfl, w1, env, S1, .refl w1, hE1, s1, q1⟩, fun i n σ' H' hW => ?_⟩
  obtain ⟨hn, w', env', S', l', hE', s', q'⟩ := hW
  obtain ⟨hstop, hgo⟩ := g w' S' H' i l'.F s'
  cases ed : ds[i]? with
  | none =>
    have hi : ds.length ≤ i := List.getElem?_eq_none_iff.mp ed
    rw [List.drop_eq_nil_of_le hi] at q'
    exact .inl ⟨hstop (by omega), q' w' σ' H' (.refl w') hE' s'⟩
  | some d =>
    obtain ⟨hgo', hy⟩ := hgo d ed
    have hlt : i < ds.length := (List.getElem?_eq_some_iff.mp ed).1
    refine .inr ⟨hgo', fun σ3 H3 => ∃ w3 env3 S3, w1.le w3 ∧ EnvR X.K w3 env3 σ3 ∧ Sim X.K w3 S3 H3 ∧ sd X.K X.mg W (forD t F (ds.drop (i + 1)) env3 S3) w3 D, fun σ3 H3 h3 => ⟨n - 1, by omega, by omega, h3⟩, fun z H2 hyl => ?_⟩
    obtain ⟨F', lF, s2, rz⟩ := hy z H2 hyl
    have l2 : w'.le { w' with F := F' } := ⟨lF, ⟨[], by simp⟩, rfl⟩
    rw [List.drop_eq_getElem_cons hlt] at q'
    have ed' : ds[i] = d := Option.some.inj ((List.getElem?_eq_getElem hlt).symm.trans ed)
    rw [ed'] at q'
    unfold forD at q'
    cases ea : t.asg d env' with
    | none => rw [ea] at q'; exact q'.elim
    | some env1 =>
      rw [ea] at q'
      dsimp only at q'
      refine asg_ok s2 t (hE'.mono l2) rz ea (fun i hi => hi) fun σ2 hE2 _ => ⟨_, env1, S', hE2, s2, ?_⟩
      have q2 := sd_le l2 q'
      have lw := l'.trans l2
      cases hF : F env1 S' with
      | nx env2 S2 => rw [hF] at q2; exact fun w3 σ3 H3 l3 hE3 s3 => ⟨w3, env2, S2, lw.trans l3, hE3, s3, sd_le l3 q2⟩
      | ct env2 S2 => rw [hF] at q2; exact fun w3 σ3 H3 l3 hE3 s3 => ⟨w3, env2, S2, lw.trans l3, hE3, s3, sd_le l3 q2⟩
      | bk env2 S2 => rw [hF] at q2; exact fun w3 σ3 H3 l3 hE3 s3 => q2 w3 σ3 H3 l3 hE3 s3
      | rt y S2 => rw [hF] at q2; exact q2
      | exc x env2 S2 => rw [hF] at q2; exact q2
      | bad => rw [hF] at q2; exact q2.elim
/-- while, with fuel -/
def whD (t : FE Bool) (F : FS) : Nat → FS
  | 0, _, _ => .bad
  | n + 1, env, S => (t env S).bindE env fun b S1 => if b = true then (match F env S1 with
      | .nx env2 S2 => whD t F n env2 S2
      | .ct env2 S2 => whD t F n env2 S2
      | .bk env2 S2 => .nx env2 S2
      | .rt y S2 => .rt y S2
      | .exc x env2 S2 => .exc x env2 S2
      | .bad => .bad) else .nx env S1
open Classical in
noncomputable def fWh (t : FE Bool) (F : FS) : FS := fun env S => if h : ∃ n, whD t F n env S ≠ .bad then whD t F (Classical.choose h) env S else .bad
theorem rs_while (O : Ok X W k vl wl gl) {c : Expr} (hp : PassesOwn (model X.prog X.w) X.A X.env X.xe) (hc : RT X W c t) (hb : RSs X W sts F) : RS X W (.While c sts [] pos) (fWh t F) := weakPS (ps_while hp hc hb) fun D σ H q => by
  obtain ⟨w, env, S, hE, s, q⟩ := q
  have ⟨n0, q0⟩ : ∃ n, sd X.K X.mg W (whD t F n env S) w D := by
    unfold fWh at q
    split at q
    · exact ⟨_, q⟩
    · exact q.elim
  refine ⟨fun n σ' H' => ∃ w' env' S', EnvR X.K w' env' σ' ∧ Sim X.K w' S' H' ∧ sd X.K X.mg W (whD t F n env' S') w' D, ⟨n0, w, env, S, hE, s, q0⟩, fun n σ' H' hW => ?_⟩
  obtain ⟨w', env', S', hE', s', q'⟩ := hW
  cases n with
  | zero => exact q'.elim
  | succ n =>
    unfold whD at q'
    refine ⟨w', env', S', hE', s', rd_bindE hE' q' fun b S1 w1 v H1 l1 s1 r1 hE1 q1 => ?_⟩
    have r1' : b = v := r1
    subst r1'
    cases b with
    | false => rw [if_neg Bool.false_ne_true] at q1 ⊢; exact q1 w1 σ' H1 (.refl w1) hE1 s1
    | true =>
      rw [if_pos rfl] at q1 ⊢
      refine ⟨fun σ3 H3 => ∃ w3 env3 S3, EnvR X.K w3 env3 σ3 ∧ Sim X.K w3 S3 H3 ∧ sd X.K X.mg W (whD t F n env3 S3) w3 D, fun σ3 H3 h3 => ⟨n, by omega, h3⟩, w1, env', S1, hE1, s1, ?_⟩
      cases hF : F env' S1 with
      | nx env2 S2 => rw [hF] at q1; exact fun w3 σ3 H3 l3 hE3 s3 => ⟨w3, env2, S2, hE3, s3, sd_le l3 q1⟩
      | ct env2 S2 => rw [hF] at q1; exact fun w3 σ3 H3 l3 hE3 s3 => ⟨w3, env2, S2, hE3, s3, sd_le l3 q1⟩
      | bk env2 S2 => rw [hF] at q1; exact fun w3 σ3 H3 l3 hE3 s3 => q1 w3 σ3 H3 l3 hE3 s3
      | rt y S2 => rw [hF] at q1; exact q1
      | exc x env2 S2 => rw [hF] at q1; exact q1
      | bad => rw [hF] at q1; exact q1.elim

/-! ### lists of the store -/
def stL (y : Y) (S : Sto) : Option (Nat × List D) := match y with
  | .ref n => match S[n]? with
    | some (.lst ds) => some (n, ds)
    | _ => none
  | _ => none
/-- o[i] = e -/
def fSub (fo fi f : FE Y) : FS := fun env S => (f env S).bindE env fun y S1 => (fo env S1).bindE env fun o S2 => (fi env S2).bindE env fun i S3 => match i with
  | .v (.int j) => (thaw1 y S3).bindE env fun d S4 => match stL o S4 with
    | some (n, ds) => (match ixN ds.length j with
      | some jj => .nx env (S4.set n (.lst (ds.set jj d)))
      | none => .bad)
    | none => .bad
  | _ => .bad
theorem stL_of {K : PySem.W.Frag} {w : Wd} {S : Sto} {H : Hp} (s : Sim K w S H) {y : Y} {v : V} {n : Nat} {ds : List D} (r : RY K w y v) (e : stL y S = some (n, ds)) : ∃ a xs, v = .ref a ∧ w.io[n]? = some a ∧ H a = some (.lst xs) ∧ RpL K w.F ds xs ∧ S[n]? = some (.lst ds) := by
  unfold stL at e
  split at e
  · split at e
    · rename_i m ds' e1
      cases e
      obtain ⟨a, xs, rfl, h1, h2, h3⟩ := ref_lst s r e1
      exact ⟨a, xs, rfl, h1, h2, h3, e1⟩
    · cases e
  · cases e
theorem rs_sub (O : Ok X W k vl wl gl) {o i : Expr} {fo fi : FE Y} {ps : Pos} (he : RE X W e f) (ho : RE X W o fo) (hi : RE X W i fi)
    (ha : ∀ v, assign (.Subscript o i ps) X.env v = (do
      let ov ← holding [v] (eval o X.env)
      let iv ← holding [v, ov] (eval i X.env)
      standAt ps
      holding [v, ov, iv] (setItem ov iv v)
      release [v, ov, iv] []) := by intro _; rfl) (hs : swapsWithSole [.Subscript o i ps] e pos.line X.env = pure false := by rfl) (hw : swappedStores [.Subscript o i ps] e X.env = pure none := by rfl)
    (h1 : (assignEach [.Subscript o i ps] X.env).map (·.2) = [assign (.Subscript o i ps) X.env] := by rfl) : RS X W (.Assign [.Subscript o i ps] e pos) (fSub fo fi f) := weakPS (ps_asg he (pg_sub ho hi set_list ha) hs hw h1) fun D σ H q => by
  obtain ⟨w, env, S, hE, s, q⟩ := q
  refine ⟨w, env, S, hE, s, rd_bindE hE q fun y S1 w1 v H1 l1 s1 r1 hE1 q1 => ?_⟩
  refine ⟨w1, env, S1, hE1, s1, rd_bindE hE1 q1 fun oy S2 w2 ov H2 l2 s2 r2 hE2 q2 => ?_⟩
  refine ⟨w2, env, S2, hE2, s2, rd_bindE hE2 q2 fun iy S3 w3 iv H3 l3 s3 r3 hE3 q3 => ?_⟩
  split at q3
  · rename_i j
    have r3' : Rp X.K w3.F (.int j) iv := r3
    cases r3'
    rcases thaw1_cases y S3 with ⟨d, S4, et⟩ | et
    · rw [et] at q3
      simp only [Res.bindE] at q3
      obtain ⟨w4, l4, s4, r4⟩ := thaw1_ok s3 ((r1.mono l2).mono l3) et
      split at q3
      · rename_i n ds eo
        split at q3
        · rename_i jj ej
          obtain ⟨a, xs, rfl, ha1, ha2, ha3, ha4⟩ := stL_of s4 ((r2.mono l3).mono l4) eo
          refine ⟨a, xs, j, jj, rfl, rfl, ha2, by rw [← ha3.length]; exact ej, ?_⟩
          exact sd_le l4 q3 w4 σ _ (.refl w4) (hE3.mono l4) (s4.setO ha1 ⟨_, ha4, by intro z; cases z⟩ fun _ => ⟨xs.set jj v, upd_same, RpL.set r4 jj ha3⟩)
        · exact q3.elim
      · exact q3.elim
    · rw [et] at q3; exact q3.elim
  · exact q3.elim
end
end Sg

/-! Q5: methods of lists, defs, the head -/
namespace Sg
open PySem PySem.Spec PyProof.Rows L2

/-! ### methods -/
def fMet (chk : Y → Sto → Bool) (sem : Y → List Y → Sto → Res Y) (fo : FE Y) (fs : FE (List Y)) : FE Y := fun env S => (fo env S).bind fun o S1 => if chk o S1 = true then (fs env S1).bind fun ys S2 => sem o ys S2 else .bad
def isSt (o : Y) (S : Sto) : Bool := (stL o S).isSome
def sApp (o : Y) : List Y → Sto → Res Y
  | [y], S => (thaw1 y S).bind fun d S1 => match stL o S1 with
    | some (n, ds) => if okLen (ds.length + 1) = true then .ok (.v .non) (S1.set n (.lst (ds ++ [d]))) else .bad
    | none => .bad
  | _, _ => .bad
def sPop (o : Y) : List Y → Sto → Res Y
  | [], S => match stL o S with
    | some (n, ds) => match ds[ds.length - 1]? with
      | some d => .ok (.v d) (S.set n (.lst ds.dropLast))
      | none => .bad
    | none => .bad
  | [.v (.int i)], S => match stL o S with
    | some (n, ds) => match seqIndex? i ds.length with
      | some j => match ds[j]? with
        | some d => if -(2 ^ 63) ≤ i ∧ i < 2 ^ 63 then .ok (.v d) (S.set n (.lst (ds.eraseIdx j))) else .bad
        | none => .bad
      | none => .bad
    | none => .bad
  | _, _ => .bad
section
variable {X : Cx} {W : WX} {k : Nat} {vl wl : List (Nat × Str)} {gl : List Str} {e o : Expr} {es : List Expr} {f fo : FE Y} {fs : FE (List Y)} {pos p apos cpos : Pos} {x : Str}
theorem RpL.dropLast {K : PySem.W.Frag} {F : Hp} : ∀ {ds : List D} {vs : List V}, RpL K F ds vs → RpL K F ds.dropLast vs.dropLast
  | _, _, .nil => .nil
  | _, _, .cons _ .nil => .nil
  | _, _, .cons h (.cons h' r) => .cons h (RpL.dropLast (.cons h' r))
theorem isSt_ty {K : PySem.W.Frag} {w : Wd} {S : Sto} {H : Hp} {y : Y} {v : V} (s : Sim K w S H) (r : RY K w y v) (h : isSt y S = true) : tyV K "list" v H := by
  unfold isSt at h
  obtain ⟨⟨n, ds⟩, e⟩ := Option.isSome_iff_exists.mp h
  obtain ⟨a, xs, rfl, _, h2, _⟩ := stL_of s r e
  exact .inl ⟨rfl, xs, .inl (.inl h2)⟩
theorem re_app (ho : RE X W o fo) (ha : RE X W e f)
    (hbase : attributeBase o "append" X.env (eval o X.env) = eval o X.env := by rfl)
    (hfew : ((backTo cpos (starEach (e :: []) X.env)).all (fun x => !x.1) && (backToKw cpos (keywordEach [] X.env)).all (fun x => x.1.isSome)
      && decide ((e :: []).length + ([] : List Keyword).length + (if ([] : List Keyword).isEmpty then 0 else 1) < 30)) = true := by rfl)
    (hline : (apos.endLine == cpos.line) = true := by rfl) (hs : starEach (e :: []) X.env = (false, eval e X.env) :: starEach [] X.env := by rfl) (hplain : (backTo cpos (starEach [] X.env)).any (·.1) = false := by rfl) :
    RE X W (.Call (.Attribute o "append" apos) [e] [] cpos) (fMet isSt sApp fo (fCons f fNil)) :=
  weakPE (pe_bm PySem.F.plainAttrs_list PySem.F.slot_list_append PySem.F.type_list_append mt_append ho (ra_cons ha ra_nil hs) hbase hfew hline hs hplain) fun σ H Q q => by
    obtain ⟨w, env, S, hE, s, q⟩ := q
    refine ⟨w, env, S, hE, s, rd_bind q fun y S1 w1 v H1 l1 s1 r1 q1 => ?_⟩
    split at q1
    · rename_i hc
      refine ⟨isSt_ty s1 r1 hc, w1, env, S1, hE.mono l1, s1, rd_bind q1 fun ys S2 w2 vs H2 l2 s2 r2 q2 => ?_⟩
      unfold sApp at q2
      split at q2
      · obtain ⟨u, rfl, ru⟩ := r2.one
        rename_i z
        rcases thaw1_cases z S2 with ⟨d, S3, et⟩ | et
        · rw [et] at q2
          simp only [Res.bind] at q2
          obtain ⟨w3, l3, s3, r3⟩ := thaw1_ok s2 ru et
          split at q2
          · rename_i n ds eo
            split at q2
            · rename_i hl
              obtain ⟨a, xs, rfl, ha1, ha2, ha3, ha4⟩ := stL_of s3 ((r1.mono l2).mono l3) eo
              refine ⟨a, xs, u, rfl, rfl, ha2, by have := len_ok hl; rw [← ha3.length]; omega, ?_⟩
              exact rd_okLe q2 l3 (s3.setO ha1 ⟨_, ha4, by intro z; cases z⟩ fun _ => ⟨xs ++ [u], upd_same, ha3.snoc r3⟩) .non
            · exact q2.elim
          · exact q2.elim
        · rw [et] at q2; exact q2.elim
      · exact q2.elim
    · exact q1.elim
theorem re_pop0 (ho : RE X W o fo)
    (hbase : attributeBase o "pop" X.env (eval o X.env) = eval o X.env := by rfl) (hline : (apos.endLine == cpos.line) = true := by rfl) :
    RE X W (.Call (.Attribute o "pop" apos) [] [] cpos) (fMet isSt sPop fo fNil) :=
  weakPE (pe_bm0 PySem.F.plainAttrs_list PySem.F.slot_list_pop PySem.F.type_list_pop mt_pop ho hbase hline) fun σ H Q q => by
    obtain ⟨w, env, S, hE, s, q⟩ := q
    refine ⟨w, env, S, hE, s, rd_bind q fun y S1 w1 v H1 l1 s1 r1 q1 => ?_⟩
    split at q1
    · rename_i hc
      refine ⟨isSt_ty s1 r1 hc, ?_⟩
      simp only [fNil, Res.bind, sPop] at q1
      split at q1
      · rename_i n ds eo
        split at q1
        · rename_i d ed
          obtain ⟨a, xs, rfl, ha1, ha2, ha3, ha4⟩ := stL_of s1 r1 eo
          obtain ⟨u, eu, ru⟩ := ha3.get ed
          refine ⟨a, xs, u, rfl, rfl, ha2, by rw [← ha3.length]; exact eu, ?_⟩
          exact rd_okLe q1 (.refl w1) (s1.setO ha1 ⟨_, ha4, by intro z; cases z⟩ fun _ => ⟨xs.dropLast, upd_same, ha3.dropLast⟩) ru
        · exact q1.elim
      · exact q1.elim
    · exact q1.elim
/-! ### what is not reached -/
def fNev : FE Y := fun _ _ => .bad
def fNevS : FS := fun _ _ => .bad
theorem re_never : RE X W e fNev := ⟨fun pins s σ H Q I q => by
  obtain ⟨w, env, S, hE, s, q⟩ := q
  exact q.elim⟩
theorem rs_never {st : Stmt} : RS X W st fNevS := ⟨fun pins s σ H Q I q => by
  obtain ⟨w, env, S, hE, s, q⟩ := q
  exact q.elim⟩
end

/-! ### defs -/
def startE (n : Nat) (ys : List Y) : Ev := ys.map some ++ List.replicate (n - ys.length) none
/-- at the end of a body: what the body made is forgotten; a list that it made is given frozen, or (keep) as the store's last thing -/
def close (keep : Bool) (n : Nat) : Y → Sto → Res Y
  | .v d, S => .ok (.v d) (S.take n)
  | .ref m, S => if m < n then .ok (.ref m) (S.take n) else match S[m]? with
    | some (.lst ds) => if keep = true then .ok (.ref n) (S.take n ++ [.lst ds]) else .ok (.v (.lst ds)) (S.take n)
    | some (.dic ks vs) => if keep = true then .ok (.ref n) (S.take n ++ [.dic ks vs]) else .ok (.v (.dic ks vs)) (S.take n)
    | _ => .bad
def wrap (keep : Bool) (N : Nat) (body : FS) (ys : List Y) (S : Sto) : Res Y := match body (startE N ys) S with
  | .nx _ S1 => close keep S.length (.v .non) S1
  | .rt y S1 => close keep S.length y S1
  | .exc x _ S1 => .exc x (S1.take S.length)
  | _ => .bad
theorem start_R {K : PySem.W.Frag} {w : Wd} {N : List Str} {ys : List Y} {vs : List V} (r : RYs K w ys vs) : EnvR K w (startE N.length ys) (L2.start N vs) := by
  have hl := r.length
  refine ⟨by simp [startE, L2.start, hl], fun i y e => ?_⟩
  unfold startE at e
  by_cases hi : i < ys.length
  · rw [List.getElem?_append_left (by simpa using hi), List.getElem?_map] at e
    cases e1 : ys[i]? with
    | none => rw [e1] at e; cases e
    | some y' =>
      rw [e1] at e; cases e
      obtain ⟨v, e2, r2⟩ := r.get e1
      refine ⟨v, ?_, r2⟩
      unfold L2.start
      rw [List.getElem?_append_left (by rw [List.length_map, ← hl]; exact hi), List.getElem?_map, e2]
      rfl
  · rw [List.getElem?_append_right (by simpa using Nat.le_of_not_lt hi), List.getElem?_replicate] at e
    split at e <;> cases e
theorem cut_le {w w1 : Wd} (l : w.le w1) : w.le { w1 with io := w1.io.take w.io.length } := by
  refine ⟨l.F, ⟨[], ?_⟩, l.X⟩
  obtain ⟨m, e⟩ := l.io
  show w1.io.take w.io.length = w.io ++ []
  rw [e, List.take_left, List.append_nil]
theorem close_rd {K : PySem.W.Frag} {mg : Str → Option Value} {E : XK} {w w1 : Wd} {S S1 : Sto} {H0 H : Hp} {keep : Bool} {y : Y} {v : V} {Q : VK} (s0 : Sim K w S H0) (l : w.le w1) (s : Sim K w1 S1 H) (r : RY K w1 y v) (h : rd K mg E (close keep S.length y S1) w (RY K) Q) : Q v H := by
  have el := s0.len
  have lc := cut_le l
  rw [el] at lc
  have sc := s.cut S.length
  cases y with
  | v d => exact rd_okLe h lc sc r
  | ref m =>
    simp only [close] at h
    obtain ⟨a, ea, rfl⟩ := r
    split at h
    · rename_i hm
      refine rd_okLe h lc sc ⟨a, ?_, rfl⟩
      show (w1.io.take S.length)[m]? = some a
      rw [List.getElem?_take, if_pos hm]; exact ea
    · rename_i hm
      split at h
      · rename_i ds e1
        obtain ⟨⟨xs, h1, h2⟩, _, hF, hX⟩ := s.ob m _ a e1 ea (by intro z; cases z)
        have hs : ∀ n : Nat, (w1.io.take S.length)[n]? = some a → (S1.take S.length)[n]? = some .gone := fun n e => by
          have hn : n < S.length := by
            by_cases q : n < S.length
            · exact q
            · rw [List.getElem?_take, if_neg q] at e; cases e
          rw [List.getElem?_take, if_pos hn] at e ⊢
          by_cases z : S1[n]? = some .gone
          · exact z
          · exact absurd (s.inj m n a ea e (by rw [e1]; intro z; cases z) z) (by omega)
        split at h
        · refine rd_okLe h (lc.trans .newO) (sc.adopt h1 hF hX hs ⟨xs, h1, h2⟩) ⟨a, ?_, rfl⟩
          have hl : S.length ≤ w1.io.length := by
            obtain ⟨mm, e⟩ := l.io
            rw [e, List.length_append, el]; omega
          show (w1.io.take S.length ++ [a])[S.length]? = some a
          rw [List.getElem?_append_right (by rw [List.length_take]; omega), List.length_take, Nat.min_eq_left hl, Nat.sub_self]; rfl
        · exact rd_okLe h (lc.trans (.froze hF)) (sc.froze h1 hF hX hs) (Rp.lst (.inl upd_same) (h2.mono (le_upd hF)))
      · rename_i ks vs e1
        obtain ⟨⟨xs, h1, h2⟩, _, hF, hX⟩ := s.ob m _ a e1 ea (by intro z; cases z)
        have hs : ∀ n : Nat, (w1.io.take S.length)[n]? = some a → (S1.take S.length)[n]? = some .gone := fun n e => by
          have hn : n < S.length := by
            by_cases q : n < S.length
            · exact q
            · rw [List.getElem?_take, if_neg q] at e; cases e
          rw [List.getElem?_take, if_pos hn] at e ⊢
          by_cases z : S1[n]? = some .gone
          · exact z
          · exact absurd (s.inj m n a ea e (by rw [e1]; intro z; cases z) z) (by omega)
        split at h
        · refine rd_okLe h (lc.trans .newO) (sc.adopt h1 hF hX hs ⟨xs, h1, h2⟩) ⟨a, ?_, rfl⟩
          have hl : S.length ≤ w1.io.length := by
            obtain ⟨mm, e⟩ := l.io
            rw [e, List.length_append, el]; omega
          show (w1.io.take S.length ++ [a])[S.length]? = some a
          rw [List.getElem?_append_right (by rw [List.length_take]; omega), List.length_take, Nat.min_eq_left hl, Nat.sub_self]; rfl
        · exact rd_okLe h (lc.trans (.froze hF)) (sc.froze h1 hF hX hs) (Rp.dic (.inl upd_same) (h2.mono (le_upd hF)))
      · exact h.elim
section
variable {P : Program} {w : World} {K : PySem.W.Frag} {mg : Str → Option Value} {base : Heap}
abbrev CxD (P : Program) (w : World) (K : PySem.W.Frag) (mg : Str → Option Value) (base : Heap) (N : List Str) (x : Str) (sc : Scope) (f : Addr) (cdv : Value) (A : Around) (outer : List Env) (s : Shared) (H : Hp) (E : XK) : Cx := cxOf (L2.CX P w) P w K mg base N x sc f cdv A outer s H E
abbrev WD (E : XK) : WX := fun cls d _ H => E cls d H
theorem okD {N ps : List Str} {x : Str} {sc : Scope} {f : Addr} {cdv : Value} {A : Around} {outer : List Env} {s : Shared} {H : Hp} {E : XK} {k : Nat} {vl wl : List (Nat × Str)} {gl : List Str} (S : FnScope N ps sc) (hr : Room k (A.deeper (envOfC x sc s.heap.objs.size f cdv)))
    (h : ctxC N (fun _ => true) sc vl wl gl = true) (blt : ∀ (j : Nat) (x : Str), bls[j]? = some x → mg x = none) : Ok (CxD P w K mg base N x sc f cdv A outer s H E) (WD E) k vl wl gl :=
  ok_of (N := N) (sc := sc) (fn := fun _ => true) (L2.takes_of rfl rfl rfl rfl) hr rfl S.nd rfl rfl (fun _ h => h) h blt
theorem passD {N : List Str} {x : Str} {sc : Scope} {f : Addr} {cdv : Value} {A : Around} {outer : List Env} {s : Shared} {H : Hp} {E : XK} : PassesOwn (model P w) (CxD P w K mg base N x sc f cdv A outer s H E).A (CxD P w K mg base N x sc f cdv A outer s H E).env (CxD P w K mg base N x sc f cdv A outer s H E).xe :=
  L2.passes_of (X := CxD P w K mg base N x sc f cdv A outer s H E) (K := fun e s'' => L2.CX P w outer H s E e s'') rfl
theorem def_mk {x : Str} {st : Stmt} {f : Addr} {fd : FuncData} {N ps : List Str} {k : Nat} (keep : Bool) {body : FS} (F : Fun K x x st f fd) (gx : mg x = some (.ref f)) (S : FnScope N ps (defScope st)) (b : Binds K fd ps [])
    (hb : ∀ (cdv : Value) (A : Around) (outer : List Env) (s : Shared) (H : Hp) (E : XK), Room k (A.deeper (envOfC x (defScope st) s.heap.objs.size f cdv)) → RSs (CxD P w K mg base N x (defScope st) f cdv A outer s H E) (WD E) (defBody st) body) :
    Def P w K mg base x ps.length (k + 1) (wrap keep N.length body) := by
  refine ⟨f, fd, ps, gx, F.kp, rfl, ?_, b⟩
  refine F.okX S (fun vs H Q E h => h.1) (fun cdv A outer s H vs Q E hr h => ⟨_, hb cdv A outer s H E hr, ?_⟩)
  obtain ⟨hl, w0, S0, ys, s0, r0, q⟩ := h
  refine ⟨w0, startE N.length ys, S0, start_R r0, s0, ?_⟩
  unfold wrap at q
  cases hB : body (startE N.length ys) S0 with
  | nx env S1 => rw [hB] at q; exact fun w1 σ1 H1 l1 hE1 s1 => close_rd (y := .v .non) (v := .non) s0 l1 s1 Rp.non q
  | rt y S1 => rw [hB] at q; exact fun w1 v H1 l1 s1 r1 => close_rd s0 l1 s1 r1 q
  | bk env S1 => rw [hB] at q; exact q.elim
  | ct env S1 => rw [hB] at q; exact q.elim
  | exc x env S1 =>
    rw [hB] at q
    intro w1 σ1 cls d H1 l1 hE1 s1 xr
    have lc := cut_le l1
    rw [s0.len] at lc
    refine q _ cls d H1 lc (s1.cut S0.length) ?_
    obtain ⟨x1, x2⟩ := xr
    exact ⟨x1, x2⟩
  | bad => rw [hB] at q; exact q.elim
/-- never called -/
theorem def_bad {x : Str} {st : Stmt} {f : Addr} {fd : FuncData} {N ps : List Str} {n j : Nat} (F : Fun K x x st f fd) (gx : mg x = some (.ref f)) (S : FnScope N ps (defScope st)) (b : Binds K fd ps []) (hn : ps.length = n := by rfl) : Def P w K mg base x n (j + 1) (fun _ _ => .bad) := by
  refine ⟨f, fd, ps, gx, F.kp, hn, ?_, b⟩
  refine F.okX S (fun vs H Q E h => by rw [hn]; exact h.1) (fun cdv A outer s H vs Q E hr h => ⟨_, pss_never, ?_⟩)
  obtain ⟨hl, w0, S0, ys, s0, r0, q⟩ := h
  exact q.elim
end

/-! ### the law's own head -/
def spL (K : PySem.W.Frag) (n : Nat) : Sp := fun vs H Q _ => ∃ (a : Addr) (ns : List Int), vs = [.ref a] ∧ SqL K H a (ns.map V.int) ∧ ns.length ≤ n ∧ ∀ H', Q (.bl true) H'
theorem def_law {P : Program} {w : World} {K : PySem.W.Frag} {mg : Str → Option Value} {base : Heap} {x : Str} {k n : Nat} {m : List Y → Sto → Res Y} (d : Def P w K mg base x 1 k m)
    (hm : ∀ ns : List Int, ns.length ≤ n → m [.v (.scr (ns.map D.int))] [] = .ok (.v (.bl true)) []) {fa : Addr} (hfa : mg x = some (.ref fa)) :
    ∃ fd : FuncData, ∃ p : Str, Binds K fd [p] [] ∧ FnOk P w K mg base (L2.CX P w) k fa fd [p] (spL K n) := by
  obtain ⟨f, fd, ps, h1, h2, h3, h4, h5⟩ := d.ex
  rw [hfa] at h1
  cases h1
  match ps, h3 with
  | [p], _ =>
    refine ⟨fd, p, h5, h4.imp fun vs H Q E q => ?_⟩
    obtain ⟨a, ns, rfl, hS, hl, hq⟩ := q
    refine ⟨rfl, ⟨H, [], fun _ => none⟩, [], [.v (.scr (ns.map D.int))], ?_, .cons (Rp.scr hS (RpL.ofInts ns)) .nil, ?_⟩
    · exact ⟨rfl, fun b o e => .inl e, fun n o b e => by simp at e, fun n m b e => by simp at e, fun b o e => by cases e⟩
    · rw [hm ns hl]
      intro w' v H' l s r
      cases r
      exact hq H'
end Sg

/-! Q6: what the printed proofs use -/
namespace Sg
open PySem PySem.Spec PyProof.Rows L2

/-! ### comprehensions of two clauses -/
def lcD2 (t : Tg) (ft : FE Bool) (fi1 : FE (List D)) (vs1 : List Nat) (t1 : Tg) (ft1 : FE Bool) (fe : FE Y) (env : Ev) : List D → List D → Sto → Res (List D)
  | [], acc, S => .ok acc S
  | d :: ds, acc, S => match t.asg d env with
    | none => .bad
    | some env1 => (ft env1 S).bindX fun b S1 => if b = true then (fi1 env1 S1).bindX fun es S2 => (lcD t1 ft1 fe (wipeE vs1 env1) es acc S2).bindX fun acc' S3 => lcD2 t ft fi1 vs1 t1 ft1 fe env ds acc' S3 else lcD2 t ft fi1 vs1 t1 ft1 fe env ds acc S1
def fLc2 (m : Bool) (vs vs1 : List Nat) (fi : FE (List D)) (t : Tg) (ft : FE Bool) (fi1 : FE (List D)) (t1 : Tg) (ft1 : FE Bool) (fe : FE Y) : FE Y := fun env S => (fi env S).bind fun ds S1 => (lcD2 t ft fi1 vs1 t1 ft1 fe (wipeE vs env) ds [] S1).bindX fun out S2 => newL m out S2
theorem bindX_ok {α β : Type} (a : α) (S : Sto) (f : α → Sto → Res β) : (Res.ok a S).bindX f = f a S := rfl
theorem bindX_assoc {α β γ : Type} (r : Res α) (f : α → Sto → Res β) (g : β → Sto → Res γ) : (r.bindX f).bindX g = r.bindX fun a S => (f a S).bindX g := by
  cases r <;> rfl
theorem LcI.base {K : PySem.W.Frag} {w1 w2 : Wd} {A : Addr} {P : Wd → List D → Sto → Prop} {H : Hp} (l : w1.le w2) (h : LcI K w2 A P H) : LcI K w1 A P H := by
  obtain ⟨w', S', acc, xs, l', s', ra, q⟩ := h
  rw [l.X] at s'
  exact ⟨w', S', acc, xs, l.trans l', s', ra, q⟩
theorem LcI.ev {α β : Type} {K : PySem.W.Frag} {w1 : Wd} {A : Addr} {mg : Str → Option Value} {R : Wd → α → β → Prop} {f : FE α} {env1 : Ev} {S' S1 : Sto} {a : α} {H : Hp} {σ2 : L2.St} {w' : Wd} {xs : List V} {Q : β → Hp → Prop} (hE : EnvR K w' env1 σ2) (s' : Sim K { w' with X := upd w1.X A (.lst xs) } S' H) (e : f env1 S' = .ok a S1)
    (h : ∀ w2 H2 b, w'.le w2 → Sim K { w2 with X := upd w1.X A (.lst xs) } S1 H2 → R { w2 with X := upd w1.X A (.lst xs) } a b → Q b H2) : tM K mg W0 R f σ2 H Q := by
  refine ⟨{ w' with X := upd w1.X A (.lst xs) }, env1, S', hE.to (.refl _) ⟨[], by simp⟩, s', ?_⟩
  rw [e]
  intro w3 v H4 l3 s3 r3
  have ew : w3 = { ({ w3 with X := w'.X } : Wd) with X := upd w1.X A (.lst xs) } := by
    have := l3.X
    cases w3
    simp at this ⊢
    exact this
  rw [ew] at s3 r3
  exact h { w3 with X := w'.X } H4 v ⟨l3.F, l3.io, rfl⟩ s3 r3
/-- one turn of the (inner) loop -/
theorem lc_step {K : PySem.W.Frag} {mg : Str → Option Value} {E : XK} {vs : List Nat} {t : Tg} {ft : FE Bool} {fe : FE Y} (hv : ∀ i ∈ t.slots, i ∈ vs) {w1 : Wd} {A : Addr} {κ : List D → Sto → Res Y} {Q : VK} {ds : List D} {i : Nat} {d : D} (ed : ds[i]? = some d) {envB : Ev} {σ : L2.St}
    (hE1 : EnvR K w1 envB (L2.wipe σ vs)) {w' : Wd} {S' : Sto} {acc : List D} {xs : List V} (l' : w1.le w') (ra : RpL K w'.F acc xs) (q' : rd K mg E ((lcD t ft fe envB (ds.drop i) acc S').bindX κ) w' (RY K) Q) {F' : Hp} (lF : Le w'.F F') {H2 : Hp} (s2 : Sim K { w' with F := F', X := upd w1.X A (.lst xs) } S' H2) {z : V} (rz : Rp K F' d z) :
    t.rd K z (L2.wipe σ vs) H2 fun σ2 H2 => L2.wipe σ2 vs = L2.wipe σ vs ∧ tM K mg W0 REq ft σ2 H2 fun b H3 => if b = true then tM K mg W0 (RY K) fe σ2 H3 fun y H4 => ∃ ac, H4 A = some (.lst ac) ∧ ac.length < sizeLine ∧ LcI K w1 A (fun w' acc S' => rd K mg E ((lcD t ft fe envB (ds.drop (i + 1)) acc S').bindX κ) w' (RY K) Q) (upd H4 A (.lst (ac ++ [y])))
      else LcI K w1 A (fun w' acc S' => rd K mg E ((lcD t ft fe envB (ds.drop (i + 1)) acc S').bindX κ) w' (RY K) Q) H3 := by
  have hlt : i < ds.length := (List.getElem?_eq_some_iff.mp ed).1
  have l2 : w'.le { w' with F := F' } := ⟨lF, ⟨[], by simp⟩, rfl⟩
  rw [List.drop_eq_getElem_cons hlt] at q'
  have ed' : ds[i] = d := Option.some.inj ((List.getElem?_eq_getElem hlt).symm.trans ed)
  rw [ed'] at q'
  unfold lcD at q'
  cases ea : t.asg d envB with
  | none => rw [ea] at q'; exact q'.elim
  | some env1 =>
    rw [ea] at q'
    dsimp only at q'
    refine asg_ok (w := { w' with F := F', X := upd w1.X A (.lst xs) }) (vs := vs) s2 t ((hE1.mono l').to lF ⟨[], by simp⟩) rz ea hv fun σ2 hE2 hw2 => ⟨by rw [hw2, wipe_wipe], ?_⟩
    have hE2' : EnvR K { w' with F := F' } env1 σ2 := hE2.to (.refl _) ⟨[], by simp⟩
    have q2 := rd_le l2 q'
    cases hb : ft env1 S' with
    | exc x S9 => rw [hb] at q2; exact q2.elim
    | bad => rw [hb] at q2; exact q2.elim
    | ok b S1' =>
      rw [hb] at q2
      simp only [Res.bindX] at q2
      refine LcI.test (w' := { w' with F := F' }) hE2' s2 hb fun w3 H3 l3 s3 => ?_
      have q3 := rd_le l3 q2
      cases b with
      | false =>
        rw [if_neg Bool.false_ne_true] at q3 ⊢
        exact ⟨w3, S1', acc, xs, (l'.trans l2).trans l3, s3, ra.mono ((l2.trans l3).F), q3⟩
      | true =>
        rw [if_pos rfl] at q3 ⊢
        refine LcI.elt (w' := w3) (P := fun _ _ _ => True) ((l'.trans l2).trans l3) (hE2'.mono l3) s3 (ra.mono ((l2.trans l3).F)) ?_
        cases he : fe env1 S1' with
        | exc x S9 => rw [he] at q3; exact q3.elim
        | bad => rw [he] at q3; exact q3.elim
        | ok y S2' =>
          rw [he] at q3
          simp only [Res.bindX] at q3
          rcases thaw1_cases y S2' with ⟨d', S3', e4⟩ | e4
          · rw [e4] at q3
            simp only [Res.bindX] at q3
            by_cases hl : okLen (acc.length + 1) = true
            · rw [if_pos hl] at q3
              exact ⟨y, S2', d', S3', rfl, e4, hl, fun w4 l4 => rd_le l4 q3⟩
            · rw [if_neg hl] at q3; exact q3.elim
          · rw [e4] at q3; exact q3.elim
theorem lc2_read {K : PySem.W.Frag} {mg : Str → Option Value} {W : WX} {m : Bool} {vs vs1 : List Nat} {t t1 : Tg} {fi fi1 : FE (List D)} {ft ft1 : FE Bool} {fe : FE Y} (hv : ∀ i ∈ t.slots, i ∈ vs) (hv1 : ∀ i ∈ t1.slots, i ∈ vs1) (σ : L2.St) (H : Hp) (Q : VK)
    (q : tM K mg W (RY K) (fLc2 m vs vs1 fi t ft fi1 t1 ft1 fe) σ H Q) :
    tLc2 (tM K mg W (fun w ds J => Good K w.F J ds) fi) (t.rd K) (tM K mg W0 REq ft) (tM K mg W0 (fun w ds J => Good K w.F J ds) fi1) (t1.rd K) (tM K mg W0 REq ft1) (tM K mg W0 (RY K) fe) vs vs1 σ H Q := by
  obtain ⟨w, env, S, hE, s, q⟩ := q
  refine ⟨w, env, S, hE, s, rd_bind q fun ds S1 w1 J H1 l1 s1 g q1 A hA => ?_⟩
  have hE1 := hE.mono l1
  have hX1 : w1.X A = none := s1.freshX hA
  let P : Nat → Wd → List D → Sto → Prop := fun i w' acc S' => rd K mg (WE W σ) ((lcD2 t ft fi1 vs1 t1 ft1 fe (wipeE vs env) (ds.drop i) acc S').bindX fun out S2 => newL m out S2) w' (RY K) Q
  refine ⟨fun i n H' => n + i = ds.length ∧ LcI K w1 A (P i) H', ⟨ds.length, rfl, w1, S1, [], [], .refl w1, s1.hold hA _, .nil, q1⟩, fun i n H' hW => ?_⟩
  obtain ⟨hn, w', S', acc, xs, l', s', ra, q'⟩ := hW
  obtain ⟨hstop, hgo⟩ := g { w' with X := upd w1.X A (.lst xs) } S' H' i l'.F s'
  cases ed : ds[i]? with
  | none =>
    have hi : ds.length ≤ i := List.getElem?_eq_none_iff.mp ed
    refine .inl ⟨hstop (by omega), LcI.out (mg := mg) (E := WE W σ) (m := m) hX1 ⟨w', S', acc, xs, l', s', ra, ?_⟩⟩
    simp only [P] at q'
    rw [List.drop_eq_nil_of_le hi] at q'
    exact q'
  | some d =>
    obtain ⟨hg, hy⟩ := hgo d ed
    have hlt : i < ds.length := (List.getElem?_eq_some_iff.mp ed).1
    refine .inr ⟨hg, LcI K w1 A (P (i + 1)), fun H3 h3 => ⟨n - 1, by omega, by omega, h3⟩, fun z H2 hyl => ?_⟩
    obtain ⟨F', lF, s2, rz⟩ := hy z H2 hyl
    have l2 : w'.le { w' with F := F' } := ⟨lF, ⟨[], by simp⟩, rfl⟩
    simp only [P] at q'
    rw [List.drop_eq_getElem_cons hlt] at q'
    have ed' : ds[i] = d := Option.some.inj ((List.getElem?_eq_getElem hlt).symm.trans ed)
    rw [ed'] at q'
    unfold lcD2 at q'
    cases ea : t.asg d (wipeE vs env) with
    | none => rw [ea] at q'; exact q'.elim
    | some env1 =>
      rw [ea] at q'
      dsimp only at q'
      refine asg_ok (w := { w' with F := F', X := upd w1.X A (.lst xs) }) (vs := vs) s2 t (((hE1.mono l').wipe vs).to lF ⟨[], by simp⟩) rz ea hv fun σ2 hE2 hw2 => ⟨by rw [hw2, wipe_wipe], ?_⟩
      have hE2' : EnvR K { w' with F := F' } env1 σ2 := hE2.to (.refl _) ⟨[], by simp⟩
      have q2 := rd_le l2 q'
      cases hb : ft env1 S' with
      | exc x S9 => rw [hb] at q2; exact q2.elim
      | bad => rw [hb] at q2; exact q2.elim
      | ok b S1' =>
        rw [hb] at q2
        rw [bindX_ok] at q2
        refine LcI.test (w' := { w' with F := F' }) hE2' s2 hb fun w3 H3 l3 s3 => ?_
        have q3 := rd_le l3 q2
        have ra3 := ra.mono ((l2.trans l3).F)
        have lw3 := (l'.trans l2).trans l3
        cases b with
        | false =>
          rw [if_neg Bool.false_ne_true] at q3 ⊢
          exact ⟨w3, S1', acc, xs, lw3, s3, ra3, q3⟩
        | true =>
          rw [if_pos rfl] at q3 ⊢
          cases hf : fi1 env1 S1' with
          | exc x S9 => rw [hf] at q3; exact q3.elim
          | bad => rw [hf] at q3; exact q3.elim
          | ok es S2' =>
            rw [hf] at q3
            rw [bindX_ok] at q3
            refine LcI.ev (w1 := w1) (A := A) (w' := w3) (hE2'.mono l3) s3 hf fun w4 H4 J1 l4 s4 g1 => ?_
            have q4 := rd_le l4 q3
            rw [bindX_assoc] at q4
            have lw4 := lw3.trans l4
            have eX : w4.X = w1.X := lw4.X
            let P1 : Nat → Wd → List D → Sto → Prop := fun j w' acc S' => rd K mg (WE W σ) ((lcD t1 ft1 fe (wipeE vs1 env1) (es.drop j) acc S').bindX fun acc' S3 => (lcD2 t ft fi1 vs1 t1 ft1 fe (wipeE vs env) (ds.drop (i + 1)) acc' S3).bindX fun out S2 => newL m out S2) w' (RY K) Q
            refine ⟨fun j n H' => n + j = es.length ∧ LcI K w4 A (P1 j) H', ⟨es.length, rfl, w4, S2', acc, xs, .refl w4, by rw [eX]; exact s4, ra3.mono l4.F, q4⟩, fun j n1 H5 hW1 => ?_⟩
            obtain ⟨hn1, w5, S5, acc5, xs5, l5, s5, ra5, q5⟩ := hW1
            obtain ⟨hstop1, hgo1⟩ := g1 { w5 with X := upd w4.X A (.lst xs5) } S5 H5 j l5.F s5
            have hE5 : EnvR K w4 (wipeE vs1 env1) (L2.wipe σ2 vs1) := ((hE2'.mono l3).mono l4).wipe vs1
            cases ee : es[j]? with
            | none =>
              have hj : es.length ≤ j := List.getElem?_eq_none_iff.mp ee
              refine .inl ⟨hstop1 (by omega), LcI.base lw4 ⟨w5, S5, acc5, xs5, l5, s5, ra5, ?_⟩⟩
              simp only [P1] at q5
              rw [List.drop_eq_nil_of_le hj] at q5
              exact q5
            | some d1 =>
              obtain ⟨hg1, hy1⟩ := hgo1 d1 ee
              have hlt1 : j < es.length := (List.getElem?_eq_some_iff.mp ee).1
              refine .inr ⟨hg1, LcI K w4 A (P1 (j + 1)), fun H6 h6 => ⟨n1 - 1, by omega, by omega, h6⟩, fun z1 H6 hyl1 => ?_⟩
              obtain ⟨F5, lF5, s6, rz1⟩ := hy1 z1 H6 hyl1
              exact lc_step hv1 ee hE5 l5 ra5 q5 lF5 s6 rz1
structure OkS (X : Cx) (W : WX) (k : Nat) (N : List Str) (sc : Scope) (vl wl : List (Nat × Str)) (gl : List Str) : Prop where
  o : Ok X W k vl wl gl
  eN : X.N = N
  es : X.env.scope = sc
section
variable {X : Cx} {W : WX} {k : Nat} {vl wl : List (Nat × Str)} {gl : List Str} {e : Expr} {es : List Expr} {fs : FE (List Y)} {pos p : Pos} {x : Str} {N : List Str} {sc scope : Scope}
theorem OkS.blk {vl' wl' : List (Nat × Str)} {gl' : List Str} (O : OkS X W k N sc vl wl gl) (h : ctxC N (fun x => scope.names.lookup x == some .cell) (relS scope sc) vl' wl' gl' = true)
    (s : Shared) (H : Hp) (C : Addr) (cl : List (Str × Addr)) (fp : List Addr) : OkS (Bk X scope s H C cl fp) W0 k N (relS scope sc) vl' wl' gl' :=
  ⟨O.o.blk O.eN O.es h s H C cl fp, O.eN, by rw [← O.es]; rfl⟩
def slotsC (t : Tg) (own : List (Str × Nat)) : Bool := t.slots.all fun i => (own.map (·.2)).contains i
theorem re_lcO (m : Bool) (O : OkS X W k N sc vl wl gl) {elt tg iter : Expr} {ifs : List Expr} (own : List (Str × Nat)) (vl' wl' : List (Nat × Str)) (gl' : List Str) {t : Tg} {fi : FE (List D)} {ft : FE Bool} {fe : FE Y} (hi : RI X W tg iter fi) (ok : blkC N sc scope own = true) (hv : slotsC t own = true)
    (hc : ctxC N (fun x => scope.names.lookup x == some .cell) (relS scope sc) vl' wl' gl' = true)
    (hb : ∀ (s : Shared) (H : Hp) (C : Addr) (cl : List (Str × Addr)) (fp : List Addr), OkS (Bk X scope s H C cl fp) W0 k N (relS scope sc) vl' wl' gl' → RGt (Bk X scope s H C cl fp) tg t ∧ RTs (Bk X scope s H C cl fp) W0 ifs ft ∧ RE (Bk X scope s H C cl fp) W0 elt fe)
    (hs : ∀ x, foldedSetIterable iter X.env x = pure x := by intro _; rfl) :
    RE X W (.ListComp elt [⟨tg, iter, ifs, 0⟩] scope pos) (fLc m (own.map (·.2)) fi t ft fe) :=
  re_lc m O.o own hi O.eN O.es ok hv (fun s H C cl fp => (hb s H C cl fp (O.blk hc s H C cl fp)).1) (fun s H C cl fp => (hb s H C cl fp (O.blk hc s H C cl fp)).2.1) (fun s H C cl fp => (hb s H C cl fp (O.blk hc s H C cl fp)).2.2) hs
theorem rs_setLcO (m : Bool) {i : Nat} {y : Str} {py : Pos} (O : OkS X W k N sc vl wl gl) {elt tg iter : Expr} {ifs : List Expr} (own : List (Str × Nat)) (vl' wl' : List (Nat × Str)) (gl' : List Str) {t : Tg} {fi : FE (List D)} {ft : FE Bool} {fe : FE Y} {spos : Pos} (hi : RI X W tg iter fi) (ok : blkC N sc scope own = true) (hv : slotsC t own = true)
    (hc : ctxC N (fun x => scope.names.lookup x == some .cell) (relS scope sc) vl' wl' gl' = true) (hy : N[i]? = some y) (hyl : sc.names.lookup y = some .local)
    (hsw : swapsWith (.ListComp elt [⟨tg, iter, ifs, 0⟩] scope pos) (some (.Name y py)) spos.line X.env = pure true)
    (hb : ∀ (s : Shared) (H : Hp) (C : Addr) (cl : List (Str × Addr)) (fp : List Addr), OkS (Bk X scope s H C cl fp) W0 k N (relS scope sc) vl' wl' gl' → RGt (Bk X scope s H C cl fp) tg t ∧ RTs (Bk X scope s H C cl fp) W0 ifs ft ∧ RE (Bk X scope s H C cl fp) W0 elt fe)
    (hs : ∀ x, foldedSetIterable iter X.env x = pure x := by intro _; rfl) :
    RS X W (.Assign [.Name y py] (.ListComp elt [⟨tg, iter, ifs, 0⟩] scope pos) spos) (fSet i (fLc m (own.map (·.2)) fi t ft fe)) :=
  rs_setLc m O.o own hi O.eN O.es ok hv hy hyl hsw (fun s H C cl fp => (hb s H C cl fp (O.blk hc s H C cl fp)).1) (fun s H C cl fp => (hb s H C cl fp (O.blk hc s H C cl fp)).2.1) (fun s H C cl fp => (hb s H C cl fp (O.blk hc s H C cl fp)).2.2) hs
def vsC (t1 : Tg) (vs1 : List Nat) (own : List (Str × Nat)) : Bool := (t1.slots.all fun i => vs1.contains i) && vs1.all fun i => (own.map (·.2)).contains i
abbrev Body2 (X : Cx) (k : Nat) (N : List Str) (sc scope : Scope) (vl' wl' : List (Nat × Str)) (gl' : List Str) (tg tg1 iter1 elt : Expr) (ifs ifs1 : List Expr) (t t1 : Tg) (fi1 : FE (List D)) (ft ft1 : FE Bool) (fe : FE Y) : Prop :=
  ∀ (s : Shared) (H : Hp) (C : Addr) (cl : List (Str × Addr)) (fp : List Addr), OkS (Bk X scope s H C cl fp) W0 k N (relS scope sc) vl' wl' gl' → RGt (Bk X scope s H C cl fp) tg t ∧ RTs (Bk X scope s H C cl fp) W0 ifs ft ∧ RI (Bk X scope s H C cl fp) W0 tg1 iter1 fi1 ∧ RGt (Bk X scope s H C cl fp) tg1 t1 ∧ RTs (Bk X scope s H C cl fp) W0 ifs1 ft1 ∧ RE (Bk X scope s H C cl fp) W0 elt fe
theorem all_mem {l : List Nat} {own : List Nat} (h : (l.all fun i => own.contains i) = true) : ∀ i ∈ l, i ∈ own := fun i hi => by
  have := List.all_eq_true.mp h i hi
  simpa using this
theorem re_lc2O (m : Bool) (O : OkS X W k N sc vl wl gl) {elt tg iter tg1 iter1 : Expr} {ifs ifs1 : List Expr} (own : List (Str × Nat)) (vs1 : List Nat) (vl' wl' : List (Nat × Str)) (gl' : List Str) {t t1 : Tg} {fi fi1 : FE (List D)} {ft ft1 : FE Bool} {fe : FE Y} (hi : RI X W tg iter fi) (ok : blkC N sc scope own = true) (hv : (slotsC t own && vsC t1 vs1 own) = true)
    (hc : ctxC N (fun x => scope.names.lookup x == some .cell) (relS scope sc) vl' wl' gl' = true) (hb : Body2 X k N sc scope vl' wl' gl' tg tg1 iter1 elt ifs ifs1 t t1 fi1 ft ft1 fe)
    (hs : ∀ x, foldedSetIterable iter X.env x = pure x := by intro _; rfl) (hs1 : ∀ env x, foldedSetIterable iter1 env x = pure x := by intro _ _; rfl) :
    RE X W (.ListComp elt [⟨tg, iter, ifs, 0⟩, ⟨tg1, iter1, ifs1, 0⟩] scope pos) (fLc2 m (own.map (·.2)) vs1 fi t ft fi1 t1 ft1 fe) := by
  simp only [Bool.and_eq_true, slotsC, vsC] at hv
  obtain ⟨hv0, hv1, hv2⟩ := hv
  have B := fun s H C cl fp => hb s H C cl fp (O.blk hc s H C cl fp)
  have ok' : BlkOk X.N X.env.scope scope own := by rw [O.eN, O.es]; exact blkOk_by ok
  refine weakPE (pe_lc2 (wi1 := tM X.K X.mg W0 (fun w ds J => Good X.K w.F J ds) fi1) (g := t.rd X.K) (tt := tM X.K X.mg W0 REq ft) (te := tM X.K X.mg W0 (RY X.K) fe) (g1 := t1.rd X.K) (tt1 := tM X.K X.mg W0 REq ft1) O.o.calm O.o.nd hi ok' (all_mem hv2) (fun s H C cl fp => (B s H C cl fp).1) (fun s H C cl fp => (B s H C cl fp).2.1)
    (fun s H C cl fp => (B s H C cl fp).2.2.1) (fun s H C cl fp => (B s H C cl fp).2.2.2.1) (fun s H C cl fp => (B s H C cl fp).2.2.2.2.1) (fun s H C cl fp => (B s H C cl fp).2.2.2.2.2) hs hs1) fun σ H Q q => lc2_read (all_mem hv0) (all_mem hv1) σ H Q q
theorem rs_setLc2O (m : Bool) {i : Nat} {y : Str} {py : Pos} (O : OkS X W k N sc vl wl gl) {elt tg iter tg1 iter1 : Expr} {ifs ifs1 : List Expr} (own : List (Str × Nat)) (vs1 : List Nat) (vl' wl' : List (Nat × Str)) (gl' : List Str) {t t1 : Tg} {fi fi1 : FE (List D)} {ft ft1 : FE Bool} {fe : FE Y} {spos : Pos} (hi : RI X W tg iter fi) (ok : blkC N sc scope own = true) (hv : (slotsC t own && vsC t1 vs1 own) = true)
    (hc : ctxC N (fun x => scope.names.lookup x == some .cell) (relS scope sc) vl' wl' gl' = true) (hy : N[i]? = some y) (hyl : sc.names.lookup y = some .local)
    (hsw : swapsWith (.ListComp elt [⟨tg, iter, ifs, 0⟩, ⟨tg1, iter1, ifs1, 0⟩] scope pos) (some (.Name y py)) spos.line X.env = pure true) (hb : Body2 X k N sc scope vl' wl' gl' tg tg1 iter1 elt ifs ifs1 t t1 fi1 ft ft1 fe)
    (hs : ∀ x, foldedSetIterable iter X.env x = pure x := by intro _; rfl) (hs1 : ∀ env x, foldedSetIterable iter1 env x = pure x := by intro _ _; rfl) :
    RS X W (.Assign [.Name y py] (.ListComp elt [⟨tg, iter, ifs, 0⟩, ⟨tg1, iter1, ifs1, 0⟩] scope pos) spos) (fSet i (fLc2 m (own.map (·.2)) vs1 fi t ft fi1 t1 ft1 fe)) := by
  simp only [Bool.and_eq_true, slotsC, vsC] at hv
  obtain ⟨hv0, hv1, hv2⟩ := hv
  have B := fun s H C cl fp => hb s H C cl fp (O.blk hc s H C cl fp)
  have ok' : BlkOk X.N X.env.scope scope own := by rw [O.eN, O.es]; exact blkOk_by ok
  refine weakPS (ps_setLc2 (wi1 := tM X.K X.mg W0 (fun w ds J => Good X.K w.F J ds) fi1) (g := t.rd X.K) (tt := tM X.K X.mg W0 REq ft) (te := tM X.K X.mg W0 (RY X.K) fe) (g1 := t1.rd X.K) (tt1 := tM X.K X.mg W0 REq ft1) O.o.calm O.o.nd (by rw [O.eN]; exact hy) (by rw [O.es]; exact hyl) hsw hi ok' (all_mem hv2) (fun s H C cl fp => (B s H C cl fp).1) (fun s H C cl fp => (B s H C cl fp).2.1)
    (fun s H C cl fp => (B s H C cl fp).2.2.1) (fun s H C cl fp => (B s H C cl fp).2.2.2.1) (fun s H C cl fp => (B s H C cl fp).2.2.2.2.1) (fun s H C cl fp => (B s H C cl fp).2.2.2.2.2) hs hs1) fun D σ H q => ?_
  have q' := set_read D σ H q
  exact lc2_read (all_mem hv0) (all_mem hv1) σ H _ q'
/-! ### calls, constants, defs -/
def fOwn (n : Nat) (m : List Y → Sto → Res Y) (fs : FE (List Y)) : FE Y := fCall (fun ys S => if ys.length = n then m ys S else .bad) fs
theorem re_own (O : OkS X W k N sc vl wl gl) {x : Str} {n j : Nat} {m : List Y → Sto → Res Y} (d : Def X.prog X.w X.K X.mg X.base x n j m) (i : Nat) (ha : RA X W (e :: es) fs) (hn : (e :: es).length = n := by rfl) (hk : j ≤ k := by omega) (hj : gl[i]? = some x := by rfl) (he : HE X e es := by rfl) (hp : HP X es pos := by rfl) :
    RE X W (.Call (.Name x p) (e :: es) [] pos) (fOwn n m fs) := re_call O.o d i ha hn hk hj he hp
theorem re_own0 (O : OkS X W k N sc vl wl gl) {x : Str} {j : Nat} {m : List Y → Sto → Res Y} (d : Def X.prog X.w X.K X.mg X.base x 0 j m) (i : Nat) (hk : j ≤ k := by omega) (hj : gl[i]? = some x := by rfl) :
    RE X W (.Call (.Name x p) [] [] pos) (fOwn 0 m fNil) := by
  obtain ⟨f, fd, ps, h1, h2, h3, h4, h5⟩ := d.ex
  have hg := (O.o.glo i x hj).1
  have hdb := (O.o.glo i x hj).2.1
  refine ⟨fun pins s σ H Q I q => ?_⟩
  obtain ⟨w, env, S, hE, s', q⟩ := q
  refine wpAny_Call_Name_kw (ld_glob I hg h1 ?_ hdb)
  refine PySem.W.callWith_K0 I.kIn h2 (run_fnS (us := []) (E := WE W) h4 (O.o.hr.mono hk) h5 (passAt O.o.tk σ) I .nil ?_)
  exact ⟨rfl, w, S, [], s', .nil, q⟩
theorem g_const (O : OkS X W k N sc vl wl gl) (j : Nat) {i : Int} (c : ∃ t, X.mg x = some (.int i t)) (hj : gl[j]? = some x := by rfl) : RE X W (.Name x pos) (fC (.int i)) := by
  obtain ⟨t, c⟩ := c
  exact re_glob (v := .int i) O.o j c ⟨t, rfl⟩ (fun _ => .int i) hj
end
section
variable {P : Program} {w : World} {K : PySem.W.Frag} {mg : Str → Option Value} {base : Heap}
theorem okS {N ps : List Str} {x : Str} {sc : Scope} {f : Addr} {cdv : Value} {A : Around} {outer : List Env} {s : Shared} {H : Hp} {E : XK} {k : Nat} {vl wl : List (Nat × Str)} {gl : List Str} (S : FnScope N ps sc) (hr : Room k (A.deeper (envOfC x sc s.heap.objs.size f cdv)))
    (h : ctxC N (fun _ => true) sc vl wl gl = true) (blt : ∀ (j : Nat) (x : Str), bls[j]? = some x → mg x = none) : OkS (CxD P w K mg base N x sc f cdv A outer s H E) (WD E) k N sc vl wl gl := ⟨okD S hr h blt, rfl, rfl⟩
theorem fn_mk {x : Str} {st : Stmt} {f : Addr} {fd : FuncData} {N ps : List Str} {k n nN : Nat} (keep : Bool) {body : FS} (F : Fun K x x st f fd) (S : FnScope N ps (defScope st))
    (hb : ∀ (cdv : Value) (A : Around) (outer : List Env) (s : Shared) (H : Hp) (E : XK), Room k (A.deeper (envOfC x (defScope st) s.heap.objs.size f cdv)) → RSs (CxD P w K mg base N x (defScope st) f cdv A outer s H E) (WD E) (defBody st) body) (hn : ps.length = n := by rfl) (hN : N.length = nN := by rfl) :
    FnOk P w K mg base (L2.CX P w) (k + 1) f fd ps (spM K mg n (wrap keep nN body)) := by
  subst hn; subst hN
  refine F.okX S (fun vs H Q E h => h.1) (fun cdv A outer s H vs Q E hr h => ⟨_, hb cdv A outer s H E hr, ?_⟩)
  obtain ⟨hl, w0, S0, ys, s0, r0, q⟩ := h
  refine ⟨w0, startE N.length ys, S0, start_R r0, s0, ?_⟩
  unfold wrap at q
  cases hB : body (startE N.length ys) S0 with
  | nx env S1 => rw [hB] at q; exact fun w1 σ1 H1 l1 hE1 s1 => close_rd (y := .v .non) (v := .non) s0 l1 s1 Rp.non q
  | rt y S1 => rw [hB] at q; exact fun w1 v H1 l1 s1 r1 => close_rd s0 l1 s1 r1 q
  | bk env S1 => rw [hB] at q; exact q.elim
  | ct env S1 => rw [hB] at q; exact q.elim
  | exc x env S1 =>
    rw [hB] at q
    intro w1 σ1 cls d H1 l1 hE1 s1 xr
    have lc := cut_le l1
    rw [s0.len] at lc
    refine q _ cls d H1 lc (s1.cut S0.length) ?_
    obtain ⟨x1, x2⟩ := xr
    exact ⟨x1, x2⟩
  | bad => rw [hB] at q; exact q.elim
theorem def_of {x : Str} {f : Addr} {fd : FuncData} {ps : List Str} {n k : Nat} {m : List Y → Sto → Res Y} (F : FnOk P w K mg base (L2.CX P w) k f fd ps (spM K mg n m)) (gx : mg x = some (.ref f)) (kp : PySem.W.keepIn K (.ref f) = true) (b : Binds K fd ps []) (hn : ps.length = n := by rfl) : Def P w K mg base x n k m :=
  ⟨f, fd, ps, gx, kp, hn, F, b⟩
theorem def_rec {x : Str} {st : Stmt} {f : Addr} {fd : FuncData} {N ps : List Str} {k n nN : Nat} (keep : Bool) {body : FS} (F : Fun K x x st f fd) (gx : mg x = some (.ref f)) (S : FnScope N ps (defScope st)) (b : Binds K fd ps [])
    (hb : ∀ (cdv : Value) (A : Around) (outer : List Env) (s : Shared) (H : Hp) (E : XK), Room k (A.deeper (envOfC x (defScope st) s.heap.objs.size f cdv)) → RSs (CxD P w K mg base N x (defScope st) f cdv A outer s H E) (WD E) (defBody st) body) (hn : ps.length = n := by rfl) (hN : N.length = nN := by rfl) :
    Def P w K mg base x n (k + 1) (wrap keep nN body) := def_of (fn_mk keep F S hb hn hN) gx F.kp b hn
theorem law_fn {k n : Nat} {m : List Y → Sto → Res Y} {f : Addr} {fd : FuncData} {p : Str} (F : FnOk P w K mg base (L2.CX P w) k f fd [p] (spM K mg 1 m)) (hm : ∀ ns : List Int, ns.length ≤ n → m [.v (.scr (ns.map D.int))] [] = .ok (.v (.bl true)) []) :
    FnOk P w K mg base (L2.CX P w) k f fd [p] (spL K n) := by
  refine F.imp fun vs H Q E q => ?_
  obtain ⟨a, ns, rfl, hS, hl, hq⟩ := q
  refine ⟨rfl, ⟨H, [], fun _ => none⟩, [], [.v (.scr (ns.map D.int))], ?_, .cons (Rp.scr hS (RpL.ofInts ns)) .nil, ?_⟩
  · exact ⟨rfl, fun b o e => .inl e, fun n o b e => by simp at e, fun n m b e => by simp at e, fun b o e => by cases e⟩
  · rw [hm ns hl]
    intro w' v H' l s r
    cases r
    exact hq H'
theorem noCX {H : Hp} {s : Shared} {e : Value} {s' : Shared} (h : L2.CX P w [] H s (fun _ _ _ => False) e s') : False := by
  obtain ⟨_, _, _, _, _, _, _, _, _, _, _, _, z⟩ := h
  exact z
theorem blt_of {h : Heap} (X : K.In h) (G : h.Ns mainGlobals mg) (hz : ∀ x ∈ bls, PySem.W.nsIn K mainGlobals x = some none) : ∀ (j : Nat) (x : Str), bls[j]? = some x → mg x = none := fun j x e => PySem.W.mg_none_of X G (hz x (mem_get e))
end
end Sg

/-! Q7: sorted(set(..)), tuple(range(..)), sorted of a tuple -/
namespace Sg
open PySem PySem.Spec PyProof.Rows L2
def insU (i : Int) : List Int → List Int
  | [] => [i]
  | j :: r => if i < j then i :: j :: r else if i = j then j :: r else j :: insU i r
def ssort : List Int → List Int
  | [] => []
  | i :: r => insU i (ssort r)
theorem insU_mem (i z : Int) : ∀ r : List Int, z ∈ insU i r ↔ z = i ∨ z ∈ r
  | [] => by simp [insU]
  | j :: r => by
    unfold insU
    split
    · simp
    · split
      · rename_i h; subst h; simp
      · simp [insU_mem i z r]; constructor <;> (intro h; rcases h with h | h | h <;> simp [h])
theorem insU_pw (i : Int) : ∀ {r : List Int}, r.Pairwise (· < ·) → (insU i r).Pairwise (· < ·)
  | [], _ => by simp [insU]
  | j :: r, h => by
    obtain ⟨h1, h2⟩ := List.pairwise_cons.mp h
    unfold insU
    split
    · rename_i hi
      refine List.pairwise_cons.mpr ⟨fun z hz => ?_, h⟩
      rcases List.mem_cons.mp hz with rfl | hz
      · exact hi
      · have := h1 z hz; omega
    · split
      · exact h
      · refine List.pairwise_cons.mpr ⟨fun z hz => ?_, insU_pw i h2⟩
        rcases (insU_mem i z r).mp hz with rfl | hz
        · omega
        · exact h1 z hz
theorem ssort_mem (z : Int) : ∀ r : List Int, z ∈ ssort r ↔ z ∈ r
  | [] => by simp [ssort]
  | i :: r => by simp [ssort, insU_mem, ssort_mem z r]
theorem ssort_pw : ∀ r : List Int, (ssort r).Pairwise (· < ·)
  | [] => .nil
  | i :: r => insU_pw i (ssort_pw r)
theorem lt_nodup {l : List Int} (h : l.Pairwise (· < ·)) : l.Nodup := h.imp fun h => by omega
theorem lt_uniq {a b : List Int} (ha : a.Pairwise (· < ·)) (hb : b.Pairwise (· < ·)) (h : ∀ z, z ∈ a ↔ z ∈ b) : a = b :=
  sort_uniq ((List.perm_ext_iff_of_nodup (lt_nodup ha) (lt_nodup hb)).mpr h) (ha.imp fun h => by omega) (hb.imp fun h => by omega)
def rSetTI (K : PySem.W.Frag) (w : World) : List V → Hp → VK → Prop := fun xs H Q => ∃ (l : Addr) (ns : List Int), xs = [.ref l] ∧ SqT K H l (ns.map V.int) ∧ ns.length + 1 < scanBound ∧
  ∀ (a : Addr) (c : Nat), H a = none → c ≤ ns.length → Q (.ref a) (upd H a (SetO w a (fun j => decide (j ∈ ns)) c))
theorem cr_setTI {X : Cx} (hc : X.calm = true) : CallR X (.type "set") (rSetTI X.K X.w) := by
  intro pins s σ H vs us Q I r h
  obtain ⟨l, ns, rfl, hS, hb, q⟩ := h
  rw [Vals.ref1 r]
  obtain ⟨its, rv, ht, hz⟩ := I.tuple hS
  refine call_set_tupI ns (I.ok.hd hc) ht (ints_of_vals rv) hb fun h' tk c R hcn k => ?_
  refine ⟨.ref s.heap.objs.size, _, I.laid k (Nat.le_refl _) (setO_new R), rfl, q _ c (I.hok.fresh (Nat.le_refl _)) hcn⟩
def sSset (m : Bool) : List Y → Sto → Res Y
  | [.v (.tup ds)], S => match intsD ds with
    | some ns => if ns.length < 63 then newL m ((ssort ns).map D.int) S else .bad
    | none => .bad
  | _, _ => .bad
section
variable {X : Cx} {W : WX} {k : Nat} {vl wl : List (Nat × Str)} {gl : List Str} {e a b : Expr} {es : List Expr} {f g : FE Y} {fs : FE (List Y)} {pos p p2 pos2 : Pos} {x : Str}
theorem re_sset (m : Bool) (C : Ok X W k vl wl gl) (j j2 : Nat) (ha : RE X W e f) (hj : gl[j]? = some "sorted" := by rfl) (hj2 : gl[j2]? = some "set" := by rfl) (he : HE X e [] := by rfl) (hp : HP X [] pos2 := by rfl)
    (he1 : HE X (.Call (.Name "set" p2) [e] [] pos2) [] := by rfl) (hp1 : HP X [] pos := by rfl) : RE X W (.Call (.Name "sorted" p) [.Call (.Name "set" p2) [e] [] pos2] [] pos) (fCall (sSset m) (fCons f fNil)) := by
  have hin : PE X (.Call (.Name "set" p2) [e] [] pos2) (tCB (rSetTI X.K X.w) (tA X W (fCons f fNil))) :=
    pe_callTy (cr_setTI C.calm) (C.glo j2 _ hj2).1 (C.blt 15 _ rfl) (by decide +kernel) (ra_cons ha ra_nil he) (C.glo j2 _ hj2).2.2 (C.glo j2 _ hj2).2.1 he hp
  refine weakPE (pe_callB (cr_sortedSet C.calm) (C.glo j _ hj).1 (C.blt 9 _ rfl) (by decide +kernel) (pa_cons hin pa_nil he1) (C.glo j _ hj).2.2 (C.glo j _ hj).2.1 he1 hp1) fun σ H Q q => ?_
  obtain ⟨w, env, S, hE, s, q⟩ := q
  refine ⟨w, env, S, hE, s, rd_bind q fun ys S1 w1 vs H1 l1 s1 r1 q1 => ?_⟩
  unfold sSset at q1
  split at q1
  · split at q1
    · split at q1
      · rename_i ns e2 hl
        obtain ⟨v, rfl, r⟩ := r1.one
        have e3 := intsD_eq e2
        cases r with
        | tup h1 h2 =>
          subst e3
          have e4 := h2.ints
          subst e4
          refine ⟨_, ns, rfl, s1.sqT h1, by show ns.length + 1 < 4096; omega, fun A c hA hc => ?_⟩
          refine ⟨A, _, c, rfl, upd_same, by omega, fun ns' B hs hm hn hB => ?_⟩
          have e5 : ns' = ssort ns := lt_uniq hs (ssort_pw ns) fun z => by rw [hm z, ssort_mem]; simp
          subst e5
          exact new_lst (s1.junk hA) q1 hB (RpL.ofInts _)
      · exact q1.elim
    · exact q1.elim
  · exact q1.elim
/-- tuple(range(..)), list(range(..)) -/
def sTupR (lo : Y) (hi : Y) (S : Sto) : Res (Int × Int) := match lo, hi with
  | .v (.int i), .v (.int j) => if okR i = true ∧ okR j = true ∧ okLen (j - i).toNat = true then .ok (i, j) S else .bad
  | _, _ => .bad
def fTupR (l : Bool) (m : Bool) (f g : FE Y) : FE Y := fun env S => (f env S).bind fun x S1 => (g env S1).bind fun y S2 => (sTupR x y S2).bind fun p S3 => if l = true then newL m (rngD p.1 (p.2 - p.1).toNat) S3 else .ok (.v (.tup (rngD p.1 (p.2 - p.1).toNat))) S3
theorem rg_ok {i j : Int} (h : okR i = true ∧ okR j = true ∧ okLen (j - i).toNat = true) : RgOk i j := by
  have h1 := of_decide_eq_true h.1
  have h2 := of_decide_eq_true h.2.1
  have h3 : (j - i).toNat ≤ 16777216 := of_decide_eq_true h.2.2
  exact ⟨h1.1, h1.2, h2.1, h2.2, h3⟩
theorem rgV_R {K : PySem.W.Frag} {F : Hp} (i j : Int) : RpL K F (rngD i (j - i).toNat) (rgV i j) := by
  unfold rngD rgV
  generalize (j - i).toNat = n
  have : ∀ l : List Nat, RpL K F (l.map fun (t : Nat) => D.int (i + t)) (l.map fun (t : Nat) => V.int (i + t)) := fun l => by
    induction l with
    | nil => exact .nil
    | cons t l ih => exact .cons (.int _) ih
  exact this _
theorem sTupR_read {K : PySem.W.Frag} {mg : Str → Option Value} {E : XK} {w : Wd} {S : Sto} {H : Hp} {x y : Y} {v u : V} {l m : Bool} {Q : VK} (s : Sim K w S H) (r1 : RY K w x v) (r2 : RY K w y u) (h : rd K mg E ((sTupR x y S).bind fun p S3 => if l = true then newL m (rngD p.1 (p.2 - p.1).toNat) S3 else .ok (.v (.tup (rngD p.1 (p.2 - p.1).toNat))) S3) w (RY K) Q) :
    ∃ i j, v = .int i ∧ u = .int j ∧ RgOk i j ∧ ∀ q, H q = none → Q (.ref q) (upd H q (if l = true then .lst (rgV i j) else .tup (rgV i j))) := by
  unfold sTupR at h
  split at h
  · rename_i i j
    split at h
    · rename_i hk
      cases r1; cases r2
      refine ⟨i, j, rfl, rfl, rg_ok hk, fun q hq => ?_⟩
      simp only [Res.bind] at h
      cases l with
      | true => exact new_lst s h hq (rgV_R i j)
      | false => exact new_tup s h hq (rgV_R i j)
    · exact h.elim
  · exact h.elim
theorem re_tupR2 (C : Ok X W k vl wl gl) (j j2 : Nat) (ha : RE X W a f) (hb : RE X W b g) (hj : gl[j]? = some "tuple" := by rfl) (hj2 : gl[j2]? = some "range" := by rfl)
    (na : starEach [a, b] X.env = (false, eval a X.env) :: starEach [b] X.env := by rfl) (nb : starEach [b] X.env = (false, eval b X.env) :: starEach [] X.env := by rfl) (hp : (backTo pos2 (starEach [b] X.env)).any (·.1) = false := by rfl)
    (nc : starEach [.Call (.Name "range" p2) [a, b] [] pos2] X.env = (false, eval (.Call (.Name "range" p2) [a, b] [] pos2) X.env) :: starEach [] X.env := by rfl) :
    RE X W (.Call (.Name "tuple" p) [.Call (.Name "range" p2) [a, b] [] pos2] [] pos) (fTupR false false f g) :=
  weakPE (pe_tupRg C.calm (C.glo j _ hj).1 (C.blt 13 _ rfl) (prg_2 (C.glo j2 _ hj2).1 (C.blt 1 _ rfl) ha hb na nb hp) nc) fun σ H Q q => by
    obtain ⟨w, env, S, hE, s, q⟩ := q
    refine ⟨w, env, S, hE, s, rd_bind q fun x S1 w1 v H1 l1 s1 r1 q1 => ⟨w1, env, S1, hE.mono l1, s1, rd_bind q1 fun y S2 w2 u H2 l2 s2 r2 q2 => ?_⟩⟩
    obtain ⟨i, j, e1, e2, hk, h⟩ := sTupR_read s2 (r1.mono l2) r2 q2
    exact ⟨i, j, e1, e2, hk, h⟩
theorem re_lstR2 (m : Bool) (C : Ok X W k vl wl gl) (j j2 : Nat) (ha : RE X W a f) (hb : RE X W b g) (hj : gl[j]? = some "list" := by rfl) (hj2 : gl[j2]? = some "range" := by rfl)
    (na : starEach [a, b] X.env = (false, eval a X.env) :: starEach [b] X.env := by rfl) (nb : starEach [b] X.env = (false, eval b X.env) :: starEach [] X.env := by rfl) (hp : (backTo pos2 (starEach [b] X.env)).any (·.1) = false := by rfl)
    (nc : starEach [.Call (.Name "range" p2) [a, b] [] pos2] X.env = (false, eval (.Call (.Name "range" p2) [a, b] [] pos2) X.env) :: starEach [] X.env := by rfl) :
    RE X W (.Call (.Name "list" p) [.Call (.Name "range" p2) [a, b] [] pos2] [] pos) (fTupR true m f g) :=
  weakPE (pe_listRg C.calm (C.glo j _ hj).1 (C.blt 12 _ rfl) (prg_2 (C.glo j2 _ hj2).1 (C.blt 1 _ rfl) ha hb na nb hp) nc) fun σ H Q q => by
    obtain ⟨w, env, S, hE, s, q⟩ := q
    refine ⟨w, env, S, hE, s, rd_bind q fun x S1 w1 v H1 l1 s1 r1 q1 => ⟨w1, env, S1, hE.mono l1, s1, rd_bind q1 fun y S2 w2 u H2 l2 s2 r2 q2 => ?_⟩⟩
    obtain ⟨i, j, e1, e2, hk, h⟩ := sTupR_read s2 (r1.mono l2) r2 q2
    exact ⟨i, j, e1, e2, hk, h⟩
end
end Sg

namespace PyProof.Rows
open PySem PySem.Spec SrtO
section
variable {prog : Program} {w : World} {A : Around} {E : Value → Shared → Prop} {s : Shared}
theorem sg_collect_tuple {l : Addr} {vs : List Value} {Q : List Value → Shared → Prop} (hl : s.heap.IsTuple l vs.toArray) (hsz : vs.length ≤ sizeLine)
    (h : Q vs { s with heap := (s.heap.push (seqObj "list" #[] 0)).update s.heap.objs.size (Obj.mapSeq (· ++ vs.toArray)) }) :
    wpAny (model prog w) A (collect (.ref l)) Q E s := by
  obtain ⟨o, ho, hc, n, hd⟩ := id hl
  unfold collect
  refine wpAny_bind (wpAny_runValue (codeAny_builtin entry_proto_collect' ?_))
  show wpAny _ _ (do again (.builtin "list.__iadd__" ⟨[← newList [], .ref l], []⟩)) _ _ s
  refine wpAny_bind (wpAny_newList (wpAny_pure ⟨Code.quiet_builtin _ (by decide +kernel), codeAny_builtin entry_list_iadd' ?_⟩))
  show wpAny _ _ (Builtin.List.listExtendWith (.ref s.heap.objs.size) (.ref l) (.ref s.heap.objs.size)) _ _ { s with heap := s.heap.push (seqObj "list" #[] 0) }
  unfold Builtin.List.listExtendWith
  have ho' : (s.heap.push (seqObj "list" #[] 0)).get? l = some o := Heap.get?_push_of_some _ ho
  refine wpAny_bind (wpAny_typeOf (T := "tuple") ⟨o, ho', hc⟩ ?_)
  have ht : (Value.type "tuple" == Value.type "tuple") = true := by rfl
  rw [if_pos (by rw [ht]; simp)]
  refine wpAny_bind (listItems_at ho' hd ?_)
  refine wpAny_bind (listItems_at (xs := #[]) (n := 0) (Heap.get?_push_size _ rfl) rfl ?_)
  rw [if_neg (by simp)]
  refine wpAny_bind (listUpdate_at (xs := #[]) (n := 0) (Heap.get?_push_size _ rfl) rfl ?_ (Nat.zero_le _) (by show (#[] ++ vs.toArray).size ≤ sizeLine + 1; simp only [Array.size_append, List.size_toArray, List.length_nil]; omega))
  refine wpAny_pure ?_
  show wpAny (model prog w) A (do
      let o ← load s.heap.objs.size
      match o.data with
      | .seq xs _ => pure xs.toList
      | _ => unsupported "internal:collect") Q E { s with heap := (s.heap.push (seqObj "list" #[] 0)).update s.heap.objs.size (Obj.mapSeq (· ++ vs.toArray)) }
  refine wpAny_bind (wpAny_load (get?_update_seq (Heap.get?_push_size _ rfl) _) ?_)
  show wpAny _ _ (pure ((#[] : Array Value) ++ vs.toArray).toList) Q E _
  rw [show ((#[] : Array Value) ++ vs.toArray).toList = vs by simp]
  exact wpAny_pure h
theorem sg_sorted_tup {l : Addr} {vs : List Value} {ns : List Int} {Q : Value → Shared → Prop} (hl : s.heap.IsTuple l vs.toArray) (hI : IntsAre vs ns) (hz : vs.length ≤ sizeLine)
    (h : ∀ out : List Value, Srtd SrtO.ltIv out → Stb SrtO.ltIv out vs → Q (.ref (s.heap.objs.size + 1)) { s with heap := sortedAll s.heap vs out.toArray }) :
    wpAny (model prog w) A (call (.builtin "sorted") [.ref l]) Q E s := by
  refine Calls.call_function_entry kind_sorted plain_sorted entry_sorted (args_sorted1 _) ?_
  unfold Builtin.«sorted»
  refine wpAny_bind (m := checkCount "sorted" 1 1 _) (wpAny_pure ?_)
  refine wpAny_bind (sg_collect_tuple hl hz ?_)
  refine wpAny_bind (wpAny_newList ?_ hz)
  have hsz : ((s.heap.push (seqObj "list" #[] 0)).update s.heap.objs.size (Obj.mapSeq (· ++ vs.toArray))).objs.size = s.heap.objs.size + 1 := by
    rw [Heap.size_update, size_push']
  have hoL : (((s.heap.push (seqObj "list" #[] 0)).update s.heap.objs.size (Obj.mapSeq (· ++ vs.toArray))).push (seqObj "list" vs.toArray 0)).get? (s.heap.objs.size + 1) = some (seqObj "list" vs.toArray 0) := by
    rw [← hsz]; exact Heap.get?_push_size _ rfl
  show wpAny _ _ _ _ _ { s with heap := ((s.heap.push (seqObj "list" #[] 0)).update s.heap.objs.size (Obj.mapSeq (· ++ vs.toArray))).push (seqObj "list" vs.toArray 0) }
  rw [hsz]
  refine wpAny_bind (wpAny_holding (wpAny_call_entry slot_list_sort ⟨_, hoL, rfl⟩ entry_list_sort (SrtO.list_sort_ord SrtO.swo_int hoL hz (fun h2 => SrtO.ints_sortable hI h2) fun out hs hb => ⟨_, rfl, ?_⟩) (args_list_sort _)))
  exact wpAny_pure ⟨_, rfl, h out hs hb⟩
end
end PyProof.Rows
namespace Sg
open PySem PySem.Spec PyProof.Rows L2
def rSortedU (K : PySem.W.Frag) : List V → Hp → VK → Prop := fun vs H Q => ∃ (a : Addr) (ns : List Int), vs = [V.ref a] ∧ SqT K H a (ns.map V.int) ∧
  ∀ (ns' : List Int) (p : Addr), ns'.Perm ns → ns'.Pairwise (· ≤ ·) → H p = none → Q (.ref p) (upd H p (.lst (ns'.map V.int)))
theorem cr_sortedU {X : Cx} : CallR X (.builtin "sorted") (rSortedU X.K) := by
  intro pins s σ H vs us Q I r h
  obtain ⟨a, ns, rfl, hs, q⟩ := h
  obtain ⟨its, rv, hl, hz⟩ := I.tuple hs
  rw [Vals.ref1 r]
  have hi := rv.ints
  refine sg_sorted_tup hl hi (by rw [← rv.length]; exact hz) fun out h1 h2 => ?_
  obtain ⟨k1, k2, k3⟩ := SrtO.ints_out hi h1 h2
  obtain ⟨ep, he'⟩ := PyProof.Rows.sortedAll_at s.heap its out.toArray
  have hlen : ((out.map SrtO.iv).map V.int).length ≤ sizeLine := by
    rw [List.length_map, k2.length_eq]
    rw [List.length_map] at hz
    exact hz
  exact ⟨.ref _, upd H (s.heap.objs.size + 1) (.lst ((out.map SrtO.iv).map V.int)), I.laid (t' := s.toks) (fun _ _ => PyProof.Rows.sortedAll_old) (Nat.le_succ _) ⟨hlen, out, ep, vals_of_ints k1, he'⟩, rfl, q _ _ k2 k3 (I.hok.fresh (Nat.le_succ _))⟩
def sSortedU (m : Bool) : List Y → Sto → Res Y
  | [.v (.tup ds)], S => match intsD ds with
    | some ns => newL m ((sortI ns).map D.int) S
    | none => .bad
  | ys, S => sSortedI m ys S
theorem CallR.or {X : Cx} {f : Value} {r r' : List V → Hp → VK → Prop} (h : CallR X f r) (h' : CallR X f r') : CallR X f (fun vs H Q => r vs H Q ∨ r' vs H Q) := by
  intro pins s σ H vs us Q I rv q
  rcases q with q | q
  · exact h pins s σ H vs us Q I rv q
  · exact h' pins s σ H vs us Q I rv q
theorem sSortedU_ok {X : Cx} (m : Bool) : CallS X (sSortedU m) (fun vs H Q => rSortedU X.K vs H Q ∨ rSortedI X.K vs H Q) := by
  intro E w S H ys vs Q s r h
  unfold sSortedU at h
  split at h
  · obtain ⟨v, rfl, r1⟩ := r.one
    split at h
    · rename_i ns e2
      have e3 := intsD_eq e2
      cases r1 with
      | tup h1 h2 =>
        subst e3
        have e4 := h2.ints
        subst e4
        refine .inl ⟨_, ns, rfl, s.sqT h1, fun ns' p hp hs hn => ?_⟩
        have : ns' = sortI ns := sort_uniq (hp.trans (sortI_perm ns).symm) hs (sortI_pw ns)
        subst this
        exact new_lst s h hn (.ofInts _)
    · exact h.elim
  · exact .inr (sSortedI_ok m E w S H _ vs Q s r h)
section
variable {X : Cx} {W : WX} {k : Nat} {vl wl : List (Nat × Str)} {gl : List Str} {e : Expr} {es : List Expr} {fs : FE (List Y)} {pos p : Pos}
theorem re_sorted (m : Bool) (C : Ok X W k vl wl gl) (j : Nat) (ha : RA X W (e :: es) fs) (hj : gl[j]? = some "sorted" := by rfl) (he : HE X e es := by rfl) (hp : HP X es pos := by rfl) : RE X W (.Call (.Name "sorted" p) (e :: es) [] pos) (fCall (sSortedU m) fs) :=
  re_callB C (CallR.or cr_sortedU cr_sortedI) (sSortedU_ok m) (by decide +kernel) 9 j rfl hj ha he hp
end
end Sg

/-! Q8: dicts, keys tuples -/
namespace Sg
open PySem PySem.Spec PyProof.Rows L2
mutual
/-- a key in the abstract heap -/
inductive Ky (K : PySem.W.Frag) (H : Hp) : NestedKey → V → Prop
  | non : Ky K H .none .non
  | bl (b : Bool) : Ky K H (.num (if b = true then 1 else 0)) (.bl b)
  | int (i : Int) : Ky K H (.num i) (.int i)
  | tup {a : Addr} {xs : List V} {ks : List NestedKey} : SqT K H a xs → KyL K H ks xs → Ky K H (.tup ks) (.ref a)
inductive KyL (K : PySem.W.Frag) (H : Hp) : List NestedKey → List V → Prop
  | nil : KyL K H [] []
  | cons {k : NestedKey} {ks : List NestedKey} {v : V} {vs : List V} : Ky K H k v → KyL K H ks vs → KyL K H (k :: ks) (v :: vs)
end
section
variable {X : Cx} {pins : List (Addr × Obj)} {σ : L2.St} {H : Hp} {s : Shared}
mutual
theorem Ky.nested (I : Inv X pins σ H s) : ∀ {k : NestedKey} {v : V} {u : Value}, Ky X.K H k v → RelV v u → NestedIs s.heap k u
  | _, _, _, .non, r => by
    have r' : _ = Value.none := r
    subst r'; exact .none
  | _, _, _, .bl b, r => by
    have r' : _ = Value.bool b := r
    subst r'; exact .bool rfl
  | _, _, _, .int i, r => by
    obtain ⟨t, r'⟩ := (show ∃ t, _ = Value.int i t from r)
    subst r'; exact .int i t
  | _, _, _, .tup h q, r => by
    obtain ⟨its, r1, ⟨o, h1, h2, n, h3⟩, _⟩ := I.tuple h
    have r' : _ = Value.ref _ := r
    subst r'
    exact .tup h1 h2 h3 (KyL.nested I q (by simpa using r1))
theorem KyL.nested (I : Inv X pins σ H s) : ∀ {ks : List NestedKey} {vs : List V} {us : List Value}, KyL X.K H ks vs → Vals vs us → NestedAll s.heap ks us
  | _, _, _, .nil, .nil => .nil
  | _, _, _, .cons h q, .cons r t => .cons (Ky.nested I h r) (KyL.nested I q t)
end
end
section
variable {K : PySem.W.Frag} {w : Wd} {S : Sto} {H : Hp}
mutual
theorem ky_of (s : Sim K w S H) : ∀ (d : D) {v : V} {k : NestedKey}, Rp K w.F d v → nkey d = some k → Ky K H k v
  | .non, _, _, r, e => by cases r; cases e; exact .non
  | .bl b, _, _, r, e => by cases r; cases e; exact .bl b
  | .int i, _, _, r, e => by cases r; cases e; exact .int i
  | .str _, _, _, _, e => by simp [nkey] at e
  | .tup ds, _, _, r, e => by
    cases r with
    | tup h q =>
      simp only [nkey] at e
      split at e
      · rename_i ks e1
        cases e
        exact .tup (s.sqT h) (kyL_of s ds q e1)
      · cases e
  | .lst _, _, _, _, e => by simp [nkey] at e
  | .adr _, _, _, _, e => by simp [nkey] at e
  | .ty _, _, _, _, e => by simp [nkey] at e
  | .dic _ _, _, _, _, e => by simp [nkey] at e
  | .set _, _, _, _, e => by simp [nkey] at e
  | .scr _, _, _, _, e => by simp [nkey] at e
theorem kyL_of (s : Sim K w S H) : ∀ (ds : List D) {vs : List V} {ks : List NestedKey}, RpL K w.F ds vs → nkeys ds = some ks → KyL K H ks vs
  | [], _, _, r, e => by cases r; simp only [nkeys] at e; cases e; exact .nil
  | d :: ds, _, _, r, e => by
    cases r with
    | cons h q =>
      simp only [nkeys] at e
      split at e
      · rename_i k ks e1 e2
        cases e
        exact .cons (ky_of s d h e1) (kyL_of s ds q e2)
      · cases e
end
end
mutual
theorem nkey_ntx : ∀ (d : D) {k : NestedKey}, nkey d = some k → ntx k = true
  | .non, _, e => by cases e; rfl
  | .bl b, _, e => by cases e; rfl
  | .int i, _, e => by cases e; rfl
  | .tup ds, _, e => by
    simp only [nkey] at e
    split at e
    · rename_i ks e1
      cases e
      simp only [ntx]
      exact nkeys_ntx ds e1
    · cases e
  | .str _, _, e => by simp [nkey] at e
  | .lst _, _, e => by simp [nkey] at e
  | .adr _, _, e => by simp [nkey] at e
  | .ty _, _, e => by simp [nkey] at e
  | .dic _ _, _, e => by simp [nkey] at e
  | .set _, _, e => by simp [nkey] at e
  | .scr _, _, e => by simp [nkey] at e
theorem nkeys_ntx : ∀ (ds : List D) {ks : List NestedKey}, nkeys ds = some ks → ntxs ks = true
  | [], _, e => by simp only [nkeys] at e; cases e; rfl
  | d :: ds, _, e => by
    simp only [nkeys] at e
    split at e
    · rename_i k ks e1 e2
      cases e
      simp only [ntxs, nkey_ntx d e1, nkeys_ntx ds e2, Bool.and_self]
    · cases e
end
theorem nkey_tup {ds : List D} {k : NestedKey} (e : nkey (.tup ds) = some k) : ∃ ks, nkeys ds = some ks ∧ k = .tup ks := by
  simp only [nkey] at e
  split at e
  · rename_i ks e1; cases e; exact ⟨ks, e1, rfl⟩
  · cases e
theorem nkeys_cons {d : D} {ds : List D} {l : List NestedKey} (e : nkeys (d :: ds) = some l) : ∃ k ks, nkey d = some k ∧ nkeys ds = some ks ∧ l = k :: ks := by
  simp only [nkeys] at e
  split at e
  · rename_i k ks e1 e2; cases e; exact ⟨k, ks, e1, e2, rfl⟩
  · cases e
mutual
theorem eqv_key : ∀ (a b : D) (k j : NestedKey), nkey a = some k → nkey b = some j → D.eqv a b = NestedKey.beq k j
  | .non, .non, _, _, e, f => by cases e; cases f; rfl
  | .non, .bl _, _, _, e, f => by cases e; cases f; rfl
  | .non, .int _, _, _, e, f => by cases e; cases f; rfl
  | .bl _, .non, _, _, e, f => by cases e; cases f; rfl
  | .bl x, .bl y, _, _, e, f => by cases e; cases f; cases x <;> cases y <;> rfl
  | .bl x, .int y, _, _, e, f => by cases e; cases f; rfl
  | .int _, .non, _, _, e, f => by cases e; cases f; rfl
  | .int x, .bl y, _, _, e, f => by cases e; cases f; rfl
  | .int x, .int y, _, _, e, f => by cases e; cases f; rfl
  | .non, .tup _, _, _, e, f => by obtain ⟨ks, _, rfl⟩ := nkey_tup f; cases e; rfl
  | .bl _, .tup _, _, _, e, f => by obtain ⟨ks, _, rfl⟩ := nkey_tup f; cases e; rfl
  | .int _, .tup _, _, _, e, f => by obtain ⟨ks, _, rfl⟩ := nkey_tup f; cases e; rfl
  | .tup _, .non, _, _, e, f => by obtain ⟨ks, _, rfl⟩ := nkey_tup e; cases f; rfl
  | .tup _, .bl _, _, _, e, f => by obtain ⟨ks, _, rfl⟩ := nkey_tup e; cases f; rfl
  | .tup _, .int _, _, _, e, f => by obtain ⟨ks, _, rfl⟩ := nkey_tup e; cases f; rfl
  | .tup ds, .tup es, _, _, e, f => by
    obtain ⟨ks, e1, rfl⟩ := nkey_tup e
    obtain ⟨js, f1, rfl⟩ := nkey_tup f
    exact eqvL_key ds es ks js e1 f1
  | .str _, _, _, _, e, _ => by simp [nkey] at e
  | .lst _, _, _, _, e, _ => by simp [nkey] at e
  | .adr _, _, _, _, e, _ => by simp [nkey] at e
  | .ty _, _, _, _, e, _ => by simp [nkey] at e
  | .dic _ _, _, _, _, e, _ => by simp [nkey] at e
  | .set _, _, _, _, e, _ => by simp [nkey] at e
  | .scr _, _, _, _, e, _ => by simp [nkey] at e
  | _, .str _, _, _, _, e => by simp [nkey] at e
  | _, .lst _, _, _, _, e => by simp [nkey] at e
  | _, .adr _, _, _, _, e => by simp [nkey] at e
  | _, .ty _, _, _, _, e => by simp [nkey] at e
  | _, .dic _ _, _, _, _, e => by simp [nkey] at e
  | _, .set _, _, _, _, e => by simp [nkey] at e
  | _, .scr _, _, _, _, e => by simp [nkey] at e
theorem eqvL_key : ∀ (as bs : List D) (ks js : List NestedKey), nkeys as = some ks → nkeys bs = some js → D.eqvL as bs = NestedKey.beqAll ks js
  | [], [], _, _, e, f => by simp only [nkeys] at e f; cases e; cases f; rfl
  | [], b :: bs, _, _, e, f => by
    obtain ⟨j, js, _, _, rfl⟩ := nkeys_cons f
    simp only [nkeys] at e; cases e; rfl
  | a :: as, [], _, _, e, f => by
    obtain ⟨j, js, _, _, rfl⟩ := nkeys_cons e
    simp only [nkeys] at f; cases f; rfl
  | a :: as, b :: bs, _, _, e, f => by
    obtain ⟨k, ks, e1, e2, rfl⟩ := nkeys_cons e
    obtain ⟨j, js, f1, f2, rfl⟩ := nkeys_cons f
    have h1 := eqv_key a b k j e1 f1
    have h2 := eqvL_key as bs ks js e2 f2
    show (D.eqv a b && D.eqvL as bs) = (NestedKey.beq k j && NestedKey.beqAll ks js)
    rw [h1, h2]
end
theorem eqv_keyD {a b : D} {k j : NestedKey} (e : nkey a = some k) (f : nkey b = some j) : D.eqv a b = decide (k = j) := by
  rw [eqv_key a b k j e f, NestedKey.decide_eq]

/-! ### plain dicts -/
def dicGet : List D → List D → D → Option D
  | k :: ks, v :: vs, d => if D.eqv k d = true then some v else dicGet ks vs d
  | _, _, _ => none
def dicSet : List D → List D → D → D → List D
  | k :: ks, v :: vs, d, x => (if D.eqv k d = true then x else v) :: dicSet ks vs d x
  | _, _, _, _ => []
/-- the keys, the values behind d[k] = x -/
def dicPut (ks vs : List D) (d x : D) : List D × List D := if (dicGet ks vs d).isSome = true then (ks, dicSet ks vs d x) else (ks ++ [d], vs ++ [x])
/-- a key: a tuple of ints, bools, None and such tuples -/
def keyK : D → Option NestedKey
  | .tup ds => match nkey (.tup ds) with
    | some k => if decide (k.depth ≤ 8) = true then some k else none
    | none => none
  | _ => none
theorem keyK_eq {d : D} {k : NestedKey} (e : keyK d = some k) : nkey d = some k ∧ kOk k = true ∧ ∃ ds, d = .tup ds := by
  unfold keyK at e
  split at e
  · rename_i ds
    split at e
    · rename_i k' e1
      split at e
      · rename_i h
        cases e
        exact ⟨e1, by simp only [kOk, nkey_ntx _ e1, h, Bool.and_self], ds, rfl⟩
      · cases e
    · cases e
  · cases e
section
variable {K : PySem.W.Frag} {F : Hp}
theorem RpD.get {d : D} {k : NestedKey} (e : nkey d = some k) : ∀ {ks vs : List D} {kvs : List DK}, RpD K F ks vs kvs →
    (∀ x, dicGet ks vs d = some x → ∃ v, kGet kvs k = some v ∧ Rp K F x v) ∧ (dicGet ks vs d = none → kGet kvs k = none)
  | _, _, _, .nil => ⟨fun x h => by simp [dicGet] at h, fun _ => rfl⟩
  | _, _, _, .cons (d := d') (e := x') (ks := ks) (vs := vs) (k := k') (a := a) (x := v') (kvs := kvs) e1 h q r => by
    have ih := RpD.get e r
    have q1 := eqv_keyD e1 e
    by_cases z : k' = k
    · have a1 : kGet ((k', a, v') :: kvs) k = some v' := by unfold kGet; simp only [List.find?_cons, decide_eq_true z]; rfl
      have a2 : dicGet (d' :: ks) (x' :: vs) d = some x' := by simp only [dicGet]; rw [if_pos (by rw [q1]; exact decide_eq_true z)]
      rw [a1, a2]
      exact ⟨fun x h => by cases h; exact ⟨_, rfl, q⟩, fun h => by cases h⟩
    · have a1 : kGet ((k', a, v') :: kvs) k = kGet kvs k := by unfold kGet; simp only [List.find?_cons, decide_eq_false z]
      have a2 : dicGet (d' :: ks) (x' :: vs) d = dicGet ks vs d := by simp only [dicGet]; rw [if_neg (by rw [q1]; simp [z])]
      rw [a1, a2]
      exact ih
theorem RpD.getN {d : D} {k : NestedKey} (e : nkey d = some k) {ks vs : List D} {kvs : List DK} (h : RpD K F ks vs kvs) : (kGet kvs k).isSome = (dicGet ks vs d).isSome := by
  have := RpD.get e h
  cases q : dicGet ks vs d with
  | none => rw [this.2 q]; rfl
  | some x => obtain ⟨v, h1, _⟩ := this.1 x q; rw [h1]; rfl
theorem RpD.snoc {d e : D} {k : NestedKey} {a : Addr} {x : V} (e1 : nkey d = some k) (h1 : Rp K F d (.ref a)) (h2 : Rp K F e x) : ∀ {ks vs : List D} {kvs : List DK}, RpD K F ks vs kvs → RpD K F (ks ++ [d]) (vs ++ [e]) (kvs ++ [(k, a, x)])
  | _, _, _, .nil => .cons e1 h1 h2 .nil
  | _, _, _, .cons e h q r => .cons e h q (RpD.snoc e1 h1 h2 r)
theorem RpD.putAt {d e : D} {k : NestedKey} {x : V} (e1 : nkey d = some k) (h2 : Rp K F e x) : ∀ {ks vs : List D} {kvs : List DK}, RpD K F ks vs kvs → RpD K F ks (dicSet ks vs d e) (kvs.map (kPutAt k x))
  | _, _, _, .nil => .nil
  | _, _, _, .cons (d := d') (e := x') (ks := ks) (vs := vs) (k := k') (a := a) (x := v') (kvs := kvs) e3 h q r => by
    have ih := RpD.putAt e1 h2 r
    have q1 := eqv_keyD e3 e1
    rw [List.map_cons]
    simp only [dicSet]
    by_cases z : k' = k
    · rw [if_pos (by rw [q1]; exact decide_eq_true z)]
      have : kPutAt k x (k', a, v') = (k', a, x) := if_pos z
      rw [this]
      exact .cons e3 h h2 ih
    · rw [if_neg (by rw [q1]; simp [z])]
      have : kPutAt k x (k', a, v') = (k', a, v') := if_neg z
      rw [this]
      exact .cons e3 h q ih
theorem RpD.put {d e : D} {k : NestedKey} {a : Addr} {x : V} (e1 : nkey d = some k) (h1 : Rp K F d (.ref a)) (h2 : Rp K F e x) {ks vs : List D} {kvs : List DK} (h : RpD K F ks vs kvs) :
    RpD K F (dicPut ks vs d e).1 (dicPut ks vs d e).2 (kPut kvs k a x) := by
  unfold dicPut kPut
  rw [RpD.getN e1 h]
  by_cases q : (dicGet ks vs d).isSome = true
  · rw [if_pos q, if_pos q]; exact RpD.putAt e1 h2 h
  · rw [if_neg q, if_neg q]; exact RpD.snoc e1 h1 h2 h
theorem RpD.length : ∀ {ks vs : List D} {kvs : List DK}, RpD K F ks vs kvs → ks.length = kvs.length
  | _, _, _, .nil => rfl
  | _, _, _, .cons _ _ _ r => congrArg (· + 1) (RpD.length r)
end
/-- the keys stand in the abstract heap -/
def KsH (K : PySem.W.Frag) (H : Hp) (kvs : List DK) : Prop := ∀ p ∈ kvs, Ky K H p.1 (.ref p.2.1)
theorem RpD.ks {K : PySem.W.Frag} {w : Wd} {S : Sto} {H : Hp} (s : Sim K w S H) : ∀ {ks vs : List D} {kvs : List DK}, RpD K w.F ks vs kvs → KsH K H kvs
  | _, _, _, .nil => fun p hp => by simp at hp
  | _, _, _, .cons e h q r => fun p hp => by
    rcases List.mem_cons.mp hp with z | z
    · subst z; exact ky_of s _ h e
    · exact RpD.ks s r p z
/-! ### what a name's thing is -/
def getK : Y → Sto → Option (List D × List D)
  | .v (.dic ks vs), _ => some (ks, vs)
  | .ref n, S => match S[n]? with
    | some (.dic ks vs) => some (ks, vs)
    | _ => none
  | _, _ => none
theorem getK_of {K : PySem.W.Frag} {w : Wd} {S : Sto} {H : Hp} (s : Sim K w S H) {y : Y} {v : V} {ks vs : List D} (r : RY K w y v) (e : getK y S = some (ks, vs)) : ∃ a kvs, v = .ref a ∧ Rd H a (DicO a kvs) ∧ RpD K w.F ks vs kvs.2 := by
  cases y with
  | ref n =>
    simp only [getK] at e
    split at e
    · rename_i ks' vs' e0
      cases e
      obtain ⟨a, ha, rfl⟩ := r
      obtain ⟨⟨kvs, h1, h2⟩, _⟩ := s.ob n _ a e0 ha (by intro z; cases z)
      exact ⟨a, kvs, rfl, .inl h1, h2⟩
    · cases e
  | v d =>
    cases d with
    | dic ks' vs' =>
      cases e
      have r' : Rp K w.F (.dic ks vs) v := r
      cases r' with
      | dic h q => exact ⟨_, _, rfl, s.rd h, q⟩
    | _ => simp [getK] at e
/-! ### d[k] -/
def rIxD (K : PySem.W.Frag) : R2 := fun x y H Q => ∃ a b kvs k v, x = .ref a ∧ y = .ref b ∧ Rd H a (DicO a kvs) ∧ KsH K H kvs.2 ∧ Ky K H k (.ref b) ∧ kOk k = true ∧ kGet kvs.2 k = some v ∧ Q v H
theorem dicP_typeIs {X : Cx} {pins : List (Addr × Obj)} {σ : L2.St} {H : Hp} {s : Shared} {a : Addr} {kvs : Nat × List DK} (I : Inv X pins σ H s) (e : Rd H a (DicO a kvs)) : s.TypeIs (.ref a) "dict" := by
  obtain ⟨_, _, _, _, _, o, _, h1, h2, _⟩ := dic_rd I e
  exact ⟨o, h1, h2.1⟩
theorem subT {prog : Program} {w : World} {A : Around} {E : Value → Shared → Prop} {s : Shared} {value slice : Expr} {o i : Value} {T id : String} {Q : Value → Shared → Prop} (hT : s.TypeIs o T)
    (hl : typeLookup (.type T) "__getitem__" = pure (some (.builtin id))) (h : wpAny (model prog w) A (getItem o i) Q E s)
    (hs : subscripted slice false o i = operate [o, i] (getItem o i)) :
    wpAny (model prog w) A (subscriptTail value slice o i) Q E s := by
  unfold subscriptTail
  refine wpAny_bind ?_
  rw [getitemInPython_of_ne hT.not_modules]
  refine wpAny_bind (wpAny_specialOf hT hl ?_)
  have fin : wpAny (model prog w) A (subscripted slice false o i) (fun r s₃ => wpAny (model prog w) A (letTemporaryGo value o r >>= fun _ => pure r) Q E s₃) E s := by
    rw [hs]
    exact wpAny_operating (wpAny_mono h (fun r s₃ h₃ => wpAny_bind (wpAny_letTemporaryGo (wpAny_pure h₃))) fun _ _ x => x)
  first
    | exact wpAny_pure (wpAny_bind fin)
    | exact wpAny_bind (wpAny_pure (wpAny_bind fin))
    | exact wpAny_bind fin
theorem KsH.nested {X : Cx} {pins : List (Addr × Obj)} {σ : L2.St} {H : Hp} {s : Shared} {kvs : List DK} (hk : KsH X.K H kvs) (I : Inv X pins σ H s) : ∀ q ∈ kvs, NestedIs s.heap q.1 (.ref q.2.1) := fun q hq => (hk q hq).nested I rfl
theorem ix_dic {X : Cx} (hu : X.A.units + 65 < cLine) : IxR X (rIxD X.K) := by
  intro value slice pins s σ H x y v u Q I rx ry h hs
  obtain ⟨a, b, kvs, k, z, rfl, rfl, e, hk, kb, ko, l, q⟩ := h
  cases rx
  cases ry
  exact subT (dicP_typeIs I e) PySem.F.slot_dict_getitem.lookup (dic_get (by omega) I e (hk.nested I) (kb.nested I rfl) ko l fun u' s' I' ru => ⟨z, H, I', ru, q⟩) hs
theorem IxR.or {X : Cx} {r r' : R2} (h : IxR X r) (h' : IxR X r') : IxR X (fun x y H Q => r x y H Q ∨ r' x y H Q) := by
  intro value slice pins s σ H x y v u Q I rx ry q hs
  rcases q with q | q
  · exact h value slice pins s σ H x y v u Q I rx ry q hs
  · exact h' value slice pins s σ H x y v u Q I rx ry q hs
/-- an item of a dict, or of a list, a tuple, a text -/
def sIxD : Y → Y → Sto → Res Y := fun x y S => match getK x S with
  | some (ks, vs) => match y with
    | .v d => match keyK d, dicGet ks vs d with
      | some _, some e => .ok (.v e) S
      | _, _ => .bad
    | _ => .bad
  | none => sIx x y S
theorem sIxD_ok {X : Cx} : OpS X sIxD (fun x y H Q => rIx X.K x y H Q ∨ rIxD X.K x y H Q) := by
  intro E w S H x y v u Q s rx ry h
  unfold sIxD at h
  split at h
  · rename_i ks vs e1
    split at h
    · rename_i d
      split at h
      · rename_i k e e2 e3
        obtain ⟨a, kvs, rfl, h1, h2⟩ := getK_of s rx e1
        obtain ⟨n1, n2, ds, rfl⟩ := keyK_eq e2
        obtain ⟨z, g1, g2⟩ := (h2.get n1).1 _ e3
        have ry' : Rp X.K w.F (.tup ds) u := ry
        have kb := ky_of s _ ry' n1
        cases ry' with
        | tup q1 q2 => exact .inr ⟨_, _, kvs, k, z, rfl, rfl, h1, h2.ks s, kb, n2, g1, rd_ok h s g2⟩
      · exact h.elim
    · exact h.elim
  · exact .inl (sIx_ok E w S H x y v u Q s rx ry h)
section
variable {X : Cx} {W : WX} {k : Nat} {vl wl : List (Nat × Str)} {gl : List Str} {a b : Expr} {f g : FE Y} {pos : Pos}
theorem re_ixd (C : Ok X W k vl wl gl) (ha : RE X W a f) (hb : RE X W b g) (hs : PlainIx b := by intro _ _; rfl) : RE X W (.Subscript a b pos) (fBin sIxD f g) :=
  weakPE (pe_ix (IxR.or ix_seq (ix_dic (room65 C.hr))) ha hb hs) fun σ H Q q => bin_read sIxD_ok σ H Q q
end
/-! ### k in d -/
def rInD (K : PySem.W.Frag) (n : Bool) : R2 := fun y x H Q => ∃ a b kvs k, x = .ref a ∧ y = .ref b ∧ Rd H a (DicO a kvs) ∧ KsH K H kvs.2 ∧ Ky K H k (.ref b) ∧ kOk k = true ∧ Q (.bl (xor n (kGet kvs.2 k).isSome)) H
theorem op_inD {X : Cx} (hu : X.A.units + 65 < cLine) : OpR X (compareOp .In) (rInD X.K false) := by
  intro pins s σ H y x u v Q I ry rx h
  obtain ⟨a, b, kvs, k, rfl, rfl, e, hk, kb, ko, q⟩ := h
  cases rx
  cases ry
  rw [Bool.false_xor] at q
  exact dic_in (by omega) I e (hk.nested I) (kb.nested I rfl) ko fun s' I' => ⟨.bl (kGet kvs.2 k).isSome, H, I', rfl, q⟩
theorem op_ninD {X : Cx} (hu : X.A.units + 65 < cLine) : OpR X (compareOp .NotIn) (rInD X.K true) := by
  intro pins s σ H y x u v Q I ry rx h
  obtain ⟨a, b, kvs, k, rfl, rfl, e, hk, kb, ko, q⟩ := h
  cases rx
  cases ry
  rw [Bool.true_xor] at q
  exact dic_notin (by omega) I e (hk.nested I) (kb.nested I rfl) ko fun s' I' => ⟨.bl (!(kGet kvs.2 k).isSome), H, I', rfl, q⟩
theorem OpR.or {X : Cx} {f : Value → Value → Sem Value} {r r' : R2} (h : OpR X f r) (h' : OpR X f r') : OpR X f (fun x y H Q => r x y H Q ∨ r' x y H Q) := by
  intro pins s σ H x y v u Q I rx ry q
  rcases q with q | q
  · exact h pins s σ H x y v u Q I rx ry q
  · exact h' pins s σ H x y v u Q I rx ry q
def sInD (n : Bool) : Y → Y → Sto → Res Y := fun x y S => match getK y S with
  | some (ks, vs) => match x with
    | .v d => match keyK d with
      | some _ => .ok (.v (.bl (xor n (dicGet ks vs d).isSome))) S
      | _ => .bad
    | _ => .bad
  | none => sIn n x y S
theorem sInD_ok {X : Cx} (n : Bool) : OpS X (sInD n) (fun x y H Q => rInX X.K n x y H Q ∨ rInD X.K n x y H Q) := by
  intro E w S H x y v u Q s rx ry h
  unfold sInD at h
  split at h
  · rename_i ks vs e1
    split at h
    · rename_i d
      split at h
      · rename_i k e2
        obtain ⟨a, kvs, rfl, h1, h2⟩ := getK_of s ry e1
        obtain ⟨n1, n2, ds, rfl⟩ := keyK_eq e2
        rw [← h2.getN n1] at h
        have rx' : Rp X.K w.F (.tup ds) v := rx
        have kb := ky_of s _ rx' n1
        cases rx' with
        | tup q1 q2 => exact .inr ⟨_, _, kvs, k, rfl, rfl, h1, h2.ks s, kb, n2, rd_ok h s (.bl _)⟩
      · exact h.elim
    · exact h.elim
  · exact .inl (sIn_ok n E w S H x y v u Q s rx ry h)
section
variable {X : Cx} {W : WX} {k : Nat} {vl wl : List (Nat × Str)} {gl : List Str} {a b : Expr} {f g : FE Y} {pos : Pos}
theorem re_ind (C : Ok X W k vl wl gl) (ha : RE X W a f) (hb : RE X W b g) (hm : behindInMarks .In b = false := by rfl) : RE X W (.Compare a [.In] [b] pos) (fBin (sInD false) f g) := re_cmp (OpR.or (op_inX (room65 C.hr)) (op_inD (room65 C.hr))) (sInD_ok false) hm ha hb
theorem re_nind (C : Ok X W k vl wl gl) (ha : RE X W a f) (hb : RE X W b g) (hm : behindInMarks .NotIn b = false := by rfl) : RE X W (.Compare a [.NotIn] [b] pos) (fBin (sInD true) f g) := re_cmp (OpR.or (op_notInX (room65 C.hr)) (op_ninD (room65 C.hr))) (sInD_ok true) hm ha hb
theorem rt_ind (C : Ok X W k vl wl gl) (ha : RE X W a f) (hb : RE X W b g) (hm : behindInMarks .In b = false := by rfl) : RT X W (.Compare a [.In] [b] pos) (fTest (fBin (sInD false) f g)) := rt_cmp (OpR.or (op_inX (room65 C.hr)) (op_inD (room65 C.hr))) (sInD_ok false) hm ha hb
theorem rt_nind (C : Ok X W k vl wl gl) (ha : RE X W a f) (hb : RE X W b g) (hm : behindInMarks .NotIn b = false := by rfl) : RT X W (.Compare a [.NotIn] [b] pos) (fTest (fBin (sInD true) f g)) := rt_cmp (OpR.or (op_notInX (room65 C.hr)) (op_ninD (room65 C.hr))) (sInD_ok true) hm ha hb
end
/-! ### methods of dicts -/
def isDH (x : V) (H : Hp) : Prop := ∃ a kvs, x = .ref a ∧ Rd H a (DicO a kvs)
theorem isDH_at {X : Cx} {pins : List (Addr × Obj)} {σ : L2.St} {H : Hp} {s : Shared} {x : V} {v : Value} (I : Inv X pins σ H s) (r : L2.RelV x v) (d : isDH x H) : s.TypeIs v "dict" ∧ ∀ b, v = .ref b → ∃ ob, s.heap.get? b = some ob ∧ ob.dict = none := by
  obtain ⟨a, kvs, rfl, e⟩ := d
  cases r
  refine ⟨dicP_typeIs I e, fun b q => ?_⟩
  cases q
  obtain ⟨_, _, _, _, _, o, _, h1, h2, _⟩ := dic_rd I e
  exact ⟨o, h1, h2.2.1⟩
def tDM (r : V → List V → Hp → VK → Prop) (to : TE) (t : TA) : TE := fun σ H Q => to σ H fun x H1 => isDH x H1 ∧ t σ H1 fun xs H2 => r x xs H2 Q
section
variable {X : Cx} {o e : Expr} {es : List Expr} {to : TE} {t : TA} {name : Str} {apos cpos : Pos} {id : String} {r : V → List V → Hp → VK → Prop}
theorem pe_dm (slot : Slot "dict" name id) (hty : typeOf (.builtin id) = pure (.type "method_descriptor")) (hm : MtR X id r) (ho : PE X o to) (ha : PA X (e :: es) t)
    (hbase : attributeBase o name X.env (eval o X.env) = eval o X.env := by rfl)
    (hfew : ((backTo cpos (starEach (e :: es) X.env)).all (fun x => !x.1) && (backToKw cpos (keywordEach [] X.env)).all (fun x => x.1.isSome)
      && decide ((e :: es).length + ([] : List Keyword).length + (if ([] : List Keyword).isEmpty then 0 else 1) < 30)) = true := by rfl)
    (hline : (apos.endLine == cpos.line) = true := by rfl) (hs : starEach (e :: es) X.env = (false, eval e X.env) :: starEach es X.env := by rfl) (hplain : (backTo cpos (starEach es X.env)).any (·.1) = false := by rfl) :
    PE X (.Call (.Attribute o name apos) (e :: es) [] cpos) (tDM r to t) := by
  refine ⟨fun pins s σ H Q I h => ?_⟩
  refine wpAny_Call_method_late hbase hfew hline rfl (thn (ho.run pins s σ H _ I h) fun v s1 ⟨x, H1, I1, r1, ty, q1⟩ => ?_)
  obtain ⟨h1, h2⟩ := isDH_at I1 r1 ty
  refine ⟨"dict", id, PySem.F.plainAttrs_dict, slot, hty, h1, h2, ?_⟩
  have hA := ha.run cpos pins s1 σ H1 _ I1 q1
  rw [hs] at hA ⊢
  refine Calls.callWith_builtin (by show (false || (backTo cpos (starEach es X.env)).any (·.1)) = false; rw [hplain] <;> rfl) (Calls.evalArgs_plain ?_)
  exact thn hA fun us s2 ⟨vs, H2, I2, r2, q2⟩ => hm pins s2 σ H2 x vs v us Q I2 r1 r2 q2
end
def rGetD (K : PySem.W.Frag) : V → List V → Hp → VK → Prop := fun x xs H Q => ∃ a b kvs k, x = .ref a ∧ Rd H a (DicO a kvs) ∧ KsH K H kvs.2 ∧ Ky K H k (.ref b) ∧ kOk k = true ∧
  ((xs = [.ref b] ∧ Q ((kGet kvs.2 k).getD .non) H) ∨ ∃ z, xs = [.ref b, z] ∧ Q ((kGet kvs.2 k).getD z) H)
theorem mt_getD {X : Cx} (hu : X.A.units + 65 < cLine) : MtR X "dict.get" (rGetD X.K) := by
  intro pins s σ H x xs v us Q I rx rxs h
  obtain ⟨a, b, kvs, k, rfl, e, hk, kb, ko, h⟩ := h
  cases rx
  have dp := dic_rd I e
  obtain ⟨ys, rel, dd, _⟩ := DicP.of (ep := kvs.1) (kvs := kvs.2) (P := X.prog) (w := X.w) dp (hk.nested I)
  have kn := kb.nested I (u := .ref b) rfl
  have ko' := ko
  simp only [kOk, Bool.and_eq_true, decide_eq_true_eq] at ko'
  have room : (nestedKind X.prog X.w).room X.A.in1 := by show X.A.in1.units + 8 < cLine; rw [Around.in1_units]; omega
  rcases h with ⟨rfl, q⟩ | ⟨z, rfl, q⟩
  · obtain ⟨u, rfl, ru⟩ := vals1 rxs
    cases ru
    refine call_meetsIn PySem.F.slot_dict_get dd.typeIs PySem.F.entry_dict_get (PySem.F.args_dict_get_2 _ _) (meetsH_dict_get (nestedKind X.prog X.w) a b dp.2.1) ⟨room, k, ys, ⟨kn, ko'.2⟩, dd, ?_⟩
    exact ⟨_, H, I.tok _, (kGet_rel rel k).getD (d := .non) (d' := Value.none) rfl, q⟩
  · obtain ⟨u, u2, rfl, ru, ru2⟩ := vals2 rxs
    cases ru
    refine call_meetsIn PySem.F.slot_dict_get dd.typeIs PySem.F.entry_dict_get (PySem.F.args_dict_get_3 _ _ _) (meetsH_dict_get_default (nestedKind X.prog X.w) a b dp.2.1 u2) ⟨room, k, ys, ⟨kn, ko'.2⟩, dd, ?_⟩
    exact ⟨_, H, I.tok _, (kGet_rel rel k).getD ru2, q⟩
def isDc (o : Y) (S : Sto) : Bool := (getK o S).isSome
def sDget (o : Y) : List Y → Sto → Res Y
  | [.v d], S => match getK o S, keyK d with
    | some (ks, vs), some _ => .ok (.v ((dicGet ks vs d).getD .non)) S
    | _, _ => .bad
  | [.v d, .v z], S => match getK o S, keyK d with
    | some (ks, vs), some _ => .ok (.v ((dicGet ks vs d).getD z)) S
    | _, _ => .bad
  | _, _ => .bad
theorem isDc_H {K : PySem.W.Frag} {w : Wd} {S : Sto} {H : Hp} {y : Y} {v : V} (s : Sim K w S H) (r : RY K w y v) (h : isDc y S = true) : isDH v H := by
  unfold isDc at h
  obtain ⟨⟨ks, vs⟩, e⟩ := Option.isSome_iff_exists.mp h
  obtain ⟨a, kvs, rfl, h1, _⟩ := getK_of s r e
  exact ⟨a, kvs, rfl, h1⟩
theorem RpD.getD {K : PySem.W.Frag} {F : Hp} {d z : D} {k : NestedKey} {u : V} {ks vs : List D} {kvs : List DK} (e : nkey d = some k) (h : RpD K F ks vs kvs) (r : Rp K F z u) : Rp K F ((dicGet ks vs d).getD z) ((kGet kvs k).getD u) := by
  have := RpD.get e h
  cases q : dicGet ks vs d with
  | none => rw [this.2 q]; exact r
  | some x => obtain ⟨v, h1, h2⟩ := this.1 x q; rw [h1]; exact h2
section
variable {X : Cx} {W : WX} {k : Nat} {vl wl : List (Nat × Str)} {gl : List Str} {e o : Expr} {es : List Expr} {fo : FE Y} {fs : FE (List Y)} {apos cpos : Pos}
theorem re_dget (C : Ok X W k vl wl gl) (ho : RE X W o fo) (ha : RA X W (e :: es) fs)
    (hbase : attributeBase o "get" X.env (eval o X.env) = eval o X.env := by rfl)
    (hfew : ((backTo cpos (starEach (e :: es) X.env)).all (fun x => !x.1) && (backToKw cpos (keywordEach [] X.env)).all (fun x => x.1.isSome)
      && decide ((e :: es).length + ([] : List Keyword).length + (if ([] : List Keyword).isEmpty then 0 else 1) < 30)) = true := by rfl)
    (hline : (apos.endLine == cpos.line) = true := by rfl) (hs : starEach (e :: es) X.env = (false, eval e X.env) :: starEach es X.env := by rfl) (hplain : (backTo cpos (starEach es X.env)).any (·.1) = false := by rfl) :
    RE X W (.Call (.Attribute o "get" apos) (e :: es) [] cpos) (fMet isDc sDget fo fs) :=
  weakPE (pe_dm PySem.F.slot_dict_get PySem.F.type_dict_get (mt_getD (room65 C.hr)) ho ha hbase hfew hline hs hplain) fun σ H Q q => by
    obtain ⟨w, env, S, hE, s, q⟩ := q
    refine ⟨w, env, S, hE, s, rd_bind q fun y S1 w1 v H1 l1 s1 r1 q1 => ?_⟩
    split at q1
    · rename_i hc
      refine ⟨isDc_H s1 r1 hc, w1, env, S1, hE.mono l1, s1, rd_bind q1 fun ys S2 w2 vs H2 l2 s2 r2 q2 => ?_⟩
      have r1' := r1.mono l2
      unfold sDget at q2
      split at q2
      · rename_i d
        obtain ⟨u, rfl, ru⟩ := r2.one
        split at q2
        · rename_i ks vs' k' e1 e2
          obtain ⟨a, kvs, rfl, h1, h2⟩ := getK_of s2 r1' e1
          obtain ⟨n1, n2, ds, rfl⟩ := keyK_eq e2
          have ru' : Rp X.K w2.F (.tup ds) u := ru
          have kb := ky_of s2 _ ru' n1
          have fin := rd_ok q2 s2 (h2.getD n1 .non)
          cases ru' with
          | tup q1 q3 => exact ⟨a, _, kvs, k', rfl, h1, h2.ks s2, kb, n2, .inl ⟨rfl, fin⟩⟩
        · exact q2.elim
      · rename_i d z
        obtain ⟨u, u2, rfl, ru, ru2⟩ := r2.two
        split at q2
        · rename_i ks vs' k' e1 e2
          obtain ⟨a, kvs, rfl, h1, h2⟩ := getK_of s2 r1' e1
          obtain ⟨n1, n2, ds, rfl⟩ := keyK_eq e2
          have ru' : Rp X.K w2.F (.tup ds) u := ru
          have kb := ky_of s2 _ ru' n1
          have fin := rd_ok q2 s2 (h2.getD n1 ru2)
          cases ru' with
          | tup q1 q3 => exact ⟨a, _, kvs, k', rfl, h1, h2.ks s2, kb, n2, .inr ⟨_, rfl, fin⟩⟩
        · exact q2.elim
      · exact q2.elim
    · exact q1.elim
end
/-! ### d[k] = v -/
def rSetD (K : PySem.W.Frag) : TSet := fun o i v H Q => ∃ a b kvs k, o = .ref a ∧ i = .ref b ∧ H a = some (DicO a kvs) ∧ KsH K H kvs.2 ∧ Ky K H k (.ref b) ∧ kOk k = true ∧ kvs.2.length < sizeLine ∧ ∀ ep, Q (upd H a (DicO a (ep, kPut kvs.2 k b v)))
theorem set_dic {X : Cx} (hu : X.A.units + 65 < cLine) : PSet X (rSetD X.K) := by
  intro pins s σ H o i v ov iv u Q I ro ri rv h
  obtain ⟨a, b, kvs, k, rfl, rfl, e, hk, kb, ko, l, q⟩ := h
  cases ro
  cases ri
  exact dic_put (by omega) I e (hk.nested I) (kb.nested I rfl) ko l rv fun ep s' I' => ⟨_, I', q ep⟩
def stK (y : Y) (S : Sto) : Option (Nat × List D × List D) := match y with
  | .ref n => match S[n]? with
    | some (.dic ks vs) => some (n, ks, vs)
    | _ => none
  | _ => none
theorem stK_of {K : PySem.W.Frag} {w : Wd} {S : Sto} {H : Hp} (s : Sim K w S H) {y : Y} {v : V} {n : Nat} {ks vs : List D} (r : RY K w y v) (e : stK y S = some (n, ks, vs)) :
    ∃ a kvs, v = .ref a ∧ w.io[n]? = some a ∧ H a = some (DicO a kvs) ∧ RpD K w.F ks vs kvs.2 ∧ S[n]? = some (.dic ks vs) := by
  unfold stK at e
  split at e
  · split at e
    · rename_i m ks' vs' e1
      cases e
      obtain ⟨a, ha, rfl⟩ := r
      obtain ⟨⟨kvs, h1, h2⟩, _⟩ := s.ob n _ a e1 ha (by intro z; cases z)
      exact ⟨a, kvs, rfl, ha, h1, h2, e1⟩
    · cases e
  · cases e
/-- o[i] = e, o a dict of the store -/
def fSubD (fo fi f : FE Y) : FS := fun env S => (f env S).bindE env fun y S1 => (fo env S1).bindE env fun o S2 => (fi env S2).bindE env fun i S3 => match i with
  | .v d => (thaw1 y S3).bindE env fun x S4 => match stK o S4, keyK d with
    | some (n, ks, vs), some _ => if okLen (ks.length + 1) = true then .nx env (S4.set n (.dic (dicPut ks vs d x).1 (dicPut ks vs d x).2)) else .bad
    | _, _ => .bad
  | _ => .bad
section
variable {X : Cx} {W : WX} {k : Nat} {vl wl : List (Nat × Str)} {gl : List Str} {e : Expr} {f : FE Y} {pos : Pos}
theorem rs_subd (C : Ok X W k vl wl gl) {o i : Expr} {fo fi : FE Y} {ps : Pos} (he : RE X W e f) (ho : RE X W o fo) (hi : RE X W i fi)
    (ha : ∀ v, assign (.Subscript o i ps) X.env v = (do
      let ov ← holding [v] (eval o X.env)
      let iv ← holding [v, ov] (eval i X.env)
      standAt ps
      holding [v, ov, iv] (setItem ov iv v)
      release [v, ov, iv] []) := by intro _; rfl) (hs : swapsWithSole [.Subscript o i ps] e pos.line X.env = pure false := by rfl) (hw : swappedStores [.Subscript o i ps] e X.env = pure none := by rfl)
    (h1 : (assignEach [.Subscript o i ps] X.env).map (·.2) = [assign (.Subscript o i ps) X.env] := by rfl) : RS X W (.Assign [.Subscript o i ps] e pos) (fSubD fo fi f) := weakPS (ps_asg he (pg_sub ho hi (set_dic (room65 C.hr)) ha) hs hw h1) fun D σ H q => by
  obtain ⟨w, env, S, hE, s, q⟩ := q
  refine ⟨w, env, S, hE, s, rd_bindE hE q fun y S1 w1 v H1 l1 s1 r1 hE1 q1 => ?_⟩
  refine ⟨w1, env, S1, hE1, s1, rd_bindE hE1 q1 fun oy S2 w2 ov H2 l2 s2 r2 hE2 q2 => ?_⟩
  refine ⟨w2, env, S2, hE2, s2, rd_bindE hE2 q2 fun iy S3 w3 iv H3 l3 s3 r3 hE3 q3 => ?_⟩
  split at q3
  · rename_i d
    have r3' : Rp X.K w3.F d iv := r3
    rcases thaw1_cases y S3 with ⟨x, S4, et⟩ | et
    · rw [et] at q3
      simp only [Res.bindE] at q3
      obtain ⟨w4, l4, s4, r4⟩ := thaw1_ok s3 ((r1.mono l2).mono l3) et
      split at q3
      · rename_i n ks vs k' eo ek
        split at q3
        · rename_i hl
          obtain ⟨n1, n2, ds, rfl⟩ := keyK_eq ek
          obtain ⟨a, kvs, rfl, ha1, ha2, ha3, ha4⟩ := stK_of s4 ((r2.mono l3).mono l4) eo
          have r3w : Rp X.K w4.F (.tup ds) iv := r3'.mono l4.F
          have kb := ky_of s4 _ r3w n1
          have hl' := len_ok hl
          cases r3w with
          | tup g1 g2 =>
            refine ⟨a, _, kvs, k', rfl, rfl, ha2, ha3.ks s4, kb, n2, by rw [← ha3.length]; omega, fun ep => ?_⟩
            exact sd_le l4 q3 w4 σ _ (.refl w4) (hE3.mono l4) (s4.setO ha1 ⟨_, ha4, by intro z; cases z⟩ fun _ => ⟨(ep, _), upd_same, ha3.put n1 (.tup g1 g2) r4⟩)
        · exact q3.elim
      · exact q3.elim
    · rw [et] at q3; exact q3.elim
  · exact q3.elim
end
/-! ### new dicts -/
def newD (m : Bool) (ks vs : List D) (S : Sto) : Res Y := if m = true then .ok (.ref S.length) (S ++ [.dic ks vs]) else .ok (.v (.dic ks vs)) S
theorem new_dic {K : PySem.W.Frag} {mg : Str → Option Value} {w : Wd} {S : Sto} {H : Hp} {E : XK} {m : Bool} {ks vs : List D} {Q : VK} (s : Sim K w S H) (h : rd K mg E (newD m ks vs S) w (RY K) Q) {p : Addr} {kvs : Nat × List DK} (hp : H p = none) (r : RpD K w.F ks vs kvs.2) : Q (.ref p) (upd H p (DicO p kvs)) := by
  cases m with
  | false =>
    refine rd_okLe h (Wd.le.froze (s.freshF hp)) (s.newF hp) ?_
    exact Rp.dic (.inl upd_same) (r.mono (le_upd (s.freshF hp)))
  | true =>
    refine rd_okLe h Wd.le.newO (s.newO (t := .dic ks vs) hp fun _ => ⟨kvs, upd_same, r⟩) ?_
    exact ⟨p, by rw [← s.len]; simp, rfl⟩
theorem dic_obj {P : Program} {w : World} {H : Hp} {a : Addr} {kvs : List DK} {xs : List (NestedKey × Addr × Value)} {h : Heap} (z : kvs.length ≤ sizeLine) (hs : (a == sysModules) = false) (hk : ∀ p ∈ kvs, kOk p.1 = true) (r : Paired KR kvs xs)
    (d : h.DictOfH (nestedKind P w) a xs) : ∃ ep, ObjOk P w H h a (DicO a (ep, kvs)) := let ⟨ep, q⟩ := DicP.mk' z hs hk r d; ⟨ep, q.obj⟩
def tNewD : TE := fun _ H Q => ∀ p ep, H p = none → Q (.ref p) (upd H p (DicO p (ep, [])))
theorem pe_newD {X : Cx} {pos : Pos} : PE X (.Dict [] [] pos) tNewD := ⟨fun pins s σ H Q I h => by
  obtain ⟨ep, ob⟩ := dic_obj (H := upd H s.heap.objs.size (DicO s.heap.objs.size (0, []))) (P := X.prog) (w := X.w) (kvs := []) (Nat.zero_le _) (beq_eq_false_iff_ne.mpr (Nat.ne_of_gt I.big)) (fun p hp => nomatch hp) .nil (Heap.DictOfH.new (knd := nestedKind X.prog X.w) s.heap)
  exact wpAny_Dict_empty ⟨.ref s.heap.objs.size, _, I.laid (a := s.heap.objs.size) (o := DicO s.heap.objs.size (ep, [])) (t' := s.toks) (fun _ _ q => Heap.get?_push_of_some _ q) (Nat.le_refl _) ob, rfl, h _ ep (I.hok.fresh (Nat.le_refl _))⟩⟩
def fNewD (m : Bool) : FE Y := fun _ S => newD m [] [] S
theorem re_newd (m : Bool) {X : Cx} {W : WX} {pos : Pos} : RE X W (.Dict [] [] pos) (fNewD m) := weakPE pe_newD fun σ H Q q => by
  obtain ⟨w, env, S, hE, s, q⟩ := q
  exact fun p ep hp => new_dic (kvs := (ep, [])) s q hp .nil
/-! ### dict(pairs) -/
def kPutAll (acc kvs : List DK) : List DK := kvs.foldl (fun acc p => kPut acc p.1 p.2.1 p.2.2) acc
theorem kPutAll_rel : ∀ {kvs : List DK} {xs : List (NestedKey × Addr × Value)} {acc : List DK} {ys : List (NestedKey × Addr × Value)}, Paired KR kvs xs → Paired KR acc ys → Paired KR (kPutAll acc kvs) (storedAllH ys xs)
  | _, _, _, _, .nil, r => r
  | p :: kvs, q :: xs, acc, ys, .cons h t, r => by
    show Paired KR (kPutAll (kPut acc p.1 p.2.1 p.2.2) kvs) (storedAllH (storedH ys q.1 q.2.1 q.2.2) xs)
    refine kPutAll_rel t ?_
    obtain ⟨h1, h2, h3⟩ := h
    rw [← h1, ← h2]
    exact kPut_rel r p.1 p.2.1 h3
theorem kPutAll_ok : ∀ {kvs acc : List DK}, (∀ p ∈ kvs, kOk p.1 = true) → (∀ p ∈ acc, kOk p.1 = true) → ∀ p ∈ kPutAll acc kvs, kOk p.1 = true
  | [], _, _, h => h
  | q :: kvs, acc, h1, h2 => by
    show ∀ p ∈ kPutAll (kPut acc q.1 q.2.1 q.2.2) kvs, kOk p.1 = true
    refine kPutAll_ok (fun p hp => h1 p (List.mem_cons_of_mem _ hp)) fun p hp => ?_
    rcases kPut_mem hp with ⟨y, hy, e, _⟩ | ⟨e, _⟩
    · rw [e]; exact h2 y hy
    · rw [e]; exact h1 q (List.mem_cons_self ..)
def rDict (K : PySem.W.Frag) : List V → Hp → VK → Prop := fun xs H Q => ∃ (a : Addr) (ps : List Addr) (kvs : List DK), xs = [.ref a] ∧ SqL K H a (ps.map V.ref) ∧ Paired (fun p (kv : DK) => SqT K H p [.ref kv.2.1, kv.2.2]) ps kvs ∧ KsH K H kvs ∧
  (∀ p ∈ kvs, kOk p.1 = true) ∧ ∀ p ep, H p = none → Q (.ref p) (upd H p (DicO p (ep, kPutAll [] kvs)))
theorem prs_heap {X : Cx} {pins : List (Addr × Obj)} {σ : L2.St} {H : Hp} {s : Shared} (I : Inv X pins σ H s) : ∀ {ps : List Addr} {kvs : List DK}, Paired (fun p (kv : DK) => SqT X.K H p [.ref kv.2.1, kv.2.2]) ps kvs →
    ∃ xs : List (NestedKey × Addr × Value), Paired KR kvs xs ∧ xs.length = ps.length ∧ ∀ (j : Nat) (q : NestedKey × Addr × Value), xs[j]? = some q → ∃ b : Addr, ps[j]? = some b ∧ IsTup s.heap b #[.ref q.2.1, q.2.2]
  | _, _, .nil => ⟨[], .nil, rfl, fun j q e => by simp at e⟩
  | _, _, .cons (a := p) (b := kv) h t => by
    obtain ⟨xs, r, hl, hp⟩ := prs_heap I t
    obtain ⟨its, rv, ht, _⟩ := I.tuple h
    obtain ⟨u, y, ei, ru, ry⟩ := vals2 rv
    subst ei
    cases ru
    refine ⟨(kv.1, kv.2.1, y) :: xs, .cons ⟨rfl, rfl, ry⟩ r, by rw [List.length_cons, List.length_cons, hl], fun j q e => ?_⟩
    cases j with
    | zero =>
      have e' : (kv.1, kv.2.1, y) = q := Option.some.inj e
      subst e'
      exact ⟨p, rfl, ht⟩
    | succ j =>
      obtain ⟨b, e1, e2⟩ := hp j q (by simpa using e)
      exact ⟨b, by simpa using e1, e2⟩
theorem cr_dict {X : Cx} (hc : X.calm = true) (hu : X.A.units + 65 < cLine) : CallR X (.type "dict") (rDict X.K) := by
  intro pins s σ H xs us Q I r q
  obtain ⟨a, ps, kvs, ex, hq, hp, hk, ho, q⟩ := q
  subst ex
  obtain ⟨u, eu, rx⟩ := vals1 r
  subst eu
  cases rx
  obtain ⟨its, rv, pl, hz⟩ := I.list hq
  have ei := refs_at rv
  subst ei
  rw [List.length_map] at hz
  obtain ⟨ys, rel, hl, hpr⟩ := prs_heap I hp
  obtain ⟨o, n, ho', hcl, hd, hdat⟩ := pl
  have nest : ∀ x ∈ ys, NestedIs s.heap x.1 (.ref x.2.1) ∧ x.1.depth ≤ 8 := by
    have k1 := hk.nested I
    clear hp hpr hl q hz
    induction rel with
    | nil => intro x hx; exact nomatch hx
    | @cons p q ps qs z t ih =>
      intro x hx
      rcases List.mem_cons.mp hx with e | hx
      · subst e
        have e1 := k1 p (List.mem_cons_self ..)
        have e2 := ho p (List.mem_cons_self ..)
        simp only [kOk, Bool.and_eq_true, decide_eq_true_eq] at e2
        rw [z.1, z.2.1] at e1
        rw [z.1] at e2
        exact ⟨e1, e2.2⟩
      · exact ih (fun q hq => hk q (List.mem_cons_of_mem _ hq)) (fun q hq => ho q (List.mem_cons_of_mem _ hq)) (fun q hq => k1 q (List.mem_cons_of_mem _ hq)) x hx
  have P := PairArg.list (prog := X.prog) (w := X.w) a (ps.map Value.ref).toArray (fun j => ps.getD j 0) (ys.map fun x => (Value.ref x.2.1, x.2.2))
  refine call_dict_pairsH (knd := nestedKind X.prog X.w) (ps := ys) P (I.ok.hd hc) (by show X.A.in1.in1.units + 8 < cLine; rw [Around.in1_units, Around.in1_units]; omega) ⟨⟨o, n, ho', hcl, hd, hdat⟩, by simp [hl], ?_⟩ ⟨by simp, ?_⟩ ?_ (by rw [List.length_map, hl]; exact hz) fun h' tk hd' hk' => ?_
  · intro j k v e
    rw [List.getElem?_map] at e
    obtain ⟨x, e1, e2⟩ := Option.map_eq_some_iff.mp e
    cases e2
    obtain ⟨b, b1, b2⟩ := hpr j x e1
    have b3 : ps.getD j 0 = b := by rw [List.getD_eq_getElem?_getD, b1]; rfl
    refine ⟨by simp [b1, List.getD_eq_getElem?_getD], .inl ?_⟩
    show s.heap.IsTuple (ps.getD j 0) _
    rw [b3]
    exact b2
  · intro i key v e
    have e' : (ys.map fun x => (Value.ref x.2.1, x.2.2))[i]? = some (key, v) := e
    rw [List.getElem?_map] at e'
    obtain ⟨x, e1, e2⟩ := Option.map_eq_some_iff.mp e'
    cases e2
    exact ⟨x.1, x.2.1, e1, rfl⟩
  · intro h' hk' x hx
    obtain ⟨n1, n2⟩ := nest x hx
    refine ⟨NestedIs.at (fun b o vs n hb _ => hk' b o (Nat.ne_of_lt (Heap.lt_size hb)) (by simp) hb) _ _ n1, n2⟩
  · have hm : (s.heap.objs.size == sysModules) = false := beq_eq_false_iff_ne.mpr (Nat.ne_of_gt I.big)
    have rel' := kPutAll_rel rel (acc := []) (ys := []) .nil
    have hlen : (kPutAll [] kvs).length ≤ sizeLine := by
      rw [Paired.length rel']
      refine Nat.le_trans (storedAllH_length ys []) ?_
      rw [List.length_nil, Nat.zero_add, hl]
      exact hz
    obtain ⟨ep, ob⟩ := dic_obj (H := H) (P := X.prog) (w := X.w) hlen hm (kPutAll_ok ho (fun p hp => nomatch hp)) rel' hd'
    exact ⟨.ref s.heap.objs.size, upd H s.heap.objs.size (DicO s.heap.objs.size (ep, kPutAll [] kvs)), I.laid (t' := tk) (fun b u e => hk' b u (by simp) e) (Nat.le_refl _) ob, rfl, q _ ep (I.hok.fresh (Nat.le_refl _))⟩
def prsD : List D → Option (List (D × D))
  | [] => some []
  | .tup [k, v] :: ds => match keyK k, prsD ds with
    | some _, some ps => some ((k, v) :: ps)
    | _, _ => none
  | _ => none
def putAll (a : List D × List D) (ps : List (D × D)) : List D × List D := ps.foldl (fun a p => dicPut a.1 a.2 p.1 p.2) a
def sDict (m : Bool) : List Y → Sto → Res Y
  | [y], S => match getL y S with
    | some ds => match prsD ds with
      | some ps => newD m (putAll ([], []) ps).1 (putAll ([], []) ps).2 S
      | none => .bad
    | none => .bad
  | _, _ => .bad
theorem prs_of {K : PySem.W.Frag} {w : Wd} {S : Sto} {H : Hp} (s : Sim K w S H) : ∀ {ds : List D} {xs : List V} {ps : List (D × D)}, RpL K w.F ds xs → prsD ds = some ps →
    ∃ (as : List Addr) (kvs : List DK), xs = as.map V.ref ∧ Paired (fun p (kv : DK) => SqT K H p [.ref kv.2.1, kv.2.2]) as kvs ∧ RpD K w.F (ps.map (·.1)) (ps.map (·.2)) kvs ∧ ∀ q ∈ kvs, kOk q.1 = true
  | [], _, _, .nil, e => by
    simp only [prsD] at e; cases e
    exact ⟨[], [], rfl, .nil, .nil, fun q hq => nomatch hq⟩
  | d :: ds, _, _, .cons h r, e => by
    unfold prsD at e
    split at e
    · rename_i e0; cases e0
    · rename_i k v ds' e0
      cases e0
      split at e
      · rename_i k' ps' e1 e2
        cases e
        obtain ⟨as, kvs, rfl, h1, h2, h3⟩ := prs_of s r e2
        obtain ⟨n1, n2, es, rfl⟩ := keyK_eq e1
        cases h with
        | tup g1 g2 =>
          cases g2 with
          | cons g3 g4 =>
            cases g4 with
            | cons g5 g6 =>
              cases g6
              cases g3 with
              | tup g7 g8 =>
                refine ⟨_ :: as, (k', _, _) :: kvs, rfl, .cons (s.sqT g1) h1, .cons n1 (.tup g7 g8) g5 h2, fun q hq => ?_⟩
                rcases List.mem_cons.mp hq with z | z
                · subst z; exact n2
                · exact h3 q z
      · cases e
    · cases e
theorem RpD.putAll {K : PySem.W.Frag} {F : Hp} : ∀ {ps : List (D × D)} {kvs acc : List DK} {a : List D × List D}, RpD K F (ps.map (·.1)) (ps.map (·.2)) kvs → RpD K F a.1 a.2 acc → RpD K F (putAll a ps).1 (putAll a ps).2 (kPutAll acc kvs)
  | [], _, _, _, .nil, r => r
  | p :: ps, _, acc, a, .cons e h q t, r => by
    rename_i k b x kvs
    show RpD K F (Sg.putAll (dicPut a.1 a.2 p.1 p.2) ps).1 (Sg.putAll (dicPut a.1 a.2 p.1 p.2) ps).2 (kPutAll (kPut acc k b x) kvs)
    exact RpD.putAll t (RpD.put e h q r)
theorem sDict_ok {X : Cx} (m : Bool) : CallS X (sDict m) (rDict X.K) := by
  intro E w S H ys vs Q s r h
  unfold sDict at h
  split at h
  · obtain ⟨v, rfl, r1⟩ := r.one
    split at h
    · rename_i ds e1
      split at h
      · rename_i ps e2
        obtain ⟨a, xs, rfl, h1, h2⟩ := getL_of s r1 e1
        obtain ⟨as, kvs, rfl, q1, q2, q3⟩ := prs_of s h2 e2
        exact ⟨a, as, kvs, rfl, .inl h1, q1, q2.ks s, q3, fun p ep hp => new_dic (kvs := (ep, _)) s h hp (q2.putAll .nil)⟩
      · exact h.elim
    · exact h.elim
  · exact h.elim
section
variable {X : Cx} {W : WX} {k : Nat} {vl wl : List (Nat × Str)} {gl : List Str} {e : Expr} {es : List Expr} {fs : FE (List Y)} {pos p : Pos}
theorem re_dict (m : Bool) (C : Ok X W k vl wl gl) (j : Nat) (ha : RA X W (e :: es) fs) (hj : gl[j]? = some "dict" := by rfl) (he : HE X e es := by rfl) (hp : HP X es pos := by rfl) : RE X W (.Call (.Name "dict" p) (e :: es) [] pos) (fCall (sDict m) fs) :=
  re_callT C (cr_dict C.calm (room65 C.hr)) (sDict_ok m) (by decide +kernel) 14 j rfl hj ha he hp
end
/-! ### len(d) -/
def rLenD : List V → Hp → VK → Prop := fun xs H Q => ∃ (a : Addr) (kvs : Nat × List DK), xs = [.ref a] ∧ Rd H a (DicO a kvs) ∧ Q (.int ((kvs.2.length : Nat) : Int)) H
theorem cr_lenD {X : Cx} : CallR X (.builtin "len") (fun xs H Q => ∃ (a : Addr) (kvs : Nat × List DK), xs = [.ref a] ∧ Rd H a (DicO a kvs) ∧ KsH X.K H kvs.2 ∧ Q (.int ((kvs.2.length : Nat) : Int)) H) := by
  intro pins s σ H xs us Q I r h
  obtain ⟨p, kvs, rfl, e, hk, q⟩ := h
  obtain ⟨u, rfl, rx⟩ := vals1 r
  cases rx
  have dp := dic_rd I e
  obtain ⟨ys, rel, dd, hz⟩ := DicP.of (ep := kvs.1) (kvs := kvs.2) (P := X.prog) (w := X.w) dp (hk.nested I)
  have hl : kvs.2.length = ys.length := Paired.length rel
  refine call_len_dictH dp.2.1 dd (by rw [sizeLine_eq] at hz; omega) ?_
  rw [← hl]
  exact ⟨.int ((kvs.2.length : Nat) : Int), H, I.tok _, ⟨_, rfl⟩, q⟩
def sLenD : List Y → Sto → Res Y
  | [y], S => match getK y S with
    | some (ks, _) => .ok (.v (.int ks.length)) S
    | none => sLen [y] S
  | _, _ => .bad
theorem sLenD_ok {X : Cx} : CallS X sLenD (fun xs H Q => (∃ x n, xs = [x] ∧ LenV X.K x H n ∧ Q (.int n) H) ∨ (∃ (a : Addr) (kvs : Nat × List DK), xs = [.ref a] ∧ Rd H a (DicO a kvs) ∧ KsH X.K H kvs.2 ∧ Q (.int ((kvs.2.length : Nat) : Int)) H)) := by
  intro E w S H ys vs Q s r h
  unfold sLenD at h
  split at h
  · split at h
    · rename_i ks vs' e1
      obtain ⟨v, rfl, r1⟩ := r.one
      obtain ⟨a, kvs, rfl, h1, h2⟩ := getK_of s r1 e1
      rw [h2.length] at h
      exact .inr ⟨a, kvs, rfl, h1, h2.ks s, rd_ok h s (.int _)⟩
    · exact .inl (sLen_ok E w S H _ vs Q s r h)
  · exact h.elim
section
variable {X : Cx} {W : WX} {k : Nat} {vl wl : List (Nat × Str)} {gl : List Str} {e : Expr} {es : List Expr} {fs : FE (List Y)} {pos p : Pos}
theorem re_lend (C : Ok X W k vl wl gl) (j : Nat) (ha : RA X W (e :: es) fs) (hj : gl[j]? = some "len" := by rfl) (he : HE X e es := by rfl) (hp : HP X es pos := by rfl) : RE X W (.Call (.Name "len" p) (e :: es) [] pos) (fCall sLenD fs) :=
  re_callB C (CallR.or call_len cr_lenD) sLenD_ok (by decide +kernel) 0 j rfl hj ha he hp
end
/-! ### d.update(d2) -/
def rUpdD (K : PySem.W.Frag) : V → List V → Hp → VK → Prop := fun x xs H Q => ∃ (a o : Addr) (kvs more : Nat × List DK), x = .ref a ∧ xs = [.ref o] ∧ a ≠ o ∧ H a = some (DicO a kvs) ∧ Rd H o (DicO o more) ∧ KsH K H kvs.2 ∧ KsH K H more.2 ∧
  (kvs.2 ≠ [] ∨ (more.2.map fun p => kh p.1).Nodup) ∧ kvs.2.length + more.2.length ≤ sizeLine ∧ ∀ ep, Q .non (upd H a (DicO a (ep, kPutAll kvs.2 more.2)))
theorem keys_hash {w : World} {P : Program} {kvs : List DK} {xs : List (NestedKey × Addr × Value)} (r : Paired KR kvs xs) (h : ∀ p ∈ kvs, kOk p.1 = true) :
    (xs.map fun x => (nestedKind P w).hash x.1) = kvs.map fun p => kh p.1 := by
  induction r with
  | nil => rfl
  | @cons p q ps qs h1 t ih =>
    rw [List.map_cons, List.map_cons, ih (fun p hp => h p (List.mem_cons_of_mem _ hp))]
    have e := h p (List.mem_cons_self ..)
    simp only [kOk, Bool.and_eq_true] at e
    have : (nestedKind P w).hash q.1 = kh p.1 := by rw [← h1.1]; exact kh_eq w _ e.1
    rw [this]
theorem keys_tup {s : Shared} {kvs : List DK} {xs : List (NestedKey × Addr × Value)} (r : Paired KR kvs xs) (h : ∀ p ∈ kvs, NestedIs s.heap p.1 (.ref p.2.1)) : ∀ x ∈ xs, s.TypeIs (.ref x.2.1) "tuple" := by
  induction r with
  | nil => intro x hx; exact nomatch hx
  | @cons p q ps qs h1 t ih =>
    intro x hx
    rcases List.mem_cons.mp hx with e | hx
    · subst e
      have z := h p (List.mem_cons_self ..)
      rw [h1.2.1] at z
      generalize p.1 = kk at z
      cases z with
      | tup g1 g2 _ _ => exact ⟨_, g1, g2⟩
    · exact ih (fun p hp => h p (List.mem_cons_of_mem _ hp)) x hx
theorem mt_updD {X : Cx} (hu : X.A.units + 65 < cLine) : MtR X "dict.update" (rUpdD X.K) := by
  intro pins s σ H x xs v us Q I rx rxs h
  obtain ⟨a, o, kvs, more, rfl, rfl, ne, e1, e2, k1, k2, nd, sz, q⟩ := h
  cases rx
  obtain ⟨u, rfl, ru⟩ := vals1 rxs
  cases ru
  have dp1 := dic_rd I (.inl e1)
  have dp2 := dic_rd I e2
  obtain ⟨ys, r1, d1, z1⟩ := DicP.of (ep := kvs.1) (kvs := kvs.2) (P := X.prog) (w := X.w) dp1 (k1.nested I)
  obtain ⟨zs, r2, d2, z2⟩ := DicP.of (ep := more.1) (kvs := more.2) (P := X.prog) (w := X.w) dp2 (k2.nested I)
  have l1 := Paired.length r1
  have l2 := Paired.length r2
  have hap : ys ≠ [] ∨ ((∀ x ∈ zs, s.TypeIs (.ref x.2.1) "tuple") ∧ (zs.map fun x => (nestedKind X.prog X.w).hash x.1).Nodup) := by
    rcases nd with nd | nd
    · refine .inl fun z => nd ?_
      rw [z] at l1
      exact List.length_eq_zero_iff.mp l1
    · exact .inr ⟨keys_tup r2 (k2.nested I), by rw [keys_hash r2 dp2.2.2.1]; exact nd⟩
  refine call_update_dictH (knd := nestedKind X.prog X.w) (by show X.A.in1.units + 8 < cLine; rw [Around.in1_units]; omega) ne dp2.2.1 d1 d2 hap (by omega) fun h' q1 _ q3 => ?_
  have rel := kPutAll_rel r2 r1
  have hl : (kPutAll kvs.2 more.2).length ≤ sizeLine := by
    rw [Paired.length rel]
    have := storedAllH_length zs ys
    omega
  obtain ⟨ep, ob⟩ := dic_obj (H := upd H a (DicO a (0, []))) (P := X.prog) (w := X.w) hl dp1.2.1 (kPutAll_ok dp2.2.2.1 dp1.2.2.1) rel q1
  have he : ∃ q, h'.get? a = some q := let ⟨q, _, _, hq, _⟩ := q1; ⟨q, hq⟩
  exact ⟨.non, _, d_write (t' := s.toks) I (by rw [e1]; exact True.intro) q3 he ob, rfl, q ep⟩
def hashNd (ks : List D) : Bool := match nkeys ks with
  | some l => decide ((l.map kh).Nodup)
  | none => false
theorem RpD.nkeys {K : PySem.W.Frag} {F : Hp} : ∀ {ks vs : List D} {kvs : List DK}, RpD K F ks vs kvs → nkeys ks = some (kvs.map (·.1))
  | _, _, _, .nil => rfl
  | _, _, _, .cons e _ _ r => by simp only [Sg.nkeys, e, RpD.nkeys r, List.map_cons]
theorem RpD.putZ {K : PySem.W.Frag} {F : Hp} : ∀ {ks vs : List D} {kvs acc : List DK} {a : List D × List D}, RpD K F ks vs kvs → RpD K F a.1 a.2 acc → RpD K F (Sg.putAll a (ks.zip vs)).1 (Sg.putAll a (ks.zip vs)).2 (kPutAll acc kvs)
  | _, _, _, _, _, .nil, r => r
  | _, _, _, acc, a, .cons (d := d) (e := e) (ks := ks) (vs := vs) (k := k) (a := b) (x := x) (kvs := kvs) e1 h q t, r => by
    show RpD K F (Sg.putAll (dicPut a.1 a.2 d e) (ks.zip vs)).1 (Sg.putAll (dicPut a.1 a.2 d e) (ks.zip vs)).2 (kPutAll (kPut acc k b x) kvs)
    exact RpD.putZ t (RpD.put e1 h q r)
def isSK (o : Y) (S : Sto) : Bool := (stK o S).isSome
def othY (n : Nat) : Y → Bool
  | .ref m => decide (m ≠ n)
  | _ => true
def sDupd (o : Y) : List Y → Sto → Res Y
  | [y], S => match stK o S, getK y S with
    | some (n, ks, vs), some (ks2, vs2) => if othY n y = true ∧ (ks ≠ [] ∨ hashNd ks2 = true) ∧ okLen (ks.length + ks2.length) = true then
        .ok (.v .non) (S.set n (.dic (putAll (ks, vs) (ks2.zip vs2)).1 (putAll (ks, vs) (ks2.zip vs2)).2)) else .bad
    | _, _ => .bad
  | _, _ => .bad
theorem isSK_H {K : PySem.W.Frag} {w : Wd} {S : Sto} {H : Hp} {y : Y} {v : V} (s : Sim K w S H) (r : RY K w y v) (h : isSK y S = true) : isDH v H := by
  unfold isSK at h
  obtain ⟨⟨n, ks, vs⟩, e⟩ := Option.isSome_iff_exists.mp h
  obtain ⟨a, kvs, rfl, _, h1, _⟩ := stK_of s r e
  exact ⟨a, kvs, rfl, .inl h1⟩
theorem oth_ne {K : PySem.W.Frag} {w : Wd} {S : Sto} {H : Hp} (s : Sim K w S H) {y : Y} {n : Nat} {a o : Addr} {ks vs ks2 vs2 : List D} (ha : w.io[n]? = some a) (hS : S[n]? = some (.dic ks vs)) (r : RY K w y (.ref o)) (e : getK y S = some (ks2, vs2)) (h : othY n y = true) : a ≠ o := by
  intro q
  subst q
  cases y with
  | ref m =>
    obtain ⟨b, hb, eb⟩ := r
    cases eb
    have hm : S[m]? ≠ some .gone := by
      intro z
      simp only [getK, z] at e
      cases e
    have := s.inj n m a ha hb (by rw [hS]; intro z; cases z) hm
    simp only [othY, decide_eq_true_eq] at h
    exact h this.symm
  | v d =>
    cases d with
    | dic k2 v2 =>
      have r' : Rp K w.F (.dic k2 v2) (.ref a) := r
      obtain ⟨_, _, hF, _⟩ := s.ob n _ a hS ha (by intro z; cases z)
      cases r' with
      | dic g1 g2 =>
        rcases g1 with g1 | ⟨_, g1⟩
        · rw [hF] at g1; cases g1
        · rw [hF] at g1; cases g1
    | _ => simp [getK] at e
section
variable {X : Cx} {W : WX} {k : Nat} {vl wl : List (Nat × Str)} {gl : List Str} {e o : Expr} {fo f : FE Y} {apos cpos : Pos}
theorem re_dupd (C : Ok X W k vl wl gl) (ho : RE X W o fo) (ha : RE X W e f)
    (hbase : attributeBase o "update" X.env (eval o X.env) = eval o X.env := by rfl)
    (hfew : ((backTo cpos (starEach (e :: []) X.env)).all (fun x => !x.1) && (backToKw cpos (keywordEach [] X.env)).all (fun x => x.1.isSome)
      && decide ((e :: []).length + ([] : List Keyword).length + (if ([] : List Keyword).isEmpty then 0 else 1) < 30)) = true := by rfl)
    (hline : (apos.endLine == cpos.line) = true := by rfl) (hs : starEach (e :: []) X.env = (false, eval e X.env) :: starEach [] X.env := by rfl) (hplain : (backTo cpos (starEach [] X.env)).any (·.1) = false := by rfl) :
    RE X W (.Call (.Attribute o "update" apos) [e] [] cpos) (fMet isSK sDupd fo (fCons f fNil)) :=
  weakPE (pe_dm PySem.F.slot_dict_update PySem.F.type_dict_update (mt_updD (room65 C.hr)) ho (ra_cons ha ra_nil hs) hbase hfew hline hs hplain) fun σ H Q q => by
    obtain ⟨w, env, S, hE, s, q⟩ := q
    refine ⟨w, env, S, hE, s, rd_bind q fun y S1 w1 v H1 l1 s1 r1 q1 => ?_⟩
    split at q1
    · rename_i hc
      refine ⟨isSK_H s1 r1 hc, w1, env, S1, hE.mono l1, s1, rd_bind q1 fun ys S2 w2 vs H2 l2 s2 r2 q2 => ?_⟩
      have r1' := r1.mono l2
      unfold sDupd at q2
      split at q2
      · rename_i z
        obtain ⟨u, rfl, ru⟩ := r2.one
        split at q2
        · rename_i n ks vs' ks2 vs2 e1 e2
          split at q2
          · rename_i hcond
            obtain ⟨c1, c2, c3⟩ := hcond
            obtain ⟨a, kvs, rfl, ha1, ha2, ha3, ha4⟩ := stK_of s2 r1' e1
            obtain ⟨b, more, rfl, hb1, hb2⟩ := getK_of s2 ru e2
            have ne := oth_ne s2 ha1 ha4 ru e2 c1
            have n1 := ha3.length
            have n2 := hb2.length
            have c4 := len_ok c3
            refine ⟨a, b, kvs, more, rfl, rfl, ne, ha2, hb1, ha3.ks s2, hb2.ks s2, ?_, by omega, fun ep => ?_⟩
            · rcases c2 with c2 | c2
              · refine .inl fun z => c2 ?_
                rw [z] at n1
                exact List.length_eq_zero_iff.mp n1
              · refine .inr ?_
                unfold hashNd at c2
                rw [hb2.nkeys] at c2
                have c5 := of_decide_eq_true c2
                rwa [List.map_map] at c5
            · exact rd_okLe q2 (.refl w2) (s2.setO ha1 ⟨_, ha4, by intro z; cases z⟩ fun _ => ⟨(ep, _), upd_same, hb2.putZ ha3⟩) .non
          · exact q2.elim
        · exact q2.elim
      · exact q2.elim
    · exact q1.elim
end
end Sg

/-! Q8b: {k: v} -/
namespace Sg
open PySem PySem.Spec PyProof.Rows L2
def tDisp1 (K : PySem.W.Frag) (tk tv : TE) : TE := fun σ H Q => ∀ p ep, H p = none → tPairs [(tk, tv)] σ (upd H p (DicO p (ep, []))) fun ps H2 => H2 p = some (DicO p (ep, [])) ∧
  ∃ b k y, ps = [(.ref b, y)] ∧ Ky K H2 k (.ref b) ∧ kOk k = true ∧ ∀ ep', Q (.ref p) (upd H2 p (DicO p (ep', [(k, b, y)])))
theorem pe_disp1 {X : Cx} {pos : Pos} {ke ve : Expr} {tk tv : TE} (hu : X.A.units + 65 < cLine) (hk : PE X ke tk) (hv : PE X ve tv) : PE X (.Dict [some ke] [ve] pos) (tDisp1 X.K tk tv) := by
  refine ⟨fun pins s σ H Q I q => ?_⟩
  have hn := I.hok.fresh (Nat.le_refl s.heap.objs.size)
  obtain ⟨ep, ob⟩ := dic_obj (H := upd H s.heap.objs.size (DicO s.heap.objs.size (0, []))) (P := X.prog) (w := X.w) (kvs := []) (Nat.zero_le _) (beq_eq_false_iff_ne.mpr (Nat.ne_of_gt I.big)) (fun p hp => nomatch hp) .nil (Heap.DictOfH.new (knd := nestedKind X.prog X.w) s.heap)
  have I1 := I.laid (a := s.heap.objs.size) (o := DicO s.heap.objs.size (ep, [])) (h' := s.heap.push { cls := .type "dict", data := .dict #[] }) (t' := s.toks) (fun _ _ q => Heap.get?_push_of_some _ q) (Nat.le_refl _) ob
  have P : PPs X pos [some ke] [ve] [(tk, tv)] := pps_cons hk hv pps_nil
  have hl := pairTrees_length [some ke] [ve] X.env pos rfl rfl
  have h0 : pairTrees [some ke] [ve] X.env pos ≠ [] := fun z => by rw [z] at hl; simp at hl
  have h15 : (pairTrees [some ke] [ve] X.env pos).length ≤ 15 := by rw [hl]; simp
  rw [arm_eval_Dict, zip_pairTrees [some ke] [ve] X.env pos rfl rfl, dictDisplay_pairs _ h0 (by omega)]
  refine wpAny_bind (wpAny_standAt (wpAny_bind (wpAny_subDictH (knd := nestedKind X.prog X.w) (Q := fun d s' => wpAny (model X.prog X.w) X.A (pure (Value.ref d)) (EP X pins σ Q) X.xe s') (by show X.A.units + 8 < cLine; omega) h15 (thn (P.run pins _ σ _ _ I1 (q _ ep hn)) fun ws s2 ⟨ps, H2, I2, rel, e, b, k, y, eps, kb, ko, q2⟩ => ?_))))
  subst eps
  cases rel with
  | @cons _ pr _ _ h t =>
    cases t
    obtain ⟨u1, u⟩ := pr
    obtain ⟨h1, h2⟩ := h
    cases h1
    have dp := dic_rd I2 (.inl e)
    obtain ⟨xs, r0, dd, _⟩ := DicP.of (P := X.prog) (w := X.w) dp (fun p hp => nomatch hp)
    cases r0
    have ko' := ko
    simp only [kOk, Bool.and_eq_true, decide_eq_true_eq] at ko'
    refine ⟨[(k, b, u)], ⟨rfl, rfl, ⟨kb.nested I2 rfl, ko'.2⟩, True.intro⟩, dd, fun h' tk' dd' hs => wpAny_pure ?_⟩
    have z2 : ∀ p ∈ [(k, b, y)], kOk p.1 = true := fun p hp => by
      rw [List.mem_singleton.mp hp]; exact ko
    obtain ⟨ep', ob'⟩ := dic_obj (H := upd H2 s.heap.objs.size (DicO s.heap.objs.size (0, []))) (P := X.prog) (w := X.w) (kvs := [(k, b, y)]) (by rw [sizeLine_eq]; simp) dp.2.1 z2 (xs := [(k, b, u)]) (.cons ⟨rfl, rfl, h2⟩ .nil) dd'
    have he : ∃ q, h'.get? s.heap.objs.size = some q := let ⟨q, _, _, hq, _⟩ := dd'; ⟨q, hq⟩
    exact ⟨.ref s.heap.objs.size, _, d_write (t' := tk') I2 (by rw [e]; exact True.intro) hs he ob', rfl, q2 ep'⟩
theorem Sim.unhold {K : PySem.W.Frag} {w w' : Wd} {S : Sto} {H : Hp} {p : Addr} {o : HO} (hX : w.X p = none) (hx : w'.X = upd w.X p o) (s : Sim K w' S H) :
    Sim K { w' with X := w.X } S H ∧ H p = some o ∧ w'.F p = none ∧ ∀ n : Nat, w'.io[n]? = some p → S[n]? = some .gone := by
  have e : w' = { ({ w' with X := w.X } : Wd) with X := upd w.X p o } := by rw [← hx]
  rw [e] at s
  exact s.drop hX
theorem newD_out {K : PySem.W.Frag} {w : Wd} {S : Sto} {H : Hp} {mg : Str → Option Value} {E : XK} {m : Bool} {ks vs : List D} {Q : VK} {A : Addr} {xs : Nat × List DK} (s : Sim K w S H) (hA : H A = some (DicO A xs)) (hF : w.F A = none) (hX : w.X A = none) (hs : ∀ n : Nat, w.io[n]? = some A → S[n]? = some .gone) (r : RpD K w.F ks vs xs.2)
    (h : rd K mg E (newD m ks vs S) w (RY K) Q) : Q (.ref A) H := by
  unfold newD at h
  split at h
  · refine rd_okLe h .newO (s.adopt hA hF hX hs ⟨xs, hA, r⟩) ⟨A, ?_, rfl⟩
    show (w.io ++ [A])[S.length]? = some A
    rw [← s.len]; simp
  · exact rd_okLe h (.froze hF) (s.froze hA hF hX hs) (Rp.dic (.inl upd_same) (r.mono (le_upd hF)))
def fDisp1 (m : Bool) (fk fv : FE Y) : FE Y := fun env S => (fk env S).bind fun x S1 => (fv env S1).bind fun y S2 => match x with
  | .v d => match keyK d with
    | some _ => (thaw1 y S2).bind fun e S3 => newD m [d] [e] S3
    | none => .bad
  | _ => .bad
theorem re_disp1 (m : Bool) {X : Cx} {W : WX} {k : Nat} {vl wl : List (Nat × Str)} {gl : List Str} {ke ve : Expr} {fk fv : FE Y} {pos : Pos} (C : Ok X W k vl wl gl) (hk : RE X W ke fk) (hv : RE X W ve fv) : RE X W (.Dict [some ke] [ve] pos) (fDisp1 m fk fv) :=
  weakPE (pe_disp1 (room65 C.hr) hk hv) fun σ H Q q => by
    obtain ⟨w, env, S, hE, s, q⟩ := q
    intro p ep hp
    have hX := s.freshX hp
    have hE0 : EnvR X.K { w with X := upd w.X p (DicO p (ep, [])) } env σ := hE.to (.refl _) ⟨[], by simp⟩
    refine ⟨_, env, S, hE0, s.hold hp _, ?_⟩
    unfold fDisp1 at q
    cases e1 : fk env S with
    | bad => rw [e1] at q; exact q.elim
    | exc x S1 =>
      rw [e1] at q
      intro w1 cls d H1 l1 s1 xr
      obtain ⟨s2, _⟩ := s1.unhold hX l1.X
      exact q { w1 with X := w.X } cls d H1 ⟨l1.F, l1.io, rfl⟩ s2 xr
    | ok x S1 =>
      rw [e1] at q
      intro w1 v H1 l1 s1 r1
      refine ⟨w1, env, S1, hE0.mono l1, s1, ?_⟩
      cases e2 : fv env S1 with
      | bad => simp only [Res.bind, e2] at q; exact q.elim
      | exc x2 S2 =>
        simp only [Res.bind, e2] at q
        intro w2 cls d H2 l2 s2 xr
        obtain ⟨s3, _⟩ := s2.unhold hX (l2.X.trans l1.X)
        exact q { w2 with X := w.X } cls d H2 ⟨l1.F.trans l2.F, (l1.trans l2).io, rfl⟩ s3 xr
      | ok y S2 =>
        simp only [Res.bind, e2] at q
        intro w2 u H2 l2 s2 r2
        split at q
        · rename_i d
          split at q
          · rename_i k' ek
            rcases thaw1_cases y S2 with ⟨z, S3, et⟩ | et
            · rw [et] at q
              simp only [Res.bind] at q
              obtain ⟨w3, l3, s3, r3⟩ := thaw1_ok s2 r2 et
              have eX : w3.X = upd w.X p (DicO p (ep, [])) := (l3.X.trans l2.X).trans l1.X
              obtain ⟨s4, h1, h2, h3⟩ := s3.unhold hX eX
              obtain ⟨n1, n2, ds, rfl⟩ := keyK_eq ek
              have r1' : Rp X.K w3.F (.tup ds) v := Rp.mono (l2.F.trans l3.F) r1
              have kb := ky_of s3 _ r1' n1
              have hA2 : H2 p = some (DicO p (ep, [])) := h1
              cases r1' with
              | @tup b _ _ g1 g2 =>
                refine ⟨hA2, b, k', u, rfl, kb, n2, fun ep' => ?_⟩
                have e3 : w3 = { ({ w3 with X := w.X } : Wd) with X := upd w.X p (DicO p (ep, [])) } := by rw [← eX]
                rw [e3] at s3
                have s5 := s3.setX (o' := DicO p (ep', [(k', b, u)]))
                obtain ⟨s6, j1, j2, j3⟩ := s5.drop hX
                have lw : w.le { w3 with X := w.X } := ⟨(l1.F.trans l2.F).trans l3.F, ((l1.trans l2).trans l3).io, rfl⟩
                exact newD_out s6 j1 j2 hX j3 (.cons n1 (.tup g1 g2) r3 .nil) (rd_le lw q)
            · rw [et] at q; exact q.elim
          · exact q.elim
        · exact q.elim
end Sg

/-! Q8c: d == {}, d != {} -/
namespace PySem.W
open PySem PySem.Spec
section
variable {prog : Program} {w : World} {A : Around} {E : Value → Shared → Prop} {s : Shared}
theorem sg_same0 {nm : String} {a b : Addr} {es es' : Array DictEntry} {ep ep' : Nat} {Q : Bool → Shared → Prop} (ha : (a == sysModules) = false) (hb : (b == sysModules) = false)
    (da : s.heap.DictRaw a es ep) (db : s.heap.DictRaw b es' ep') (h0 : es'.size = 0) (h : Q (es.size == 0) s) :
    wpAny (model prog w) A (Builtin.Dict.samePairs nm a b) Q E s := by
  obtain ⟨oa, hoa, _, hda⟩ := da
  obtain ⟨ob, hob, _, hdb⟩ := db
  unfold Builtin.Dict.samePairs Builtin.Dict.showsAll
  rw [if_neg (show ¬ (a == sysModules) = true by rw [ha]; exact Bool.false_ne_true), if_neg (show ¬ (b == sysModules) = true by rw [hb]; exact Bool.false_ne_true)]
  refine wpAny_bind (wpAny_pure (wpAny_bind (wpAny_pure ?_)))
  refine wpAny_bind (wpAny_dictEntries hoa hda ?_)
  dsimp only
  refine wpAny_bind (wpAny_dictEntries hob hdb ?_)
  by_cases hsz : es.size = es'.size
  case neg =>
    rw [if_pos (by simpa using hsz)]
    have hbf : (es.size == 0) = false := by rw [h0] at hsz; simpa using hsz
    rw [hbf] at h
    exact wpAny_bind (wpAny_rule (wpAny_pure h))
  case pos =>
    have hz : es.size = 0 := hsz.trans h0
    rw [if_neg (by rw [hsz]; simp)]
    refine wpAny_bind (wpAny_dictEpoch hoa hda ?_)
    refine wpAny_bind ?_
    rw [Std.Legacy.Range.forIn_eq_forIn_range']
    simp only [Std.Legacy.Range.size, Nat.sub_zero, Nat.add_sub_cancel, Nat.div_one, hz, List.range'_zero, List.forIn_nil]
    refine wpAny_pure (wpAny_pure ?_)
    have : (es.size == 0) = true := by rw [hz]; rfl
    rw [this] at h
    exact h
theorem sg_rc0 {a b : Addr} {es es' : Array DictEntry} {ep ep' : Nat} (ha : (a == sysModules) = false) (hb : (b == sysModules) = false)
    (da : s.heap.DictRaw a es ep) (db : s.heap.DictRaw b es' ep') (h0 : es'.size = 0) (hu : A.units < cLine) (E Q : Value → Shared → Prop) (h : Q (.bool (es.size == 0)) s) : wpAny (model prog w) A (richCompare .Eq (.ref a) (.ref b)) Q E s := by
  refine wpAny_richCompare_same_room (op := .Eq) da.typeIs db.typeIs PySem.F.slot_dict_eq (wpAny_call_entry PySem.F.slot_dict_eq da.typeIs PySem.F.entry_dict_eq ?_ (PySem.F.args_dict_eq_2 _ _)) hu
  show wpAny _ _ (Builtin.Dict.dictSlotArgs "__eq__" ⟨[.ref a, .ref b], []⟩ >>= _) _ _ s
  refine wpAny_bind ?_
  unfold Builtin.Dict.dictSlotArgs
  refine wpAny_bind (wpAny_notOrdered_dict da.typeIs ?_)
  show wpAny _ _ (pure (Value.ref a, Value.ref b)) _ _ s
  refine wpAny_pure ?_
  refine wpAny_bind (wpAny_isInstance (T := "dict") db.typeIs PySem.F.sub_dict_dict ?_)
  simp only [Bool.not_true, Bool.false_eq_true, if_false]
  refine wpAny_bind (wpAny_pure (wpAny_bind (wpAny_pure ?_)))
  refine wpAny_bind (sg_same0 ha hb da db h0 ?_)
  refine wpAny_pure ⟨_, rfl, ?_, ?_⟩
  · exact fun x => nomatch x
  · simpa using h
theorem sg_ne0 {a b : Addr} {es es' : Array DictEntry} {ep ep' : Nat} (ha : (a == sysModules) = false) (hb : (b == sysModules) = false)
    (da : s.heap.DictRaw a es ep) (db : s.heap.DictRaw b es' ep') (h0 : es'.size = 0) (hu : A.units < cLine) (E Q : Value → Shared → Prop) (h : Q (.bool (!(es.size == 0))) s) : wpAny (model prog w) A (compareOp .NotEq (.ref a) (.ref b)) Q E s := by
  refine wpAny_richCompare_same_room (op := .NotEq) da.typeIs db.typeIs PySem.F.slot_dict_ne (wpAny_call_entry PySem.F.slot_dict_ne da.typeIs PySem.F.entry_dict_ne ?_ (PySem.F.args_dict_ne_2 _ _)) hu
  show wpAny _ _ (Builtin.Dict.dictSlotArgs "__ne__" ⟨[.ref a, .ref b], []⟩ >>= _) _ _ s
  refine wpAny_bind ?_
  unfold Builtin.Dict.dictSlotArgs
  refine wpAny_bind (wpAny_notOrdered_dict da.typeIs ?_)
  show wpAny _ _ (pure (Value.ref a, Value.ref b)) _ _ s
  refine wpAny_pure ?_
  refine wpAny_bind (wpAny_isInstance (T := "dict") db.typeIs PySem.F.sub_dict_dict ?_)
  simp only [Bool.not_true, Bool.false_eq_true, if_false]
  refine wpAny_bind (wpAny_pure (wpAny_bind (wpAny_pure ?_)))
  refine wpAny_bind (sg_same0 ha hb da db h0 ?_)
  refine wpAny_pure ⟨_, rfl, ?_, ?_⟩
  · exact fun x => nomatch x
  · simpa using h
end
end PySem.W
namespace Sg
open PySem PySem.Spec PyProof.Rows L2
theorem dic_raw {h : Heap} {a : Addr} {x : Nat × List DK} (p : DicP a x h) : ∃ es, h.DictRaw a es x.1 ∧ es.size = x.2.length := by
  obtain ⟨_, _, _, xs, r, o, es, h1, h2, h3, h4, _⟩ := p
  refine ⟨es, ⟨o, h1, h2, h3⟩, ?_⟩
  rw [← Array.length_toList, h4, List.length_map, Paired.length r]
def rEq0 (n : Bool) : R2 := fun x y H Q => ∃ a b kvs ep, x = .ref a ∧ y = .ref b ∧ Rd H a (DicO a kvs) ∧ Rd H b (DicO b (ep, [])) ∧ Q (.bl (xor n (kvs.2.length == 0))) H
theorem op_eq0 {X : Cx} (hu : X.A.units < cLine) : OpR X (compareOp .Eq) (rEq0 false) := by
  intro pins s σ H x y v u Q I rx ry h
  obtain ⟨a, b, kvs, ep, rfl, rfl, e1, e2, q⟩ := h
  cases rx; cases ry
  rw [Bool.false_xor] at q
  have p1 := dic_rd I e1
  have p2 := dic_rd I e2
  obtain ⟨es, d1, z1⟩ := dic_raw p1
  obtain ⟨es', d2, z2⟩ := dic_raw p2
  exact PySem.W.sg_rc0 p1.2.1 p2.2.1 d1 d2 z2 hu _ _ ⟨.bl (kvs.2.length == 0), H, I, by rw [z1]; rfl, q⟩
theorem op_ne0 {X : Cx} (hu : X.A.units < cLine) : OpR X (compareOp .NotEq) (rEq0 true) := by
  intro pins s σ H x y v u Q I rx ry h
  obtain ⟨a, b, kvs, ep, rfl, rfl, e1, e2, q⟩ := h
  cases rx; cases ry
  rw [Bool.true_xor] at q
  have p1 := dic_rd I e1
  have p2 := dic_rd I e2
  obtain ⟨es, d1, z1⟩ := dic_raw p1
  obtain ⟨es', d2, z2⟩ := dic_raw p2
  exact PySem.W.sg_ne0 p1.2.1 p2.2.1 d1 d2 z2 hu _ _ ⟨.bl (!(kvs.2.length == 0)), H, I, by rw [z1]; rfl, q⟩
/-- a dict == {} (n: !=) -/
def sEq0 (n : Bool) : Y → Y → Sto → Res Y := fun x y S => match getK x S, getK y S with
  | some (ks, _), some ([], _) => .ok (.v (.bl (xor n (ks.length == 0)))) S
  | _, _ => .bad
theorem sEq0_ok {X : Cx} (n : Bool) : OpS X (sEq0 n) (rEq0 n) := by
  intro E w S H x y v u Q s rx ry h
  unfold sEq0 at h
  split at h
  · rename_i ks vs vs2 e1 e2
    obtain ⟨a, kvs, rfl, h1, h2⟩ := getK_of s rx e1
    obtain ⟨b, ⟨ep, more⟩, rfl, h3, h4⟩ := getK_of s ry e2
    have n0 := h4.length
    have : more = [] := List.length_eq_zero_iff.mp n0.symm
    subst this
    rw [h2.length] at h
    exact ⟨a, b, kvs, ep, rfl, rfl, h1, h3, rd_ok h s (.bl _)⟩
  · exact h.elim
section
variable {X : Cx} {W : WX} {k : Nat} {vl wl : List (Nat × Str)} {gl : List Str} {a b : Expr} {f g : FE Y} {pos : Pos}
theorem re_eq0 (C : Ok X W k vl wl gl) (ha : RE X W a f) (hb : RE X W b g) : RE X W (.Compare a [.Eq] [b] pos) (fBin (sEq0 false) f g) := re_cmp (op_eq0 (by have := room65 C.hr; omega)) (sEq0_ok false) (nomark _) ha hb
theorem re_ne0 (C : Ok X W k vl wl gl) (ha : RE X W a f) (hb : RE X W b g) : RE X W (.Compare a [.NotEq] [b] pos) (fBin (sEq0 true) f g) := re_cmp (op_ne0 (by have := room65 C.hr; omega)) (sEq0_ok true) (nomark _) ha hb
theorem rt_eq0 (C : Ok X W k vl wl gl) (ha : RE X W a f) (hb : RE X W b g) : RT X W (.Compare a [.Eq] [b] pos) (fTest (fBin (sEq0 false) f g)) := rt_cmp (op_eq0 (by have := room65 C.hr; omega)) (sEq0_ok false) (nomark _) ha hb
theorem rt_ne0 (C : Ok X W k vl wl gl) (ha : RE X W a f) (hb : RE X W b g) : RT X W (.Compare a [.NotEq] [b] pos) (fTest (fBin (sEq0 true) f g)) := rt_cmp (op_ne0 (by have := room65 C.hr; omega)) (sEq0_ok true) (nomark _) ha hb
end
end Sg

/-! Q9: xs += ys, t < u, xs.pop(i) -/
namespace Sg
open PySem PySem.Spec PyProof.Rows L2
section
variable {X : Cx} {W : WX} {k : Nat} {vl wl : List (Nat × Str)} {gl : List Str} {e o : Expr} {es : List Expr} {f fo : FE Y} {fs : FE (List Y)} {pos p apos cpos : Pos} {x : Str}
/-! ### in place -/
def sIExt : Y → Y → Sto → Res Y
  | .ref n, .ref j, S => match S[n]?, S[j]? with
    | some (.lst ds), some (.lst es) => if okLen (ds.length + es.length) = true then .ok (.ref n) (S.set n (.lst (ds ++ es))) else .bad
    | _, _ => .bad
  | _, _, _ => .bad
theorem sIExt_ok : IpS X sIExt rExt2 := by
  intro E w S H y z a b Q s r1 r2 h
  unfold sIExt at h
  split at h
  · rename_i S' n j
    split at h
    · rename_i ds es e1 e2
      split at h
      · rename_i hz
        obtain ⟨a1, h1, rfl⟩ := r1
        obtain ⟨a2, h2, rfl⟩ := r2
        obtain ⟨⟨xs, g1, g2⟩, _, _, _⟩ := s.ob n _ a1 e1 h1 (by intro z; cases z)
        obtain ⟨⟨zs, k1, k2⟩, _, _, _⟩ := s.ob j _ a2 e2 h2 (by intro z; cases z)
        have hz' : ds.length + es.length ≤ 16777216 := of_decide_eq_true hz
        refine ⟨a1, a2, xs, zs, rfl, rfl, g1, k1, by rw [← g2.length, ← k2.length, sizeLine_eq]; exact hz', ?_⟩
        exact rd_okLe h (.refl w) (s.setO h1 ⟨_, e1, by intro z; cases z⟩ fun _ => ⟨xs ++ zs, upd_same, g2.append k2⟩) ⟨a1, h1, rfl⟩
      · exact h.elim
    · exact h.elim
  · exact h.elim
theorem ip_ext : PIp X .Add rExt2 := iop_ext
theorem rs_augL (O : Ok X W k vl wl gl) (j : Nat) {i : Nat} {pos' : Pos} (he : RE X W e f) (hj : wl[j]? = some (i, x) := by rfl) : RS X W (.AugAssign (.Name x pos') .Add e pos) (fAug i sIExt f) := rs_augG O ip_ext sIExt_ok j he hj
/-! ### t < u -/
def sLtX : Y → Y → Sto → Res Y
  | .v (.int i), .v (.int j), S => .ok (.v (.bl (decide (i < j)))) S
  | .v (.tup a), .v (.tup b), S => match intsD a, intsD b with
    | some ns, some ms => .ok (.v (.bl (HT.lexLt ns ms))) S
    | _, _ => .bad
  | _, _, _ => .bad
def rLtX (K : PySem.W.Frag) : R2 := fun x y H Q => (rI0 (fun i j => .bl (decide (i < j))) x y H Q) ∨ rLtT K x y H Q
theorem sLtX_ok : OpS X sLtX (rLtX X.K) := by
  intro E w S H x y v u Q s rx ry h
  unfold sLtX at h
  split at h
  · cases rx; cases ry
    exact .inl ⟨_, _, rfl, rfl, rd_ok h s (.bl _)⟩
  · rename_i a b S'
    split at h
    · rename_i ns ms e1 e2
      cases rx with
      | tup h1 h2 =>
        cases ry with
        | tup g1 g2 =>
          have k1 := RpL.ints (intsD_eq e1 ▸ h2)
          have k2 := RpL.ints (intsD_eq e2 ▸ g2)
          subst k1; subst k2
          exact .inr ⟨_, _, ns, ms, rfl, rfl, s.sqT h1, s.sqT g1, rd_ok h s (.bl _)⟩
    · exact h.elim
  · exact h.elim
theorem op_ltX (hu : X.A.units < cLine) : OpR X (compareOp .Lt) (rLtX X.K) := op_lt.or (op_ltT hu)
theorem re_ltX {a b : Expr} {f g : FE Y} (C : Ok X W k vl wl gl) (ha : RE X W a f) (hb : RE X W b g) : RE X W (.Compare a [.Lt] [b] pos) (fBin sLtX f g) := re_cmp (op_ltX (Nat.lt_of_le_of_lt (Nat.le_add_right _ 64) C.hr.units)) sLtX_ok (nomark _) ha hb
theorem rt_ltX {a b : Expr} {f g : FE Y} (C : Ok X W k vl wl gl) (ha : RE X W a f) (hb : RE X W b g) : RT X W (.Compare a [.Lt] [b] pos) (fTest (fBin sLtX f g)) := rt_cmp (op_ltX (Nat.lt_of_le_of_lt (Nat.le_add_right _ 64) C.hr.units)) sLtX_ok (nomark _) ha hb
/-! ### xs.pop(i) -/
def sPopI (o : Y) : List Y → Sto → Res Y
  | [.v (.int i)], S => match stL o S with
    | some (n, ds) => match seqIndex? i ds.length with
      | some j => match ds[j]? with
        | some d => if -(2 ^ 63) ≤ i ∧ i < 2 ^ 63 then .ok (.v d) (S.set n (.lst (ds.eraseIdx j))) else .bad
        | none => .bad
      | none => .bad
    | none => .bad
  | _, _ => .bad
theorem re_popAt (ho : RE X W o fo) (ha : RE X W e f)
    (hbase : attributeBase o "pop" X.env (eval o X.env) = eval o X.env := by rfl)
    (hfew : ((backTo cpos (starEach (e :: []) X.env)).all (fun x => !x.1) && (backToKw cpos (keywordEach [] X.env)).all (fun x => x.1.isSome)
      && decide ((e :: []).length + ([] : List Keyword).length + (if ([] : List Keyword).isEmpty then 0 else 1) < 30)) = true := by rfl)
    (hline : (apos.endLine == cpos.line) = true := by rfl) (hs : starEach (e :: []) X.env = (false, eval e X.env) :: starEach [] X.env := by rfl) (hplain : (backTo cpos (starEach [] X.env)).any (·.1) = false := by rfl) :
    RE X W (.Call (.Attribute o "pop" apos) [e] [] cpos) (fMet isSt sPopI fo (fCons f fNil)) :=
  weakPE (pe_bm PySem.F.plainAttrs_list PySem.F.slot_list_pop PySem.F.type_list_pop mt_popAt ho (ra_cons ha ra_nil hs) hbase hfew hline hs hplain) fun σ H Q q => by
    obtain ⟨w, env, S, hE, s, q⟩ := q
    refine ⟨w, env, S, hE, s, rd_bind q fun y S1 w1 v H1 l1 s1 r1 q1 => ?_⟩
    split at q1
    · rename_i hc
      refine ⟨isSt_ty s1 r1 hc, w1, env, S1, hE.mono l1, s1, rd_bind q1 fun ys S2 w2 vs H2 l2 s2 r2 q2 => ?_⟩
      unfold sPopI at q2
      split at q2
      · rename_i i
        obtain ⟨u, rfl, ru⟩ := r2.one
        cases ru
        split at q2
        · rename_i n ds eo
          split at q2
          · rename_i j ej
            split at q2
            · rename_i d ed
              split at q2
              · rename_i hi
                obtain ⟨a, xs, rfl, ha1, ha2, ha3, ha4⟩ := stL_of s2 (r1.mono l2) eo
                obtain ⟨u, eu, ru⟩ := ha3.get ed
                refine ⟨a, xs, i, j, u, rfl, rfl, ha2, hi.1, hi.2, by rw [← ha3.length]; exact ej, eu, ?_⟩
                exact rd_okLe q2 (.refl w2) (s2.setO ha1 ⟨_, ha4, by intro z; cases z⟩ fun _ => ⟨xs.eraseIdx j, upd_same, ha3.eraseIdx j⟩) ru
              · exact q2.elim
            · exact q2.elim
          · exact q2.elim
        · exact q2.elim
      · exact q2.elim
    · exact q1.elim
end
end Sg

/-! P1: what mirrors compute, in plain Lean -/
namespace Sg
open PySem PySem.Spec PyProof.Rows L2
section
variable {env : Ev} {S : Sto} {f g h : FE Y} {fs : FE (List Y)} {F G : FS} {t u : FE Bool} {i j : Nat} {d : D}
@[simp] theorem ev_seq : fSeq F G env S = (F env S).seq G := rfl
@[simp] theorem ev_nx : fNx env S = .nx env S := rfl
@[simp] theorem ev_drop : fDrop f env S = (f env S).bindE env fun _ S1 => .nx env S1 := rfl
@[simp] theorem ev_ret : fRet f env S = (f env S).bindE env fun y S1 => .rt y S1 := rfl
@[simp] theorem ev_ifs : fIfS t F G env S = (t env S).bindE env fun b S1 => if b = true then F env S1 else G env S1 := rfl
@[simp] theorem ev_set : fSet i f env S = (f env S).bindE env fun y S1 => .nx (env.set i (some y)) S1 := rfl
@[simp] theorem ev_for {fi : FE (List D)} {tg : Tg} : fFor tg fi F env S = (fi env S).bindE env fun ds S1 => forD tg F ds env S1 := rfl
@[simp] theorem ev_par : fPar i j fs env S = (fs env S).bindE env fun ys S1 => match ys with
  | [y, z] => .nx ((env.set i (some y)).set j (some z)) S1
  | _ => .bad := rfl
@[simp] theorem ev_asg {tg : Tg} : fAsg tg f env S = (f env S).bindE env fun y S1 => match y with
  | .v d => match tg.asg d env with
    | some env1 => .nx env1 S1
    | none => .bad
  | _ => .bad := rfl
@[simp] theorem ev_aug {sem : Y → Y → Sto → Res Y} {y : Y} (e : env[i]? = some (some y)) : fAug i sem f env S = (f env S).bindE env fun z S1 => (sem y z S1).bindE env fun x S2 => .nx (env.set i (some x)) S2 := by
  unfold fAug; rw [e]
@[simp] theorem ev_var {y : Y} (e : env[i]? = some (some y)) : fVar i env S = .ok y S := by unfold fVar; rw [e]
@[simp] theorem ev_c : fC d env S = .ok (.v d) S := rfl
@[simp] theorem ev_nil : fNil env S = .ok [] S := rfl
@[simp] theorem ev_cons : fCons f fs env S = (f env S).bind fun y S1 => (fs env S1).bind fun ys S2 => .ok (y :: ys) S2 := rfl
@[simp] theorem ev_bin {sem : Y → Y → Sto → Res Y} : fBin sem f g env S = (f env S).bind fun x S1 => (g env S1).bind fun y S2 => sem x y S2 := rfl
@[simp] theorem ev_un {sem : Y → Sto → Res Y} : fUn sem f env S = (f env S).bind sem := rfl
@[simp] theorem ev_call {sem : List Y → Sto → Res Y} : fCall sem fs env S = (fs env S).bind sem := rfl
@[simp] theorem ev_own {n : Nat} {m : List Y → Sto → Res Y} : fOwn n m fs env S = (fs env S).bind fun ys S1 => if ys.length = n then m ys S1 else .bad := rfl
@[simp] theorem ev_chain {s1 s2 : Y → Y → Sto → Res Y} : fChain s1 s2 f g h env S = (f env S).bind fun x S1 => (g env S1).bind fun y S2 => (s1 x y S2).bind fun z S3 => match z with
  | .v (.bl true) => (h env S3).bind fun u S4 => s2 y u S4
  | .v (.bl false) => .ok (.v (.bl false)) S3
  | _ => .bad := rfl
@[simp] theorem ev_andV : fAndV f g env S = (f env S).bind fun y S1 => match y with
  | .v (.bl true) => g env S1
  | .v (.bl false) => .ok (.v (.bl false)) S1
  | _ => .bad := by
  unfold fAndV
  cases f env S with
  | ok y S1 => cases y with
    | ref n => rfl
    | v d => cases d with
      | bl b => cases b <;> rfl
      | _ => rfl
  | _ => rfl
@[simp] theorem ev_orV : fOrV f g env S = (f env S).bind fun y S1 => match y with
  | .v (.bl true) => .ok (.v (.bl true)) S1
  | .v (.bl false) => g env S1
  | _ => .bad := by
  unfold fOrV
  cases f env S with
  | ok y S1 => cases y with
    | ref n => rfl
    | v d => cases d with
      | bl b => cases b <;> rfl
      | _ => rfl
  | _ => rfl
@[simp] theorem ev_notV : fNotV f env S = (f env S).bind fun y S1 => match y with
  | .v (.bl b) => .ok (.v (.bl (!b))) S1
  | _ => .bad := by
  unfold fNotV
  cases f env S with
  | ok y S1 => cases y with
    | ref n => rfl
    | v d => cases d with
      | bl b => cases b <;> rfl
      | _ => rfl
  | _ => rfl
@[simp] theorem ev_and : fAnd t u env S = (t env S).bind fun b S1 => if b = true then u env S1 else .ok false S1 := rfl
@[simp] theorem ev_or : fOr t u env S = (t env S).bind fun b S1 => if b = true then .ok true S1 else u env S1 := rfl
@[simp] theorem ev_not : fNot t env S = (t env S).bind fun b S1 => .ok (!b) S1 := rfl
@[simp] theorem ev_if : fIf t f g env S = (t env S).bind fun b S1 => if b = true then f env S1 else g env S1 := rfl
@[simp] theorem ev_tru : fTru f env S = (f env S).bind truY := rfl
@[simp] theorem ev_test : fTest f env S = asB (f env S) := rfl
@[simp] theorem asB_ok {b : Bool} : asB (.ok (.v (.bl b)) S) = .ok b S := rfl
@[simp] theorem tru_bl {b : Bool} : truY (.v (.bl b)) S = .ok b S := rfl
@[simp] theorem ev_its {fi : FE Y} : fItS fi env S = (fi env S).bind itS := rfl
@[simp] theorem ev_it {sem : List Y → Sto → Res (List D)} : fIt sem fs env S = (fs env S).bind sem := rfl
@[simp] theorem ev_frz : fFrz f env S = (f env S).bind frz := rfl
@[simp] theorem frz_v : frz (.v d) S = .ok (.v d) S := rfl
@[simp] theorem its_l {ds : List D} : itS (.v (.lst ds)) S = .ok ds S := rfl
@[simp] theorem its_t {ds : List D} : itS (.v (.tup ds)) S = .ok ds S := rfl
@[simp] theorem ev_part : fPart f env S = (f env S).bind fun y S1 => match y with
  | .v (.int i) => .ok (some i) S1
  | _ => .bad := rfl
@[simp] theorem ev_nop : fNoP env S = .ok none S := rfl
@[simp] theorem ev_sl {m : Bool} {lo hi : FE (Option Int)} : fSl m f lo hi env S = (f env S).bind fun y S1 => (lo env S1).bind fun l S2 => (hi env S2).bind fun u S3 => sSl m y l u S3 := rfl
-- operators
variable {a b : Int} {p q : Bool} {xs ys : List D} {m : Bool}
@[simp] theorem s_add : sAdd m (.v (.int a)) (.v (.int b)) S = .ok (.v (.int (a + b))) S := rfl
@[simp] theorem s_sub : sSub (.v (.int a)) (.v (.int b)) S = .ok (.v (.int (a - b))) S := rfl
@[simp] theorem s_iadd : sIAdd (.v (.int a)) (.v (.int b)) S = .ok (.v (.int (a + b))) S := rfl
@[simp] theorem s_neg : sNeg (.v (.int a)) S = .ok (.v (.int (-a))) S := rfl
@[simp] theorem s_lt : sLt (.v (.int a)) (.v (.int b)) S = .ok (.v (.bl (decide (a < b)))) S := rfl
@[simp] theorem s_le : sLe (.v (.int a)) (.v (.int b)) S = .ok (.v (.bl (decide (a ≤ b)))) S := rfl
@[simp] theorem s_gt : sGt (.v (.int a)) (.v (.int b)) S = .ok (.v (.bl (decide (b < a)))) S := rfl
@[simp] theorem s_ge : sGe (.v (.int a)) (.v (.int b)) S = .ok (.v (.bl (decide (b ≤ a)))) S := rfl
theorem s_mul (h : okMul a b = true) : sMul m (.v (.int a)) (.v (.int b)) S = .ok (.v (.int (a * b))) S := by simp [sMul, h]
theorem s_fdiv (h : okDiv b = true) : sFdiv (.v (.int a)) (.v (.int b)) S = .ok (.v (.int (a.fdiv b))) S := by simp [sFdiv, h]
theorem s_mod (h : b ≠ 0) : sMod (.v (.int a)) (.v (.int b)) S = .ok (.v (.int (a.fmod b))) S := by simp [sMod, h]
theorem s_catT (h : okLen (xs.length + ys.length) = true) : sAdd m (.v (.tup xs)) (.v (.tup ys)) S = .ok (.v (.tup (xs ++ ys))) S := by simp [sAdd, h]
theorem s_catL (h : okLen (xs.length + ys.length) = true) : sAdd m (.v (.lst xs)) (.v (.lst ys)) S = newL m (xs ++ ys) S := by simp [sAdd, getL, h]
theorem okLen_of {n : Nat} (h : n ≤ 16777216) : okLen n = true := decide_eq_true h
theorem okMul_l (h : a.natAbs < 18446744073709551616) : okMul a b = true := by simp [okMul, h]
theorem okMul_r (h : b.natAbs < 18446744073709551616) : okMul a b = true := by simp [okMul, h]
theorem okDiv_of (h0 : b ≠ 0) (h : b.natAbs < 1073741824) : okDiv b = true := by simp [okDiv, h0, h]
theorem s_eq {x y : Y} {d e : D} (h1 : getD x S = some d) (h2 : getD y S = some e) (k1 : d.eqk = true) (k2 : e.eqk = true) : sEq x y S = .ok (.v (.bl (D.eqv d e))) S := by simp [sEq, h1, h2, k1, k2]
theorem s_ne {x y : Y} {d e : D} (h1 : getD x S = some d) (h2 : getD y S = some e) (k1 : d.eqk = true) (k2 : e.eqk = true) : sNe x y S = .ok (.v (.bl (!D.eqv d e))) S := by simp [sNe, h1, h2, k1, k2]
@[simp] theorem eqk_int : (D.int a).eqk = true := by simp [D.eqk, D.pln, D.dep]
@[simp] theorem eqk_bl : (D.bl p).eqk = true := by simp [D.eqk, D.pln, D.dep]
@[simp] theorem s_eqI : sEq (.v (.int a)) (.v (.int b)) S = .ok (.v (.bl (decide (a = b)))) S := by
  rw [s_eq rfl rfl eqk_int eqk_int]
  simp only [D.eqv]
  congr 3
@[simp] theorem s_neI : sNe (.v (.int a)) (.v (.int b)) S = .ok (.v (.bl (!decide (a = b)))) S := by
  rw [s_ne rfl rfl eqk_int eqk_int]
  simp only [D.eqv]
  congr 4
@[simp] theorem s_eqB : sEq (.v (.bl p)) (.v (.bl q)) S = .ok (.v (.bl (p == q))) S := by
  rw [s_eq rfl rfl eqk_bl eqk_bl]; simp [D.eqv]
@[simp] theorem s_neB : sNe (.v (.bl p)) (.v (.bl q)) S = .ok (.v (.bl (!(p == q)))) S := by
  rw [s_ne rfl rfl eqk_bl eqk_bl]; simp [D.eqv]
@[simp] theorem s_lenT : sLen [.v (.tup xs)] S = .ok (.v (.int xs.length)) S := rfl
@[simp] theorem s_lenL : sLen [.v (.lst xs)] S = .ok (.v (.int xs.length)) S := rfl
@[simp] theorem s_tupL : sTuple [.v (.lst xs)] S = .ok (.v (.tup xs)) S := rfl
@[simp] theorem s_tupT : sTuple [.v (.tup xs)] S = .ok (.v (.tup xs)) S := rfl
@[simp] theorem s_listT : sList m [.v (.tup xs)] S = newL m xs S := rfl
@[simp] theorem s_listL : sList m [.v (.lst xs)] S = newL m xs S := rfl
@[simp] theorem s_int : sInt [.v (.int a)] S = .ok (.v (.int a)) S := rfl
@[simp] theorem s_intB : sInt [.v (.bl p)] S = .ok (.v (.int (if p then 1 else 0))) S := by cases p <;> rfl
@[simp] theorem s_abs : sAbs [.v (.int a)] S = .ok (.v (.int (if a < 0 then -a else a))) S := rfl
theorem ev_tup {ys : List Y} {S1 : Sto} {ds : List D} {S2 : Sto} (h1 : fs env S = .ok ys S1) (h2 : thaw ys S1 = some (ds, S2)) (h3 : okLen ds.length = true) : fTup fs env S = .ok (.v (.tup ds)) S2 := by
  simp [fTup, h1, h2, h3]
def vals (ds : List D) : List Y := ds.map Y.v
@[simp] theorem thaw_vals : ∀ ds : List D, thaw (ds.map Y.v) S = some (ds, S)
  | [] => rfl
  | d :: ds => by simp [thaw, thaw_vals ds]
@[simp] theorem ev_tup' : fTup fs env S = (fs env S).bind fun ys S1 => match thaw ys S1 with
  | some (ds, S2) => if okLen ds.length = true then .ok (.v (.tup ds)) S2 else .bad
  | none => .bad := rfl
@[simp] theorem ev_lst : fLst m fs env S = (fs env S).bind fun ys S1 => match thaw ys S1 with
  | some (ds, S2) => if okLen ds.length = true then newL m ds S2 else .bad
  | none => .bad := rfl
@[simp] theorem thaw_nil : thaw [] S = some ([], S) := rfl
@[simp] theorem thaw_v {ys : List Y} : thaw (.v d :: ys) S = match thaw ys S with
  | some (ds, S1) => some (d :: ds, S1)
  | none => none := rfl
@[simp] theorem close_v {n : Nat} {keep : Bool} : close keep n (.v d) S = .ok (.v d) (S.take n) := rfl
-- isinstance
@[simp] theorem s_isi {T ty : String} (h1 : tyD d = some ty) (h2 : tyOk T = true) : sIsi [.v d, .v (.ty T)] S = .ok (.v (.bl (isSub ty T))) S := by
  simp [sIsi, tyY, h1, h2]
theorem isSub_ii : isSub "int" "int" = true := by decide
end
/-- what may be told apart -/
def D.good : D → Bool
  | .non | .bl _ | .int _ | .str _ | .tup _ | .lst _ => true
  | _ => false
end Sg

/-! P2: loops, the cup, equality by kind -/
namespace Sg
open PySem PySem.Spec PyProof.Rows L2
section
variable {env : Ev} {S : Sto} {m : Bool} {vs : List Nat} {fi : FE (List D)} {t : Tg} {ft : FE Bool} {fe : FE Y}
@[simp] theorem ev_yes : fYes env S = .ok true S := rfl
theorem lcD_pure {α : Type} (c : α → D) (p : α → Bool) (g : α → D) : ∀ (l : List α) (acc : List D), (∀ x ∈ l, ∃ env1, t.asg (c x) env = some env1 ∧ ft env1 S = .ok (p x) S ∧ (p x = true → fe env1 S = .ok (.v (g x)) S)) → acc.length + l.length ≤ 16777216 →
    lcD t ft fe env (l.map c) acc S = .ok (acc ++ (l.filter p).map g) S
  | [], acc, _, _ => by simp [lcD]
  | x :: l, acc, h, hl => by
    obtain ⟨env1, e1, e2, e3⟩ := h x List.mem_cons_self
    have ih := fun acc' => lcD_pure c p g l acc' (fun y hy => h y (List.mem_cons_of_mem _ hy))
    rw [List.length_cons] at hl
    simp only [List.map_cons, lcD, e1, e2, Res.bindX]
    cases hp : p x with
    | false => rw [if_neg Bool.false_ne_true, ih acc (by omega), List.filter_cons_of_neg (by simp [hp])]
    | true =>
      rw [if_pos rfl, e3 hp]
      simp only [Res.bindX, thaw1_v]
      rw [if_pos (okLen_of (by omega)), ih _ (by rw [List.length_append, List.length_singleton]; omega), List.filter_cons_of_pos (by simp [hp])]
      simp
theorem lc_map {α : Type} (l : List α) (c : α → D) (p : α → Bool) (g : α → D) {ds : List D} {S0 : Sto} (hi : fi env S0 = .ok ds S) (hd : ds = l.map c) (hl : l.length ≤ 16777216)
    (h : ∀ x ∈ l, ∃ env1, t.asg (c x) (wipeE vs env) = some env1 ∧ ft env1 S = .ok (p x) S ∧ (p x = true → fe env1 S = .ok (.v (g x)) S)) : fLc m vs fi t ft fe env S0 = newL m ((l.filter p).map g) S := by
  subst hd
  unfold fLc
  rw [hi]
  simp only [Res.bind]
  rw [lcD_pure c p g l [] h (by simpa using hl)]
  rfl
theorem lcD_inv (P : List D → Sto → Prop) {n : Nat} : ∀ (ds acc : List D) (S : Sto), (∀ d ∈ ds, ∀ acc S, P acc S → ∃ env1 b S1, t.asg d env = some env1 ∧ ft env1 S = .ok b S1 ∧ (b = false → P acc S1) ∧ (b = true → ∃ d' S2, fe env1 S1 = .ok (.v d') S2 ∧ P (acc ++ [d']) S2)) → acc.length + ds.length ≤ 16777216 → P acc S →
    ∃ out S', lcD t ft fe env ds acc S = .ok out S' ∧ P out S'
  | [], acc, S, _, _, h => ⟨acc, S, by simp [lcD], h⟩
  | d :: ds, acc, S, step, hl, h => by
    obtain ⟨env1, b, S1, e1, e2, e3, e4⟩ := step d List.mem_cons_self acc S h
    rw [List.length_cons] at hl
    simp only [lcD, e1, e2, Res.bindX]
    cases b with
    | false =>
      rw [if_neg Bool.false_ne_true]
      exact lcD_inv P (n := n) ds acc S1 (fun x hx => step x (List.mem_cons_of_mem _ hx)) (by omega) (e3 rfl)
    | true =>
      obtain ⟨d', S2, e5, e6⟩ := e4 rfl
      rw [if_pos rfl, e5]
      simp only [Res.bindX, thaw1_v]
      rw [if_pos (okLen_of (by omega))]
      exact lcD_inv P (n := n) ds _ S2 (fun x hx => step x (List.mem_cons_of_mem _ hx)) (by rw [List.length_append, List.length_singleton]; omega) e6
theorem lc_inv (P : List D → Sto → Prop) {ds : List D} {S0 : Sto} (hi : fi env S0 = .ok ds S) (hl : ds.length ≤ 16777216) (h0 : P [] S)
    (step : ∀ d ∈ ds, ∀ acc S, P acc S → ∃ env1 b S1, t.asg d (wipeE vs env) = some env1 ∧ ft env1 S = .ok b S1 ∧ (b = false → P acc S1) ∧ (b = true → ∃ d' S2, fe env1 S1 = .ok (.v d') S2 ∧ P (acc ++ [d']) S2)) :
    ∃ out S', fLc false vs fi t ft fe env S0 = .ok (.v (.lst out)) S' ∧ P out S' := by
  obtain ⟨out, S', e, p⟩ := lcD_inv (n := 0) P ds [] S step (by simpa using hl) h0
  refine ⟨out, S', ?_, p⟩
  unfold fLc
  rw [hi]
  simp only [Res.bind, e, Res.bindX, newL_f]
end
theorem lcD_idx {env : Ev} {t : Tg} {ft : FE Bool} {fe : FE Y} (P : Nat → List D → Sto → Prop) : ∀ (ds acc : List D) (S : Sto) (i : Nat), (∀ (j : Nat) (d : D) (acc : List D) (S : Sto), ds[j]? = some d → P (i + j) acc S → ∃ env1 b S1, t.asg d env = some env1 ∧ ft env1 S = .ok b S1 ∧ (b = false → P (i + j + 1) acc S1) ∧ (b = true → ∃ d' S2, fe env1 S1 = .ok (.v d') S2 ∧ P (i + j + 1) (acc ++ [d']) S2)) → acc.length + ds.length ≤ 16777216 → P i acc S →
    ∃ out S', lcD t ft fe env ds acc S = .ok out S' ∧ P (i + ds.length) out S'
  | [], acc, S, i, _, _, h => ⟨acc, S, by simp [lcD], h⟩
  | d :: ds, acc, S, i, step, hl, h => by
    obtain ⟨env1, b, S1, e1, e2, e3, e4⟩ := step 0 d acc S rfl h
    rw [List.length_cons] at hl
    have next : ∀ (acc : List D) (S : Sto), acc.length + ds.length ≤ 16777216 → P (i + 1) acc S → ∃ out S', lcD t ft fe env ds acc S = .ok out S' ∧ P (i + (ds.length + 1)) out S' := fun acc S hl hP => by
      obtain ⟨out, S', e, p⟩ := lcD_idx P ds acc S (i + 1) (fun j d' acc S hj hI => by
        have := step (j + 1) d' acc S (by simpa using hj) (by rw [show i + (j + 1) = i + 1 + j by omega]; exact hI)
        rw [show i + (j + 1) + 1 = i + 1 + j + 1 by omega] at this
        exact this) hl hP
      exact ⟨out, S', e, by rw [show i + (ds.length + 1) = i + 1 + ds.length by omega]; exact p⟩
    simp only [lcD, e1, e2, Res.bindX, List.length_cons]
    cases b with
    | false =>
      rw [if_neg Bool.false_ne_true]
      exact next acc S1 (by omega) (e3 rfl)
    | true =>
      obtain ⟨d', S2, e5, e6⟩ := e4 rfl
      rw [if_pos rfl, e5]
      simp only [Res.bindX, thaw1_v]
      rw [if_pos (okLen_of (by omega))]
      exact next _ S2 (by rw [List.length_append, List.length_singleton]; omega) e6
theorem lc_idx {env : Ev} {S : Sto} {vs : List Nat} {fi : FE (List D)} {t : Tg} {ft : FE Bool} {fe : FE Y} (P : Nat → List D → Sto → Prop) {ds : List D} {S0 : Sto} (hi : fi env S0 = .ok ds S) (hl : ds.length ≤ 16777216) (h0 : P 0 [] S)
    (step : ∀ (j : Nat) (d : D) (acc : List D) (S : Sto), ds[j]? = some d → P j acc S → ∃ env1 b S1, t.asg d (wipeE vs env) = some env1 ∧ ft env1 S = .ok b S1 ∧ (b = false → P (j + 1) acc S1) ∧ (b = true → ∃ d' S2, fe env1 S1 = .ok (.v d') S2 ∧ P (j + 1) (acc ++ [d']) S2)) :
    ∃ out S', fLc false vs fi t ft fe env S0 = .ok (.v (.lst out)) S' ∧ P ds.length out S' := by
  obtain ⟨out, S', e, p⟩ := lcD_idx P ds [] S 0 (fun j d acc S hj hP => by rw [Nat.zero_add] at hP ⊢; exact step j d acc S hj hP) (by simpa using hl) h0
  rw [Nat.zero_add] at p
  refine ⟨out, S', ?_, p⟩
  unfold fLc
  rw [hi]
  simp only [Res.bind, e, Res.bindX, newL_f]
theorem forD_inv {t : Tg} {F : FS} (I : Nat → Ev → Sto → Prop) (n : Nat) : ∀ (ds : List D) (i : Nat) (env : Ev) (S : Sto), (∀ j d env S, ds[j]? = some d → I (i + j) env S → ∃ env1, t.asg d env = some env1 ∧ ∃ env2 S2, F env1 S = .nx env2 S2 ∧ I (i + j + 1) env2 S2) → I i env S →
    ∃ env' S', forD t F ds env S = .nx env' S' ∧ I (i + ds.length) env' S'
  | [], i, env, S, _, h => ⟨env, S, rfl, h⟩
  | d :: ds, i, env, S, step, h => by
    obtain ⟨env1, e1, env2, S2, e2, h2⟩ := step 0 d env S rfl h
    obtain ⟨env', S', e, h3⟩ := forD_inv I n ds (i + 1) env2 S2 (fun j d' env S hj hI => by
      have := step (j + 1) d' env S (by simpa using hj) (by rw [show i + (j + 1) = i + 1 + j by omega]; exact hI)
      obtain ⟨a1, a2, a3, a4, a5, a6⟩ := this
      exact ⟨a1, a2, a3, a4, a5, by rw [show i + 1 + j + 1 = i + (j + 1) + 1 by omega]; exact a6⟩) h2
    refine ⟨env', S', ?_, by rw [List.length_cons, show i + (ds.length + 1) = i + 1 + ds.length by omega]; exact h3⟩
    simp only [forD, e1, e2]
    exact e
/-- where the invariant knows of no turns -/
theorem forD_any {t : Tg} {F : FS} (I : Ev → Sto → Prop) {ds : List D} {env : Ev} {S : Sto} (h0 : I env S) (step : ∀ d ∈ ds, ∀ env S, I env S → ∃ env1, t.asg d env = some env1 ∧ ∃ env2 S2, F env1 S = .nx env2 S2 ∧ I env2 S2) :
    ∃ env' S', forD t F ds env S = .nx env' S' ∧ I env' S' := by
  obtain ⟨env', S', e, h⟩ := forD_inv (F := F) (fun _ => I) 0 ds 0 env S (fun j d env S hj hI => step d (List.mem_of_getElem? hj) env S hI) h0
  exact ⟨env', S', e, h⟩
theorem rngD_mem {lo : Int} {n : Nat} {d : D} (h : d ∈ rngD lo n) : ∃ i : Nat, i < n ∧ d = .int (lo + i) := by
  unfold rngD at h
  obtain ⟨i, hi, rfl⟩ := List.mem_map.mp h
  exact ⟨i, List.mem_range.mp hi, rfl⟩
section
variable {S : Sto} {a b c : Int} {m : Bool}
theorem s_rng1 (h : okR a = true) : sRng1 [.v (.int a)] S = .ok (rngD 0 a.toNat) S := by simp [sRng1, h]
theorem s_rng2 (h : okR a = true) (h' : okR b = true) : sRng2 [.v (.int a), .v (.int b)] S = .ok (rngD a (b - a).toNat) S := by simp [sRng2, h, h']
theorem s_rng3 (h : okR a = true) (h' : okR b = true) : sRng3 [.v (.int a), .v (.int b), .v (.int (-1))] S = .ok (rngC a (-1) (a - b).toNat) S := by simp [sRng3, h, h']
theorem okR_of (h : -1000000000 ≤ a) (h' : a ≤ 1000000000) : okR a = true := decide_eq_true (by omega)
theorem s_ix {y : Y} {ds : List D} {d : D} {i : Int} (hy : ∀ z, y ≠ .v (.str z)) (h : getS y S = some ds) (h2 : atI ds i = some d) : sIx y (.v (.int i)) S = .ok (.v d) S := by
  cases y with
  | ref n => simp [sIx, h, h2]
  | v e => cases e with
    | str z => exact absurd rfl (hy z)
    | _ => simp [sIx, h, h2]
theorem s_ixT {ds : List D} {d : D} {i : Int} (h2 : atI ds i = some d) : sIx (.v (.tup ds)) (.v (.int i)) S = .ok (.v d) S := s_ix (fun _ h => by cases h) rfl h2
theorem s_ixL {ds : List D} {d : D} {i : Int} (h2 : atI ds i = some d) : sIx (.v (.lst ds)) (.v (.int i)) S = .ok (.v d) S := s_ix (fun _ h => by cases h) rfl h2
end
/-! ### the cup -/
def CupOk (S : Sto) : Prop := ∃ a b : Int, S = [.lst [.int a, .int b]] ∧ 0 ≤ a ∧ 0 ≤ b ∧ b < 4294967296
section
variable {a b i : Int}
@[simp] theorem cup_ix0 : sIx (.ref 0) (.v (.int 0)) [.lst [.int a, .int b]] = .ok (.v (.int a)) [.lst [.int a, .int b]] := s_ix (fun _ h => by cases h) rfl rfl
@[simp] theorem cup_ix1 : sIx (.ref 0) (.v (.int 1)) [.lst [.int a, .int b]] = .ok (.v (.int b)) [.lst [.int a, .int b]] := s_ix (fun _ h => by cases h) rfl rfl
end
def bRoll (k1 k2 p1 k3 p2 k4 : Int) : FS :=
  (fSeq (fIfS (fTest (fBin sGt (fBin sIx (fVar 0) (fC (.int 0))) (fC (.int 0)))) (fSeq (fSet 2 (fBin sMod (fCall sInt (fCons (fBin sIx (fVar 0) (fC (.int 0))) fNil)) (fVar 1)))
  (fSeq (fSub (fVar 0) (fC (.int 0)) (fBin sFdiv (fBin sIx (fVar 0) (fC (.int 0))) (fVar 1)))
  (fRet (fVar 2)))) fNx)
  (fSeq (fSub (fVar 0) (fC (.int 1)) (fBin sMod (fCall sInt (fCons (fBin (sAdd false) (fBin (sMul false) (fBin sIx (fVar 0) (fC (.int 1))) (fC (.int k1))) (fC (.int k2))) fNil)) (fC (.int p1))))
  (fSeq (fSet 3 (fBin sMod (fCall sInt (fCons (fBin (sMul false) (fBin sIx (fVar 0) (fC (.int 1))) (fBin (sAdd false) (fBin sIx (fVar 0) (fC (.int 1))) (fC (.int k3)))) fNil)) (fC (.int p2))))
  (fRet (fBin sMod (fCall sInt (fCons (fBin sFdiv (fVar 3) (fC (.int k4))) fNil)) (fVar 1))))))
theorem fmod_range {x y : Int} (h : 0 < y) : 0 ≤ x.fmod y ∧ x.fmod y < y := ⟨Int.fmod_nonneg_of_pos _ h, Int.fmod_lt_of_pos _ h⟩
theorem fdiv_nonneg' {x y : Int} (h : 0 ≤ x) (h' : 0 < y) : 0 ≤ x.fdiv y := by
  rw [Int.fdiv_eq_ediv_of_nonneg x (by omega)]
  exact Int.ediv_nonneg h (by omega)
theorem sub_cup0 {env : Ev} {a b v : Int} {S0 : Sto} {f fo fi : FE Y} (h1 : f env S0 = .ok (.v (.int v)) [.lst [.int a, .int b]]) (h2 : fo env [.lst [.int a, .int b]] = .ok (.ref 0) [.lst [.int a, .int b]]) (h3 : fi env [.lst [.int a, .int b]] = .ok (.v (.int 0)) [.lst [.int a, .int b]]) : fSub fo fi f env S0 = .nx env [.lst [.int v, .int b]] := by
  simp [fSub, h1, h2, h3, stL, ixN]
theorem sub_cup1 {env : Ev} {a b v : Int} {S0 : Sto} {f fo fi : FE Y} (h1 : f env S0 = .ok (.v (.int v)) [.lst [.int a, .int b]]) (h2 : fo env [.lst [.int a, .int b]] = .ok (.ref 0) [.lst [.int a, .int b]]) (h3 : fi env [.lst [.int a, .int b]] = .ok (.v (.int 1)) [.lst [.int a, .int b]]) : fSub fo fi f env S0 = .nx env [.lst [.int a, .int v]] := by
  simp [fSub, h1, h2, h3, stL, ixN]
theorem roll_ok {k1 k2 p1 k3 p2 k4 many : Int} (hp1 : 0 < p1 ∧ p1 ≤ 4294967296) (hp2 : 0 < p2) (hk1 : k1.natAbs < 18446744073709551616) (hk4 : okDiv k4 = true) (hm : 0 < many ∧ many < 1000000000) {S : Sto} (hS : CupOk S) :
    ∃ (r : Int) (S' : Sto), wrap false 4 (bRoll k1 k2 p1 k3 p2 k4) [.ref 0, .v (.int many)] S = .ok (.v (.int r)) S' ∧ CupOk S' ∧ 0 ≤ r ∧ r < many := by
  obtain ⟨a, b, rfl, ha, hb, hb2⟩ := hS
  have hd : okDiv many = true := okDiv_of (by omega) (by omega)
  have hm0 : many ≠ 0 := by omega
  have hp0 : p1 ≠ 0 := by omega
  have hp20 : p2 ≠ 0 := by omega
  by_cases h0 : 0 < a
  · have g := fmod_range (x := a) hm.1
    refine ⟨a.fmod many, [.lst [.int (a.fdiv many), .int b]], ?_, ⟨_, _, rfl, fdiv_nonneg' ha hm.1, hb, hb2⟩, g.1, g.2⟩
    simp only [wrap, bRoll, startE, ev_seq, ev_ifs, ev_test]
    simp [h0, s_mod hm0]
    rw [sub_cup0 (a := a) (b := b) (v := a.fdiv many) (by simp [s_fdiv hd]) (by simp) (by simp)]
    simp
  · have g := fmod_range (x := b * k1 + k2) hp1.1
    have g2 := fmod_range (x := ((((b * k1 + k2).fmod p1) * ((b * k1 + k2).fmod p1 + k3)).fmod p2).fdiv k4) hm.1
    refine ⟨_, [.lst [.int a, .int ((b * k1 + k2).fmod p1)]], ?_, ⟨_, _, rfl, ha, g.1, by omega⟩, g2.1, g2.2⟩
    simp only [wrap, bRoll, startE, ev_seq, ev_ifs, ev_test]
    simp [h0]
    rw [sub_cup1 (a := a) (b := b) (v := (b * k1 + k2).fmod p1) (by simp [s_mul (okMul_r hk1), s_mod hp0]) (by simp) (by simp)]
    simp [s_mul (okMul_l (a := (b * k1 + k2).fmod p1) (b := (b * k1 + k2).fmod p1 + k3) (by omega)), s_mod hp20, s_fdiv hk4, s_mod hm0]
def bCup (d k1 k2 p c : Int) : FS :=
  (fSeq (fSet 1 (fCall sAbs (fCons (fBin sIx (fBin (sAdd false) (fCall (sList false) (fCons (fVar 0) fNil)) (fLst false (fCons (fC (.int 0)) fNil))) (fC (.int 0))) fNil)))
  (fRet (fLst true (fCons (fIf (fTest (fBin sGe (fVar 1) (fBin sPow (fC (.int 10)) (fC (.int 18))))) (fBin sFdiv (fVar 1) (fC (.int d))) (fC (.int 0))) (fCons (fBin (sAdd false) (fBin sMod (fCall sInt (fCons (fBin (sAdd false) (fBin (sMul false) (fVar 1) (fC (.int k1))) (fC (.int k2))) fNil)) (fC (.int p))) (fC (.int c))) fNil)))))
theorem s_pow {a b : Int} {S : Sto} (h : CPow a b) : sPow (.v (.int a)) (.v (.int b)) S = .ok (.v (.int (a ^ b.toNat))) S := by
  simp only [sPow]
  rw [if_pos ⟨h.1, h.2.1, by have := h.2.2; omega⟩]
theorem cup_ok {d k1 k2 p c : Int} (hd : okDiv d = true ∧ 0 < d) (hk : k1.natAbs < 18446744073709551616) (hp : 0 < p ∧ p + c ≤ 4294967296) (hc : 0 ≤ c) (ns : List Int) (hl : ns.length ≤ 63) : ∃ S', wrap true 2 (bCup d k1 k2 p c) [.v (.scr (ns.map D.int))] [] = .ok (.ref 0) S' ∧ CupOk S' := by
  have hp0 : p ≠ 0 := by omega
  obtain ⟨x, hx⟩ : ∃ x : Int, L2.atI (ns.map D.int ++ [D.int 0]) 0 = some (.int x) := by
    cases ns with
    | nil => exact ⟨0, rfl⟩
    | cons n r =>
      refine ⟨n, ?_⟩
      have : (0 : Int) = ((0 : Nat) : Int) := rfl
      rw [this]
      exact L2.atI_nat rfl
  generalize hy : (if x < 0 then -x else x) = y
  have hy0 : 0 ≤ y := by subst hy; split <;> omega
  have g := fmod_range (x := y * k1 + k2) hp.1
  have hpw : CPow 10 18 := ⟨by decide, by decide, by decide⟩
  have key : ∀ z : Int, 0 ≤ z → CupOk [.lst [.int z, .int ((y * k1 + k2).fmod p + c)]] := fun z hz => ⟨_, _, rfl, hz, by omega, by omega⟩
  have e1 : fSet 1 (fCall sAbs (fCons (fBin sIx (fBin (sAdd false) (fCall (sList false) (fCons (fVar 0) fNil)) (fLst false (fCons (fC (.int 0)) fNil))) (fC (.int 0))) fNil)) [some (.v (.scr (ns.map D.int))), none] [] = .nx [some (.v (.scr (ns.map D.int))), some (.v (.int y))] [] := by
    simp [sList, s_catL (m := false) (S := []) (xs := ns.map D.int) (ys := [D.int 0]) (okLen_of (by simp; omega)), s_ixL hx, hy, okLen]
  have e2 : ∀ z : Int, (fIf (fTest (fBin sGe (fVar 1) (fBin sPow (fC (.int 10)) (fC (.int 18))))) (fBin sFdiv (fVar 1) (fC (.int d))) (fC (.int 0))) [some (.v (.scr (ns.map D.int))), some (.v (.int y))] [] = .ok (.v (.int (if 10 ^ 18 ≤ y then y.fdiv d else 0))) [] := fun z => by
    by_cases hb : (10 : Int) ^ 18 ≤ y
    · simp [s_pow hpw, hb, s_fdiv hd.1]
      have hb' : (1000000000000000000 : Int) ≤ y := by simpa using hb
      simp [hb', s_fdiv hd.1]
    · simp [s_pow hpw, hb]
      have hb' : ¬ (1000000000000000000 : Int) ≤ y := by simpa using hb
      simp [hb']
  refine ⟨[.lst [.int (if 10 ^ 18 ≤ y then y.fdiv d else 0), .int ((y * k1 + k2).fmod p + c)]], ?_, key _ (by split; exact fdiv_nonneg' hy0 hd.2; omega)⟩
  simp only [wrap, bCup, startE, ev_seq, List.map_cons, List.map_nil, List.length_cons, List.length_nil]
  rw [show ([some (Y.v (.scr (ns.map D.int)))] ++ List.replicate (2 - (0 + 1)) none) = [some (Y.v (.scr (ns.map D.int))), none] from rfl, e1]
  simp only [SR.seq, ev_ret, ev_lst, ev_cons, e2 0]
  simp [s_mul (okMul_r hk), s_mod hp0, okLen, close]
end Sg

/-! P3: the same by kind -/
namespace Sg
open PySem PySem.Spec PyProof.Rows L2
theorem okLen_0 : okLen 0 = true := rfl
mutual
def D.sg : D → Bool
  | .non | .bl _ | .int _ => true
  | .str x => PyData.strOk x
  | .tup ds => okLen ds.length && D.sgL ds
  | .lst ds => okLen ds.length && D.sgL ds
  | _ => false
def D.sgL : List D → Bool
  | [] => true
  | d :: ds => D.sg d && D.sgL ds
end
theorem sgL_mem : ∀ {ds : List D} {d : D}, D.sgL ds = true → d ∈ ds → D.sg d = true
  | [], _, _, h => absurd h List.not_mem_nil
  | e :: ds, d, g, h => by
    have g' : D.sg e = true ∧ D.sgL ds = true := by simpa [D.sgL] using g
    rcases List.mem_cons.mp h with rfl | h
    · exact g'.1
    · exact sgL_mem g'.2 h
theorem sgL_of : ∀ {ds : List D}, (∀ d ∈ ds, D.sg d = true) → D.sgL ds = true
  | [], _ => by simp [D.sgL]
  | e :: ds, h => by simp [D.sgL, h e List.mem_cons_self, sgL_of fun d hd => h d (List.mem_cons_of_mem _ hd)]
theorem depL_mem : ∀ {ds : List D} {d : D}, d ∈ ds → D.dep d ≤ D.depL ds
  | [], _, h => absurd h List.not_mem_nil
  | e :: ds, d, h => by
    simp only [D.depL]
    rcases List.mem_cons.mp h with rfl | h
    · omega
    · have := depL_mem h; omega
theorem depL_le : ∀ {ds : List D} {n : Nat}, (∀ d ∈ ds, D.dep d ≤ n) → D.depL ds ≤ n
  | [], _, _ => by simp [D.depL]
  | e :: ds, n, h => by
    simp only [D.depL]
    have := h e List.mem_cons_self
    have := depL_le (n := n) fun d hd => h d (List.mem_cons_of_mem _ hd)
    omega
theorem plnL_of : ∀ {ds : List D}, (∀ d ∈ ds, D.pln d = true) → D.plnL ds = true
  | [], _ => by simp [D.plnL]
  | e :: ds, h => by simp [D.plnL, h e List.mem_cons_self, plnL_of fun d hd => h d (List.mem_cons_of_mem _ hd)]
theorem ints_pln (ns : List Int) : D.plnL (ns.map D.int) = true := plnL_of fun d hd => by
  obtain ⟨i, _, rfl⟩ := List.mem_map.mp hd
  simp [D.pln]
theorem ints_dep (ns : List Int) : D.depL (ns.map D.int) ≤ 0 := depL_le fun d hd => by
  obtain ⟨i, _, rfl⟩ := List.mem_map.mp hd
  simp [D.dep]
@[simp] theorem eqk_nilL : (D.lst []).eqk = true := by decide
@[simp] theorem eqk_intsL (ns : List Int) : (D.lst (ns.map D.int)).eqk = true := by
  have := ints_dep ns
  simp [D.eqk, D.pln, D.dep, ints_pln]; omega
@[simp] theorem eqk_intsT (ns : List Int) : (D.tup (ns.map D.int)).eqk = true := by
  have := ints_dep ns
  simp [D.eqk, D.pln, D.dep, ints_pln]; omega
theorem eqvL_ints : ∀ a b : List Int, D.eqvL (a.map D.int) (b.map D.int) = decide (a = b)
  | [], [] => by simp [D.eqvL]
  | [], _ :: _ => by simp [D.eqvL]
  | _ :: _, [] => by simp [D.eqvL]
  | x :: a, y :: b => by
    simp only [List.map_cons, D.eqvL, D.eqv, eqvL_ints a b]
    by_cases h1 : x = y <;> by_cases h2 : a = b <;> simp [h1, h2]
theorem eqv_intsT (a b : List Int) : D.eqv (.tup (a.map D.int)) (.tup (b.map D.int)) = decide (a = b) := by simp [D.eqv, eqvL_ints]
theorem eqv_intsL (a b : List Int) : D.eqv (.lst (a.map D.int)) (.lst (b.map D.int)) = decide (a = b) := by simp [D.eqv, eqvL_ints]
def bSameK (kf : FE Y) : FS :=
  (fSeq (fIfS (fOr (fTru (fCall sIsi (fCons (fVar 1) (fCons (fC (.ty "tuple")) fNil)))) (fTru (fCall sIsi (fCons (fVar 1) (fCons (fC (.ty "list")) fNil))))) (fSeq (fIfS (fOr (fTest (fBin sNe (fCall sIsi (fCons (fVar 0) (fCons (fC (.ty "tuple")) fNil))) (fCall sIsi (fCons (fVar 1) (fCons (fC (.ty "tuple")) fNil))))) (fOr (fTest (fBin sNe (fCall sIsi (fCons (fVar 0) (fCons (fC (.ty "list")) fNil))) (fCall sIsi (fCons (fVar 1) (fCons (fC (.ty "list")) fNil))))) (fTest (fBin sNe (fCall sLen (fCons (fVar 0) fNil)) (fCall sLen (fCons (fVar 1) fNil)))))) (fRet (fC (.bl false))) fNx)
  (fRet kf)) fNx)
  (fSeq (fIfS (fTest (fBin (sIs false) (fVar 1) (fC .non))) (fRet (fBin (sIs false) (fVar 0) (fC .non))) fNx)
  (fSeq (fIfS (fTru (fCall sIsi (fCons (fVar 1) (fCons (fC (.ty "bool")) fNil)))) (fRet (fIf (fTru (fVar 1)) (fBin (sIs false) (fVar 0) (fC (.bl true))) (fBin (sIs false) (fVar 0) (fC (.bl false))))) fNx)
  (fSeq (fIfS (fTru (fCall sIsi (fCons (fVar 1) (fCons (fC (.ty "int")) fNil)))) (fRet (fAndV (fCall sIsi (fCons (fVar 0) (fCons (fC (.ty "int")) fNil))) (fAndV (fNotV (fCall sIsi (fCons (fVar 0) (fCons (fC (.ty "bool")) fNil)))) (fBin sEq (fCall sInt (fCons (fVar 0) fNil)) (fVar 1))))) fNx)
  (fRet (fAndV (fCall sIsi (fCons (fVar 0) (fCons (fC (.ty "str")) fNil))) (fBin sEq (fCall sStr (fCons (fVar 0) fNil)) (fVar 1))))))))
def bSame (r : List Y → Sto → Res Y) : FS := bSameK (fBin sEq (fLc false [2] (fIt sRng1 (fCons (fCall sLen (fCons (fVar 1) fNil)) fNil)) (.nm 2) (fNot (fTru (fOwn 2 (r) (fCons (fBin sIx (fVar 0) (fVar 2)) (fCons (fBin sIx (fVar 1) (fVar 2)) fNil))))) (fC (.int 1))) (fLst false fNil))
def mSame : Nat → List Y → Sto → Res Y
  | 0 => fun _ _ => .bad
  | n + 1 => wrap false 3 (bSame (mSame n))
theorem rngD_range (n : Nat) : rngD 0 n = (List.range n).map fun (i : Nat) => D.int (0 + i) := rfl
theorem same_seq {r : List Y → Sto → Res Y} {S : Sto} {ds : List D} {y : Y} (hy : getS y S = some ds) (hy0 : ∀ z, y ≠ .v (.str z)) (hl : okLen ds.length = true) (h : ∀ d ∈ ds, r [.v d, .v d] S = .ok (.v (.bl true)) S) {env : Ev} (e0 : env[0]? = some (some y)) (e1 : env[1]? = some (some y)) (hlen : sLen [y] S = .ok (.v (.int ds.length)) S) (h3 : env.length = 3) :
    (fBin sEq (fLc false [2] (fIt sRng1 (fCons (fCall sLen (fCons (fVar 1) fNil)) fNil)) (.nm 2) (fNot (fTru (fOwn 2 r (fCons (fBin sIx (fVar 0) (fVar 2)) (fCons (fBin sIx (fVar 1) (fVar 2)) fNil))))) (fC (.int 1))) (fLst false fNil)) env S = .ok (.v (.bl true)) S := by
  have hl' : ds.length ≤ 16777216 := of_decide_eq_true hl
  have lc : fLc false [2] (fIt sRng1 (fCons (fCall sLen (fCons (fVar 1) fNil)) fNil)) (.nm 2) (fNot (fTru (fOwn 2 r (fCons (fBin sIx (fVar 0) (fVar 2)) (fCons (fBin sIx (fVar 1) (fVar 2)) fNil))))) (fC (.int 1)) env S = newL false (((List.range ds.length).filter fun _ => false).map fun _ => D.int 1) S := by
    refine lc_map (List.range ds.length) (fun (i : Nat) => D.int (0 + i)) (fun _ => false) (fun _ => D.int 1) (ds := rngD 0 ds.length) ?_ rfl (by simpa using hl') fun i hi => ?_
    · simp [e1, hlen, s_rng1 (okR_of (a := (ds.length : Int)) (by omega) (by omega))]
    · have hi' : i < ds.length := List.mem_range.mp hi
      refine ⟨_, rfl, ?_, fun z => by cases z⟩
      have g0 : ((wipeE [2] env).set 2 (some (.v (.int (0 + (i : Int))))))[0]? = some (some y) := by
        simp [wipeE, e0]
      have g1 : ((wipeE [2] env).set 2 (some (.v (.int (0 + (i : Int))))))[1]? = some (some y) := by
        simp [wipeE, e1]
      have g2 : ((wipeE [2] env).set 2 (some (.v (.int (0 + (i : Int))))))[2]? = some (some (.v (.int (0 + (i : Int))))) := by
        rw [List.getElem?_set_self]; simp [wipeE, h3]
      have ha : L2.atI ds (0 + (i : Int)) = some ds[i] := by rw [Int.zero_add]; exact L2.atI_nat (List.getElem?_eq_getElem hi')
      simp only [ev_not, ev_tru, ev_own, ev_cons, ev_bin, ev_var g0, ev_var g1, ev_var g2, ev_nil, Res.bind, s_ix hy0 hy ha]
      simp [h _ (List.getElem_mem hi')]
  rw [ev_bin, lc, show ((List.range ds.length).filter fun _ => false) = [] from List.filter_eq_nil_iff.mpr (by simp)]
  simp [okLen_0]
  rw [s_eq rfl rfl eqk_nilL eqk_nilL]
  rfl
theorem same_K {S : Sto} {ds : List D} {kf : FE Y} {d : D} (hd : d = .tup ds ∨ d = .lst ds) (key : kf [some (.v d), some (.v d), none] S = .ok (.v (.bl true)) S) : wrap false 3 (bSameK kf) [.v d, .v d] S = .ok (.v (.bl true)) S := by
  rcases hd with rfl | rfl <;> simp [wrap, bSameK, startE, sIsi, tyY, tyD, tyOk, isSub, key]
theorem same_refl {S : Sto} : ∀ (n : Nat) (d : D), D.sg d = true → D.dep d < n → mSame n [.v d, .v d] S = .ok (.v (.bl true)) S
  | 0, _, _, h => absurd h (Nat.not_lt_zero _)
  | n + 1, d, hg, hd => by
    have ih := same_refl (S := S) n
    show wrap false 3 (bSame (mSame n)) [.v d, .v d] S = _
    have close' : ∀ b : Bool, close false S.length (.v (.bl b)) S = .ok (.v (.bl b)) S := fun b => by simp
    cases d with
    | non => simp [wrap, bSame, bSameK, startE, sIsi, tyY, tyD, tyOk, isSub, sIs]
    | bl b => cases b <;> simp [wrap, bSame, bSameK, startE, sIsi, tyY, tyD, tyOk, isSub, sIs]
    | int i => simp [wrap, bSame, bSameK, startE, sIsi, tyY, tyD, tyOk, isSub, sIs]
    | str x =>
      have hx : PyData.strOk x = true := by simpa [D.sg] using hg
      have hk : (D.str x).eqk = true := by simp [D.eqk, D.pln, D.dep, hx]
      simp [wrap, bSame, bSameK, startE, sIsi, tyY, tyD, tyOk, isSub, sIs, sStr, s_eq (S := S) (x := .v (.str x)) (y := .v (.str x)) rfl rfl hk hk, D.eqv]
    | tup ds =>
      have hg' : okLen ds.length = true ∧ D.sgL ds = true := by simpa [D.sg] using hg
      have hd' : D.depL ds < n := by simpa [D.dep] using hd
      have key := same_seq (r := mSame n) (S := S) (y := .v (.tup ds)) rfl (fun _ h => by cases h) hg'.1 (fun d hm => ih d (sgL_mem hg'.2 hm) (by have := depL_mem hm; omega)) (env := [some (.v (.tup ds)), some (.v (.tup ds)), none]) rfl rfl rfl rfl
      exact same_K (.inl rfl) key
    | lst ds =>
      have hg' : okLen ds.length = true ∧ D.sgL ds = true := by simpa [D.sg] using hg
      have hd' : D.depL ds < n := by simpa [D.dep] using hd
      have key := same_seq (r := mSame n) (S := S) (y := .v (.lst ds)) rfl (fun _ h => by cases h) hg'.1 (fun d hm => ih d (sgL_mem hg'.2 hm) (by have := depL_mem hm; omega)) (env := [some (.v (.lst ds)), some (.v (.lst ds)), none]) rfl rfl rfl rfl
      exact same_K (.inr rfl) key
    | _ => simp [D.sg] at hg
end Sg

/-! P4: more of what mirrors compute -/
namespace Sg
open PySem PySem.Spec PyProof.Rows L2
section
variable {env : Ev} {S : Sto} {m : Bool} {vs : List Nat} {fi : FE (List D)} {t : Tg} {ft : FE Bool} {fe : FE Y}
theorem lc_yes {α : Type} (l : List α) (c : α → D) (g : α → D) {ds : List D} {S0 : Sto} (hi : fi env S0 = .ok ds S) (hd : ds = l.map c) (hl : l.length ≤ 16777216)
    (h : ∀ x ∈ l, ∃ env1, t.asg (c x) (wipeE vs env) = some env1 ∧ fe env1 S = .ok (.v (g x)) S) : fLc m vs fi t fYes fe env S0 = newL m (l.map g) S := by
  have e := lc_map (m := m) (t := t) (ft := fYes) (fe := fe) l c (fun _ => true) g hi hd hl fun x hx => by
    obtain ⟨env1, e1, e2⟩ := h x hx
    exact ⟨env1, e1, rfl, fun _ => e2⟩
  rw [e]
  congr 2
  exact List.filter_eq_self.mpr fun _ _ => rfl
theorem blsD_mapP {α : Type} (p : α → Bool) : ∀ l : List α, blsD (l.map fun x => D.bl (p x)) = some (l.map p)
  | [] => rfl
  | x :: l => by simp [blsD, blsD_mapP p l]
theorem all_map {α : Type} (p : α → Bool) (l : List α) : sAll [.v (.lst (l.map fun x => D.bl (p x)))] S = .ok (.v (.bl (l.all p))) S := by
  simp only [sAll, getL_v, blsD_mapP p l]
  congr 3
  rw [List.all_map]; rfl
theorem all_lc {α : Type} (l : List α) (c : α → D) (p : α → Bool) {ds : List D} {S0 : Sto} (hi : fi env S0 = .ok ds S) (hd : ds = l.map c) (hl : l.length ≤ 16777216)
    (h : ∀ x ∈ l, ∃ env1, t.asg (c x) (wipeE vs env) = some env1 ∧ fe env1 S = .ok (.v (.bl (p x))) S) : fCall sAll (fCons (fLc false vs fi t fYes fe) fNil) env S0 = .ok (.v (.bl (l.all p))) S := by
  rw [ev_call, ev_cons, lc_yes l c (fun x => D.bl (p x)) hi hd hl h]
  simp only [newL_f, Res.bind, ev_nil]
  exact all_map p l
/-- tuple([..]) -/
theorem tup_lc {α : Type} (l : List α) (c : α → D) (p : α → Bool) (g : α → D) {ds : List D} {S0 : Sto} (hi : fi env S0 = .ok ds S) (hd : ds = l.map c) (hl : l.length ≤ 16777216)
    (h : ∀ x ∈ l, ∃ env1, t.asg (c x) (wipeE vs env) = some env1 ∧ ft env1 S = .ok (p x) S ∧ (p x = true → fe env1 S = .ok (.v (g x)) S)) : fCall sTuple (fCons (fLc false vs fi t ft fe) fNil) env S0 = .ok (.v (.tup ((l.filter p).map g))) S := by
  rw [ev_call, ev_cons, lc_map l c p g hi hd hl h]
  simp
theorem tup_lcy {α : Type} (l : List α) (c : α → D) (g : α → D) {ds : List D} {S0 : Sto} (hi : fi env S0 = .ok ds S) (hd : ds = l.map c) (hl : l.length ≤ 16777216)
    (h : ∀ x ∈ l, ∃ env1, t.asg (c x) (wipeE vs env) = some env1 ∧ fe env1 S = .ok (.v (g x)) S) : fCall sTuple (fCons (fLc false vs fi t fYes fe) fNil) env S0 = .ok (.v (.tup (l.map g))) S := by
  rw [ev_call, ev_cons, lc_yes l c g hi hd hl h]
  simp
end
theorem zipL_zip : ∀ as bs : List D, zipL as bs = (as.zip bs).map fun p => D.tup [p.1, p.2]
  | [], _ => by simp [zipL]
  | _ :: _, [] => by simp [zipL]
  | a :: as, b :: bs => by simp [zipL, zipL_zip as bs]
theorem enumL_zip : ∀ (k : Nat) (ds : List D), enumL k ds = ((List.range ds.length).zip ds).map fun p => D.tup [.int ((k + p.1 : Nat) : Int), p.2]
  | _, [] => by simp [enumL]
  | k, d :: ds => by
    rw [enumL, enumL_zip (k + 1) ds, List.length_cons, List.range_succ_eq_map]
    simp only [List.zip_cons_cons, List.map_cons, Nat.add_zero, List.cons.injEq, true_and]
    rw [List.zip_map_left, List.map_map]
    apply List.map_congr_left
    intro p hp
    simp only [Function.comp, Prod.map, id]
    congr 4
    omega
theorem cut_drop {α : Type} (ds : List α) (k : Nat) : cut ds (some (k : Int)) none = ds.drop k := by
  unfold cut
  rw [HT.sIx_nat, HT.sIx_none]
  by_cases h : k ≤ ds.length
  · rw [Nat.min_eq_left h, List.take_of_length_le (by rw [List.length_drop]; omega)]
  · rw [Nat.min_eq_right (by omega), List.drop_eq_nil_of_le (Nat.le_refl _), List.drop_eq_nil_of_le (by omega)]
    simp
theorem cut_take {α : Type} (ds : List α) (k : Nat) : cut ds none (some (k : Int)) = ds.take k := by
  unfold cut
  rw [HT.sIx_nat, HT.sIx_none, List.drop_zero, Nat.sub_zero]
  by_cases h : k ≤ ds.length
  · rw [Nat.min_eq_left h]
  · rw [Nat.min_eq_right (by omega), List.take_of_length_le (Nat.le_refl _), List.take_of_length_le (by omega)]
theorem s_slT {m : Bool} {ds : List D} {lo hi : Option Int} {S : Sto} : sSl m (.v (.tup ds)) lo hi S = .ok (.v (.tup (cut ds lo hi))) S := rfl
theorem s_slL {m : Bool} {ds : List D} {lo hi : Option Int} {S : Sto} : sSl m (.v (.lst ds)) lo hi S = newL m (cut ds lo hi) S := rfl
/-- plain, of little depth -/
def vg (d : D) : Prop := d.pln = true ∧ d.dep ≤ 20
def tupD (v : D) : List D := match v with
  | .tup ds => ds
  | _ => []
theorem vg_items {ds : List D} (h : vg (.tup ds)) : ∀ d ∈ ds, vg d ∧ d.dep ≤ 19 := fun d hm => by
  have h1 : D.plnL ds = true := by simpa [D.pln] using h.1
  have h2 : D.depL ds + 1 ≤ 20 := by simpa [D.dep] using h.2
  have h3 := depL_mem hm
  have h4 : ∀ {es : List D}, D.plnL es = true → d ∈ es → d.pln = true := fun {es} g m => by
    induction es with
    | nil => exact absurd m List.not_mem_nil
    | cons e es ih =>
      have g' : D.pln e = true ∧ D.plnL es = true := by simpa [D.plnL] using g
      rcases List.mem_cons.mp m with rfl | m
      · exact g'.1
      · exact ih g'.2 m
  exact ⟨⟨h4 h1 hm, by omega⟩, by omega⟩
theorem vg_of {ds : List D} (h : ∀ d ∈ ds, d.pln = true ∧ d.dep ≤ 19) : vg (.tup ds) := ⟨by simp only [D.pln]; exact plnL_of fun d hm => (h d hm).1, by simp only [D.dep]; have := depL_le (n := 19) fun d hm => (h d hm).2; omega⟩
theorem vg_int (i : Int) : vg (.int i) := ⟨by simp [D.pln], by simp [D.dep]⟩
/-! ### step by step -/
def fin (keep : Bool) (n : Nat) : SR → Res Y
  | .nx _ S1 => close keep n (.v .non) S1
  | .rt y S1 => close keep n y S1
  | .exc x _ S1 => .exc x (S1.take n)
  | _ => .bad
section
variable {env env1 : Ev} {S S1 : Sto} {f : FE Y} {fs : FE (List Y)} {F G : FS} {t : FE Bool} {y : Y} {ys : List Y} {i n : Nat} {ds : List D} {fi : FE (List D)} {tg : Tg} {keep : Bool} {d : D}
theorem wrap_fin : wrap keep n F ys S = fin keep S.length (F (startE n ys) S) := by
  unfold wrap
  cases F (startE n ys) S <;> rfl
theorem fin_rt : fin keep n (.rt (.v d) S) = .ok (.v d) (S.take n) := rfl
theorem fin_nx : fin keep n (.nx env S) = .ok (.v .non) (S.take n) := rfl
theorem fin_rtS : fin keep S.length (.rt (.v d) S) = .ok (.v d) S := by rw [fin_rt, List.take_length]
theorem seq_nx (h : F env S = .nx env1 S1) : fSeq F G env S = G env1 S1 := by rw [ev_seq, h]; rfl
theorem seq_rt (h : F env S = .rt y S1) : fSeq F G env S = .rt y S1 := by rw [ev_seq, h]; rfl
theorem ret_ok (h : f env S = .ok y S1) : fRet f env S = .rt y S1 := by rw [ev_ret, h]; rfl
theorem drop_ok (h : f env S = .ok y S1) : fDrop f env S = .nx env S1 := by rw [ev_drop, h]; rfl
theorem set_ok (h : f env S = .ok y S1) : fSet i f env S = .nx (env.set i (some y)) S1 := by rw [ev_set, h]; rfl
theorem ifs_t (h : t env S = .ok true S1) : fIfS t F G env S = F env S1 := by rw [ev_ifs, h]; rfl
theorem ifs_f (h : t env S = .ok false S1) : fIfS t F G env S = G env S1 := by rw [ev_ifs, h]; rfl
theorem for_ok (h : fi env S = .ok ds S1) : fFor tg fi F env S = forD tg F ds env S1 := by rw [ev_for, h]; rfl
theorem asg_ok' (h : f env S = .ok (.v d) S1) (h1 : tg.asg d env = some env1) : fAsg tg f env S = .nx env1 S1 := by
  rw [ev_asg, h]; simp only [Res.bindE, h1]
theorem own_ok {m : List Y → Sto → Res Y} {r : Res Y} (h : fs env S = .ok ys S1) (hn : ys.length = n) (hm : m ys S1 = r) : fOwn n m fs env S = r := by
  rw [ev_own, h]; simp only [Res.bind, hn, if_true, hm]
theorem cons_ok {S2 : Sto} (h : f env S = .ok y S1) (h2 : fs env S1 = .ok ys S2) : fCons f fs env S = .ok (y :: ys) S2 := by
  rw [ev_cons, h]; simp only [Res.bind, h2]
theorem tru_ok {b : Bool} (h : f env S = .ok (.v (.bl b)) S1) : fTru f env S = .ok b S1 := by rw [ev_tru, h]; rfl
theorem not_ok {b : Bool} (h : t env S = .ok b S1) : fNot t env S = .ok (!b) S1 := by rw [ev_not, h]; rfl
theorem test_ok {b : Bool} (h : f env S = .ok (.v (.bl b)) S1) : fTest f env S = .ok b S1 := by rw [ev_test, h]; rfl
theorem bin_ok {g : FE Y} {sem : Y → Y → Sto → Res Y} {z : Y} {S2 : Sto} {r : Res Y} (h : f env S = .ok y S1) (h2 : g env S1 = .ok z S2) (h3 : sem y z S2 = r) : fBin sem f g env S = r := by
  rw [ev_bin, h]; simp only [Res.bind, h2, h3]
theorem call_ok {sem : List Y → Sto → Res Y} {r : Res Y} (h : fs env S = .ok ys S1) (h2 : sem ys S1 = r) : fCall sem fs env S = r := by
  rw [ev_call, h]; simp only [Res.bind, h2]
theorem tup_ok {S2 : Sto} (h : fs env S = .ok ys S1) (h2 : thaw ys S1 = some (ds, S2)) (h3 : ds.length ≤ 16777216) : fTup fs env S = .ok (.v (.tup ds)) S2 := by
  rw [ev_tup', h]; simp only [Res.bind, h2, okLen_of h3, if_true]
theorem lst_ok {S2 : Sto} (h : fs env S = .ok ys S1) (h2 : thaw ys S1 = some (ds, S2)) (h3 : ds.length ≤ 16777216) : fLst false fs env S = .ok (.v (.lst ds)) S2 := by
  rw [ev_lst, h]; simp only [Res.bind, h2, okLen_of h3, if_true, newL_f]
theorem var_ok (h : env[i]? = some (some y)) : fVar i env S = .ok y S := ev_var h
end
end Sg

/-! P5: parts that many laws share -/
namespace Sg
open PySem PySem.Spec PyProof.Rows L2
theorem cut_1 {ds : List D} : cut ds (some 1) none = ds.tail := by rw [← List.drop_one]; exact cut_drop ds 1
theorem vg_tup_ints (ns : List Int) : vg (.tup (ns.map D.int)) := vg_of fun d hd => by
  obtain ⟨i, _, rfl⟩ := List.mem_map.mp hd
  simp [D.pln, D.dep]
def notInt (d : D) : Bool := match d with
  | .int _ => false
  | _ => true
theorem eqk_lst {ds : List D} (h : ∀ d ∈ ds, d.pln = true ∧ d.dep ≤ 19) : (D.lst ds).eqk = true := by
  have h1 : D.plnL ds = true := plnL_of fun d hd => (h d hd).1
  have h2 := depL_le (n := 19) fun d hd => (h d hd).2
  simp [D.eqk, D.pln, D.dep, h1]; omega
theorem eqv_nil {ds : List D} : D.eqv (.lst ds) (.lst []) = ds.isEmpty := by
  cases ds <;> simp [D.eqv, D.eqvL]
theorem mem_int (x : Int) : ∀ ns : List Int, D.mem (.int x) (ns.map D.int) = decide (x ∈ ns)
  | [] => by simp [D.mem]
  | y :: ns => by
    have ih := mem_int x ns
    simp only [D.mem, List.map_cons, List.any_cons] at ih ⊢
    rw [ih]
    simp only [D.eqv]
    by_cases h1 : y = x <;> by_cases h2 : x ∈ ns <;> simp [h1, h2]
    have h3 : ¬ x = y := fun h => h1 h.symm
    simp [h1, h3]
theorem s_inT {n : Bool} {x : Int} {ns : List Int} {S : Sto} : sIn n (.v (.int x)) (.v (.tup (ns.map D.int))) S = .ok (.v (.bl (xor n (decide (x ∈ ns))))) S := by
  have h := eqk_intsT ns
  simp [sIn, mem_int, h]
def upTo (n : Nat) : List Int := (List.range n).map fun (i : Nat) => 1 + (i : Int)
def dn (n : Nat) : List Int := (List.range n).map fun (i : Nat) => (n : Int) + (i : Int) * (-1)
theorem rngD_up (n : Nat) : rngD 1 n = (upTo n).map D.int := by simp [rngD, upTo]
theorem rngC_dn (n : Nat) : rngC (n : Int) (-1) n = (dn n).map D.int := by simp [rngC, dn]
theorem mem_up {n : Nat} {x : Int} : x ∈ upTo n ↔ 1 ≤ x ∧ x ≤ n := by
  unfold upTo
  rw [List.mem_map]
  constructor
  · rintro ⟨i, hi, rfl⟩
    have := List.mem_range.mp hi
    omega
  · intro h
    exact ⟨(x - 1).toNat, List.mem_range.mpr (by omega), by omega⟩
theorem up_pw (n : Nat) : (upTo n).Pairwise (· < ·) := by
  unfold upTo
  rw [List.pairwise_map]
  exact List.pairwise_lt_range.imp fun h => by omega
theorem len_up (n : Nat) : (upTo n).length = n := by simp [upTo]
theorem len_dn (n : Nat) : (dn n).length = n := by simp [dn]
theorem i_rng3 {n : Nat} (hn : n ≤ 1000) {env : Ev} {S : Sto} {f : FE Y} (h : f env S = .ok (.v (.int n)) S) : fIt sRng3 (fCons f (fCons (fC (.int 0)) (fCons (fUn sNeg (fC (.int 1))) fNil))) env S = .ok ((dn n).map D.int) S := by
  have e := s_rng3 (S := S) (a := (n : Int)) (b := 0) (okR_of (by omega) (by omega)) (okR_of (by omega) (by omega))
  rw [Int.sub_zero, Int.toNat_natCast, rngC_dn] at e
  simp only [ev_it, ev_cons, h, Res.bind, ev_c, ev_un, s_neg, ev_nil]
  exact e
theorem i_rng2 {n : Nat} (hn : n ≤ 1000) {env : Ev} {S : Sto} {f : FE Y} (h : f env S = .ok (.v (.int n)) S) : fIt sRng2 (fCons (fC (.int 1)) (fCons (fBin (sAdd false) f (fC (.int 1))) fNil)) env S = .ok ((upTo n).map D.int) S := by
  rw [ev_it, ev_cons]
  simp only [Res.bind, ev_cons, ev_c, ev_bin, h, s_add, ev_nil]
  rw [s_rng2 (okR_of (by omega) (by omega)) (okR_of (by omega) (by omega)), show ((n : Int) + 1 - 1).toNat = n by omega, rngD_up]
def posA : Int → List Int → List Int
  | _, [] => []
  | k, s :: r => if s = 1 then (k + 1) :: posA (k + 1) r else posA (k + 1) r
def numb : Nat → List Int → List (Int × Int)
  | _, [] => []
  | k, s :: r => ((k : Int), s) :: numb (k + 1) r
theorem enumL_numb : ∀ (k : Nat) (ws : List Int), enumL k (ws.map D.int) = (numb k ws).map fun p => D.tup [.int p.1, .int p.2]
  | _, [] => rfl
  | k, s :: r => by simp [enumL, numb, enumL_numb (k + 1) r]
theorem len_numb : ∀ (k : Nat) (ws : List Int), (numb k ws).length = ws.length
  | _, [] => rfl
  | k, s :: r => by simp [numb, len_numb (k + 1) r]
theorem rngD_get' {lo : Int} {n j : Nat} {d : D} (h : (rngD lo n)[j]? = some d) : j < n ∧ d = .int (lo + j) := rngD_get h
theorem i_rng1 {n : Nat} (hn : n ≤ 1000) {env : Ev} {S : Sto} {f : FE Y} (h : f env S = .ok (.v (.int n)) S) : fIt sRng1 (fCons f fNil) env S = .ok (rngD 0 n) S := by
  have e := s_rng1 (S := S) (a := (n : Int)) (okR_of (by omega) (by omega))
  rw [Int.toNat_natCast] at e
  simp only [ev_it, ev_cons, h, Res.bind, ev_nil]
  exact e
theorem zip_ints : ∀ (a b : List Int), (a.map D.int).zip (b.map D.int) = (a.zip b).map fun p => (D.int p.1, D.int p.2)
  | [], _ => by simp
  | _ :: _, [] => by simp
  | x :: a, y :: b => by simp [zip_ints a b]
theorem CupOk.len {S : Sto} (h : CupOk S) : S.length = 1 := by obtain ⟨a, b, rfl, _⟩ := h; rfl
theorem ex_seq {F G : FS} {env env1 : Ev} {S S1 : Sto} {I : Ev → Sto → Prop} (h : F env S = .nx env1 S1) (k : ∃ env2 S2, G env1 S1 = .nx env2 S2 ∧ I env2 S2) : ∃ env2 S2, fSeq F G env S = .nx env2 S2 ∧ I env2 S2 := by
  rw [seq_nx h]; exact k
theorem if_nx {t : FE Bool} {F : FS} {env : Ev} {S S1 : Sto} (h : t env S = .ok false S1) : fIfS t F fNx env S = .nx env S1 := (ifs_f h).trans ev_nx
theorem nsame {f : FE Y} {env : Ev} {S S1 : Sto} (h : f env S = .ok (.v (.bl true)) S1) : fNot (fTru f) env S = .ok false S1 := not_ok (tru_ok h)
theorem a2v {env : Ev} {S : Sto} {i j : Nat} {y z : Y} (h1 : env[i]? = some (some y)) (h2 : env[j]? = some (some z)) : fCons (fVar i) (fCons (fVar j) fNil) env S = .ok [y, z] S := cons_ok (var_ok h1) (cons_ok (var_ok h2) ev_nil)
def valOk (d : D) : Prop := vg d ∧ (tupD d).length < 63
theorem val_ints {ns : List Int} (h : ns.length < 63) : valOk (.tup (ns.map D.int)) := ⟨vg_tup_ints ns, by simpa [tupD] using h⟩
theorem val_odd {ns : List Int} {k : Nat} {d : D} (h : ns.length < 60) (hd : d.pln = true ∧ d.dep ≤ 19) : valOk (.tup ((ns.map D.int).take k ++ [d] ++ (ns.map D.int).drop k)) := by
  refine ⟨vg_of fun e he => ?_, ?_⟩
  · rcases List.mem_append.mp he with he | he
    · rcases List.mem_append.mp he with he | he
      · obtain ⟨i, _, rfl⟩ := List.mem_map.mp (List.mem_of_mem_take he)
        simp [D.pln, D.dep]
      · rw [List.mem_singleton.mp he]; exact hd
    · obtain ⟨i, _, rfl⟩ := List.mem_map.mp (List.mem_of_mem_drop he)
      simp [D.pln, D.dep]
  · simp only [tupD, List.length_append, List.length_take, List.length_drop, List.length_map, List.length_singleton]; omega
theorem cut_map {ns : List Int} {lo hi : Option Int} : cut (ns.map D.int) lo hi = (cut ns lo hi).map D.int := by
  unfold cut; rw [List.length_map, List.map_take, List.map_drop]
theorem cut_len {ns : List Int} {lo hi : Option Int} : (cut ns lo hi).length ≤ ns.length := by
  unfold cut; rw [List.length_take, List.length_drop]; omega
theorem s_sortU {ns : List Int} {S : Sto} : sSortedU false [.v (.tup (ns.map D.int))] S = .ok (.v (.lst ((sortI ns).map D.int))) S := by simp [sSortedU]
theorem sTupR_ok {i j : Int} {S : Sto} (h1 : okR i = true) (h2 : okR j = true) (h3 : okLen (j - i).toNat = true) : sTupR (.v (.int i)) (.v (.int j)) S = .ok (i, j) S := if_pos ⟨h1, h2, h3⟩
theorem tupR_ok {i j : Int} {env : Ev} {S : Sto} {f g : FE Y} (hf : f env S = .ok (.v (.int i)) S) (hg : g env S = .ok (.v (.int j)) S) (h1 : okR i = true) (h2 : okR j = true) (h3 : okLen (j - i).toNat = true) : fTupR false false f g env S = .ok (.v (.tup (rngD i (j - i).toNat))) S := by
  unfold fTupR
  rw [hf]
  simp only [Res.bind, hg, sTupR_ok h1 h2 h3]
  rfl
theorem i_tupR {n : Nat} (hn : n ≤ 1000) {env : Ev} {S : Sto} {f g : FE Y} (hf : f env S = .ok (.v (.int 1)) S) (hg : g env S = .ok (.v (.int ((n : Int) + 1))) S) : fTupR false false f g env S = .ok (.v (.tup ((upTo n).map D.int))) S := by
  have k1 : okR 1 = true := okR_of (by omega) (by omega)
  have k2 : okR ((n : Int) + 1) = true := okR_of (by omega) (by omega)
  have k3 : ((n : Int) + 1 - 1).toNat = n := by omega
  have k4 : okLen n = true := okLen_of (by omega)
  exact (tupR_ok hf hg k1 k2 (by rw [k3]; exact k4)).trans (by rw [k3, rngD_up])
theorem strOk_1 : PyData.strOk "1" = true := by decide +kernel
theorem strOk_12 : PyData.strOk "12" = true := by decide +kernel
theorem nat_of {x lo hi : Int} (h0 : 0 ≤ lo) (h : lo ≤ x ∧ x ≤ hi) : ∃ n : Nat, x = n ∧ lo ≤ n ∧ (n : Int) ≤ hi := ⟨x.toNat, by omega, by omega, by omega⟩
theorem s_rep2 {x : D} {S : Sto} : sMul false (.v (.tup [x])) (.v (.int 2)) S = .ok (.v (.tup [x, x])) S := rfl
theorem sl_ok {m : Bool} {f : FE Y} {lo hi : FE (Option Int)} {env : Ev} {S S1 S2 S3 : Sto} {y : Y} {l u : Option Int} {r : Res Y} (h : f env S = .ok y S1) (h1 : lo env S1 = .ok l S2) (h2 : hi env S2 = .ok u S3) (h3 : sSl m y l u S3 = r) : fSl m f lo hi env S = r := by
  rw [ev_sl, h]; simp only [Res.bind, h1, h2, h3]
theorem part_ok {f : FE Y} {env : Ev} {S S1 : Sto} {i : Int} (h : f env S = .ok (.v (.int i)) S1) : fPart f env S = .ok (some i) S1 := by rw [ev_part, h]; rfl
theorem its_okT {f : FE Y} {env : Ev} {S S1 : Sto} {ds : List D} (h : f env S = .ok (.v (.tup ds)) S1) : fItS f env S = .ok ds S1 := by rw [ev_its, h]; rfl
theorem its_okL {f : FE Y} {env : Ev} {S S1 : Sto} {ds : List D} (h : f env S = .ok (.v (.lst ds)) S1) : fItS f env S = .ok ds S1 := by rw [ev_its, h]; rfl
theorem un_ok {f : FE Y} {sem : Y → Sto → Res Y} {env : Ev} {S S1 : Sto} {y : Y} {r : Res Y} (h : f env S = .ok y S1) (h1 : sem y S1 = r) : fUn sem f env S = r := by rw [ev_un, h]; exact h1
theorem if_t {t : FE Bool} {f g : FE Y} {env : Ev} {S S1 : Sto} (h : t env S = .ok true S1) : fIf t f g env S = f env S1 := by rw [ev_if, h]; rfl
theorem if_f {t : FE Bool} {f g : FE Y} {env : Ev} {S S1 : Sto} (h : t env S = .ok false S1) : fIf t f g env S = g env S1 := by rw [ev_if, h]; rfl
theorem or_ff {t u : FE Bool} {env : Ev} {S S1 S2 : Sto} (h : t env S = .ok false S1) (h1 : u env S1 = .ok false S2) : fOr t u env S = .ok false S2 := by rw [ev_or, h]; simp only [Res.bind, h1]; rfl
theorem depI (ns : List Int) : D.dep (.tup (ns.map D.int)) = 1 := by have := ints_dep ns; simp [D.dep]; omega
theorem sgI {ns : List Int} (h : ns.length ≤ 16777216) : D.sg (.tup (ns.map D.int)) = true := by
  have h1 : okLen ns.length = true := okLen_of h
  simp only [D.sg, List.length_map, h1, Bool.true_and]
  exact sgL_of fun d hd => by obtain ⟨i, _, rfl⟩ := List.mem_map.mp hd; rfl
theorem pow30 {S : Sto} : sPow (.v (.int 10)) (.v (.int 30)) S = .ok (.v (.int (10 ^ 30))) S := s_pow ⟨by decide, by decide, by decide⟩
theorem s_neg1 {env : Ev} {S : Sto} : fUn sNeg (fC (.int 1)) env S = .ok (.v (.int (-1))) S := rfl
theorem s_revT {ds : List D} {S : Sto} : sRev false (.v (.tup ds)) S = .ok (.v (.tup ds.reverse)) S := rfl
end Sg


/-! T1: typed readings of mirrors: what is known of the slots and the store -/
namespace Sg
open PySem PySem.Spec PyProof.Rows L2
/-- what is known of a slot: nothing; it holds data; it is this reference; it is a reference to an own thing -/
inductive Sl where
  | un | va (d : D) | fx (n : Nat) | mu (o : O)
structure Rel (B : Sto) (m : List Sl) (env : Ev) (S : Sto) : Prop where
  len : env.length = m.length
  pre : ∃ R, S = B ++ R
  va : ∀ (i : Nat) (d : D), m[i]? = some (Sl.va d) → env[i]? = some (some (Y.v d))
  fx : ∀ (i n : Nat), m[i]? = some (Sl.fx n) → env[i]? = some (some (Y.ref n))
  mu : ∀ (i : Nat) (o : O), m[i]? = some (Sl.mu o) → ∃ n : Nat, env[i]? = some (some (Y.ref n)) ∧ B.length ≤ n ∧ S[n]? = some o
  inj : ∀ (i j : Nat) (o p : O) (n : Nat), m[i]? = some (Sl.mu o) → m[j]? = some (Sl.mu p) → env[i]? = some (some (Y.ref n)) → env[j]? = some (some (Y.ref n)) → i = j
/-- less is known -/
inductive Wk : List Sl → List Sl → Prop
  | nil : Wk [] []
  | un {x : Sl} {m' m : List Sl} : Wk m' m → Wk (.un :: m') (x :: m)
  | kp {x : Sl} {m' m : List Sl} : Wk m' m → Wk (x :: m') (x :: m)
theorem Wk.len : ∀ {m' m : List Sl}, Wk m' m → m'.length = m.length
  | _, _, .nil => rfl
  | _, _, .un h => congrArg (· + 1) (Wk.len h)
  | _, _, .kp h => congrArg (· + 1) (Wk.len h)
theorem Wk.get : ∀ {m' m : List Sl}, Wk m' m → ∀ (i : Nat) (x : Sl), m'[i]? = some x → x ≠ .un → m[i]? = some x
  | _, _, .nil, i, x, h, _ => by simp at h
  | _, _, .un h, 0, x, e, g => by simp at e; exact absurd e.symm g
  | _, _, .kp h, 0, x, e, g => by simpa using e
  | _, _, .un h, i + 1, x, e, g => by simpa using Wk.get h i x (by simpa using e) g
  | _, _, .kp h, i + 1, x, e, g => by simpa using Wk.get h i x (by simpa using e) g
section
variable {B B' : Sto} {m m' : List Sl} {env : Ev} {S : Sto} {i j : Nat} {d : D} {o : O}
theorem Rel.weak (h : Rel B m env S) (w : Wk m' m) : Rel B m' env S where
  len := h.len.trans w.len.symm
  pre := h.pre
  va i d e := h.va i d (w.get i _ e (by intro z; cases z))
  fx i d e := h.fx i d (w.get i _ e (by intro z; cases z))
  mu i d e := h.mu i d (w.get i _ e (by intro z; cases z))
  inj i j o p n e f := h.inj i j o p n (w.get i _ e (by intro z; cases z)) (w.get j _ f (by intro z; cases z))
theorem set_get {α : Type} {l : List α} {i j : Nat} {x y : α} (h : (l.set i x)[j]? = some y) : (i = j ∧ y = x ∧ i < l.length) ∨ (i ≠ j ∧ l[j]? = some y) := by
  by_cases e : i = j
  · subst e
    have hl : i < (l.set i x).length := (List.getElem?_eq_some_iff.mp h).1
    rw [List.length_set] at hl
    rw [List.getElem?_set_self hl] at h
    cases h
    exact .inl ⟨rfl, rfl, hl⟩
  · rw [List.getElem?_set_ne e] at h
    exact .inr ⟨e, h⟩
theorem set_same {α : Type} {l : List α} {i : Nat} {x : α} (h : i < l.length) : (l.set i x)[i]? = some x := List.getElem?_set_self h
/-- a slot's new data -/
theorem Rel.setV (h : Rel B m env S) : Rel B (m.set i (.va d)) (env.set i (some (.v d))) S where
  len := by simp [h.len]
  pre := h.pre
  va j d' e := by
    rcases set_get e with ⟨rfl, q, hl⟩ | ⟨g, e⟩
    · cases q; exact set_same (by rw [h.len]; exact hl)
    · rw [List.getElem?_set_ne g]; exact h.va j d' e
  fx j n e := by
    rcases set_get e with ⟨rfl, q, hl⟩ | ⟨g, e⟩
    · cases q
    · rw [List.getElem?_set_ne g]; exact h.fx j n e
  mu j o e := by
    rcases set_get e with ⟨rfl, q, hl⟩ | ⟨g, e⟩
    · cases q
    · rw [List.getElem?_set_ne g]; exact h.mu j o e
  inj a b o p n e f e' f' := by
    rcases set_get e with ⟨rfl, q, hl⟩ | ⟨g, e⟩
    · cases q
    rcases set_get f with ⟨rfl, q, hl⟩ | ⟨g', f⟩
    · cases q
    rw [List.getElem?_set_ne g] at e'
    rw [List.getElem?_set_ne g'] at f'
    exact h.inj a b o p n e f e' f'
/-- a slot of which nothing is known any more -/
theorem Rel.setU (h : Rel B m env S) (y : Option Y) : Rel B (m.set i .un) (env.set i y) S where
  len := by simp [h.len]
  pre := h.pre
  va j d' e := by
    rcases set_get e with ⟨rfl, q, hl⟩ | ⟨g, e⟩
    · cases q
    · rw [List.getElem?_set_ne g]; exact h.va j d' e
  fx j n e := by
    rcases set_get e with ⟨rfl, q, hl⟩ | ⟨g, e⟩
    · cases q
    · rw [List.getElem?_set_ne g]; exact h.fx j n e
  mu j o e := by
    rcases set_get e with ⟨rfl, q, hl⟩ | ⟨g, e⟩
    · cases q
    · rw [List.getElem?_set_ne g]; exact h.mu j o e
  inj a b o p n e f e' f' := by
    rcases set_get e with ⟨rfl, q, hl⟩ | ⟨g, e⟩
    · cases q
    rcases set_get f with ⟨rfl, q, hl⟩ | ⟨g', f⟩
    · cases q
    rw [List.getElem?_set_ne g] at e'
    rw [List.getElem?_set_ne g'] at f'
    exact h.inj a b o p n e f e' f'
theorem Rel.forget (h : Rel B m env S) (i : Nat) : Rel B (m.set i .un) env S where
  len := by simp [h.len]
  pre := h.pre
  va j d' e := by
    rcases set_get e with ⟨rfl, q, hl⟩ | ⟨g, e⟩
    · cases q
    · exact h.va j d' e
  fx j n e := by
    rcases set_get e with ⟨rfl, q, hl⟩ | ⟨g, e⟩
    · cases q
    · exact h.fx j n e
  mu j o e := by
    rcases set_get e with ⟨rfl, q, hl⟩ | ⟨g, e⟩
    · cases q
    · exact h.mu j o e
  inj a b o p n e f e' f' := by
    rcases set_get e with ⟨rfl, q, hl⟩ | ⟨g, e⟩
    · cases q
    rcases set_get f with ⟨rfl, q, hl⟩ | ⟨g', f⟩
    · cases q
    exact h.inj a b o p n e f e' f'
/-- the store grows -/
theorem Rel.grow (h : Rel B m env S) (R : Sto) : Rel B m env (S ++ R) where
  len := h.len
  pre := by obtain ⟨R0, e⟩ := h.pre; exact ⟨R0 ++ R, by rw [e, List.append_assoc]⟩
  va := h.va
  fx := h.fx
  mu i o e := by
    obtain ⟨n, a, b, c⟩ := h.mu i o e
    exact ⟨n, a, b, by rw [List.getElem?_append_left (List.getElem?_eq_some_iff.mp c).1]; exact c⟩
  inj := h.inj
/-- a reference to an own thing as a further slot: what a new list is -/
abbrev RelN (B : Sto) (m : List Sl) (env : Ev) (S : Sto) (n : Nat) (o : O) : Prop := Rel B (m ++ [.mu o]) (env ++ [some (.ref n)]) S
theorem get_app {α : Type} {l : List α} {x y : α} {i : Nat} (h : (l ++ [x])[i]? = some y) : (i < l.length ∧ l[i]? = some y) ∨ (i = l.length ∧ y = x) := by
  by_cases e : i < l.length
  · rw [List.getElem?_append_left e] at h; exact .inl ⟨e, h⟩
  · rw [List.getElem?_append_right (by omega)] at h
    have hz : i - l.length = 0 := by
      by_cases q : i - l.length = 0
      · exact q
      · rw [List.getElem?_eq_none (by simp; omega)] at h; cases h
    rw [hz] at h
    simp at h
    exact .inr ⟨by omega, h.symm⟩
theorem lt_some {α : Type} {l : List α} {x : α} {i : Nat} (h : l[i]? = some x) : i < l.length := (List.getElem?_eq_some_iff.mp h).1
theorem Rel.new (h : Rel B m env S) (o : O) : RelN B m env (S ++ [o]) S.length o where
  len := by simp [h.len]
  pre := by obtain ⟨R0, e⟩ := h.pre; exact ⟨R0 ++ [o], by rw [e, List.append_assoc]⟩
  va i d e := by
    rcases get_app e with ⟨hl, e⟩ | ⟨_, q⟩
    · rw [List.getElem?_append_left (by rw [h.len]; exact hl)]; exact h.va i d e
    · cases q
  fx i d e := by
    rcases get_app e with ⟨hl, e⟩ | ⟨_, q⟩
    · rw [List.getElem?_append_left (by rw [h.len]; exact hl)]; exact h.fx i d e
    · cases q
  mu i p e := by
    rcases get_app e with ⟨hl, e⟩ | ⟨hl, q⟩
    · rw [List.getElem?_append_left (by rw [h.len]; exact hl)]
      obtain ⟨n, a, b, c⟩ := h.mu i p e
      exact ⟨n, a, b, by rw [List.getElem?_append_left (lt_some c)]; exact c⟩
    · cases q
      refine ⟨S.length, ?_, ?_, by simp⟩
      · rw [hl, ← h.len]; simp
      · obtain ⟨R0, e⟩ := h.pre; rw [e, List.length_append]; omega
  inj a b p q n e f e' f' := by
    rcases get_app e with ⟨hl, e⟩ | ⟨hl, _⟩ <;> rcases get_app f with ⟨hl', f⟩ | ⟨hl', _⟩
    · rw [List.getElem?_append_left (by rw [h.len]; exact hl)] at e'
      rw [List.getElem?_append_left (by rw [h.len]; exact hl')] at f'
      exact h.inj a b p q n e f e' f'
    · exfalso
      rw [List.getElem?_append_left (by rw [h.len]; exact hl)] at e'
      obtain ⟨k, g1, _, g3⟩ := h.mu a p e
      rw [g1] at e'; cases e'
      rw [hl', ← h.len] at f'
      simp at f'
      have := lt_some g3; omega
    · exfalso
      rw [List.getElem?_append_left (by rw [h.len]; exact hl')] at f'
      obtain ⟨k, g1, _, g3⟩ := h.mu b q f
      rw [g1] at f'; cases f'
      rw [hl, ← h.len] at e'
      simp at e'
      have := lt_some g3; omega
    · omega
/-- the new list gets a name -/
theorem Rel.named {n : Nat} (h : RelN B m env S n o) (i : Nat) : Rel B (m.set i (.mu o)) (env.set i (some (.ref n))) S := by
  have hl : env.length = m.length := by simpa using h.len
  have sh : ∀ {j : Nat} {x : Sl}, m[j]? = some x → (m ++ [.mu o])[j]? = some x := fun {j x} e => by rw [List.getElem?_append_left (lt_some e)]; exact e
  have es : ∀ {j : Nat} {y : Option Y}, j < m.length → (env ++ [some (.ref n)])[j]? = some y → env[j]? = some y := fun {j y} g e => by rwa [List.getElem?_append_left (by rw [hl]; exact g)] at e
  have last : (m ++ [Sl.mu o])[m.length]? = some (.mu o) := by simp
  have lastE : (env ++ [some (Y.ref n)])[m.length]? = some (some (.ref n)) := by rw [← hl]; simp
  refine ⟨by simp [hl], h.pre, fun j d e => ?_, fun j d e => ?_, fun j p e => ?_, fun a b p q k e f e' f' => ?_⟩
  · rcases set_get e with ⟨rfl, q, _⟩ | ⟨g, e⟩
    · cases q
    · rw [List.getElem?_set_ne g]; exact es (lt_some e) (h.va j d (sh e))
  · rcases set_get e with ⟨rfl, q, _⟩ | ⟨g, e⟩
    · cases q
    · rw [List.getElem?_set_ne g]; exact es (lt_some e) (h.fx j d (sh e))
  · rcases set_get e with ⟨rfl, q, g⟩ | ⟨g, e⟩
    · cases q
      obtain ⟨k, e1, e2, e3⟩ := h.mu m.length o last
      rw [lastE] at e1; cases e1
      exact ⟨n, set_same (by rw [hl]; exact g), e2, e3⟩
    · obtain ⟨k, e1, e2, e3⟩ := h.mu j p (sh e)
      exact ⟨k, by rw [List.getElem?_set_ne g]; exact es (lt_some e) e1, e2, e3⟩
  · have own : ∀ {j : Nat} {p : O}, m[j]? = some (.mu p) → env[j]? = some (some (.ref n)) → False := fun {j p} e e' => by
      have z := h.inj j m.length p o n (sh e) last (by rw [List.getElem?_append_left (lt_some e')]; exact e') lastE
      have := lt_some e; omega
    rcases set_get e with ⟨rfl, _, g⟩ | ⟨g, e⟩ <;> rcases set_get f with ⟨rfl, _, g'⟩ | ⟨g', f⟩
    · rfl
    · exfalso
      rw [set_same (by rw [hl]; exact g)] at e'; cases e'
      rw [List.getElem?_set_ne g'] at f'
      exact own f f'
    · exfalso
      rw [set_same (by rw [hl]; exact g')] at f'; cases f'
      rw [List.getElem?_set_ne g] at e'
      exact own e e'
    · rw [List.getElem?_set_ne g] at e'
      rw [List.getElem?_set_ne g'] at f'
      exact h.inj a b p q k (sh e) (sh f) (by rw [List.getElem?_append_left (lt_some e')]; exact e') (by rw [List.getElem?_append_left (lt_some f')]; exact f')
/-- an own thing changes -/
theorem Rel.upd {n : Nat} {o' : O} (h : Rel B m env S) (hi : m[i]? = some (.mu o)) (hn : env[i]? = some (some (.ref n))) : Rel B (m.set i (.mu o')) env (S.set n o') := by
  obtain ⟨k, e1, e2, e3⟩ := h.mu i o hi
  rw [hn] at e1; cases e1
  refine ⟨by simp [h.len], ?_, fun j d e => ?_, fun j d e => ?_, fun j p e => ?_, fun a b p q k e f e' f' => ?_⟩
  · obtain ⟨R, rfl⟩ := h.pre
    exact ⟨R.set (n - B.length) o', by rw [List.set_append_right _ _ e2]⟩
  · rcases set_get e with ⟨rfl, q, _⟩ | ⟨g, e⟩
    · cases q
    · exact h.va j d e
  · rcases set_get e with ⟨rfl, q, _⟩ | ⟨g, e⟩
    · cases q
    · exact h.fx j d e
  · rcases set_get e with ⟨rfl, q, g⟩ | ⟨g, e⟩
    · cases q
      exact ⟨n, hn, e2, set_same (lt_some e3)⟩
    · obtain ⟨k, f1, f2, f3⟩ := h.mu j p e
      refine ⟨k, f1, f2, ?_⟩
      rw [List.getElem?_set_ne (fun z => by subst z; exact g (h.inj i j o p n hi e hn f1))]
      exact f3
  · rcases set_get e with ⟨rfl, _, _⟩ | ⟨g, e⟩ <;> rcases set_get f with ⟨rfl, _, _⟩ | ⟨g', f⟩
    · rfl
    · exact h.inj _ _ _ _ _ hi f e' f'
    · exact h.inj _ _ _ _ _ e hi e' f'
    · exact h.inj a b p q k e f e' f'
theorem Rel.gone {n : Nat} (h : Rel B m env S) (hi : m[i]? = some (.mu o)) (hn : env[i]? = some (some (.ref n))) (o' : O) : Rel B (m.set i .un) env (S.set n o') := by
  have z := (h.upd (o' := o') hi hn).forget i
  rwa [List.set_set] at z
/-- the base changes -/
theorem Rel.base (h : Rel B m env S) (hl : B'.length = B.length) : ∃ R, S = B ++ R ∧ Rel B' m env (B' ++ R) := by
  obtain ⟨R, rfl⟩ := h.pre
  refine ⟨R, rfl, h.len, ⟨R, rfl⟩, h.va, h.fx, fun i o e => ?_, h.inj⟩
  obtain ⟨n, a, b, c⟩ := h.mu i o e
  refine ⟨n, a, by omega, ?_⟩
  rw [List.getElem?_append_right b] at c
  rw [List.getElem?_append_right (by omega), hl]
  exact c
end
/-- what a value stands for -/
def den : Y → Sto → Option D
  | .v d, _ => some d
  | .ref n, S => match S[n]? with
    | some (.lst ds) => some (.lst ds)
    | some (.dic ks vs) => some (.dic ks vs)
    | _ => none
def oD : O → D
  | .lst ds => .lst ds
  | .dic ks vs => .dic ks vs
  | _ => .non
/-! ### encoders -/
abbrev eI : Int → D := D.int
abbrev eB : Bool → D := D.bl
abbrev eS : Str → D := D.str
abbrev eA : D → D := fun d => d
abbrev eN : Unit → D := fun _ => .non
abbrev eT {α : Type} (e : α → D) (xs : List α) : D := .tup (xs.map e)
abbrev eL {α : Type} (e : α → D) (xs : List α) : D := .lst (xs.map e)
abbrev eP {α β : Type} (e : α → D) (f : β → D) (p : α × β) : D := .tup [e p.1, f p.2]
abbrev eP3 {α β γ : Type} (e : α → D) (f : β → D) (g : γ → D) (p : α × β × γ) : D := .tup [e p.1, f p.2.1, g p.2.2]
def eO {α : Type} (e : α → D) : Option α → D
  | none => .non
  | some x => e x
abbrev eD {α β : Type} (e : α → D) (f : β → D) (kvs : List (α × β)) : D := .dic (kvs.map fun p => e p.1) (kvs.map fun p => f p.2)
abbrev szOk (n : Nat) : Prop := n ≤ 16777216
/-! ### judgements -/
section
variable (m : List Sl)
/-- an expression gives data, and changes nothing -/
def PV (f : FE Y) (d : D) : Prop := ∀ B env S, Rel B m env S → f env S = .ok (.v d) S
/-- it gives data or a reference to such -/
def PR (f : FE Y) (d : D) : Prop := ∀ B env S, Rel B m env S → ∃ y, f env S = .ok y S ∧ den y S = some d
def PC (fs : FE (List Y)) (ds : List D) : Prop := ∀ B env S, Rel B m env S → ∃ ys, fs env S = .ok ys S ∧ ys.map (fun y => den y S) = ds.map some
def PVs (fs : FE (List Y)) (ds : List D) : Prop := ∀ B env S, Rel B m env S → fs env S = .ok (ds.map Y.v) S
def PB (t : FE Bool) (p : Prop) : Prop := ∃ b : Bool, (b = true ↔ p) ∧ ∀ B env S, Rel B m env S → t env S = .ok b S
def PIt (fi : FE (List D)) (ds : List D) : Prop := ∀ B env S, Rel B m env S → fi env S = .ok ds S
def PO (f : FE (Option Int)) (i : Option Int) : Prop := ∀ B env S, Rel B m env S → f env S = .ok i S
end
def GT (t : Tg) (d : D) (m m1 : List Sl) : Prop := ∀ B env S, Rel B m env S → ∃ env1, t.asg d env = some env1 ∧ Rel B m1 env1 S
def GTs (t : List Tg) (d : List D) (m m1 : List Sl) : Prop := ∀ B env S, Rel B m env S → ∃ env1, Tg.asgL t d env = some env1 ∧ Rel B m1 env1 S
/-- an operator -/
def SB (sem : Y → Y → Sto → Res Y) (a b z : D) : Prop := ∀ x y S, den x S = some a → den y S = some b → sem x y S = .ok (.v z) S
def SU (sem : Y → Sto → Res Y) (a z : D) : Prop := ∀ x S, den x S = some a → sem x S = .ok (.v z) S
def SC (sem : List Y → Sto → Res Y) (ds : List D) (z : D) : Prop := ∀ ys S, ys.map (fun y => den y S) = ds.map some → sem ys S = .ok (.v z) S
section
variable {m m1 m2 : List Sl} {f g h : FE Y} {fs : FE (List Y)} {t u : FE Bool} {d a b z : D} {ds : List D} {i : Nat} {fi : FE (List D)}
theorem pv_r (h : PV m f d) : PR m f d := fun B env S r => ⟨_, h B env S r, rfl⟩
theorem pv_var (h : m[i]? = some (.va d)) : PV m (fVar i) d := fun B env S r => by
  have := r.va i d h
  unfold fVar; rw [this]
theorem pr_mul {ds : List D} (h : m[i]? = some (.mu (.lst ds))) : PR m (fVar i) (.lst ds) := fun B env S r => by
  obtain ⟨n, e1, e2, e3⟩ := r.mu i _ h
  refine ⟨.ref n, ?_, ?_⟩
  · unfold fVar; rw [e1]
  · simp only [den, e3]
theorem pr_mud {ks vs : List D} (h : m[i]? = some (.mu (.dic ks vs))) : PR m (fVar i) (.dic ks vs) := fun B env S r => by
  obtain ⟨n, e1, e2, e3⟩ := r.mu i _ h
  refine ⟨.ref n, ?_, ?_⟩
  · unfold fVar; rw [e1]
  · simp only [den, e3]
theorem pv_c : PV m (fC d) d := fun _ _ _ _ => rfl
theorem pv_bin {sem : Y → Y → Sto → Res Y} (hf : PR m f a) (hg : PR m g b) (hs : SB sem a b z) : PV m (fBin sem f g) z := fun B env S r => by
  obtain ⟨x, e1, d1⟩ := hf B env S r
  obtain ⟨y, e2, d2⟩ := hg B env S r
  simp only [fBin, e1, Res.bind, e2]
  exact hs x y S d1 d2
theorem pv_un {sem : Y → Sto → Res Y} (hf : PR m f a) (hs : SU sem a z) : PV m (fUn sem f) z := fun B env S r => by
  obtain ⟨x, e1, d1⟩ := hf B env S r
  simp only [fUn, e1, Res.bind]
  exact hs x S d1
theorem pv_call {sem : List Y → Sto → Res Y} (hf : PC m fs ds) (hs : SC sem ds z) : PV m (fCall sem fs) z := fun B env S r => by
  obtain ⟨x, e1, d1⟩ := hf B env S r
  simp only [fCall, e1, Res.bind]
  exact hs x S d1
theorem pc_nil : PC m fNil [] := fun _ _ _ _ => ⟨[], rfl, rfl⟩
theorem pc_cons (hf : PR m f d) (hs : PC m fs ds) : PC m (fCons f fs) (d :: ds) := fun B env S r => by
  obtain ⟨x, e1, d1⟩ := hf B env S r
  obtain ⟨y, e2, d2⟩ := hs B env S r
  exact ⟨x :: y, by simp only [fCons, e1, e2, Res.bind], by simp only [List.map_cons, d1, d2]⟩
theorem pvs_nil : PVs m fNil [] := fun _ _ _ _ => rfl
theorem pvs_cons (hf : PV m f d) (hs : PVs m fs ds) : PVs m (fCons f fs) (d :: ds) := fun B env S r => by
  simp only [fCons, hf B env S r, hs B env S r, Res.bind, List.map_cons]
theorem pv_own {n : Nat} {mf : List Y → Sto → Res Y} (hf : PVs m fs ds) (hn : ds.length = n) (hs : ∀ S, mf (ds.map Y.v) S = .ok (.v z) S) : PV m (fOwn n mf fs) z := fun B env S r => by
  simp only [fOwn, fCall, hf B env S r, Res.bind, List.length_map, hn, if_true]
  exact hs S
theorem pv_tup (hf : PVs m fs ds) (hn : szOk ds.length) : PV m (fTup fs) (.tup ds) := fun B env S r => by
  simp only [fTup, hf B env S r, Res.bind, thaw_vals, okLen_of hn, if_true]
theorem pv_lst (hf : PVs m fs ds) (hn : szOk ds.length) : PV m (fLst false fs) (.lst ds) := fun B env S r => by
  simp only [fLst, hf B env S r, Res.bind, thaw_vals, okLen_of hn, if_true, newL_f]
/-! ### tests -/
theorem PB.dec {p : Prop} [Decidable p] (h : PB m t p) : ∀ B env S, Rel B m env S → t env S = .ok (decide p) S := fun B env S r => by
  obtain ⟨b, e, g⟩ := h
  rw [g B env S r]
  congr 1
  by_cases q : p
  · rw [decide_eq_true q]; exact e.mpr q
  · rw [decide_eq_false q]; cases b with
    | true => exact absurd (e.mp rfl) q
    | false => rfl
theorem pb_of {p : Prop} [Decidable p] (h : ∀ B env S, Rel B m env S → t env S = .ok (decide p) S) : PB m t p := ⟨decide p, by simp, h⟩
theorem pb_iff {p q : Prop} (h : PB m t p) (e : p ↔ q) : PB m t q := by
  obtain ⟨b, e1, g⟩ := h
  exact ⟨b, e1.trans e, g⟩
theorem pb_test {p : Prop} [Decidable p] (h : PV m f (.bl (decide p))) : PB m (fTest f) p := pb_of fun B env S r => by
  simp only [fTest, h B env S r]; rfl
theorem pb_tru {b : Bool} (h : PV m f (.bl b)) : PB m (fTru f) (b = true) := ⟨b, Iff.rfl, fun B env S r => by simp only [fTru, h B env S r, Res.bind]; rfl⟩
theorem pb_not {p : Prop} (h : PB m t p) : PB m (fNot t) (¬p) := by
  obtain ⟨b, e, g⟩ := h
  refine ⟨!b, ?_, fun B env S r => by simp only [fNot, g B env S r, Res.bind]⟩
  rw [← e]; cases b <;> simp
theorem pb_and {p q : Prop} (h : PB m t p) (k : p → PB m u q) : PB m (fAnd t u) (p ∧ q) := by
  obtain ⟨b, e, g⟩ := h
  cases b with
  | false => exact ⟨false, ⟨fun z => (by cases z), fun z => e.mpr z.1⟩, fun B env S r => by simp only [fAnd, g B env S r, Res.bind]; rfl⟩
  | true =>
    obtain ⟨c, e2, g2⟩ := k (e.mp rfl)
    exact ⟨c, e2.trans ⟨fun z => ⟨e.mp rfl, z⟩, fun z => z.2⟩, fun B env S r => by simp only [fAnd, g B env S r, Res.bind, if_true]; exact g2 B env S r⟩
theorem pb_or {p q : Prop} (h : PB m t p) (k : ¬p → PB m u q) : PB m (fOr t u) (p ∨ q) := by
  obtain ⟨b, e, g⟩ := h
  cases b with
  | true => exact ⟨true, ⟨fun _ => .inl (e.mp rfl), fun _ => rfl⟩, fun B env S r => by simp only [fOr, g B env S r, Res.bind]; rfl⟩
  | false =>
    have hp : ¬p := fun z => by have := e.mpr z; cases this
    obtain ⟨c, e2, g2⟩ := k hp
    exact ⟨c, e2.trans ⟨fun z => .inr z, fun z => z.resolve_left hp⟩, fun B env S r => by simp only [fOr, g B env S r, Res.bind]; exact g2 B env S r⟩
theorem pb_yes : PB m fYes True := ⟨true, ⟨fun _ => trivial, fun _ => rfl⟩, fun _ _ _ _ => rfl⟩
theorem pv_if {α : Type} {p : Prop} [Decidable p] (e : α → D) {x y : α} (ht : PB m t p) (hf : p → PV m f (e x)) (hg : ¬p → PV m g (e y)) : PV m (fIf t f g) (e (if p then x else y)) := fun B env S r => by
  simp only [fIf, ht.dec B env S r, Res.bind]
  by_cases q : p
  · simp only [q, decide_true, if_true]; exact hf q B env S r
  · simp only [q, decide_false, if_false]; exact hg q B env S r
theorem pr_if {α : Type} {p : Prop} [Decidable p] (e : α → D) {x y : α} (ht : PB m t p) (hf : p → PR m f (e x)) (hg : ¬p → PR m g (e y)) : PR m (fIf t f g) (e (if p then x else y)) := fun B env S r => by
  simp only [fIf, ht.dec B env S r, Res.bind]
  by_cases q : p
  · simp only [q, decide_true, if_true]; exact hf q B env S r
  · simp only [q, decide_false, if_false]; exact hg q B env S r
theorem pv_and {a b : Bool} (h : PV m f (.bl a)) (k : a = true → PV m g (.bl b)) : PV m (fAndV f g) (.bl (a && b)) := fun B env S r => by
  rw [ev_andV, h B env S r]
  cases a with
  | false => rfl
  | true => exact k rfl B env S r
theorem pv_or {a b : Bool} (h : PV m f (.bl a)) (k : a = false → PV m g (.bl b)) : PV m (fOrV f g) (.bl (a || b)) := fun B env S r => by
  rw [ev_orV, h B env S r]
  cases a with
  | true => rfl
  | false => exact k rfl B env S r
theorem pv_not {a : Bool} (h : PV m f (.bl a)) : PV m (fNotV f) (.bl (!a)) := fun B env S r => by
  rw [ev_notV, h B env S r]; rfl
/-! ### iterables -/
theorem den_v {y : Y} {S : Sto} {d : D} (h : den y S = some d) (hl : ∀ ds, d ≠ .lst ds) (hd : ∀ ks vs, d ≠ .dic ks vs) : y = .v d := by
  cases y with
  | v e => cases h; rfl
  | ref n =>
    simp only [den] at h
    split at h
    · cases h; exact absurd rfl (hl _)
    · cases h; exact absurd rfl (hd _ _)
    · cases h
theorem den_l {y : Y} {S : Sto} {ds : List D} (h : den y S = some (.lst ds)) : getL y S = some ds ∧ getS y S = some ds ∧ getD y S = some (.lst ds) := by
  cases y with
  | v e => cases h; exact ⟨rfl, rfl, rfl⟩
  | ref n =>
    simp only [den] at h
    split at h
    · rename_i es e; cases h; simp only [getL, getS, getD, e]; exact ⟨trivial, trivial, trivial⟩
    · cases h
    · cases h
theorem den_d {y : Y} {S : Sto} {ks vs : List D} (h : den y S = some (.dic ks vs)) : getK y S = some (ks, vs) := by
  cases y with
  | v e => cases h; rfl
  | ref n =>
    simp only [den] at h
    split at h
    · cases h
    · rename_i es e; cases h; simp only [getK, e]
    · cases h
theorem pi_tup (h : PV m f (.tup ds)) : PIt m (fItS f) ds := fun B env S r => by simp only [fItS, h B env S r, Res.bind]; rfl
theorem pi_lst (h : PV m f (.lst ds)) : PIt m (fItS f) ds := fun B env S r => by simp only [fItS, h B env S r, Res.bind]; rfl
end
end Sg

/-! T2: operators by their typed values -/
namespace Sg
open PySem PySem.Spec PyProof.Rows L2
/-! ### typed operations -/
def pix {α : Type} [Inhabited α] (xs : List α) (i : Int) : α := (L2.atI xs i).getD default
abbrev inb (n : Nat) (i : Int) : Prop := -(n : Int) ≤ i ∧ i < n
def absI (a : Int) : Int := if a < 0 then -a else a
def maxJ (a b : Int) : Int := if b > a then b else a
def minJ (a b : Int) : Int := if b < a then b else a
abbrev rng (a b : Int) : List Int := (List.range (b - a).toNat).map fun (i : Nat) => a + i
abbrev rngdn (a b : Int) : List Int := (List.range (a - b).toNat).map fun (i : Nat) => a + (i : Int) * (-1)
def numbr {α : Type} : Nat → List α → List (Int × α)
  | _, [] => []
  | k, x :: xs => ((k : Int), x) :: numbr (k + 1) xs
def lt {α β : Type} (v : α) (k : α → β) : β := k v
theorem lt_eq {α β : Type} (v : α) (k : α → β) : lt v k = k v := rfl
theorem ixN_some {n : Nat} {i : Int} (h : inb n i) : ∃ j, L2.ixN n i = some j ∧ j < n := by
  obtain ⟨h1, h2⟩ := h
  unfold L2.ixN
  by_cases h0 : 0 ≤ i
  · rw [if_pos h0, if_pos h2]; exact ⟨_, rfl, by omega⟩
  · rw [if_neg h0, if_pos h1]; exact ⟨_, rfl, by omega⟩
theorem atI_map {α β : Type} (e : α → β) (xs : List α) (i : Int) : L2.atI (xs.map e) i = (L2.atI xs i).map e := by
  unfold L2.atI
  rw [List.length_map]
  cases L2.ixN xs.length i with
  | none => rfl
  | some j => simp
theorem atI_inb {α : Type} [Inhabited α] {xs : List α} {i : Int} (h : inb xs.length i) : L2.atI xs i = some (pix xs i) := by
  obtain ⟨j, e, hj⟩ := ixN_some h
  unfold pix L2.atI
  rw [e]; simp [List.getElem?_eq_getElem hj]
/-! ### dens -/
theorem den_int {y : Y} {S : Sto} {a : Int} (h : den y S = some (.int a)) : y = .v (.int a) := den_v h (fun _ z => by cases z) (fun _ _ z => by cases z)
theorem den_bl {y : Y} {S : Sto} {a : Bool} (h : den y S = some (.bl a)) : y = .v (.bl a) := den_v h (fun _ z => by cases z) (fun _ _ z => by cases z)
theorem den_str {y : Y} {S : Sto} {a : Str} (h : den y S = some (.str a)) : y = .v (.str a) := den_v h (fun _ z => by cases z) (fun _ _ z => by cases z)
theorem den_tup {y : Y} {S : Sto} {a : List D} (h : den y S = some (.tup a)) : y = .v (.tup a) := den_v h (fun _ z => by cases z) (fun _ _ z => by cases z)
theorem den_ty {y : Y} {S : Sto} {a : String} (h : den y S = some (.ty a)) : y = .v (.ty a) := den_v h (fun _ z => by cases z) (fun _ _ z => by cases z)
theorem den_non {y : Y} {S : Sto} (h : den y S = some .non) : y = .v .non := den_v h (fun _ z => by cases z) (fun _ _ z => by cases z)
/-! ### sound operators -/
section
variable {α β : Type} {e : α → D} {xs ys : List α} {a b : Int} {m : Bool}
theorem sb_add : SB (sAdd m) (.int a) (.int b) (.int (a + b)) := fun x y S h1 h2 => by rw [den_int h1, den_int h2]; rfl
theorem sb_sub : SB sSub (.int a) (.int b) (.int (a - b)) := fun x y S h1 h2 => by rw [den_int h1, den_int h2]; rfl
theorem sb_mul (h : okMul a b = true) : SB (sMul m) (.int a) (.int b) (.int (a * b)) := fun x y S h1 h2 => by rw [den_int h1, den_int h2]; exact s_mul h
theorem sb_fdiv (h : okDiv b = true) : SB sFdiv (.int a) (.int b) (.int (a.fdiv b)) := fun x y S h1 h2 => by rw [den_int h1, den_int h2]; exact s_fdiv h
theorem sb_mod (h : b ≠ 0) : SB sMod (.int a) (.int b) (.int (a.fmod b)) := fun x y S h1 h2 => by rw [den_int h1, den_int h2]; exact s_mod h
theorem sb_pow (h : 0 ≤ b ∧ b ≤ 1000000 ∧ a.natAbs < 18446744073709551616) : SB sPow (.int a) (.int b) (.int (a ^ b.toNat)) := fun x y S h1 h2 => by
  rw [den_int h1, den_int h2]; simp only [sPow, if_pos h]
theorem sb_lt : SB sLt (.int a) (.int b) (.bl (decide (a < b))) := fun x y S h1 h2 => by rw [den_int h1, den_int h2]; rfl
theorem sb_le : SB sLe (.int a) (.int b) (.bl (decide (a ≤ b))) := fun x y S h1 h2 => by rw [den_int h1, den_int h2]; rfl
theorem sb_gt : SB sGt (.int a) (.int b) (.bl (decide (a > b))) := fun x y S h1 h2 => by rw [den_int h1, den_int h2]; rfl
theorem sb_ge : SB sGe (.int a) (.int b) (.bl (decide (a ≥ b))) := fun x y S h1 h2 => by rw [den_int h1, den_int h2]; rfl
theorem sb_catT (h : szOk (xs.length + ys.length)) : SB (sAdd m) (eT e xs) (eT e ys) (eT e (xs ++ ys)) := fun x y S h1 h2 => by
  rw [den_tup h1, den_tup h2, s_catT (by simp only [List.length_map]; exact okLen_of h)]; simp only [eT, List.map_append]
theorem sAdd_l {x y : Y} {S : Sto} {p q : List D} (h1 : getL x S = some p) (h2 : getL y S = some q) : sAdd m x y S = if okLen (p.length + q.length) = true then newL m (p ++ q) S else .bad := by
  cases x with
  | ref n => simp only [sAdd, h1, h2]
  | v d => cases d with
    | lst ds => simp only [sAdd, h1, h2]
    | _ => cases h1
theorem sb_catL (h : szOk (xs.length + ys.length)) : SB (sAdd false) (eL e xs) (eL e ys) (eL e (xs ++ ys)) := fun x y S h1 h2 => by
  rw [sAdd_l (den_l h1).1 (den_l h2).1]
  simp only [List.length_map]
  rw [if_pos (okLen_of h)]
  simp only [newL_f, eL, List.map_append]
theorem rep_map {γ : Type} (f : α → γ) (k : Int) (xs : List α) : rep k (xs.map f) = (rep k xs).map f := by
  unfold rep; rw [List.map_flatten, List.map_replicate]
abbrev okRp (k : Int) (n : Nat) : Prop := k < 2147483648 ∧ -2147483648 ≤ k ∧ n * k.toNat ≤ 16777216
theorem okRp_of {k : Int} {n : Nat} (h : okRp k n) : okRep k n = true := by
  obtain ⟨h1, h2, h3⟩ := h
  simp only [okRep, okLen, Bool.and_eq_true, decide_eq_true_eq]
  exact ⟨⟨by omega, by omega⟩, h3⟩
theorem sb_repT (h : okRp a xs.length) : SB (sMul m) (eT e xs) (.int a) (eT e (rep a xs)) := fun x y S h1 h2 => by
  rw [den_tup h1, den_int h2]
  simp only [sMul, List.length_map, okRp_of h, if_true, rep_map, eT]
theorem sMul_l {x : Y} {S : Sto} {p : List D} {k : Int} (h1 : getL x S = some p) : sMul m x (.v (.int k)) S = if okRep k p.length = true then newL m (rep k p) S else .bad := by
  cases x with
  | ref n => simp only [sMul, h1]
  | v d => cases d with
    | lst ds => simp only [sMul, h1]
    | _ => cases h1
theorem sb_repL (h : okRp a xs.length) : SB (sMul false) (eL e xs) (.int a) (eL e (rep a xs)) := fun x y S h1 h2 => by
  rw [den_int h2, sMul_l (den_l h1).1]
  simp only [List.length_map, okRp_of h, if_true, rep_map, newL_f, eL]
theorem sb_ixT [Inhabited α] (h : inb xs.length a) : SB sIx (eT e xs) (.int a) (e (pix xs a)) := fun x y S h1 h2 => by
  rw [den_tup h1, den_int h2]
  exact s_ixT (by rw [atI_map, atI_inb h]; rfl)
theorem sb_ixL [Inhabited α] (h : inb xs.length a) : SB sIx (eL e xs) (.int a) (e (pix xs a)) := fun x y S h1 h2 => by
  rw [den_int h2]
  refine s_ix (fun z q => ?_) (den_l h1).2.1 (by rw [atI_map, atI_inb h]; rfl)
  subst q; cases h1
theorem sb_ixP1 {f : β → D} {p : α × β} : SB sIx (eP e f p) (.int 0) (e p.1) := fun x y S h1 h2 => by rw [den_tup h1, den_int h2]; rfl
theorem sb_ixP2 {f : β → D} {p : α × β} : SB sIx (eP e f p) (.int 1) (f p.2) := fun x y S h1 h2 => by rw [den_tup h1, den_int h2]; rfl
theorem sb_ixP31 {γ : Type} {f : β → D} {g : γ → D} {p : α × β × γ} : SB sIx (eP3 e f g p) (.int 0) (e p.1) := fun x y S h1 h2 => by rw [den_tup h1, den_int h2]; rfl
theorem sb_ixP32 {γ : Type} {f : β → D} {g : γ → D} {p : α × β × γ} : SB sIx (eP3 e f g p) (.int 1) (f p.2.1) := fun x y S h1 h2 => by rw [den_tup h1, den_int h2]; rfl
theorem sb_ixP33 {γ : Type} {f : β → D} {g : γ → D} {p : α × β × γ} : SB sIx (eP3 e f g p) (.int 2) (g p.2.2) := fun x y S h1 h2 => by rw [den_tup h1, den_int h2]; rfl
theorem su_neg : SU sNeg (.int a) (.int (-a)) := fun x S h => by rw [den_int h]; rfl
theorem su_revT : SU (sRev m) (eT e xs) (eT e xs.reverse) := fun x S h => by rw [den_tup h]; simp only [sRev, List.map_reverse, eT]
theorem su_revL : SU (sRev false) (eL e xs) (eL e xs.reverse) := fun x S h => by
  have := (den_l h).1
  cases x with
  | ref n => simp only [sRev, this, newL_f, List.map_reverse, eL]
  | v d => cases h; simp only [sRev, getL, newL_f, List.map_reverse, eL]
/-! calls -/
theorem d1 {ys : List Y} {S : Sto} {d : D} (h : ys.map (fun y => den y S) = [d].map some) : ∃ y, ys = [y] ∧ den y S = some d := by
  cases ys with
  | nil => cases h
  | cons y r => cases r with
    | nil => exact ⟨y, rfl, by simpa using h⟩
    | cons _ _ => simp at h
theorem d2 {ys : List Y} {S : Sto} {d d' : D} (h : ys.map (fun y => den y S) = [d, d'].map some) : ∃ y z, ys = [y, z] ∧ den y S = some d ∧ den z S = some d' := by
  cases ys with
  | nil => cases h
  | cons y r => cases r with
    | nil => simp at h
    | cons z r => cases r with
      | nil => exact ⟨y, z, rfl, by simpa using h⟩
      | cons _ _ => simp at h
theorem sc_lenT : SC sLen [eT e xs] (.int xs.length) := fun ys S h => by
  obtain ⟨y, rfl, q⟩ := d1 h
  rw [den_tup q, s_lenT, List.length_map]
theorem sLen_l {y : Y} {S : Sto} {p : List D} (h : getS y S = some p) (hs : ∀ z, y ≠ .v (.str z)) : sLen [y] S = .ok (.v (.int p.length)) S := by
  cases y with
  | ref n => simp only [sLen, h]
  | v d => cases d with
    | str z => exact absurd rfl (hs z)
    | _ => simp only [sLen, h]
theorem den_nstr {y : Y} {S : Sto} {ds : List D} (h : den y S = some (.lst ds)) : ∀ z, y ≠ .v (.str z) := fun z q => by subst q; cases h
theorem sc_lenL : SC sLen [eL e xs] (.int xs.length) := fun ys S h => by
  obtain ⟨y, rfl, q⟩ := d1 h
  rw [sLen_l (den_l q).2.1 (den_nstr q), List.length_map]
theorem sc_tupL : SC sTuple [eL e xs] (eT e xs) := fun ys S h => by
  obtain ⟨y, rfl, q⟩ := d1 h
  simp only [sTuple, (den_l q).2.1]
theorem sc_tupT : SC sTuple [eT e xs] (eT e xs) := fun ys S h => by
  obtain ⟨y, rfl, q⟩ := d1 h
  rw [den_tup q, s_tupT]
theorem sc_listT : SC (sList false) [eT e xs] (eL e xs) := fun ys S h => by
  obtain ⟨y, rfl, q⟩ := d1 h
  rw [den_tup q, s_listT]; rfl
theorem sc_listL : SC (sList false) [eL e xs] (eL e xs) := fun ys S h => by
  obtain ⟨y, rfl, q⟩ := d1 h
  cases y with
  | ref n => simp only [sList, (den_l q).2.1]; rfl
  | v d => cases q; rfl
theorem sc_abs : SC sAbs [.int a] (.int (absI a)) := fun ys S h => by
  obtain ⟨y, rfl, q⟩ := d1 h
  rw [den_int q]; rfl
theorem sc_int : SC sInt [.int a] (.int a) := fun ys S h => by
  obtain ⟨y, rfl, q⟩ := d1 h
  rw [den_int q]; rfl
theorem sc_intB {b : Bool} : SC sInt [.bl b] (.int (if b = true then 1 else 0)) := fun ys S h => by
  obtain ⟨y, rfl, q⟩ := d1 h
  rw [den_bl q]; rfl
theorem sc_max2 : SC sMax2 [.int a, .int b] (.int (maxJ a b)) := fun ys S h => by
  obtain ⟨y, z, rfl, q, q2⟩ := d2 h
  rw [den_int q, den_int q2]; rfl
theorem sc_min2 : SC sMin2 [.int a, .int b] (.int (minJ a b)) := fun ys S h => by
  obtain ⟨y, z, rfl, q, q2⟩ := d2 h
  rw [den_int q, den_int q2]; rfl
theorem sc_max1 {ns : List Int} (h0 : ns ≠ []) : SC sMax1 [eL eI ns] (.int (maxI ns)) := fun ys S h => by
  obtain ⟨y, rfl, q⟩ := d1 h
  simp only [sMax1, (den_l q).1, intsD_map, if_neg h0]
theorem sc_min1 {ns : List Int} (h0 : ns ≠ []) : SC sMin1 [eL eI ns] (.int (minI ns)) := fun ys S h => by
  obtain ⟨y, rfl, q⟩ := d1 h
  simp only [sMin1, (den_l q).1, intsD_map, if_neg h0]
theorem sc_sumL {ns : List Int} : SC sSum [eL eI ns] (.int ns.sum) := fun ys S h => by
  obtain ⟨y, rfl, q⟩ := d1 h
  simp only [sSum, (den_l q).2.1, intsD_map]
theorem sc_sumT {ns : List Int} : SC sSum [eT eI ns] (.int ns.sum) := fun ys S h => by
  obtain ⟨y, rfl, q⟩ := d1 h
  rw [den_tup q]; simp only [sSum, getS, intsD_map]
theorem blsD_map' : ∀ bs : List Bool, blsD (bs.map D.bl) = some bs
  | [] => rfl
  | b :: bs => by simp [blsD, blsD_map' bs]
theorem sc_all {bs : List Bool} : SC sAll [eL eB bs] (.bl (bs.all id)) := fun ys S h => by
  obtain ⟨y, rfl, q⟩ := d1 h
  simp only [sAll, (den_l q).1, blsD_map']
theorem sc_any {bs : List Bool} : SC sAny [eL eB bs] (.bl (bs.any id)) := fun ys S h => by
  obtain ⟨y, rfl, q⟩ := d1 h
  simp only [sAny, (den_l q).1, blsD_map']
theorem sc_sortL {ns : List Int} : SC (sSortedU false) [eL eI ns] (eL eI (sortI ns)) := fun ys S h => by
  obtain ⟨y, rfl, q⟩ := d1 h
  cases y with
  | ref n => simp only [sSortedU, sSortedI, (den_l q).1, intsD_map, newL_f]
  | v d => cases q; simp only [sSortedU, sSortedI, getL, intsD_map, newL_f]
theorem sc_sortT {ns : List Int} : SC (sSortedU false) [eT eI ns] (eL eI (sortI ns)) := fun ys S h => by
  obtain ⟨y, rfl, q⟩ := d1 h
  rw [den_tup q, s_sortU]
theorem sc_sset {ns : List Int} (h0 : ns.length < 63) : SC (sSset false) [eT eI ns] (eL eI (ssort ns)) := fun ys S h => by
  obtain ⟨y, rfl, q⟩ := d1 h
  rw [den_tup q]; simp only [sSset, intsD_map, h0, if_true, newL_f]
end
/-! ### equality -/
structure EqD {α : Type} (e : α → D) (n : Nat) : Prop where
  eqv : ∀ a b, D.eqv (e a) (e b) = true ↔ a = b
  pln : ∀ a, (e a).pln = true
  dep : ∀ a, (e a).dep ≤ n
theorem qI : EqD eI 0 := ⟨fun a b => by simp [D.eqv], fun _ => rfl, fun _ => by simp [D.dep]⟩
theorem qB : EqD eB 0 := ⟨fun a b => by simp [D.eqv], fun _ => rfl, fun _ => by simp [D.dep]⟩
theorem eqvL_map {α : Type} {e : α → D} (h : ∀ a b, D.eqv (e a) (e b) = true ↔ a = b) : ∀ xs ys : List α, D.eqvL (xs.map e) (ys.map e) = true ↔ xs = ys
  | [], [] => by simp [D.eqvL]
  | [], _ :: _ => by simp [D.eqvL]
  | _ :: _, [] => by simp [D.eqvL]
  | x :: xs, y :: ys => by simp [D.eqvL, h x y, eqvL_map h xs ys]
theorem plnL_map {α : Type} {e : α → D} (h : ∀ a, (e a).pln = true) (xs : List α) : D.plnL (xs.map e) = true := plnL_of fun d hd => by
  obtain ⟨x, _, rfl⟩ := List.mem_map.mp hd; exact h x
theorem depL_map {α : Type} {e : α → D} {n : Nat} (h : ∀ a, (e a).dep ≤ n) (xs : List α) : D.depL (xs.map e) ≤ n := depL_le fun d hd => by
  obtain ⟨x, _, rfl⟩ := List.mem_map.mp hd; exact h x
theorem qT {α : Type} {e : α → D} {n : Nat} (h : EqD e n) : EqD (eT e) (n + 1) := ⟨fun a b => by simp only [D.eqv]; exact eqvL_map h.eqv a b, fun a => by simp only [D.pln]; exact plnL_map h.pln a, fun a => by simp only [D.dep]; have := depL_map h.dep a; omega⟩
theorem qL {α : Type} {e : α → D} {n : Nat} (h : EqD e n) : EqD (eL e) (n + 1) := ⟨fun a b => by simp only [D.eqv]; exact eqvL_map h.eqv a b, fun a => by simp only [D.pln]; exact plnL_map h.pln a, fun a => by simp only [D.dep]; have := depL_map h.dep a; omega⟩
theorem qP {α β : Type} {e : α → D} {f : β → D} {n k : Nat} (h : EqD e n) (g : EqD f k) : EqD (eP e f) (max n k + 1) := ⟨fun a b => by
  simp only [D.eqv, D.eqvL, Bool.and_true, Bool.and_eq_true, h.eqv, g.eqv]
  exact ⟨fun z => Prod.ext z.1 z.2, fun z => by subst z; exact ⟨rfl, rfl⟩⟩, fun a => by simp [D.pln, D.plnL, h.pln, g.pln], fun a => by
  simp only [D.dep, D.depL]
  have := h.dep a.1
  have := g.dep a.2
  omega⟩
theorem qP3 {α β γ : Type} {e : α → D} {f : β → D} {g : γ → D} {n k l : Nat} (h : EqD e n) (hf : EqD f k) (hg : EqD g l) : EqD (eP3 e f g) (max n (max k l) + 1) := ⟨fun a b => by
  simp only [D.eqv, D.eqvL, Bool.and_true, Bool.and_eq_true, h.eqv, hf.eqv, hg.eqv]
  exact ⟨fun z => Prod.ext z.1 (Prod.ext z.2.1 z.2.2), fun z => by subst z; exact ⟨rfl, rfl, rfl⟩⟩, fun a => by simp [D.pln, D.plnL, h.pln, hf.pln, hg.pln], fun a => by
  simp only [D.dep, D.depL]
  have := h.dep a.1
  have := hf.dep a.2.1
  have := hg.dep a.2.2
  omega⟩
theorem EqD.eqk {α : Type} {e : α → D} {n : Nat} (h : EqD e n) (hn : n ≤ 60) (a : α) : (e a).eqk = true := by
  have := h.dep a
  simp only [D.eqk, h.pln, Bool.true_and, decide_eq_true_eq]; omega
theorem den_getD {y : Y} {S : Sto} {d : D} (h : den y S = some d) (hd : ∀ ks vs, d ≠ .dic ks vs) : getD y S = some d := by
  cases y with
  | v e => cases h; rfl
  | ref n =>
    simp only [den] at h
    split at h
    · rename_i q; cases h; simp only [getD, q]
    · cases h; exact absurd rfl (hd _ _)
    · cases h
theorem EqD.nd {α : Type} {e : α → D} {n : Nat} (h : EqD e n) (a : α) : ∀ ks vs, e a ≠ .dic ks vs := fun ks vs q => by
  have := h.pln a
  rw [q] at this; cases this
theorem EqD.dec {α : Type} {e : α → D} {n : Nat} (h : EqD e n) (a b : α) [Decidable (a = b)] : D.eqv (e a) (e b) = decide (a = b) := by
  by_cases q : a = b
  · rw [decide_eq_true q]; exact (h.eqv a b).mpr q
  · rw [decide_eq_false q]
    cases g : D.eqv (e a) (e b) with
    | true => exact absurd ((h.eqv a b).mp g) q
    | false => rfl
theorem sb_eq {α : Type} {e : α → D} {n : Nat} (h : EqD e n) (hn : n ≤ 60) {a b : α} [Decidable (a = b)] : SB sEq (e a) (e b) (.bl (decide (a = b))) := fun x y S h1 h2 => by
  rw [s_eq (den_getD h1 (h.nd a)) (den_getD h2 (h.nd b)) (h.eqk hn a) (h.eqk hn b), h.dec]
theorem sb_ne {α : Type} {e : α → D} {n : Nat} (h : EqD e n) (hn : n ≤ 60) {a b : α} [Decidable (a ≠ b)] : SB sNe (e a) (e b) (.bl (decide (a ≠ b))) := fun x y S h1 h2 => by
  rw [s_ne (den_getD h1 (h.nd a)) (den_getD h2 (h.nd b)) (h.eqk hn a) (h.eqk hn b)]
  congr 3
  by_cases q : a = b
  · rw [decide_eq_false (fun z => z q), (h.eqv a b).mpr q]; rfl
  · rw [decide_eq_true q]
    cases g : D.eqv (e a) (e b) with
    | true => exact absurd ((h.eqv a b).mp g) q
    | false => rfl
theorem sb_eqA {a b : D} (h1 : a.eqk = true) (h2 : b.eqk = true) : SB sEq a b (.bl (D.eqv a b)) := fun x y S g1 g2 => s_eq (den_getD g1 (fun _ _ q => by subst q; cases h1)) (den_getD g2 (fun _ _ q => by subst q; cases h2)) h1 h2
theorem sb_neA {a b : D} (h1 : a.eqk = true) (h2 : b.eqk = true) : SB sNe a b (.bl (!D.eqv a b)) := fun x y S g1 g2 => s_ne (den_getD g1 (fun _ _ q => by subst q; cases h1)) (den_getD g2 (fun _ _ q => by subst q; cases h2)) h1 h2
theorem mem_map_eq {α : Type} {e : α → D} {n : Nat} (h : EqD e n) (x : α) [DecidableEq α] : ∀ xs : List α, D.mem (e x) (xs.map e) = decide (x ∈ xs)
  | [] => by simp [D.mem]
  | y :: ys => by
    have ih := mem_map_eq h x ys
    simp only [D.mem, List.map_cons, List.any_cons] at ih ⊢
    rw [ih, h.dec y x]
    by_cases h1 : y = x
    · subst h1; simp
    · have h3 : ¬ x = y := fun g => h1 g.symm
      simp [h1, h3]
theorem eqk_tupM {α : Type} {e : α → D} {n : Nat} (h : EqD e n) (hn : n ≤ 59) (xs : List α) : (D.tup (xs.map e)).eqk = true := (qT h).eqk (by omega) xs
theorem sb_inT {α : Type} {e : α → D} {n : Nat} (h : EqD e n) (hn : n ≤ 59) {x : α} {xs : List α} [DecidableEq α] : SB (sIn false) (e x) (eT e xs) (.bl (decide (x ∈ xs))) := fun y z S h1 h2 => by
  have g1 := den_getD h1 (h.nd x)
  rw [den_tup h2]
  simp only [sIn, g1, getS, h.eqk (by omega) x, eqk_tupM h hn, and_self, if_true, mem_map_eq h, Bool.false_xor]
theorem sb_inL {α : Type} {e : α → D} {n : Nat} (h : EqD e n) (hn : n ≤ 59) {x : α} {xs : List α} [DecidableEq α] : SB (sIn false) (e x) (eL e xs) (.bl (decide (x ∈ xs))) := fun y z S h1 h2 => by
  have g1 := den_getD h1 (h.nd x)
  simp only [sIn, g1, (den_l h2).2.1, h.eqk (by omega) x, eqk_tupM h hn, and_self, if_true, mem_map_eq h, Bool.false_xor]
theorem sb_ninT {α : Type} {e : α → D} {n : Nat} (h : EqD e n) (hn : n ≤ 59) {x : α} {xs : List α} [DecidableEq α] : SB (sIn true) (e x) (eT e xs) (.bl (decide (¬ x ∈ xs))) := fun y z S h1 h2 => by
  have g1 := den_getD h1 (h.nd x)
  rw [den_tup h2]
  simp only [sIn, g1, getS, h.eqk (by omega) x, eqk_tupM h hn, and_self, if_true, mem_map_eq h]
  by_cases q : x ∈ xs <;> simp [q]
theorem sb_ninL {α : Type} {e : α → D} {n : Nat} (h : EqD e n) (hn : n ≤ 59) {x : α} {xs : List α} [DecidableEq α] : SB (sIn true) (e x) (eL e xs) (.bl (decide (¬ x ∈ xs))) := fun y z S h1 h2 => by
  have g1 := den_getD h1 (h.nd x)
  simp only [sIn, g1, (den_l h2).2.1, h.eqk (by omega) x, eqk_tupM h hn, and_self, if_true, mem_map_eq h]
  by_cases q : x ∈ xs <;> simp [q]
theorem sb_inA {x : D} {xs : List D} (h1 : x.eqk = true) (h2 : (D.tup xs).eqk = true) : SB (sIn false) x (.tup xs) (.bl (D.mem x xs)) := fun y z S g1 g2 => by
  rw [den_tup g2]
  simp only [sIn, den_getD g1 (fun _ _ q => by subst q; cases h1), getS, h1, h2, and_self, if_true, Bool.false_xor]
theorem sb_ninA {x : D} {xs : List D} (h1 : x.eqk = true) (h2 : (D.tup xs).eqk = true) : SB (sIn true) x (.tup xs) (.bl (!D.mem x xs)) := fun y z S g1 g2 => by
  rw [den_tup g2]
  simp only [sIn, den_getD g1 (fun _ _ q => by subst q; cases h1), getS, h1, h2, and_self, if_true, Bool.true_xor]
theorem is_vN {x : Y} {S : Sto} {n : Bool} (h : ∀ z, x = .v z → z ≠ .non) : sIs n x (.v .non) S = .ok (.v (.bl n)) S := by
  cases x with
  | ref k => rfl
  | v d => cases d with
    | non => exact absurd rfl (h _ rfl)
    | _ => rfl
theorem sb_isO {α : Type} {e : α → D} (h : ∀ a, e a ≠ .non) {x : Option α} : SB (sIs false) (eO e x) .non (.bl x.isNone) := fun y z S h1 h2 => by
  rw [den_non h2]
  cases x with
  | none => rw [den_non (show den y S = some .non from h1)]; rfl
  | some a => rw [is_vN (fun d q => by subst q; have : some d = some (e a) := h1; cases this; exact h a)]; rfl
theorem sb_isnO {α : Type} {e : α → D} (h : ∀ a, e a ≠ .non) {x : Option α} : SB (sIs true) (eO e x) .non (.bl x.isSome) := fun y z S h1 h2 => by
  rw [den_non h2]
  cases x with
  | none => rw [den_non (show den y S = some .non from h1)]; rfl
  | some a => rw [is_vN (fun d q => by subst q; have : some d = some (e a) := h1; cases this; exact h a)]; rfl
theorem sb_isB {a b : Bool} : SB (sIs false) (.bl a) (.bl b) (.bl (a == b)) := fun y z S h1 h2 => by rw [den_bl h1, den_bl h2]; simp [sIs]
theorem sb_isnB {a b : Bool} : SB (sIs true) (.bl a) (.bl b) (.bl (!(a == b))) := fun y z S h1 h2 => by rw [den_bl h1, den_bl h2]; simp [sIs]
/-! ### kinds of data -/
def isT (T : String) (d : D) : Bool := match tyD d with
  | some t => isSub t T
  | none => false
theorem sc_isi {T : String} {d : D} (hT : tyOk T = true) (hd : (tyD d).isSome = true) : SC sIsi [d, .ty T] (.bl (isT T d)) := fun ys S h => by
  obtain ⟨y, z, rfl, q, q2⟩ := d2 h
  rw [den_ty q2]
  have e : tyY y S = tyD d := by
    cases y with
    | v e => cases q; rfl
    | ref n =>
      simp only [den] at q
      split at q
      · rename_i g; cases q; simp only [tyY, g]; rfl
      · cases q; cases hd
      · cases q
  cases g : tyD d with
  | none => rw [g] at hd; cases hd
  | some t => simp only [sIsi, e, g, hT, if_true, isT]
def dIt : D → List D
  | .tup ds => ds
  | .lst ds => ds
  | _ => []
def isSq : D → Bool
  | .tup _ => true
  | .lst _ => true
  | _ => false
def asI : D → Int
  | .int i => i
  | _ => 0
def asT {α : Type} (f : D → α) (d : D) : List α := (dIt d).map f
/-! ### iterables, targets, comprehensions -/
section
variable {m m1 m2 : List Sl} {f g h : FE Y} {fs : FE (List Y)} {t u : FE Bool} {d a b z : D} {ds es : List D} {i : Nat} {fi : FE (List D)}
theorem pi_T {α : Type} {e : α → D} {xs : List α} (h : PV m f (eT e xs)) : PIt m (fItS f) (xs.map e) := pi_tup h
theorem pi_L {α : Type} {e : α → D} {xs : List α} (h : PV m f (eL e xs)) : PIt m (fItS f) (xs.map e) := pi_lst h
theorem pi_A {d : D} (h : PV m f d) (hs : isSq d = true) : PIt m (fItS f) ((dIt d).map eA) := fun B env S r => by
  simp only [fItS, h B env S r, Res.bind]
  cases d with
  | tup ds => simp [itS, dIt, eA]
  | lst ds => simp [itS, dIt, eA]
  | _ => cases hs
abbrev rOk (a : Int) : Prop := -4611686018427387904 ≤ a ∧ a < 4611686018427387904
theorem okR_of' {a : Int} (h : rOk a) : okR a = true := decide_eq_true ⟨by have := h.1; omega, by have := h.2; omega⟩
theorem pi_rng1 {b : Int} (h : PV m f (.int b)) (hb : rOk b) : PIt m (fIt sRng1 (fCons f fNil)) ((rng 0 b).map eI) := fun B env S r => by
  simp only [fIt, fCons, h B env S r, Res.bind, fNil]
  rw [s_rng1 (okR_of' hb)]
  simp [rngD, rng, eI]
theorem pi_rng2 {a b : Int} (h : PV m f (.int a)) (h' : PV m g (.int b)) (ha : rOk a) (hb : rOk b) : PIt m (fIt sRng2 (fCons f (fCons g fNil))) ((rng a b).map eI) := fun B env S r => by
  simp only [fIt, fCons, h B env S r, h' B env S r, Res.bind, fNil]
  rw [s_rng2 (okR_of' ha) (okR_of' hb)]
  simp [rngD, rng, eI]
theorem pi_rng3 {a b : Int} (h : PV m f (.int a)) (h' : PV m g (.int b)) (ha : rOk a) (hb : rOk b) : PIt m (fIt sRng3 (fCons f (fCons g (fCons (fUn sNeg (fC (.int 1))) fNil)))) ((rngdn a b).map eI) := fun B env S r => by
  simp only [fIt, fCons, h B env S r, h' B env S r, Res.bind, fNil, fUn, fC, sNeg]
  rw [s_rng3 (okR_of' ha) (okR_of' hb)]
  simp [rngC, rngdn, eI]
theorem enumL_map {α : Type} (e : α → D) : ∀ (k : Nat) (xs : List α), enumL k (xs.map e) = (numbr k xs).map (eP eI e)
  | _, [] => rfl
  | k, x :: xs => by simp [enumL, numbr, enumL_map e (k + 1) xs]
theorem zipL_map {α β : Type} (e : α → D) (f : β → D) : ∀ (xs : List α) (ys : List β), zipL (xs.map e) (ys.map f) = (xs.zip ys).map (eP e f)
  | [], _ => by simp [zipL]
  | _ :: _, [] => by simp [zipL]
  | x :: xs, y :: ys => by simp [zipL, zipL_map e f xs ys]
/-- what may be walked -/
inductive Wkb : D → List D → Prop
  | tup (ds : List D) : Wkb (.tup ds) ds
  | lst (ds : List D) : Wkb (.lst ds) ds
theorem its_wkb (h : Wkb d ds) (S : Sto) : itS (.v d) S = .ok ds S := by cases h <;> rfl
theorem pi_enum {α : Type} {e : α → D} {xs : List α} (h : PV m f d) (w : Wkb d (xs.map e)) : PIt m (fIt (itS1 (enumL 0)) (fCons f fNil)) ((numbr 0 xs).map (eP eI e)) := fun B env S r => by
  simp only [fIt, fCons, h B env S r, Res.bind, fNil, itS1, its_wkb w, enumL_map]
theorem pi_zip {α β : Type} {e : α → D} {e' : β → D} {xs : List α} {ys : List β} (h : PV m f a) (h' : PV m g b) (w : Wkb a (xs.map e)) (w' : Wkb b (ys.map e')) : PIt m (fIt (itS2 zipL) (fCons f (fCons g fNil))) ((xs.zip ys).map (eP e e')) := fun B env S r => by
  simp only [fIt, fCons, h B env S r, h' B env S r, Res.bind, fNil, itS2, its_wkb w, its_wkb w', zipL_map]
theorem gt_nm : GT (.nm i) d m (m.set i (.va d)) := fun B env S r => ⟨_, rfl, r.setV⟩
theorem gt_tp {ts : List Tg} (h : GTs ts ds m m1) : GT (.tp ts) (.tup ds) m m1 := fun B env S r => h B env S r
theorem gts_nil : GTs [] [] m m := fun B env S r => ⟨env, rfl, r⟩
theorem gts_cons {t : Tg} {ts : List Tg} (h : GT t d m m1) (h' : GTs ts ds m1 m2) : GTs (t :: ts) (d :: ds) m m2 := fun B env S r => by
  obtain ⟨env1, e1, r1⟩ := h B env S r
  obtain ⟨env2, e2, r2⟩ := h' B env1 S r1
  exact ⟨env2, by simp only [Tg.asgL, e1, e2], r2⟩
def wipeM : List Nat → List Sl → List Sl
  | [], m => m
  | v :: vs, m => (wipeM vs m).set v .un
theorem Rel.wipe {B : Sto} {env : Ev} {S : Sto} (h : Rel B m env S) : ∀ vs : List Nat, Rel B (wipeM vs m) (wipeE vs env) S
  | [] => h
  | v :: vs => (Rel.wipe h vs).setU none
theorem pv_lc {α β : Type} {c : α → D} {e : β → D} {l : List α} {p : α → Prop} [DecidablePred p] {k : α → β} {vs : List Nat} {t : Tg} {ft : FE Bool} {fe : FE Y} {m1 : α → List Sl} (hi : PIt m fi (l.map c)) (hl : szOk l.length)
    (hb : ∀ x ∈ l, GT t (c x) (wipeM vs m) (m1 x) ∧ PB (m1 x) ft (p x) ∧ (p x → PV (m1 x) fe (e (k x)))) : PV m (fLc false vs fi t ft fe) (eL e ((l.filter fun x => decide (p x)).map k)) := fun B env S r => by
  rw [lc_map (m := false) l c (fun x => decide (p x)) (fun x => e (k x)) (hi B env S r) rfl hl fun x hx => by
    obtain ⟨h1, h2, h3⟩ := hb x hx
    obtain ⟨env1, e1, r1⟩ := h1 B _ S (r.wipe vs)
    exact ⟨env1, e1, h2.dec B env1 S r1, fun q => h3 (of_decide_eq_true q) B env1 S r1⟩]
  simp only [newL_f, eL, List.map_map]; rfl
theorem pv_lcy {α β : Type} {c : α → D} {e : β → D} {l : List α} {k : α → β} {vs : List Nat} {t : Tg} {fe : FE Y} {m1 : α → List Sl} (hi : PIt m fi (l.map c)) (hl : szOk l.length)
    (hb : ∀ x ∈ l, GT t (c x) (wipeM vs m) (m1 x) ∧ PV (m1 x) fe (e (k x))) : PV m (fLc false vs fi t fYes fe) (eL e (l.map k)) := fun B env S r => by
  rw [lc_yes (m := false) l c (fun x => e (k x)) (hi B env S r) rfl hl fun x hx => by
    obtain ⟨h1, h3⟩ := hb x hx
    obtain ⟨env1, e1, r1⟩ := h1 B _ S (r.wipe vs)
    exact ⟨env1, e1, h3 B env1 S r1⟩]
  simp only [newL_f, eL, List.map_map]; rfl
/-- the elements themselves, chosen -/
theorem pv_lcf {α : Type} {c : α → D} {l : List α} {p : α → Prop} [DecidablePred p] {vs : List Nat} {t : Tg} {ft : FE Bool} {fe : FE Y} {m1 : α → List Sl} (hi : PIt m fi (l.map c)) (hl : szOk l.length)
    (hb : ∀ x ∈ l, GT t (c x) (wipeM vs m) (m1 x) ∧ PB (m1 x) ft (p x) ∧ (p x → PV (m1 x) fe (c x))) : PV m (fLc false vs fi t ft fe) (eL c (l.filter fun x => decide (p x))) := fun B env S r => by
  have := pv_lc (e := c) (k := id) hi hl hb B env S r
  simpa using this
/-! slices -/
theorem cut_map' {α β : Type} (e : α → β) (xs : List α) (lo hi : Option Int) : cut (xs.map e) lo hi = (cut xs lo hi).map e := by
  unfold cut; rw [List.length_map, List.map_take, List.map_drop]
theorem po_none : PO m fNoP none := fun _ _ _ _ => rfl
theorem po_some {a : Int} (h : PV m f (.int a)) : PO m (fPart f) (some a) := fun B env S r => by simp only [fPart, h B env S r, Res.bind]
theorem pv_slT {α : Type} {e : α → D} {xs : List α} {mm : Bool} {lo hi : FE (Option Int)} {l u : Option Int} (h : PV m f (eT e xs)) (h1 : PO m lo l) (h2 : PO m hi u) : PV m (fSl mm f lo hi) (eT e (cut xs l u)) := fun B env S r => by
  simp only [fSl, h B env S r, h1 B env S r, h2 B env S r, Res.bind, sSl, cut_map']
theorem pv_slL {α : Type} {e : α → D} {xs : List α} {lo hi : FE (Option Int)} {l u : Option Int} (h : PR m f (eL e xs)) (h1 : PO m lo l) (h2 : PO m hi u) : PV m (fSl false f lo hi) (eL e (cut xs l u)) := fun B env S r => by
  obtain ⟨y, e1, q⟩ := h B env S r
  simp only [fSl, e1, h1 B env S r, h2 B env S r, Res.bind]
  cases y with
  | ref n => simp only [sSl, (den_l q).1, newL_f, cut_map']
  | v d => cases q; simp only [sSl, getL, newL_f, cut_map']
/-! chains a < b < c -/
theorem pv_chain {s1 s2 : Y → Y → Sto → Res Y} {p q : Prop} [Decidable p] [Decidable q] (hf : PV m f a) (hg : PV m g b) (hs : SB s1 a b (.bl (decide p))) (hh : p → PV m h z) (hs2 : p → SB s2 b z (.bl (decide q))) : PV m (fChain s1 s2 f g h) (.bl (decide (p ∧ q))) := fun B env S r => by
  simp only [fChain, hf B env S r, hg B env S r, Res.bind, hs (.v a) (.v b) S rfl rfl]
  by_cases hp : p
  · simp only [hp, decide_true, hh hp B env S r, Res.bind, true_and]
    exact hs2 hp (.v b) (.v z) S rfl rfl
  · simp [hp]
theorem pb_chain {s1 s2 : Y → Y → Sto → Res Y} {p q : Prop} [Decidable p] [Decidable q] (hf : PV m f a) (hg : PV m g b) (hs : SB s1 a b (.bl (decide p))) (hh : p → PV m h z) (hs2 : p → SB s2 b z (.bl (decide q))) : PB m (fTest (fChain s1 s2 f g h)) (p ∧ q) := pb_test (pv_chain hf hg hs hh hs2)
theorem pb_bin {sem : Y → Y → Sto → Res Y} {p : Prop} [Decidable p] (hf : PR m f a) (hg : PR m g b) (hs : SB sem a b (.bl (decide p))) : PB m (fTest (fBin sem f g)) p := pb_test (pv_bin hf hg hs)
theorem pb_binB {sem : Y → Y → Sto → Res Y} {p : Bool} (hf : PR m f a) (hg : PR m g b) (hs : SB sem a b (.bl p)) : PB m (fTest (fBin sem f g)) (p = true) := ⟨p, Iff.rfl, fun B env S r => by simp only [fTest, pv_bin hf hg hs B env S r]; rfl⟩
theorem pb_truI {a : Int} (h : PV m f (.int a)) : PB m (fTru f) (a ≠ 0) := pb_of fun B env S r => by
  simp only [fTru, h B env S r, Res.bind, truY]
  by_cases q : a = 0 <;> simp [q]
end
end Sg

/-! T3: statements of defs without draws, by their typed values -/
namespace Sg
open PySem PySem.Spec PyProof.Rows L2
/-! ### values that may be new things, names that die -/
inductive AK where
  | v (d : D) | l (ds : List D) | dc (ks vs : List D)
def AK.y : AK → Sto → Y
  | .v d, _ => .v d
  | .l _, S => .ref S.length
  | .dc _ _, S => .ref S.length
def AK.st : AK → Sto → Sto
  | .v _, S => S
  | .l ds, S => S ++ [.lst ds]
  | .dc ks vs, S => S ++ [.dic ks vs]
def AK.sl : AK → Sl
  | .v d => .va d
  | .l ds => .mu (.lst ds)
  | .dc ks vs => .mu (.dic ks vs)
def PX (m : List Sl) (f : FE Y) (k : AK) (m' : List Sl) : Prop := ∀ B env S, Rel B m env S → ∃ S1, f env S = .ok (k.y S1) (k.st S1) ∧ Rel B m' env S1
def PXs (m : List Sl) (fs : FE (List Y)) (ds : List D) (m' : List Sl) : Prop := ∀ B env S, Rel B m env S → ∃ S1, fs env S = .ok (ds.map Y.v) S1 ∧ Rel B m' env S1
def PN (m : List Sl) (f : FE Y) (k : AK) : Prop := ∀ B env S, Rel B m env S → f env S = .ok (k.y S) (k.st S)
/-- a value that is put into another thing -/
def PH (m : List Sl) (f : FE Y) (d : D) (m' : List Sl) : Prop := ∀ B env S, Rel B m env S → ∃ y S1 S2, f env S = .ok y S1 ∧ thaw1 y S1 = .ok d S2 ∧ Rel B m' env S2
def PXI (m : List Sl) (fi : FE (List D)) (ds : List D) (m' : List Sl) : Prop := ∀ B env S, Rel B m env S → ∃ S1, fi env S = .ok ds S1 ∧ Rel B m' env S1
section
variable {m m1 m2 m3 : List Sl} {f g h : FE Y} {fs : FE (List Y)} {t u : FE Bool} {d a b z : D} {ds es : List D} {i j : Nat} {fi : FE (List D)} {B : Sto} {env : Ev} {S : Sto}
theorem Rel.setK (r : Rel B m env S) (k : AK) : Rel B (m.set i k.sl) (env.set i (some (k.y S))) (k.st S) := by
  cases k with
  | v d => exact r.setV
  | l ds => exact (r.new (.lst ds)).named i
  | dc ks vs => exact (r.new (.dic ks vs)).named i
theorem Rel.growK (r : Rel B m env S) (k : AK) : Rel B m env (k.st S) := by
  cases k with
  | v d => exact r
  | l ds => exact r.grow _
  | dc ks vs => exact r.grow _
theorem px_v (h : PV m f d) : PX m f (.v d) m := fun B env S r => ⟨S, h B env S r, r⟩
theorem px_n {k : AK} (h : PN m f k) : PX m f k m := fun B env S r => ⟨S, h B env S r, r⟩
theorem pn_v (h : PV m f d) : PN m f (.v d) := h
theorem px_kill (hi : m[i]? = some (.mu (.lst ds))) : PX m (fFrz (fVar i)) (.v (.lst ds)) (m.set i .un) := fun B env S r => by
  obtain ⟨n, e1, e2, e3⟩ := r.mu i _ hi
  refine ⟨S.set n .gone, ?_, r.gone hi e1 _⟩
  simp only [fFrz, fVar, e1, Res.bind, frz, e3]; rfl
theorem px_killd {ks vs : List D} (hi : m[i]? = some (.mu (.dic ks vs))) : PX m (fFrz (fVar i)) (.v (.dic ks vs)) (m.set i .un) := fun B env S r => by
  obtain ⟨n, e1, e2, e3⟩ := r.mu i _ hi
  refine ⟨S.set n .gone, ?_, r.gone hi e1 _⟩
  simp only [fFrz, fVar, e1, Res.bind, frz, e3]; rfl
theorem px_frz (h : PX m f (.v d) m1) : PX m (fFrz f) (.v d) m1 := fun B env S r => by
  obtain ⟨S1, e1, r1⟩ := h B env S r
  exact ⟨S1, by simp only [fFrz, e1, Res.bind]; rfl, r1⟩
theorem pv_frz (h : PV m f d) : PV m (fFrz f) d := fun B env S r => by
  simp only [fFrz, h B env S r, Res.bind]; rfl
theorem pn_lst (h : PVs m fs ds) (hz : szOk ds.length) : PN m (fLst true fs) (.l ds) := fun B env S r => by
  simp only [fLst, h B env S r, Res.bind, thaw_vals, okLen_of hz, if_true, newL_t]; rfl
theorem pn_newd : PN m (fNewD true) (.dc [] []) := fun B env S r => rfl
/-- an operator that makes a list -/
def SBN (sem : Y → Y → Sto → Res Y) (a b : D) (ds : List D) : Prop := ∀ x y S, den x S = some a → den y S = some b → sem x y S = .ok (.ref S.length) (S ++ [.lst ds])
def SCN (sem : List Y → Sto → Res Y) (as : List D) (ds : List D) : Prop := ∀ ys S, ys.map (fun y => den y S) = as.map some → sem ys S = .ok (.ref S.length) (S ++ [.lst ds])
theorem pn_binN {sem : Y → Y → Sto → Res Y} (hf : PR m f a) (hg : PR m g b) (hs : SBN sem a b ds) : PN m (fBin sem f g) (.l ds) := fun B env S r => by
  obtain ⟨x, e1, d1⟩ := hf B env S r
  obtain ⟨y, e2, d2⟩ := hg B env S r
  simp only [fBin, e1, Res.bind, e2]
  exact hs x y S d1 d2
theorem pn_callN {sem : List Y → Sto → Res Y} (hf : PC m fs as) (hs : SCN sem as ds) : PN m (fCall sem fs) (.l ds) := fun B env S r => by
  obtain ⟨x, e1, d1⟩ := hf B env S r
  simp only [fCall, e1, Res.bind]
  exact hs x S d1
theorem sbn_catL {α : Type} {e : α → D} {xs ys : List α} (h : szOk (xs.length + ys.length)) : SBN (sAdd true) (eL e xs) (eL e ys) ((xs ++ ys).map e) := fun x y S h1 h2 => by
  rw [sAdd_l (den_l h1).1 (den_l h2).1]
  simp only [List.length_map]
  rw [if_pos (okLen_of h), newL_t, List.map_append]
theorem sbn_repL {α : Type} {e : α → D} {xs : List α} {k : Int} (h : okRp k xs.length) : SBN (sMul true) (eL e xs) (.int k) ((rep k xs).map e) := fun x y S h1 h2 => by
  rw [den_int h2, sMul_l (den_l h1).1]
  simp only [List.length_map, okRp_of h, if_true, rep_map, newL_t]
theorem scn_listT {α : Type} {e : α → D} {xs : List α} : SCN (sList true) [eT e xs] (xs.map e) := fun ys S h => by
  obtain ⟨y, rfl, q⟩ := d1 h
  rw [den_tup q]; rfl
theorem scn_listL {α : Type} {e : α → D} {xs : List α} : SCN (sList true) [eL e xs] (xs.map e) := fun ys S h => by
  obtain ⟨y, rfl, q⟩ := d1 h
  cases y with
  | ref n => simp only [sList, (den_l q).2.1]; rfl
  | v d => cases q; rfl
theorem pn_slL {α : Type} {e : α → D} {xs : List α} {lo hi : FE (Option Int)} {l u : Option Int} (h : PR m f (eL e xs)) (h1 : PO m lo l) (h2 : PO m hi u) : PN m (fSl true f lo hi) (.l ((cut xs l u).map e)) := fun B env S r => by
  obtain ⟨y, e1, q⟩ := h B env S r
  simp only [fSl, e1, h1 B env S r, h2 B env S r, Res.bind]
  cases y with
  | ref n => simp only [sSl, (den_l q).1, newL_t, cut_map']; rfl
  | v d => cases q; simp only [sSl, getL, newL_t, cut_map']; rfl
/-! comprehensions into new lists, over dying names -/
theorem pxi_v (h : PIt m fi ds) : PXI m fi ds m := fun B env S r => ⟨S, h B env S r, r⟩
theorem pxi_T {α : Type} {e : α → D} {xs : List α} (h : PX m f (.v (eT e xs)) m1) : PXI m (fItS f) (xs.map e) m1 := fun B env S r => by
  obtain ⟨S1, e1, r1⟩ := h B env S r
  exact ⟨S1, by simp only [fItS, e1, Res.bind]; rfl, r1⟩
theorem pxi_L {α : Type} {e : α → D} {xs : List α} (h : PX m f (.v (eL e xs)) m1) : PXI m (fItS f) (xs.map e) m1 := fun B env S r => by
  obtain ⟨S1, e1, r1⟩ := h B env S r
  exact ⟨S1, by simp only [fItS, e1, Res.bind]; rfl, r1⟩
theorem pxi_enum {α : Type} {e : α → D} {xs : List α} (h : PX m f (.v d) m1) (w : Wkb d (xs.map e)) : PXI m (fIt (itS1 (enumL 0)) (fCons f fNil)) ((numbr 0 xs).map (eP eI e)) m1 := fun B env S r => by
  obtain ⟨S1, e1, r1⟩ := h B env S r
  exact ⟨S1, by simp only [fIt, fCons, e1, Res.bind, fNil, itS1, AK.y, AK.st, its_wkb w, enumL_map], r1⟩
theorem pxi_zip {α β : Type} {e : α → D} {e' : β → D} {xs : List α} {ys : List β} (h : PX m f (.v a) m1) (h' : PX m1 g (.v b) m2) (w : Wkb a (xs.map e)) (w' : Wkb b (ys.map e')) : PXI m (fIt (itS2 zipL) (fCons f (fCons g fNil))) ((xs.zip ys).map (eP e e')) m2 := fun B env S r => by
  obtain ⟨S1, e1, r1⟩ := h B env S r
  obtain ⟨S2, e2, r2⟩ := h' B env S1 r1
  exact ⟨S2, by simp only [fIt, fCons, e1, Res.bind, e2, fNil, itS2, AK.y, AK.st, its_wkb w, its_wkb w', zipL_map], r2⟩
theorem newL_k (mm : Bool) (ds : List D) (S : Sto) : newL mm ds S = .ok ((if mm = true then AK.l ds else AK.v (.lst ds)).y S) ((if mm = true then AK.l ds else AK.v (.lst ds)).st S) := by
  cases mm <;> rfl
theorem px_lcG {α β : Type} (mm : Bool) {c : α → D} {e : β → D} {l : List α} {p : α → Prop} [DecidablePred p] {k : α → β} {vs : List Nat} {t : Tg} {ft : FE Bool} {fe : FE Y} {m2 : α → List Sl} (hi : PXI m fi (l.map c) m1) (hl : szOk l.length)
    (hb : ∀ x ∈ l, GT t (c x) (wipeM vs m1) (m2 x) ∧ PB (m2 x) ft (p x) ∧ (p x → PV (m2 x) fe (e (k x)))) : PX m (fLc mm vs fi t ft fe) (if mm = true then AK.l (((l.filter fun x => decide (p x)).map k).map e) else .v (eL e ((l.filter fun x => decide (p x)).map k))) m1 := fun B env S r => by
  obtain ⟨S1, e1, r1⟩ := hi B env S r
  refine ⟨S1, ?_, r1⟩
  rw [lc_map (m := mm) l c (fun x => decide (p x)) (fun x => e (k x)) e1 rfl hl fun x hx => by
    obtain ⟨h1, h2, h3⟩ := hb x hx
    obtain ⟨env1, e1, r1⟩ := h1 B _ S1 (r1.wipe vs)
    exact ⟨env1, e1, h2.dec B env1 S1 r1, fun q => h3 (of_decide_eq_true q) B env1 S1 r1⟩]
  rw [newL_k]
  simp only [List.map_map, eL]; rfl
theorem px_lct {α β : Type} {c : α → D} {e : β → D} {l : List α} {p : α → Prop} [DecidablePred p] {k : α → β} {vs : List Nat} {t : Tg} {ft : FE Bool} {fe : FE Y} {m2 : α → List Sl} (hi : PXI m fi (l.map c) m1) (hl : szOk l.length)
    (hb : ∀ x ∈ l, GT t (c x) (wipeM vs m1) (m2 x) ∧ PB (m2 x) ft (p x) ∧ (p x → PV (m2 x) fe (e (k x)))) : PX m (fLc true vs fi t ft fe) (.l (((l.filter fun x => decide (p x)).map k).map e)) m1 := px_lcG true hi hl hb
theorem px_lcv {α β : Type} {c : α → D} {e : β → D} {l : List α} {p : α → Prop} [DecidablePred p] {k : α → β} {vs : List Nat} {t : Tg} {ft : FE Bool} {fe : FE Y} {m2 : α → List Sl} (hi : PXI m fi (l.map c) m1) (hl : szOk l.length)
    (hb : ∀ x ∈ l, GT t (c x) (wipeM vs m1) (m2 x) ∧ PB (m2 x) ft (p x) ∧ (p x → PV (m2 x) fe (e (k x)))) : PX m (fLc false vs fi t ft fe) (.v (eL e ((l.filter fun x => decide (p x)).map k))) m1 := px_lcG false hi hl hb
theorem filt_id {α : Type} (l : List α) (p : α → Prop) [DecidablePred p] (h : ∀ x, p x) : (l.filter fun x => decide (p x)) = l := List.filter_eq_self.mpr fun x _ => decide_eq_true (h x)
theorem px_lcty {α β : Type} {c : α → D} {e : β → D} {l : List α} {k : α → β} {vs : List Nat} {t : Tg} {fe : FE Y} {m2 : α → List Sl} (hi : PXI m fi (l.map c) m1) (hl : szOk l.length)
    (hb : ∀ x ∈ l, GT t (c x) (wipeM vs m1) (m2 x) ∧ PV (m2 x) fe (e (k x))) : PX m (fLc true vs fi t fYes fe) (.l ((l.map k).map e)) m1 := by
  have := px_lct (p := fun _ => True) (ft := fYes) hi hl fun x hx => ⟨(hb x hx).1, pb_yes, fun _ => (hb x hx).2⟩
  rwa [filt_id l _ fun _ => trivial] at this
theorem px_lcvy {α β : Type} {c : α → D} {e : β → D} {l : List α} {k : α → β} {vs : List Nat} {t : Tg} {fe : FE Y} {m2 : α → List Sl} (hi : PXI m fi (l.map c) m1) (hl : szOk l.length)
    (hb : ∀ x ∈ l, GT t (c x) (wipeM vs m1) (m2 x) ∧ PV (m2 x) fe (e (k x))) : PX m (fLc false vs fi t fYes fe) (.v (eL e (l.map k))) m1 := by
  have := px_lcv (p := fun _ => True) (ft := fYes) hi hl fun x hx => ⟨(hb x hx).1, pb_yes, fun _ => (hb x hx).2⟩
  rwa [filt_id l _ fun _ => trivial] at this
theorem pxs_nil : PXs m fNil [] m := fun B env S r => ⟨S, rfl, r⟩
theorem pxs_cons (h : PX m f (.v d) m1) (h' : PXs m1 fs ds m2) : PXs m (fCons f fs) (d :: ds) m2 := fun B env S r => by
  obtain ⟨S1, e1, r1⟩ := h B env S r
  obtain ⟨S2, e2, r2⟩ := h' B env S1 r1
  exact ⟨S2, by simp only [fCons, e1, Res.bind, AK.y, AK.st, e2, List.map_cons], r2⟩
theorem px_own {n : Nat} {mf : List Y → Sto → Res Y} (hf : PXs m fs ds m1) (hn : ds.length = n) (hs : ∀ S, mf (ds.map Y.v) S = .ok (.v z) S) : PX m (fOwn n mf fs) (.v z) m1 := fun B env S r => by
  obtain ⟨S1, e1, r1⟩ := hf B env S r
  exact ⟨S1, by simp only [fOwn, fCall, e1, Res.bind, List.length_map, hn, if_true]; exact hs S1, r1⟩
/-- a def that gives a new list -/
theorem px_ownk {n : Nat} {mf : List Y → Sto → Res Y} (hf : PXs m fs ds m1) (hn : ds.length = n) (hs : ∀ S, mf (ds.map Y.v) S = .ok (.ref S.length) (S ++ [.lst es])) : PX m (fOwn n mf fs) (.l es) m1 := fun B env S r => by
  obtain ⟨S1, e1, r1⟩ := hf B env S r
  exact ⟨S1, by simp only [fOwn, fCall, e1, Res.bind, List.length_map, hn, if_true]; exact hs S1, r1⟩
theorem thaw1_ref {n : Nat} (h : S[n]? = some (.lst ds)) : thaw1 (.ref n) S = .ok (.lst ds) (S.set n .gone) := by
  simp [thaw1, thaw, h]
theorem px_frzl (h : PX m f (.l ds) m1) : PX m (fFrz f) (.v (.lst ds)) m1 := fun B env S r => by
  obtain ⟨S1, e1, r1⟩ := h B env S r
  refine ⟨(S1 ++ [O.lst ds]).set S1.length .gone, ?_, ?_⟩
  · simp only [fFrz, e1, Res.bind, AK.y, AK.st, frz]
    have : (S1 ++ [O.lst ds])[S1.length]? = some (.lst ds) := by simp
    simp only [this]
  · rw [List.set_append_right _ _ (Nat.le_refl _)]
    exact r1.grow _
theorem px_tup (hf : PXs m fs ds m1) (hn : szOk ds.length) : PX m (fTup fs) (.v (.tup ds)) m1 := fun B env S r => by
  obtain ⟨S1, e1, r1⟩ := hf B env S r
  exact ⟨S1, by simp only [fTup, e1, Res.bind, thaw_vals, okLen_of hn, if_true]; rfl, r1⟩
theorem px_call1 {sem : List Y → Sto → Res Y} (hf : PX m f (.v d) m1) (hs : SC sem [d] z) : PX m (fCall sem (fCons f fNil)) (.v z) m1 := fun B env S r => by
  obtain ⟨S1, e1, r1⟩ := hf B env S r
  exact ⟨S1, by simp only [fCall, fCons, e1, Res.bind, fNil]; exact hs _ S1 rfl, r1⟩
theorem px_bin {sem : Y → Y → Sto → Res Y} (hf : PX m f (.v a) m1) (hg : PX m1 g (.v b) m2) (hs : SB sem a b z) : PX m (fBin sem f g) (.v z) m2 := fun B env S r => by
  obtain ⟨S1, e1, r1⟩ := hf B env S r
  obtain ⟨S2, e2, r2⟩ := hg B env S1 r1
  exact ⟨S2, by simp only [fBin, e1, Res.bind, AK.y, AK.st, e2]; exact hs (.v a) (.v b) S2 rfl rfl, r2⟩
theorem ph_x (h : PX m f (.v d) m1) : PH m f d m1 := fun B env S r => by
  obtain ⟨S1, e1, r1⟩ := h B env S r
  exact ⟨_, S1, S1, e1, by simp [AK.y], r1⟩
theorem ph_mu (hi : m[i]? = some (.mu (.lst ds))) : PH m (fVar i) (.lst ds) (m.set i .un) := fun B env S r => by
  obtain ⟨n, e1, e2, e3⟩ := r.mu i _ hi
  exact ⟨.ref n, S, S.set n .gone, by simp only [fVar, e1], thaw1_ref e3, r.gone hi e1 _⟩
end
/-! ### outcomes -/
inductive Oc where
  | nx (m : List Sl) | rt (d : D) | rk (ds : List D) | lp (m : List Sl) | bk (m : List Sl) | vd
def Out (B : Sto) : Oc → SR → Prop
  | .nx m, .nx env S => Rel B m env S
  | .lp m, .nx env S => Rel B m env S
  | .lp m, .ct env S => Rel B m env S
  | .bk m, .bk env S => Rel B m env S
  | .rt d, .rt y S => (∃ R, S = B ++ R) ∧ (y = .v d ∨ ∃ n, y = .ref n ∧ B.length ≤ n ∧ den y S = some d)
  | .rk ds, .rt y S => (∃ R, S = B ++ R) ∧ ∃ n, y = .ref n ∧ B.length ≤ n ∧ S[n]? = some (.lst ds)
  | .vd, .nx env S => ∃ R, S = B ++ R
  | _, _ => False
inductive Ctl (σ ρ : Type) where
  | go (s : σ) | brk (s : σ) | ret (r : ρ)
def Ctl.after {σ ρ : Type} : Ctl σ ρ → (σ → ρ) → ρ
  | .go s, k => k s
  | .brk s, k => k s
  | .ret r, _ => r
def Ctl.afterL {σ σ' ρ : Type} : Ctl σ ρ → (σ → Ctl σ' ρ) → Ctl σ' ρ
  | .go s, k => k s
  | .brk s, k => k s
  | .ret r, _ => .ret r
def Ctl.afterP {σ ρ : Type} : Ctl σ ρ → (σ → Prop) → Prop
  | .go s, k => k s
  | .brk s, k => k s
  | .ret _, _ => True
def forC {σ ρ α : Type} (body : σ → α → Ctl σ ρ) : List α → σ → Ctl σ ρ
  | [], s => .go s
  | x :: xs, s => match body s x with
    | .go s' => forC body xs s'
    | .brk s' => .go s'
    | .ret r => .ret r
def forCP {σ ρ α : Type} (body : σ → α → Ctl σ ρ) (P : σ → α → Prop) : List α → σ → Prop
  | [], _ => True
  | x :: xs, s => P s x ∧ match body s x with
    | .go s' => forCP body P xs s'
    | _ => True
def forP {σ α : Type} (body : σ → α → σ) (P : σ → α → Prop) : List α → σ → Prop
  | [], _ => True
  | x :: xs, s => P s x ∧ forP body P xs (body s x)
def whV {σ : Type} (c : σ → Bool) (body : σ → σ) : Nat → σ → σ
  | 0, s => s
  | n + 1, s => if c s = true then whV c body n (body s) else s
def whP {σ : Type} (c : σ → Bool) (cP : σ → Prop) (body : σ → σ) (P : σ → Prop) : Nat → σ → Prop
  | 0, _ => False
  | n + 1, s => cP s ∧ (c s = true → P s ∧ whP c cP body P n (body s))
def whC {σ ρ : Type} (c : σ → Bool) (body : σ → Ctl σ ρ) : Nat → σ → Ctl σ ρ
  | 0, s => .go s
  | n + 1, s => if c s = true then (match body s with
    | .go s' => whC c body n s'
    | .brk s' => .go s'
    | .ret r => .ret r) else .go s
def whCP {σ ρ : Type} (c : σ → Bool) (cP : σ → Prop) (body : σ → Ctl σ ρ) (P : σ → Prop) : Nat → σ → Prop
  | 0, _ => False
  | n + 1, s => cP s ∧ (c s = true → P s ∧ match body s with
    | .go s' => whCP c cP body P n s'
    | _ => True)
structure TS {ρ : Type} (B : Sto) (m : List Sl) (F : FS) (φ : ρ → Oc) (r : ρ) : Prop where
  run : ∀ env S, Rel B m env S → Out B (φ r) (F env S)
instance {ρ : Type} {B : Sto} {m : List Sl} {F : FS} {φ : ρ → Oc} {r : ρ} : CoeFun (TS B m F φ r) (fun _ => ∀ env S, Rel B m env S → Out B (φ r) (F env S)) := ⟨TS.run⟩
def psetI {α : Type} (xs : List α) (i : Int) (x : α) : List α := match L2.ixN xs.length i with
  | some j => xs.set j x
  | none => xs
section
variable {ρ σ : Type} {B : Sto} {m m1 m2 m3 : List Sl} {F G H : FS} {φ : ρ → Oc} {r : ρ} {f g h : FE Y} {fs : FE (List Y)} {t u : FE Bool} {d a b z : D} {ds es : List D} {i j l : Nat} {fi : FE (List D)}
theorem ts_last (h : TS B m (fSeq F fNx) φ r) : TS B m F φ r := TS.mk fun env S q => by
  have := h env S q
  rw [ev_seq] at this
  cases e : F env S <;> rw [e] at this <;> exact this
theorem ts_assoc (h : TS B m (fSeq F (fSeq G H)) φ r) : TS B m (fSeq (fSeq F G) H) φ r := TS.mk fun env S q => by
  have := h env S q
  simp only [ev_seq] at this ⊢
  cases e : F env S <;> rw [e] at this <;> exact this
theorem ts_nxl (h : TS B m G φ r) : TS B m (fSeq fNx G) φ r := TS.mk h.run
theorem ts_seqN {mOf : σ → List Sl} {s : σ} (h : TS B m F (fun s => Oc.nx (mOf s)) s) (k : TS B (mOf s) G φ r) : TS B m (fSeq F G) φ r := TS.mk fun env S q => by
  have := h env S q
  rw [ev_seq]
  cases e : F env S with
  | nx env1 S1 => rw [e] at this; exact k env1 S1 this
  | _ => rw [e] at this; exact this.elim
/-- a part that gives a state -/
theorem ts_join {mOf : σ → List Sl} {v : σ} {Pk : σ → Prop} {k : σ → ρ} (h : TS B m F (fun s => Oc.nx (mOf s)) v) (hk : ∀ s, Pk s → TS B (mOf s) G φ (k s)) (hP : lt v Pk) : TS B m (fSeq F G) φ (lt v k) := ts_seqN h (hk v hP)
theorem ts_set {α : Type} (κ : α → AK) {v : α} {Pk : α → Prop} {k : α → ρ} (hf : PX m f (κ v) m1) (hk : ∀ x, Pk x → TS B (m1.set i (κ x).sl) G φ (k x)) (hP : lt v Pk) : TS B m (fSeq (fSet i f) G) φ (lt v k) := TS.mk fun env S q => by
  obtain ⟨S1, e1, r1⟩ := hf B env S q
  simp only [ev_seq, ev_set, e1, Res.bindE, SR.seq]
  exact hk v hP _ _ (r1.setK (κ v))
theorem ts_sets {κ : AK} (hf : PX m f κ m1) (hk : TS B (m1.set i κ.sl) G φ r) : TS B m (fSeq (fSet i f) G) φ r := TS.mk fun env S q => by
  obtain ⟨S1, e1, r1⟩ := hf B env S q
  simp only [ev_seq, ev_set, e1, Res.bindE, SR.seq]
  exact hk _ _ (r1.setK κ)
theorem ts_drop (hf : PX m f (.v d) m1) (hk : TS B m1 G φ r) : TS B m (fSeq (fDrop f) G) φ r := TS.mk fun env S q => by
  obtain ⟨S1, e1, r1⟩ := hf B env S q
  simp only [ev_seq, ev_drop, e1, Res.bindE, SR.seq]
  exact hk _ _ r1
theorem ts_par {α β : Type} (κ1 : α → AK) (κ2 : β → AK) {v1 : α} {v2 : β} {Pk : α → β → Prop} {k : α → β → ρ} (hf : PX m f (κ1 v1) m1) (hg : PN m1 g (κ2 v2)) (hk : ∀ x y, Pk x y → TS B ((m1.set i (κ1 x).sl).set j (κ2 y).sl) G φ (k x y)) (hP : lt v1 fun x => lt v2 fun y => Pk x y) :
    TS B m (fSeq (fPar i j (fCons f (fCons g fNil))) G) φ (lt v1 fun x => lt v2 fun y => k x y) := TS.mk fun env S q => by
  obtain ⟨S1, e1, r1⟩ := hf B env S q
  have e2 := hg B env _ (r1.growK (κ1 v1))
  simp only [ev_seq, ev_par, fCons, e1, Res.bind, e2, fNil, Res.bindE, SR.seq]
  exact hk v1 v2 hP _ _ ((r1.setK (κ1 v1)).setK (κ2 v2))
theorem ts_parv {α β : Type} (c : α → D) (κ2 : β → AK) {v1 : α} {v2 : β} {Pk : α → β → Prop} {k : α → β → ρ} (hf : PX m f (.v (c v1)) m1) (hg : PX m1 g (κ2 v2) m2) (hk : ∀ x y, Pk x y → TS B ((m2.set i (.va (c x))).set j (κ2 y).sl) G φ (k x y)) (hP : lt v1 fun x => lt v2 fun y => Pk x y) :
    TS B m (fSeq (fPar i j (fCons f (fCons g fNil))) G) φ (lt v1 fun x => lt v2 fun y => k x y) := TS.mk fun env S q => by
  obtain ⟨S1, e1, r1⟩ := hf B env S q
  obtain ⟨S2, e2, r2⟩ := hg B env S1 r1
  simp only [ev_seq, ev_par, fCons, e1, Res.bind, AK.y, AK.st, e2, fNil, Res.bindE, SR.seq]
  exact hk v1 v2 hP _ _ (r2.setV.setK (κ2 v2))
theorem ev_par3 {i j l : Nat} {fs : FE (List Y)} {env : Ev} {S : Sto} : fPar3 i j l fs env S = (fs env S).bindE env fun ys S1 => match ys with
  | [y, z, u] => .nx (((env.set i (some y)).set j (some z)).set l (some u)) S1
  | _ => .bad := rfl
theorem ts_par3 {α β γ : Type} (κ1 : α → AK) (κ2 : β → AK) (κ3 : γ → AK) {v1 : α} {v2 : β} {v3 : γ} {Pk : α → β → γ → Prop} {k : α → β → γ → ρ} (hf : PX m f (κ1 v1) m1) (hg : PN m1 g (κ2 v2)) (hh : PN m1 h (κ3 v3)) (hk : ∀ x y z, Pk x y z → TS B (((m1.set i (κ1 x).sl).set j (κ2 y).sl).set l (κ3 z).sl) G φ (k x y z)) (hP : lt v1 fun x => lt v2 fun y => lt v3 fun z => Pk x y z) :
    TS B m (fSeq (fPar3 i j l (fCons f (fCons g (fCons h fNil)))) G) φ (lt v1 fun x => lt v2 fun y => lt v3 fun z => k x y z) := TS.mk fun env S q => by
  obtain ⟨S1, e1, r1⟩ := hf B env S q
  have e2 := hg B env _ (r1.growK (κ1 v1))
  have e3 := hh B env _ ((r1.growK (κ1 v1)).growK (κ2 v2))
  simp only [ev_seq, ev_par3, fCons, e1, Res.bind, e2, e3, fNil, Res.bindE, SR.seq]
  exact hk v1 v2 v3 hP _ _ (((r1.setK (κ1 v1)).setK (κ2 v2)).setK (κ3 v3))
theorem ts_asg {α : Type} {c : α → D} {t : Tg} {v : α} {Pk : α → Prop} {k : α → ρ} {m2 : α → List Sl} (hf : PX m f (.v (c v)) m1) (hk : ∀ x, Pk x → GT t (c x) m1 (m2 x) ∧ TS B (m2 x) G φ (k x)) (hP : lt v Pk) : TS B m (fSeq (fAsg t f) G) φ (lt v k) := TS.mk fun env S q => by
  obtain ⟨S1, e1, r1⟩ := hf B env S q
  obtain ⟨h1, h2⟩ := hk v hP
  obtain ⟨env1, e2, r2⟩ := h1 B env S1 r1
  simp only [ev_seq, ev_asg, e1, Res.bindE, AK.y, AK.st, e2, SR.seq]
  exact h2 _ _ r2
theorem ts_aug {x y : Int} {Pk : Int → Prop} {k : Int → ρ} (hi : m[i]? = some (.va (.int x))) (hf : PV m f (.int y)) (hk : ∀ z, Pk z → TS B (m.set i (.va (.int z))) G φ (k z)) (hP : lt (x + y) Pk) : TS B m (fSeq (fAug i sIAdd f) G) φ (lt (x + y) k) := TS.mk fun env S q => by
  have e0 := q.va i _ hi
  simp only [ev_seq, ev_aug e0, hf B env S q, Res.bindE, s_iadd, SR.seq]
  exact hk _ hP _ _ q.setV
theorem s_isub {a b : Int} {S : Sto} : sISub (.v (.int a)) (.v (.int b)) S = .ok (.v (.int (a - b))) S := rfl
theorem ts_augS {x y : Int} {Pk : Int → Prop} {k : Int → ρ} (hi : m[i]? = some (.va (.int x))) (hf : PV m f (.int y)) (hk : ∀ z, Pk z → TS B (m.set i (.va (.int z))) G φ (k z)) (hP : lt (x - y) Pk) : TS B m (fSeq (fAug i sISub f) G) φ (lt (x - y) k) := TS.mk fun env S q => by
  have e0 := q.va i _ hi
  simp only [ev_seq, ev_aug e0, hf B env S q, Res.bindE, s_isub, SR.seq]
  exact hk _ hP _ _ q.setV
theorem ts_ret (hf : PX m f (.v d) m1) (hφ : φ r = .rt d := by rfl) : TS B m (fRet f) φ r := TS.mk fun env S q => by
  obtain ⟨S1, e1, r1⟩ := hf B env S q
  simp only [ev_ret, e1, Res.bindE, hφ, AK.y, AK.st, Out]
  exact ⟨r1.pre, .inl trivial⟩
theorem ts_retd (hf : PX m f (.v d) m1) (hφ : φ r = .rt d := by rfl) : TS B m (fSeq (fRet f) G) φ r := TS.mk fun env S q => by
  obtain ⟨S1, e1, r1⟩ := hf B env S q
  simp only [ev_seq, ev_ret, e1, Res.bindE, hφ, AK.y, AK.st, SR.seq, Out]
  exact ⟨r1.pre, .inl trivial⟩
/-- a list that is made on the way out -/
theorem ts_retl (hf : PX m f (.l ds) m1) (hφ : φ r = .rt (.lst ds) := by rfl) : TS B m (fSeq (fRet f) G) φ r := TS.mk fun env S q => by
  obtain ⟨S1, e1, r1⟩ := hf B env S q
  simp only [ev_seq, ev_ret, e1, Res.bindE, hφ, AK.y, AK.st, SR.seq, Out]
  have hp := (r1.grow [O.lst ds]).pre
  obtain ⟨R, rfl⟩ := r1.pre
  exact ⟨hp, .inr ⟨_, rfl, by rw [List.length_append]; omega, by simp [den]⟩⟩
theorem ts_retM (hi : m[i]? = some (.mu (.lst ds))) (hφ : φ r = .rt (.lst ds) := by rfl) : TS B m (fSeq (fRet (fVar i)) G) φ r := TS.mk fun env S q => by
  obtain ⟨n, e1, e2, e3⟩ := q.mu i _ hi
  have : fVar i env S = .ok (.ref n) S := by simp only [fVar, e1]
  simp only [ev_seq, ev_ret, this, Res.bindE, hφ, SR.seq, Out]
  exact ⟨q.pre, .inr ⟨n, rfl, e2, by simp only [den, e3]⟩⟩
theorem ts_retMd {ks vs : List D} (hi : m[i]? = some (.mu (.dic ks vs))) (hφ : φ r = .rt (.dic ks vs) := by rfl) : TS B m (fSeq (fRet (fVar i)) G) φ r := TS.mk fun env S q => by
  obtain ⟨n, e1, e2, e3⟩ := q.mu i _ hi
  have : fVar i env S = .ok (.ref n) S := by simp only [fVar, e1]
  simp only [ev_seq, ev_ret, this, Res.bindE, hφ, SR.seq, Out]
  exact ⟨q.pre, .inr ⟨n, rfl, e2, by simp only [den, e3]⟩⟩
/-- a def that gives its list as a thing of the store -/
theorem ts_retK (hi : m[i]? = some (.mu (.lst ds))) (hφ : φ r = .rk ds := by rfl) : TS B m (fSeq (fRet (fVar i)) G) φ r := TS.mk fun env S q => by
  obtain ⟨n, e1, e2, e3⟩ := q.mu i _ hi
  have : fVar i env S = .ok (.ref n) S := by simp only [fVar, e1]
  simp only [ev_seq, ev_ret, this, Res.bindE, hφ, SR.seq, Out]
  exact ⟨q.pre, n, rfl, e2, e3⟩
theorem ts_retlK (hf : PX m f (.l ds) m1) (hφ : φ r = .rk ds := by rfl) : TS B m (fSeq (fRet f) G) φ r := TS.mk fun env S q => by
  obtain ⟨S1, e1, r1⟩ := hf B env S q
  simp only [ev_seq, ev_ret, e1, Res.bindE, hφ, AK.y, AK.st, SR.seq, Out]
  have hp := (r1.grow [O.lst ds]).pre
  obtain ⟨R, rfl⟩ := r1.pre
  exact ⟨hp, _, rfl, by rw [List.length_append]; omega, by simp⟩
theorem ts_retN (hφ : φ r = .rt .non := by rfl) : TS B m (fSeq fRetN G) φ r := TS.mk fun env S q => by
  show Out B (φ r) (.rt (.v .non) S)
  rw [hφ]; exact ⟨q.pre, .inl rfl⟩
theorem ts_cnt (w : Wk m1 m) (hφ : φ r = .lp m1 := by rfl) : TS B m (fSeq fCnt G) φ r := TS.mk fun env S q => by
  show Out B (φ r) (.ct env S)
  rw [hφ]; exact q.weak w
theorem ts_brk (w : Wk m1 m) (hφ : φ r = .bk m1 := by rfl) : TS B m (fSeq fBrk G) φ r := TS.mk fun env S q => by
  show Out B (φ r) (.bk env S)
  rw [hφ]; exact q.weak w
theorem ts_lp (w : Wk m1 m) (hφ : φ r = .lp m1 := by rfl) : TS B m fNx φ r := TS.mk fun env S q => by
  show Out B (φ r) (.nx env S)
  rw [hφ]; exact q.weak w
theorem ts_nx (w : Wk m1 m) (hφ : φ r = .nx m1 := by rfl) : TS B m fNx φ r := TS.mk fun env S q => by
  show Out B (φ r) (.nx env S)
  rw [hφ]; exact q.weak w
theorem ts_vd (hφ : φ r = .vd := by rfl) : TS B m fNx φ r := TS.mk fun env S q => by
  show Out B (φ r) (.nx env S)
  rw [hφ]; exact q.pre
theorem ts_if {p : Prop} [Decidable p] {r1 r2 : ρ} (ht : PB m t p) (hF : p → TS B m (fSeq F H) φ r1) (hG : ¬p → TS B m (fSeq G H) φ r2) : TS B m (fSeq (fIfS t F G) H) φ (if p then r1 else r2) := TS.mk fun env S q => by
  simp only [ev_seq, ev_ifs, ht.dec B env S q, Res.bindE]
  by_cases hp : p
  · simp only [hp, decide_true, if_true]; exact hF hp env S q
  · simp only [hp, decide_false, if_false]; exact hG hp env S q
theorem ts_ifj {p : Prop} [Decidable p] {r1 r2 : ρ} (ht : PB m t p) (hF : p → TS B m F φ r1) (hG : ¬p → TS B m G φ r2) : TS B m (fIfS t F G) φ (if p then r1 else r2) := TS.mk fun env S q => by
  simp only [ev_ifs, ht.dec B env S q, Res.bindE]
  by_cases hp : p
  · simp only [hp, decide_true, if_true]; exact hF hp env S q
  · simp only [hp, decide_false, if_false]; exact hG hp env S q
/-- if p: raise -/
theorem ts_ifn {p : Prop} (ht : PB m t p) (hp : ¬p) (hG : TS B m H φ r) : TS B m (fSeq (fIfS t F fNx) H) φ r := TS.mk fun env S q => by
  obtain ⟨b, e, g⟩ := ht
  have hb : b = false := by
    cases b with
    | false => rfl
    | true => exact absurd (e.mp rfl) hp
  subst hb
  simp only [ev_seq, ev_ifs, g B env S q, Res.bindE]
  exact hG env S q
theorem ts_app {α : Type} {e : α → D} {xs : List α} {x : α} {Pk : List α → Prop} {k : List α → ρ} (hf : PH m f (e x) m1) (h0 : m[i]? = some (.mu (.lst (xs.map e)))) (h1 : m1[i]? = some (.mu (.lst (xs.map e)))) (hz : szOk (xs.length + 1)) (hk : ∀ ys, Pk ys → TS B (m1.set i (.mu (.lst (ys.map e)))) G φ (k ys)) (hP : lt (xs ++ [x]) Pk) :
    TS B m (fSeq (fDrop (fMet isSt sApp (fVar i) (fCons f fNil))) G) φ (lt (xs ++ [x]) k) := TS.mk fun env S q => by
  obtain ⟨n, e1, e2, e3⟩ := q.mu i _ h0
  obtain ⟨y, S1, S2, g1, g2, g3⟩ := hf B env S q
  obtain ⟨n', e1', e2', e3'⟩ := g3.mu i _ h1
  rw [e1] at e1'; cases e1'
  have hv : fVar i env S = .ok (.ref n) S := by simp only [fVar, e1]
  have hc : isSt (.ref n) S = true := by simp only [isSt, stL, e3, Option.isSome]
  have hs : stL (.ref n) S2 = some (n, xs.map e) := by simp only [stL, e3']
  have hm : fMet isSt sApp (fVar i) (fCons f fNil) env S = .ok (.v .non) (S2.set n (.lst ((xs ++ [x]).map e))) := by
    simp only [fMet, hv, Res.bind, hc, if_true, fCons, g1, fNil, sApp, g2, hs, List.length_map, okLen_of hz, List.map_append, List.map_cons, List.map_nil]
  simp only [ev_seq, ev_drop, hm, Res.bindE, SR.seq]
  exact hk _ hP _ _ (g3.upd h1 e1)
theorem ts_sub {α : Type} {e : α → D} {xs : List α} {x : α} {j : Int} {Pk : List α → Prop} {k : List α → ρ} (hf : PV m f (e x)) (hg : PV m g (.int j)) (h0 : m[i]? = some (.mu (.lst (xs.map e)))) (hj : inb xs.length j) (hk : ∀ ys, Pk ys → TS B (m.set i (.mu (.lst (ys.map e)))) G φ (k ys)) (hP : lt (psetI xs j x) Pk) :
    TS B m (fSeq (fSub (fVar i) g f) G) φ (lt (psetI xs j x) k) := TS.mk fun env S q => by
  obtain ⟨n, e1, e2, e3⟩ := q.mu i _ h0
  obtain ⟨jj, e4, e5⟩ := ixN_some hj
  have hv : fVar i env S = .ok (.ref n) S := by simp only [fVar, e1]
  have hs : stL (.ref n) S = some (n, xs.map e) := by simp only [stL, e3]
  have hm : fSub (fVar i) g f env S = .nx env (S.set n (.lst ((psetI xs j x).map e))) := by
    simp only [fSub, hf B env S q, Res.bindE, hv, hg B env S q, thaw1_v, hs, List.length_map, e4, psetI, List.map_set]
  simp only [ev_seq, hm, SR.seq]
  exact hk _ hP _ _ (q.upd h0 e1)
/-! ### loops -/
theorem forD_run {α : Type} {c : α → D} {t : Tg} {mOf : σ → List Sl} {m1 : σ → α → List Sl} {body : σ → α → σ} {P : σ → α → Prop} {l0 : List α} (hb : ∀ s x, x ∈ l0 → P s x → GT t (c x) (mOf s) (m1 s x) ∧ TS B (m1 s x) F (fun s => Oc.lp (mOf s)) (body s x)) :
    ∀ (l : List α) (s : σ) (env : Ev) (S : Sto), (∀ x ∈ l, x ∈ l0) → forP body P l s → Rel B (mOf s) env S → ∃ env' S', forD t F (l.map c) env S = .nx env' S' ∧ Rel B (mOf (l.foldl body s)) env' S'
  | [], s, env, S, _, _, q => ⟨env, S, rfl, q⟩
  | x :: l, s, env, S, hl, hP, q => by
    obtain ⟨h1, h2⟩ := hb s x (hl x List.mem_cons_self) hP.1
    obtain ⟨env1, e1, r1⟩ := h1 B env S q
    have h3 := h2 env1 S r1
    have ih := fun env S q => forD_run hb l (body s x) env S (fun y hy => hl y (List.mem_cons_of_mem _ hy)) hP.2 q
    simp only [List.map_cons, forD, e1, List.foldl_cons]
    cases e : F env1 S with
    | nx env2 S2 => rw [e] at h3; exact ih _ _ h3
    | ct env2 S2 => rw [e] at h3; exact ih _ _ h3
    | _ => rw [e] at h3; exact h3.elim
theorem ts_for {α : Type} {c : α → D} {t : Tg} {mOf : σ → List Sl} {m2 : σ → α → List Sl} {body : σ → α → σ} {P : σ → α → Prop} {l : List α} {s0 : σ} (hi : PXI m fi (l.map c) m1) (hw : Wk (mOf s0) m1) (hb : ∀ s x, x ∈ l → P s x → GT t (c x) (mOf s) (m2 s x) ∧ TS B (m2 s x) F (fun s => Oc.lp (mOf s)) (body s x)) (hP : forP body P l s0) :
    TS B m (fFor t fi F) (fun s => Oc.nx (mOf s)) (l.foldl body s0) := TS.mk fun env S q => by
  obtain ⟨S1, e1, r1⟩ := hi B env S q
  obtain ⟨env', S', e2, r2⟩ := forD_run hb l s0 env S1 (fun _ h => h) hP (r1.weak hw)
  simp only [ev_for, e1, Res.bindE, e2]
  exact r2
/-- what a loop's body gives -/
def ocC (mOf : σ → List Sl) (φ : ρ → Oc) : Ctl σ ρ → Oc
  | .go s => .lp (mOf s)
  | .brk s => .bk (mOf s)
  | .ret r => φ r
def Oc.isRt : Oc → Prop
  | .rt _ => True
  | .rk _ => True
  | _ => False
theorem out_rt {o : Oc} (ho : o.isRt) {x : SR} (h : Out B o x) : ∃ y S, x = .rt y S := by
  cases o with
  | rt d => cases x with
    | rt y S => exact ⟨y, S, rfl⟩
    | _ => exact h.elim
  | rk d => cases x with
    | rt y S => exact ⟨y, S, rfl⟩
    | _ => exact h.elim
  | _ => exact ho.elim
theorem forC_run {α : Type} {c : α → D} {t : Tg} {mOf : σ → List Sl} {m1 : σ → α → List Sl} {body : σ → α → Ctl σ ρ} {P : σ → α → Prop} {l0 : List α} (hφ : ∀ r, (φ r).isRt) (hb : ∀ s x, x ∈ l0 → P s x → GT t (c x) (mOf s) (m1 s x) ∧ TS B (m1 s x) F (ocC mOf φ) (body s x)) :
    ∀ (l : List α) (s : σ) (env : Ev) (S : Sto), (∀ x ∈ l, x ∈ l0) → forCP body P l s → Rel B (mOf s) env S → (∃ env' S' s', forC body l s = .go s' ∧ forD t F (l.map c) env S = .nx env' S' ∧ Rel B (mOf s') env' S') ∨ (∃ r, forC body l s = .ret r ∧ Out B (φ r) (forD t F (l.map c) env S))
  | [], s, env, S, _, _, q => .inl ⟨env, S, s, rfl, rfl, q⟩
  | x :: l, s, env, S, hl, hP, q => by
    obtain ⟨h1, h2⟩ := hb s x (hl x List.mem_cons_self) hP.1
    obtain ⟨env1, e1, r1⟩ := h1 B env S q
    have h3 := h2 env1 S r1
    have hP2 := hP.2
    simp only [List.map_cons, forD, e1, forC]
    cases hs : body s x with
    | go s' =>
      rw [hs] at h3 hP2
      have ih := fun env S q => forC_run hφ hb l s' env S (fun y hy => hl y (List.mem_cons_of_mem _ hy)) hP2 q
      cases e : F env1 S with
      | nx env2 S2 => rw [e] at h3; exact ih _ _ h3
      | ct env2 S2 => rw [e] at h3; exact ih _ _ h3
      | _ => rw [e] at h3; exact h3.elim
    | brk s' =>
      rw [hs] at h3
      cases e : F env1 S with
      | bk env2 S2 => rw [e] at h3; exact .inl ⟨env2, S2, s', rfl, rfl, h3⟩
      | _ => rw [e] at h3; exact h3.elim
    | ret r =>
      rw [hs] at h3
      obtain ⟨y, S', e⟩ := out_rt (hφ r) h3
      have h3' : Out B (φ r) (F env1 S) := h3
      rw [e] at h3' ⊢
      exact .inr ⟨r, rfl, h3'⟩
theorem forC_seq {o : Oc} (ho : o.isRt) {x : SR} (h : Out B o x) : Out B o (x.seq G) := by
  obtain ⟨y, S, rfl⟩ := out_rt ho h
  exact h
theorem ts_forC {α : Type} {c : α → D} {t : Tg} {mOf : σ → List Sl} {m2 : σ → α → List Sl} {body : σ → α → Ctl σ ρ} {P : σ → α → Prop} {l : List α} {s0 : σ} {k : σ → ρ} {Pk : σ → Prop} (hφ : ∀ r, (φ r).isRt) (hi : PXI m fi (l.map c) m1) (hw : Wk (mOf s0) m1) (hb : ∀ s x, x ∈ l → P s x → GT t (c x) (mOf s) (m2 s x) ∧ TS B (m2 s x) F (ocC mOf φ) (body s x)) (hP : forCP body P l s0) (hk : ∀ s, Pk s → TS B (mOf s) G φ (k s)) (hPk : (forC body l s0).afterP Pk) :
    TS B m (fSeq (fFor t fi F) G) φ ((forC body l s0).after k) := TS.mk fun env S q => by
  obtain ⟨S1, e1, r1⟩ := hi B env S q
  simp only [ev_seq, ev_for, e1, Res.bindE]
  rcases forC_run hφ hb l s0 env S1 (fun _ h => h) hP (r1.weak hw) with ⟨env', S', s', g1, g2, g3⟩ | ⟨r, g1, g2⟩
  · rw [g1] at hPk ⊢
    rw [g2]
    exact hk s' hPk env' S' g3
  · rw [g1]
    exact forC_seq (hφ r) g2
theorem ts_forCL {α τ : Type} {mOf' : τ → List Sl} {c : α → D} {t : Tg} {mOf : σ → List Sl} {m2 : σ → α → List Sl} {body : σ → α → Ctl σ ρ} {P : σ → α → Prop} {l : List α} {s0 : σ} {k : σ → Ctl τ ρ} {Pk : σ → Prop} (hφ : ∀ r, (φ r).isRt) (hi : PXI m fi (l.map c) m1) (hw : Wk (mOf s0) m1) (hb : ∀ s x, x ∈ l → P s x → GT t (c x) (mOf s) (m2 s x) ∧ TS B (m2 s x) F (ocC mOf φ) (body s x)) (hP : forCP body P l s0) (hk : ∀ s, Pk s → TS B (mOf s) G (ocC mOf' φ) (k s)) (hPk : (forC body l s0).afterP Pk) :
    TS B m (fSeq (fFor t fi F) G) (ocC mOf' φ) ((forC body l s0).afterL k) := TS.mk fun env S q => by
  obtain ⟨S1, e1, r1⟩ := hi B env S q
  simp only [ev_seq, ev_for, e1, Res.bindE]
  rcases forC_run hφ hb l s0 env S1 (fun _ h => h) hP (r1.weak hw) with ⟨env', S', s', g1, g2, g3⟩ | ⟨r, g1, g2⟩
  · rw [g1] at hPk ⊢
    rw [g2]
    exact hk s' hPk env' S' g3
  · rw [g1]
    exact forC_seq (hφ r) g2
/-! ### while -/
theorem whD_mono {t : FE Bool} {F : FS} : ∀ (n k : Nat) (env : Ev) (S : Sto), whD t F n env S ≠ .bad → whD t F (n + k) env S = whD t F n env S
  | 0, _, _, _, h => absurd rfl h
  | n + 1, k, env, S, h => by
    rw [show n + 1 + k = (n + k) + 1 by omega]
    simp only [whD] at h ⊢
    cases e : t env S with
    | ok b S1 =>
      rw [e] at h
      simp only [Res.bindE] at h ⊢
      cases b with
      | false => rfl
      | true =>
        simp only [if_true] at h ⊢
        cases e2 : F env S1 with
        | nx env2 S2 => rw [e2] at h; exact whD_mono n k env2 S2 h
        | ct env2 S2 => rw [e2] at h; exact whD_mono n k env2 S2 h
        | _ => rfl
    | _ => rfl
theorem fWh_of {t : FE Bool} {F : FS} {n : Nat} {env : Ev} {S : Sto} {x : SR} (h : whD t F n env S = x) (hx : x ≠ .bad) : fWh t F env S = x := by
  have hn : ∃ n, whD t F n env S ≠ .bad := ⟨n, by rw [h]; exact hx⟩
  unfold fWh
  rw [dif_pos hn]
  have h2 := Classical.choose_spec hn
  have a := whD_mono n (Classical.choose hn) env S (by rw [h]; exact hx)
  have b := whD_mono (Classical.choose hn) n env S h2
  rw [Nat.add_comm] at b
  rw [← b, a, h]
theorem wh_run {t : FE Bool} {mOf : σ → List Sl} {cd : σ → Bool} {cP P : σ → Prop} {body : σ → σ} (hc : ∀ s, cP s → PB (mOf s) t (cd s = true)) (hb : ∀ s, P s → TS B (mOf s) F (fun s => Oc.lp (mOf s)) (body s)) :
    ∀ (n : Nat) (s : σ) (env : Ev) (S : Sto), whP cd cP body P n s → Rel B (mOf s) env S → ∃ env' S', whD t F n env S = .nx env' S' ∧ Rel B (mOf (whV cd body n s)) env' S'
  | 0, _, _, _, h, _ => h.elim
  | n + 1, s, env, S, h, q => by
    have ht := (hc s h.1).dec B env S q
    simp only [whD, ht, Res.bindE, whV]
    cases e : cd s with
    | false => simp only [decide_eq_false, Bool.false_eq_true, decide_false, if_false]; exact ⟨env, S, rfl, q⟩
    | true =>
      obtain ⟨hp, h2⟩ := h.2 e
      have h3 := hb s hp env S q
      simp only [decide_true, if_true]
      cases e2 : F env S with
      | nx env2 S2 => rw [e2] at h3; exact wh_run hc hb n (body s) env2 S2 h2 h3
      | ct env2 S2 => rw [e2] at h3; exact wh_run hc hb n (body s) env2 S2 h2 h3
      | _ => rw [e2] at h3; exact h3.elim
theorem ts_wh {t : FE Bool} {mOf : σ → List Sl} {cd : σ → Bool} {cP P : σ → Prop} {body : σ → σ} {n : Nat} {s0 : σ} (hw : Wk (mOf s0) m) (hc : ∀ s, cP s → PB (mOf s) t (cd s = true)) (hb : ∀ s, P s → TS B (mOf s) F (fun s => Oc.lp (mOf s)) (body s)) (hP : whP cd cP body P n s0) :
    TS B m (fWh t F) (fun s => Oc.nx (mOf s)) (whV cd body n s0) := TS.mk fun env S q => by
  obtain ⟨env', S', e, r⟩ := wh_run hc hb n s0 env S hP (q.weak hw)
  rw [fWh_of e (fun z => by cases z)]
  exact r
/-! ### a def -/
theorem start_get (ds : List D) (k : Nat) : startE (ds.length + k) (ds.map Y.v) = (ds.map fun d => some (Y.v d)) ++ List.replicate k none := by
  unfold startE
  rw [List.length_map, List.map_map, show ds.length + k - ds.length = k by omega]; rfl
theorem get_rep {α : Type} {k i : Nat} {x y : α} (h : (List.replicate k x)[i]? = some y) : y = x := by
  rw [List.getElem?_replicate] at h
  split at h
  · cases h; rfl
  · cases h
theorem start_rel (ds : List D) (k : Nat) (S : Sto) : Rel S (ds.map Sl.va ++ List.replicate k .un) (startE (ds.length + k) (ds.map Y.v)) S := by
  have key : ∀ {i : Nat} {x : Sl}, (ds.map Sl.va ++ List.replicate k .un)[i]? = some x → x ≠ .un → ∃ d, x = .va d ∧ ((ds.map fun d => some (Y.v d)) ++ List.replicate k none)[i]? = some (some (.v d)) := fun {i x} h hx => by
    by_cases hi : i < ds.length
    · rw [List.getElem?_append_left (by simpa using hi), List.getElem?_map, List.getElem?_eq_getElem hi] at h
      rw [List.getElem?_append_left (by simpa using hi), List.getElem?_map, List.getElem?_eq_getElem hi]
      exact ⟨ds[i], (Option.some.inj h).symm, rfl⟩
    · rw [List.getElem?_append_right (by simpa using hi)] at h
      exact absurd (get_rep h) hx
  rw [start_get]
  refine ⟨by simp, ⟨[], by simp⟩, fun i d h => ?_, fun i n h => ?_, fun i o h => ?_, fun i j o p n h _ _ _ => ?_⟩
  · obtain ⟨d', e, h2⟩ := key h (by intro z; cases z)
    cases e; exact h2
  · obtain ⟨d', e, h2⟩ := key h (by intro z; cases z)
    cases e
  · obtain ⟨d', e, h2⟩ := key h (by intro z; cases z)
    cases e
  · obtain ⟨d', e, h2⟩ := key h (by intro z; cases z)
    cases e
theorem take_pre {B R : Sto} : (B ++ R).take B.length = B := by simp
theorem wrap_ok {N : Nat} (ds : List D) (k : Nat) (e : ρ → D) {v : ρ} {b : FS} {S : Sto} (hN : N = ds.length + k) (h : TS S (ds.map Sl.va ++ List.replicate k .un) b (fun r => Oc.rt (e r)) v) : wrap false N b (ds.map Y.v) S = .ok (.v (e v)) S := by
  subst hN
  have h2 := h _ S (start_rel ds k S)
  unfold wrap
  cases g : b (startE (ds.length + k) (ds.map Y.v)) S with
  | rt y S1 =>
    rw [g] at h2
    obtain ⟨⟨R, rfl⟩, h3⟩ := h2
    rcases h3 with h3 | ⟨n, rfl, hn, hd⟩
    · subst h3; simp only [close, take_pre]
    · have hn' : ¬ n < S.length := by omega
      simp only [close, hn', if_false]
      simp only [den] at hd
      split at hd
      · rename_i ds' e'
        have hd' := Option.some.inj hd
        simp only [e', Bool.false_eq_true, if_false, take_pre, hd']
      · rename_i ks vs e'
        have hd' := Option.some.inj hd
        simp only [e', Bool.false_eq_true, if_false, take_pre, hd']
      · cases hd
  | _ => rw [g] at h2; exact h2.elim
theorem wrap_vd {N : Nat} (ds : List D) (k : Nat) {v : Unit} {b : FS} {S : Sto} (hN : N = ds.length + k) (h : TS S (ds.map Sl.va ++ List.replicate k .un) b (fun _ => Oc.vd) v) : wrap false N b (ds.map Y.v) S = .ok (.v .non) S := by
  subst hN
  have h2 := h _ S (start_rel ds k S)
  unfold wrap
  cases g : b (startE (ds.length + k) (ds.map Y.v)) S with
  | nx env S1 =>
    rw [g] at h2
    obtain ⟨R, rfl⟩ := h2
    simp only [close, take_pre]
  | _ => rw [g] at h2; exact h2.elim
theorem wrap_k {N : Nat} (ds : List D) (k : Nat) (e : ρ → List D) {v : ρ} {b : FS} {S : Sto} (hN : N = ds.length + k) (h : TS S (ds.map Sl.va ++ List.replicate k .un) b (fun r => Oc.rk (e r)) v) : wrap true N b (ds.map Y.v) S = .ok (.ref S.length) (S ++ [.lst (e v)]) := by
  subst hN
  have h2 := h _ S (start_rel ds k S)
  unfold wrap
  cases g : b (startE (ds.length + k) (ds.map Y.v)) S with
  | rt y S1 =>
    rw [g] at h2
    obtain ⟨⟨R, rfl⟩, n, rfl, hn, hd⟩ := h2
    have hn' : ¬ n < S.length := by omega
    simp only [close, hn', if_false, hd, if_true, take_pre]
  | _ => rw [g] at h2; exact h2.elim
end
end Sg

/-! T4: defs that draw, by what holds behind each draw -/
namespace Sg
open PySem PySem.Spec PyProof.Rows L2
abbrev St (c : Int × Int) (R : Sto) : Sto := .lst [.int c.1, .int c.2] :: R
def CupP (c : Int × Int) : Prop := 0 ≤ c.1 ∧ 0 ≤ c.2 ∧ c.2 < 4294967296
def RelC (R : Sto) (m : List Sl) (env : Ev) (S : Sto) : Prop := ∃ c, CupP c ∧ Rel (St c R) m env S
/-- an expression that may draw: what it gives meets Q, where H Q -/
def WX {α : Type} (R : Sto) (m : List Sl) (f : FE Y) (κ : α → AK) (H : (α → Prop) → Prop) (m' : List Sl) : Prop :=
  ∀ Q, H Q → ∀ env S, RelC R m env S → ∃ x S1, f env S = .ok ((κ x).y S1) ((κ x).st S1) ∧ RelC R m' env S1 ∧ Q x
abbrev WV {α : Type} (R : Sto) (m : List Sl) (f : FE Y) (e : α → D) (H : (α → Prop) → Prop) (m' : List Sl) : Prop := WX R m f (fun x => AK.v (e x)) H m'
def WA {α : Type} (R : Sto) (m : List Sl) (fs : FE (List Y)) (ds : α → List D) (H : (α → Prop) → Prop) (m' : List Sl) : Prop :=
  ∀ Q, H Q → ∀ env S, RelC R m env S → ∃ x S1, fs env S = .ok ((ds x).map Y.v) S1 ∧ RelC R m' env S1 ∧ Q x
def WT (R : Sto) (m : List Sl) (t : FE Bool) (H : (Bool → Prop) → Prop) (m' : List Sl) : Prop :=
  ∀ Q, H Q → ∀ env S, RelC R m env S → ∃ b S1, t env S = .ok b S1 ∧ RelC R m' env S1 ∧ Q b
def WI {α : Type} (R : Sto) (m : List Sl) (fi : FE (List D)) (c : α → D) (H : (List α → Prop) → Prop) (m' : List Sl) : Prop :=
  ∀ Q, H Q → ∀ env S, RelC R m env S → ∃ l S1, fi env S = .ok (l.map c) S1 ∧ RelC R m' env S1 ∧ Q l
def WO (R : Sto) (m : List Sl) (f : FE (Option Int)) (H : (Option Int → Prop) → Prop) (m' : List Sl) : Prop :=
  ∀ Q, H Q → ∀ env S, RelC R m env S → ∃ b S1, f env S = .ok b S1 ∧ RelC R m' env S1 ∧ Q b
/-- what a def that draws keeps -/
def OkW {α : Type} (mf : List Y → Sto → Res Y) (ys : List Y) (e : α → D) (H : (α → Prop) → Prop) : Prop :=
  ∀ Q, H Q → ∀ c R, CupP c → ∃ x c', mf (.ref 0 :: ys) (St c R) = .ok (.v (e x)) (St c' R) ∧ CupP c' ∧ Q x
def lw {α : Type} (H : (α → Prop) → Prop) (k : α → Prop) : Prop := H k
section
variable {α β γ : Type} {R : Sto} {m m1 m2 m3 : List Sl} {f g h : FE Y} {fs : FE (List Y)} {t u : FE Bool} {d a b z : D} {ds es : List D} {i j : Nat} {fi : FE (List D)} {B : Sto} {env : Ev} {S : Sto}
theorem wx_p {κ : α → AK} {v : α} {C : Prop} (hf : C → PX m f (κ v) m1) : WX R m f κ (fun Q => C ∧ Q v) m1 := fun Q hQ env S q => by
  obtain ⟨c, hc, q⟩ := q
  obtain ⟨S1, e1, r1⟩ := hf hQ.1 _ env S q
  exact ⟨v, S1, e1, ⟨c, hc, r1⟩, hQ.2⟩
theorem wt_p {p : Prop} [Decidable p] {C : Prop} (ht : C → PB m t p) : WT R m t (fun Q => C ∧ Q (decide p)) m := fun Q hQ env S q => by
  obtain ⟨c, hc, q⟩ := q
  exact ⟨_, S, (ht hQ.1).dec _ env S q, ⟨c, hc, q⟩, hQ.2⟩
theorem wi_p {c : α → D} {l : List α} {C : Prop} (hi : C → PXI m fi (l.map c) m1) : WI R m fi c (fun Q => C ∧ Q l) m1 := fun Q hQ env S q => by
  obtain ⟨k, hc, q⟩ := q
  obtain ⟨S1, e1, r1⟩ := hi hQ.1 _ env S q
  exact ⟨l, S1, e1, ⟨k, hc, r1⟩, hQ.2⟩
theorem wo_p {f : FE (Option Int)} {v : Option Int} {C : Prop} (hf : C → PO m f v) : WO R m f (fun Q => C ∧ Q v) m := fun Q hQ env S q => by
  obtain ⟨c, hc, q⟩ := q
  exact ⟨v, S, hf hQ.1 _ env S q, ⟨c, hc, q⟩, hQ.2⟩
theorem wa_p {v : α} {dv : α → List D} {C : Prop} (hf : C → PXs m fs (dv v) m1) : WA R m fs dv (fun Q => C ∧ Q v) m1 := fun Q hQ env S q => by
  obtain ⟨c, hc, q⟩ := q
  obtain ⟨S1, e1, r1⟩ := hf hQ.1 _ env S q
  exact ⟨v, S1, e1, ⟨c, hc, r1⟩, hQ.2⟩
theorem wa_nil : WA R m fNil (fun _ : Unit => []) (fun Q => Q ()) m := fun Q hQ env S q => ⟨(), S, rfl, q, hQ⟩
theorem wa_cons {e : α → D} {dv : β → List D} {H : (α → Prop) → Prop} {H2 : α → (β → Prop) → Prop} (hf : WV R m f e H m1) (hs : ∀ x, WA R m1 fs dv (H2 x) m2) : WA R m (fCons f fs) (fun p : α × β => e p.1 :: dv p.2) (fun Q => H fun x => H2 x fun y => Q (x, y)) m2 := fun Q hQ env S q => by
  obtain ⟨x, S1, e1, r1, q1⟩ := hf _ hQ env S q
  obtain ⟨y, S2, e2, r2, q2⟩ := hs x _ q1 env S1 r1
  exact ⟨(x, y), S2, by simp only [fCons, e1, Res.bind, AK.y, AK.st, e2, List.map_cons], r2, q2⟩
theorem wx_bin {sem : Y → Y → Sto → Res Y} {e1 : α → D} {e2 : β → D} {e : γ → D} {H : (α → Prop) → Prop} {H2 : α → (β → Prop) → Prop} {C : α → β → Prop} {op : α → β → γ} (hf : WV R m f e1 H m1) (hg : ∀ x, WV R m1 g e2 (H2 x) m2) (hs : ∀ x y, C x y → SB sem (e1 x) (e2 y) (e (op x y))) :
    WV R m (fBin sem f g) e (fun Q => H fun x => H2 x fun y => C x y ∧ Q (op x y)) m2 := fun Q hQ env S q => by
  obtain ⟨x, S1, g1, r1, q1⟩ := hf _ hQ env S q
  obtain ⟨y, S2, g2, r2, q2⟩ := hg x _ q1 env S1 r1
  exact ⟨op x y, S2, by simp only [fBin, g1, Res.bind, AK.y, AK.st, g2]; exact hs x y q2.1 (.v (e1 x)) (.v (e2 y)) S2 rfl rfl, r2, q2.2⟩
theorem wx_un {sem : Y → Sto → Res Y} {e1 : α → D} {e : γ → D} {H : (α → Prop) → Prop} {C : α → Prop} {op : α → γ} (hf : WV R m f e1 H m1) (hs : ∀ x, C x → SU sem (e1 x) (e (op x))) :
    WV R m (fUn sem f) e (fun Q => H fun x => C x ∧ Q (op x)) m1 := fun Q hQ env S q => by
  obtain ⟨x, S1, g1, r1, q1⟩ := hf _ hQ env S q
  exact ⟨op x, S1, by simp only [fUn, g1, Res.bind, AK.y, AK.st]; exact hs x q1.1 (.v (e1 x)) S1 rfl, r1, q1.2⟩
theorem wx_call1 {sem : List Y → Sto → Res Y} {e1 : α → D} {e : γ → D} {H : (α → Prop) → Prop} {C : α → Prop} {op : α → γ} (hf : WV R m f e1 H m1) (hs : ∀ x, C x → SC sem [e1 x] (e (op x))) :
    WV R m (fCall sem (fCons f fNil)) e (fun Q => H fun x => C x ∧ Q (op x)) m1 := fun Q hQ env S q => by
  obtain ⟨x, S1, g1, r1, q1⟩ := hf _ hQ env S q
  exact ⟨op x, S1, by simp only [fCall, fCons, g1, Res.bind, AK.y, AK.st, fNil]; exact hs x q1.1 [.v (e1 x)] S1 rfl, r1, q1.2⟩
theorem wx_call {sem : List Y → Sto → Res Y} {dv : α → List D} {e : γ → D} {H : (α → Prop) → Prop} {C : α → Prop} {op : α → γ} (hf : WA R m fs dv H m1) (hs : ∀ x, C x → SC sem (dv x) (e (op x))) :
    WV R m (fCall sem fs) e (fun Q => H fun x => C x ∧ Q (op x)) m1 := fun Q hQ env S q => by
  obtain ⟨x, S1, g1, r1, q1⟩ := hf _ hQ env S q
  exact ⟨op x, S1, by simp only [fCall, g1, Res.bind, AK.y, AK.st]; exact hs x q1.1 _ S1 (by rw [List.map_map]; rfl), r1, q1.2⟩
/-- a call of a def that does not draw -/
theorem wx_own {n : Nat} {mf : List Y → Sto → Res Y} {dv : α → List D} {e : γ → D} {H : (α → Prop) → Prop} {C : α → Prop} {op : α → γ} (hf : WA R m fs dv H m1) (hn : ∀ x, (dv x).length = n) (hs : ∀ x, C x → ∀ S, mf ((dv x).map Y.v) S = .ok (.v (e (op x))) S) :
    WV R m (fOwn n mf fs) e (fun Q => H fun x => C x ∧ Q (op x)) m1 := fun Q hQ env S q => by
  obtain ⟨x, S1, g1, r1, q1⟩ := hf _ hQ env S q
  exact ⟨op x, S1, by simp only [fOwn, fCall, g1, Res.bind, AK.y, AK.st, List.length_map, hn, if_true]; exact hs x q1.1 S1, r1, q1.2⟩
/-- a call of a def that draws -/
theorem wx_draw {n : Nat} {mf : List Y → Sto → Res Y} {dv : α → List D} {e : γ → D} {H : (α → Prop) → Prop} {W : α → (γ → Prop) → Prop} (hi : m[i]? = some (.fx 0)) (hf : WA R m fs dv H m1) (hn : ∀ x, (dv x).length + 1 = n) (hs : ∀ x, OkW mf ((dv x).map Y.v) e (W x)) :
    WV R m (fOwn n mf (fCons (fVar i) fs)) e (fun Q => H fun x => W x Q) m1 := fun Q hQ env S q => by
  obtain ⟨x, S1, g1, r1, q1⟩ := hf _ hQ env S q
  obtain ⟨c0, _, q0⟩ := q
  have e0 := q0.fx i 0 hi
  obtain ⟨c, hc, rr⟩ := r1
  have hl : ∀ c' : Int × Int, (St c' R).length = (St c R).length := fun _ => rfl
  obtain ⟨R1, rfl, _⟩ := rr.base (B' := St c R) rfl
  obtain ⟨y, c', g2, hc', q2⟩ := hs x Q q1 c (R ++ R1) hc
  refine ⟨y, St c' R ++ R1, ?_, ⟨c', hc', ?_⟩, q2⟩
  · have hv : fVar i env S = .ok (.ref 0) S := by simp only [fVar, e0]
    simp only [fOwn, fCall, fCons, hv, g1, Res.bind, List.length_cons, List.length_map, hn, if_true]
    exact g2
  · obtain ⟨R2, e2, r2⟩ := rr.base (B' := St c' R) rfl
    have : R1 = R2 := List.append_cancel_left e2
    rw [this]; exact r2
theorem wx_tup {dv : α → List D} {e : γ → D} {H : (α → Prop) → Prop} (op : α → γ) (hf : WA R m fs dv H m1) (he : ∀ x, e (op x) = .tup (dv x)) (hn : ∀ x, szOk (dv x).length) :
    WV R m (fTup fs) e (fun Q => H fun x => Q (op x)) m1 := fun Q hQ env S q => by
  obtain ⟨x, S1, g1, r1, q1⟩ := hf _ hQ env S q
  exact ⟨op x, S1, by simp only [fTup, g1, Res.bind, thaw_vals, okLen_of (hn x), if_true, AK.y, AK.st, he], r1, q1⟩
theorem wx_lst {dv : α → List D} {e : γ → D} {H : (α → Prop) → Prop} (op : α → γ) (hf : WA R m fs dv H m1) (he : ∀ x, e (op x) = .lst (dv x)) (hn : ∀ x, szOk (dv x).length) :
    WV R m (fLst false fs) e (fun Q => H fun x => Q (op x)) m1 := fun Q hQ env S q => by
  obtain ⟨x, S1, g1, r1, q1⟩ := hf _ hQ env S q
  exact ⟨op x, S1, by simp only [fLst, g1, Res.bind, thaw_vals, okLen_of (hn x), if_true, AK.y, AK.st, he, newL_f], r1, q1⟩
theorem wx_lstn {dv : α → List D} {e : γ → List D} {H : (α → Prop) → Prop} (op : α → γ) (hf : WA R m fs dv H m1) (he : ∀ x, e (op x) = dv x) (hn : ∀ x, szOk (dv x).length) :
    WX R m (fLst true fs) (fun x => AK.l (e x)) (fun Q => H fun x => Q (op x)) m1 := fun Q hQ env S q => by
  obtain ⟨x, S1, g1, r1, q1⟩ := hf _ hQ env S q
  exact ⟨op x, S1, by simp only [fLst, g1, Res.bind, thaw_vals, okLen_of (hn x), if_true, AK.y, AK.st, he, newL_t], r1, q1⟩
theorem wx_if {κ : γ → AK} {H : (Bool → Prop) → Prop} {H1 H2 : (γ → Prop) → Prop} (ht : WT R m t H m1) (hf : WX R m1 f κ H1 m2) (hg : WX R m1 g κ H2 m2) : WX R m (fIf t f g) κ (fun Q => H fun b => (b = true → H1 Q) ∧ (b = false → H2 Q)) m2 := fun Q hQ env S q => by
  obtain ⟨b, S1, g1, r1, q1⟩ := ht _ hQ env S q
  cases b with
  | true =>
    obtain ⟨x, S2, g2, r2, q2⟩ := hf _ (q1.1 rfl) env S1 r1
    exact ⟨x, S2, by simp only [fIf, g1, Res.bind, if_true]; exact g2, r2, q2⟩
  | false =>
    obtain ⟨x, S2, g2, r2, q2⟩ := hg _ (q1.2 rfl) env S1 r1
    exact ⟨x, S2, by simp only [fIf, g1, Res.bind, Bool.false_eq_true, if_false]; exact g2, r2, q2⟩
theorem wx_frz {e : γ → D} {H : (γ → Prop) → Prop} (hf : WV R m f e H m1) : WV R m (fFrz f) e H m1 := fun Q hQ env S q => by
  obtain ⟨x, S1, g1, r1, q1⟩ := hf _ hQ env S q
  exact ⟨x, S1, by simp only [fFrz, g1, Res.bind]; rfl, r1, q1⟩
theorem wx_and {H : (Bool → Prop) → Prop} {H2 : (Bool → Prop) → Prop} (hf : WV R m f eB H m1) (hg : WV R m1 g eB H2 m1) : WV R m (fAndV f g) eB (fun Q => H fun b => (b = true → H2 Q) ∧ (b = false → Q false)) m1 := fun Q hQ env S q => by
  obtain ⟨b, S1, g1, r1, q1⟩ := hf _ hQ env S q
  cases b with
  | true =>
    obtain ⟨x, S2, g2, r2, q2⟩ := hg _ (q1.1 rfl) env S1 r1
    exact ⟨x, S2, by rw [ev_andV, g1]; exact g2, r2, q2⟩
  | false => exact ⟨false, S1, by rw [ev_andV, g1]; rfl, r1, q1.2 rfl⟩
theorem wx_or {H : (Bool → Prop) → Prop} {H2 : (Bool → Prop) → Prop} (hf : WV R m f eB H m1) (hg : WV R m1 g eB H2 m1) : WV R m (fOrV f g) eB (fun Q => H fun b => (b = false → H2 Q) ∧ (b = true → Q true)) m1 := fun Q hQ env S q => by
  obtain ⟨b, S1, g1, r1, q1⟩ := hf _ hQ env S q
  cases b with
  | false =>
    obtain ⟨x, S2, g2, r2, q2⟩ := hg _ (q1.1 rfl) env S1 r1
    exact ⟨x, S2, by rw [ev_orV, g1]; exact g2, r2, q2⟩
  | true => exact ⟨true, S1, by rw [ev_orV, g1]; rfl, r1, q1.2 rfl⟩
theorem wx_not {H : (Bool → Prop) → Prop} (hf : WV R m f eB H m1) : WV R m (fNotV f) eB (fun Q => H fun b => Q (!b)) m1 := fun Q hQ env S q => by
  obtain ⟨b, S1, g1, r1, q1⟩ := hf _ hQ env S q
  exact ⟨!b, S1, by rw [ev_notV, g1]; rfl, r1, q1⟩
theorem wx_sl {e : α → D} {e2 : γ → D} {mm : Bool} {lo hi : FE (Option Int)} {H : (α → Prop) → Prop} {H1 : α → (Option Int → Prop) → Prop} {H2 : α → Option Int → (Option Int → Prop) → Prop} {op : α → Option Int → Option Int → γ} (hf : WV R m f e H m1) (h1 : ∀ x, WO R m1 lo (H1 x) m2) (h2 : ∀ x l, WO R m2 hi (H2 x l) m3)
    (hs : ∀ x l u S, sSl mm (.v (e x)) l u S = .ok (.v (e2 (op x l u))) S) : WV R m (fSl mm f lo hi) e2 (fun Q => H fun x => H1 x fun l => H2 x l fun u => Q (op x l u)) m3 := fun Q hQ env S q => by
  obtain ⟨x, S1, g1, r1, q1⟩ := hf _ hQ env S q
  obtain ⟨l, S2, g2, r2, q2⟩ := h1 x _ q1 env S1 r1
  obtain ⟨u, S3, g3, r3, q3⟩ := h2 x l _ q2 env S2 r2
  exact ⟨op x l u, S3, by simp only [fSl, g1, Res.bind, AK.y, AK.st, g2, g3]; exact hs x l u S3, r3, q3⟩
theorem slT_ok {e : α → D} {mm : Bool} (x : List α) (l u : Option Int) (S : Sto) : sSl mm (.v (eT e x)) l u S = .ok (.v (eT e (cut x l u))) S := by simp only [sSl, cut_map']
theorem slL_ok {e : α → D} (x : List α) (l u : Option Int) (S : Sto) : sSl false (.v (eL e x)) l u S = .ok (.v (eL e (cut x l u))) S := by simp only [sSl, getL, newL_f, cut_map']
theorem wo_some {H : (Int → Prop) → Prop} (hf : WV R m f eI H m1) : WO R m (fPart f) (fun Q => H fun x => Q (some x)) m1 := fun Q hQ env S q => by
  obtain ⟨x, S1, g1, r1, q1⟩ := hf _ hQ env S q
  exact ⟨some x, S1, by simp only [fPart, g1, Res.bind, AK.y, AK.st], r1, q1⟩
/-! tests -/
theorem wt_test {H : (Bool → Prop) → Prop} (hf : WV R m f eB H m1) : WT R m (fTest f) H m1 := fun Q hQ env S q => by
  obtain ⟨b, S1, g1, r1, q1⟩ := hf _ hQ env S q
  exact ⟨b, S1, by simp only [fTest, g1]; rfl, r1, q1⟩
theorem wt_tru {H : (Bool → Prop) → Prop} (hf : WV R m f eB H m1) : WT R m (fTru f) H m1 := fun Q hQ env S q => by
  obtain ⟨b, S1, g1, r1, q1⟩ := hf _ hQ env S q
  exact ⟨b, S1, by simp only [fTru, g1, Res.bind]; rfl, r1, q1⟩
theorem wt_not {H : (Bool → Prop) → Prop} (hf : WT R m t H m1) : WT R m (fNot t) (fun Q => H fun b => Q (!b)) m1 := fun Q hQ env S q => by
  obtain ⟨b, S1, g1, r1, q1⟩ := hf _ hQ env S q
  exact ⟨!b, S1, by simp only [fNot, g1, Res.bind], r1, q1⟩
theorem wt_and {H H2 : (Bool → Prop) → Prop} (hf : WT R m t H m1) (hg : WT R m1 u H2 m1) : WT R m (fAnd t u) (fun Q => H fun b => (b = true → H2 Q) ∧ (b = false → Q false)) m1 := fun Q hQ env S q => by
  obtain ⟨b, S1, g1, r1, q1⟩ := hf _ hQ env S q
  cases b with
  | true =>
    obtain ⟨x, S2, g2, r2, q2⟩ := hg _ (q1.1 rfl) env S1 r1
    exact ⟨x, S2, by simp only [fAnd, g1, Res.bind, if_true]; exact g2, r2, q2⟩
  | false => exact ⟨false, S1, by simp only [fAnd, g1, Res.bind, Bool.false_eq_true, if_false], r1, q1.2 rfl⟩
theorem wt_or {H H2 : (Bool → Prop) → Prop} (hf : WT R m t H m1) (hg : WT R m1 u H2 m1) : WT R m (fOr t u) (fun Q => H fun b => (b = false → H2 Q) ∧ (b = true → Q true)) m1 := fun Q hQ env S q => by
  obtain ⟨b, S1, g1, r1, q1⟩ := hf _ hQ env S q
  cases b with
  | false =>
    obtain ⟨x, S2, g2, r2, q2⟩ := hg _ (q1.1 rfl) env S1 r1
    exact ⟨x, S2, by simp only [fOr, g1, Res.bind, Bool.false_eq_true, if_false]; exact g2, r2, q2⟩
  | true => exact ⟨true, S1, by simp only [fOr, g1, Res.bind, if_true], r1, q1.2 rfl⟩
/-! iterables -/
theorem wi_T {e : α → D} {H : (List α → Prop) → Prop} (hf : WV R m f (eT e) H m1) : WI R m (fItS f) e H m1 := fun Q hQ env S q => by
  obtain ⟨x, S1, g1, r1, q1⟩ := hf _ hQ env S q
  exact ⟨x, S1, by simp only [fItS, g1, Res.bind]; rfl, r1, q1⟩
theorem wi_L {e : α → D} {H : (List α → Prop) → Prop} (hf : WV R m f (eL e) H m1) : WI R m (fItS f) e H m1 := fun Q hQ env S q => by
  obtain ⟨x, S1, g1, r1, q1⟩ := hf _ hQ env S q
  exact ⟨x, S1, by simp only [fItS, g1, Res.bind]; rfl, r1, q1⟩
theorem wi_rng1 {H : (Int → Prop) → Prop} (hf : WV R m f eI H m1) : WI R m (fIt sRng1 (fCons f fNil)) eI (fun Q => H fun n => rOk n ∧ Q (rng 0 n)) m1 := fun Q hQ env S q => by
  obtain ⟨x, S1, g1, r1, q1⟩ := hf _ hQ env S q
  exact ⟨_, S1, by
    simp only [fIt, fCons, g1, Res.bind, AK.y, AK.st, fNil]
    rw [s_rng1 (okR_of' q1.1)]
    simp [rngD, rng, eI], r1, q1.2⟩
/-- lists whose items are drawn -/
def wLc (b : α → (β → Prop) → Prop) : List α → (List β → Prop) → Prop
  | [], Q => Q []
  | x :: xs, Q => b x fun y => wLc b xs fun ys => Q (y :: ys)
mutual
theorem asg_out : ∀ (t : Tg) (d : D) (env env1 : Ev), Tg.asg t d env = some env1 → ∀ i, i ∉ Tg.slots t → env1[i]? = env[i]?
  | .nm k, d, env, env1, h, i, hi => by
    simp only [Tg.asg] at h
    cases h
    rw [List.getElem?_set_ne (fun z => hi (by subst z; simp [Tg.slots]))]
  | .tp ts, d, env, env1, h, i, hi => by
    cases d with
    | tup ds => exact asgL_out ts ds env env1 h i (by simpa [Tg.slots] using hi)
    | _ => simp [Tg.asg] at h
theorem asgL_out : ∀ (ts : List Tg) (ds : List D) (env env1 : Ev), Tg.asgL ts ds env = some env1 → ∀ i, i ∉ Tg.slotsL ts → env1[i]? = env[i]?
  | [], [], env, env1, h, i, hi => by simp only [Tg.asgL] at h; cases h; rfl
  | t :: ts, d :: ds, env, env1, h, i, hi => by
    simp only [Tg.asgL] at h
    simp only [Tg.slotsL, List.mem_append, not_or] at hi
    split at h
    · rename_i env2 e
      rw [asgL_out ts ds env2 env1 h i hi.2, asg_out t d env env2 e i hi.1]
    · cases h
  | [], _ :: _, _, _, h, _, _ => by simp [Tg.asgL] at h
  | _ :: _, [], _, _, h, _, _ => by simp [Tg.asgL] at h
end
def unAt (l : List Nat) (m : List Sl) : Bool := l.all fun i => match m[i]? with
  | some .un => true
  | none => true
  | _ => false
theorem unAt_of {l : List Nat} (h : unAt l m = true) {i : Nat} {x : Sl} (hx : m[i]? = some x) (hn : x ≠ .un) : i ∉ l := fun hi => by
  have := List.all_eq_true.mp h i hi
  rw [hx] at this
  cases x with
  | un => exact hn rfl
  | _ => cases this
theorem Rel.back {B' : Sto} {env1 : Ev} {S1 : Sto} {l : List Nat} (r : Rel B m env S) (r1 : Rel B' m env1 S1) (hl : unAt l m = true) (he : ∀ i, i ∉ l → env1[i]? = env[i]?) : Rel B' m env S1 := by
  refine ⟨r.len, r1.pre, r.va, r.fx, fun i o h => ?_, fun i j o p n h h' e e' => ?_⟩
  · rw [← he i (unAt_of hl h (by intro z; cases z))]; exact r1.mu i o h
  · rw [← he i (unAt_of hl h (by intro z; cases z))] at e
    rw [← he j (unAt_of hl h' (by intro z; cases z))] at e'
    exact r1.inj i j o p n h h' e e'
theorem lcW {t : Tg} {fe : FE Y} {c : α → D} {e : β → D} {m2 m3 : α → List Sl} {b : α → (β → Prop) → Prop} {l0 : List α} (hs : unAt t.slots m1 = true) (hb : ∀ x ∈ l0, GT t (c x) m1 (m2 x) ∧ WV R (m2 x) fe e (b x) (m3 x) ∧ Wk m1 (m3 x)) {env : Ev} :
    ∀ (l : List α) (acc : List D) (S : Sto) (Q : List β → Prop), (∀ x ∈ l, x ∈ l0) → acc.length + l.length ≤ 16777216 → wLc b l Q → (∃ c, CupP c ∧ Rel (St c R) m1 env S) → ∃ ys S', lcD t fYes fe env (l.map c) acc S = .ok (acc ++ ys.map e) S' ∧ (∃ c, CupP c ∧ Rel (St c R) m1 env S') ∧ Q ys
  | [], acc, S, Q, _, _, h, r => ⟨[], S, by simp [lcD], r, h⟩
  | x :: l, acc, S, Q, hm, hl, h, r => by
    obtain ⟨c0, hc0, r⟩ := r
    obtain ⟨h1, h2, hw⟩ := hb x (hm x List.mem_cons_self)
    obtain ⟨env1, e1, r1⟩ := h1 _ env S r
    obtain ⟨y, S1, e2, ⟨c1, hc1, r2⟩, q2⟩ := h2 _ h env1 S ⟨c0, hc0, r1⟩
    rw [List.length_cons] at hl
    have r3 := r.back (r2.weak hw) hs (asg_out t _ _ _ e1)
    obtain ⟨ys, S', e3, r4, q4⟩ := lcW hs hb l (acc ++ [e y]) S1 _ (fun x hx => hm x (List.mem_cons_of_mem _ hx)) (by rw [List.length_append, List.length_singleton]; omega) q2 ⟨c1, hc1, r3⟩
    refine ⟨y :: ys, S', ?_, r4, q4⟩
    simp only [List.map_cons, lcD, e1, ev_yes, Res.bindX, if_true, e2, AK.y, AK.st, thaw1_v]
    rw [if_pos (okLen_of (by omega)), e3]
    simp
theorem wipeE_out : ∀ (vs : List Nat) (env : Ev) (i : Nat), i ∉ vs → (wipeE vs env)[i]? = env[i]?
  | [], _, _, _ => rfl
  | v :: vs, env, i, h => by
    rw [List.mem_cons, not_or] at h
    simp only [wipeE]
    rw [List.getElem?_set_ne (fun z => h.1 z.symm), wipeE_out vs env i h.2]
theorem Rel.wipeU {m : List Sl} {env : Ev} {S : Sto} (h : Rel B m env S) : ∀ vs : List Nat, Rel B (wipeM vs m) env S
  | [] => h
  | v :: vs => (Rel.wipeU h vs).forget v
theorem wipe_unAt : ∀ (vs : List Nat) (m : List Sl), ∀ v ∈ vs, (wipeM vs m)[v]? = none ∨ (wipeM vs m)[v]? = some .un
  | v :: vs, m, w, h => by
    simp only [wipeM]
    by_cases e : v = w
    · subst e
      by_cases hl : v < (wipeM vs m).length
      · right; exact List.getElem?_set_self hl
      · left; exact List.getElem?_eq_none (by rw [List.length_set]; omega)
    · rw [List.getElem?_set_ne e]
      rcases List.mem_cons.mp h with rfl | h
      · exact absurd rfl e
      · exact wipe_unAt vs m w h
theorem unAt_wipe (vs : List Nat) (m : List Sl) : unAt vs (wipeM vs m) = true := List.all_eq_true.mpr fun v hv => by
  rcases wipe_unAt vs m v hv with h | h <;> rw [h]
theorem wx_lc {mm : Bool} {vs : List Nat} {t : Tg} {fe : FE Y} {c : α → D} {e : β → D} {m2 m3 : α → List Sl} {b : α → (β → Prop) → Prop} {H : (List α → Prop) → Prop} (hi : WI R m fi c H m1) (hs : unAt t.slots (wipeM vs m1) = true) (hb : ∀ x, GT t (c x) (wipeM vs m1) (m2 x) ∧ WV R (m2 x) fe e (b x) (m3 x) ∧ Wk (wipeM vs m1) (m3 x)) :
    WX R m (fLc mm vs fi t fYes fe) (fun ys : List β => if mm = true then AK.l (ys.map e) else .v (eL e ys)) (fun Q => H fun l => szOk l.length ∧ wLc b l Q) (wipeM vs m1) := fun Q hQ env S q => by
  obtain ⟨l, S1, g1, ⟨c1, hc1, r1⟩, hz, q1⟩ := hi _ hQ env S q
  obtain ⟨ys, S', e3, ⟨c2, hc2, r2⟩, q4⟩ := lcW (R := R) (m1 := wipeM vs m1) (env := wipeE vs env) hs (fun x _ => hb x) l [] S1 Q (fun _ h => h) (by simpa using hz) q1 ⟨c1, hc1, r1.wipe vs⟩
  refine ⟨ys, S', ?_, ⟨c2, hc2, (r1.wipeU vs).back r2 (unAt_wipe vs m1) (fun i hi => wipeE_out vs env i hi)⟩, q4⟩
  simp only [fLc, g1, Res.bind, e3, Res.bindX, List.nil_append]
  exact newL_k mm _ S'
/-- lists whose items are chosen and drawn -/
def wLcF (bt : α → (Bool → Prop) → Prop) (b : α → (β → Prop) → Prop) : List α → (List β → Prop) → Prop
  | [], Q => Q []
  | x :: xs, Q => bt x fun p => (p = true → b x fun y => wLcF bt b xs fun ys => Q (y :: ys)) ∧ (p = false → wLcF bt b xs Q)
theorem lcWF {t : Tg} {ft : FE Bool} {fe : FE Y} {c : α → D} {e : β → D} {m2 m3 : α → List Sl} {bt : α → (Bool → Prop) → Prop} {b : α → (β → Prop) → Prop} {l0 : List α} (hs : unAt t.slots m1 = true) (hb : ∀ x ∈ l0, GT t (c x) m1 (m2 x) ∧ WT R (m2 x) ft (bt x) (m2 x) ∧ WV R (m2 x) fe e (b x) (m3 x) ∧ Wk m1 (m3 x) ∧ Wk m1 (m2 x)) {env : Ev} :
    ∀ (l : List α) (acc : List D) (S : Sto) (Q : List β → Prop), (∀ x ∈ l, x ∈ l0) → acc.length + l.length ≤ 16777216 → wLcF bt b l Q → (∃ c, CupP c ∧ Rel (St c R) m1 env S) → ∃ ys S', lcD t ft fe env (l.map c) acc S = .ok (acc ++ ys.map e) S' ∧ (∃ c, CupP c ∧ Rel (St c R) m1 env S') ∧ Q ys
  | [], acc, S, Q, _, _, h, r => ⟨[], S, by simp [lcD], r, h⟩
  | x :: l, acc, S, Q, hm, hl, h, r => by
    obtain ⟨c0, hc0, r⟩ := r
    obtain ⟨h1, ht, h2, hw, hw2⟩ := hb x (hm x List.mem_cons_self)
    obtain ⟨env1, e1, r1⟩ := h1 _ env S r
    obtain ⟨p, S0, e0, ⟨c9, hc9, r9⟩, hp⟩ := ht _ h env1 S ⟨c0, hc0, r1⟩
    rw [List.length_cons] at hl
    cases p with
    | false =>
      have r3 := r.back (r9.weak hw2) hs (asg_out t _ _ _ e1)
      obtain ⟨ys, S', e3, r4, q4⟩ := lcWF hs hb l acc S0 _ (fun x hx => hm x (List.mem_cons_of_mem _ hx)) (by omega) (hp.2 rfl) ⟨c9, hc9, r3⟩
      refine ⟨ys, S', ?_, r4, q4⟩
      simp only [List.map_cons, lcD, e1, e0, Res.bindX, Bool.false_eq_true, if_false]
      exact e3
    | true =>
      obtain ⟨y, S1, e2, ⟨c1, hc1, r2⟩, q2⟩ := h2 _ (hp.1 rfl) env1 S0 ⟨c9, hc9, r9⟩
      have r3 := r.back (r2.weak hw) hs (asg_out t _ _ _ e1)
      obtain ⟨ys, S', e3, r4, q4⟩ := lcWF hs hb l (acc ++ [e y]) S1 _ (fun x hx => hm x (List.mem_cons_of_mem _ hx)) (by rw [List.length_append, List.length_singleton]; omega) q2 ⟨c1, hc1, r3⟩
      refine ⟨y :: ys, S', ?_, r4, q4⟩
      simp only [List.map_cons, lcD, e1, e0, Res.bindX, if_true, e2, AK.y, AK.st, thaw1_v]
      rw [if_pos (okLen_of (by omega)), e3]
      simp
theorem wx_lcF {mm : Bool} {vs : List Nat} {t : Tg} {ft : FE Bool} {fe : FE Y} {c : α → D} {e : β → D} {m2 m3 : α → List Sl} {bt : α → (Bool → Prop) → Prop} {b : α → (β → Prop) → Prop} {H : (List α → Prop) → Prop} (hi : WI R m fi c H m1) (hs : unAt t.slots (wipeM vs m1) = true) (hb : ∀ x, GT t (c x) (wipeM vs m1) (m2 x) ∧ WT R (m2 x) ft (bt x) (m2 x) ∧ WV R (m2 x) fe e (b x) (m3 x) ∧ Wk (wipeM vs m1) (m3 x) ∧ Wk (wipeM vs m1) (m2 x)) :
    WX R m (fLc mm vs fi t ft fe) (fun ys : List β => if mm = true then AK.l (ys.map e) else .v (eL e ys)) (fun Q => H fun l => szOk l.length ∧ wLcF bt b l Q) (wipeM vs m1) := fun Q hQ env S q => by
  obtain ⟨l, S1, g1, ⟨c1, hc1, r1⟩, hz, q1⟩ := hi _ hQ env S q
  obtain ⟨ys, S', e3, ⟨c2, hc2, r2⟩, q4⟩ := lcWF (R := R) (m1 := wipeM vs m1) (env := wipeE vs env) hs (fun x _ => hb x) l [] S1 Q (fun _ h => h) (by simpa using hz) q1 ⟨c1, hc1, r1.wipe vs⟩
  refine ⟨ys, S', ?_, ⟨c2, hc2, (r1.wipeU vs).back r2 (unAt_wipe vs m1) (fun i hi => wipeE_out vs env i hi)⟩, q4⟩
  simp only [fLc, g1, Res.bind, e3, Res.bindX, List.nil_append]
  exact newL_k mm _ S'
end
/-! ### statements -/
structure KK where
  nx : Ev → Sto → Prop
  ct : Ev → Sto → Prop
  bk : Ev → Sto → Prop
  rt : Y → Sto → Prop
def KK.ok (k : KK) : SR → Prop
  | .nx env S => k.nx env S
  | .ct env S => k.ct env S
  | .bk env S => k.bk env S
  | .rt y S => k.rt y S
  | _ => False
structure WS (R : Sto) (m : List Sl) (F : FS) (k : KK) : Prop where
  run : ∀ env S, RelC R m env S → k.ok (F env S)
instance {R : Sto} {m : List Sl} {F : FS} {k : KK} : CoeFun (WS R m F k) (fun _ => ∀ env S, RelC R m env S → k.ok (F env S)) := ⟨WS.run⟩
def kRt {ρ : Type} (R : Sto) (e : ρ → D) (Q : ρ → Prop) : Y → Sto → Prop := fun y S => ∃ x c R', CupP c ∧ S = St c R ++ R' ∧ (y = .v (e x) ∨ ∃ n, y = .ref n ∧ (St c R).length ≤ n ∧ den y S = some (e x)) ∧ Q x
/-- a def's body -/
abbrev kF {ρ : Type} (R : Sto) (e : ρ → D) (Q : ρ → Prop) : KK := ⟨fun _ _ => False, fun _ _ => False, fun _ _ => False, kRt R e Q⟩
/-- a def's body that gives nothing -/
abbrev kV (R : Sto) (Q : Unit → Prop) : KK := ⟨fun _ S => ∃ c R', CupP c ∧ S = St c R ++ R' ∧ Q (), fun _ _ => False, fun _ _ => False, fun _ _ => False⟩
abbrev kSt {σ : Type} (R : Sto) (mOf : σ → List Sl) (Q : σ → Prop) : Ev → Sto → Prop := fun env S => ∃ s, Q s ∧ RelC R (mOf s) env S
/-- a loop's body -/
abbrev kL {σ : Type} (R : Sto) (mOf : σ → List Sl) (Qn Qb : σ → Prop) (k : KK) : KK := ⟨kSt R mOf Qn, kSt R mOf Qn, kSt R mOf Qb, k.rt⟩
/-- a part with a state behind it -/
abbrev kJ {σ : Type} (R : Sto) (mOf : σ → List Sl) (Qn : σ → Prop) (k : KK) : KK := ⟨kSt R mOf Qn, k.ct, k.bk, k.rt⟩
def wFor {σ α : Type} (body : σ → α → (σ → Prop) → (σ → Prop) → Prop) : List α → σ → (σ → Prop) → Prop
  | [], s, Q => Q s
  | x :: l, s, Q => body s x (fun s' => wFor body l s' Q) Q
def wWh {σ : Type} (c : σ → (Bool → Prop) → Prop) (body : σ → (σ → Prop) → (σ → Prop) → Prop) : Nat → σ → (σ → Prop) → Prop
  | 0, _, _ => False
  | n + 1, s, Q => c s fun b => (b = true → body s (fun s' => wWh c body n s' Q) Q) ∧ (b = false → Q s)
section
variable {α β γ σ ρ : Type} {R : Sto} {m m1 m2 m3 : List Sl} {F G I : FS} {k : KK} {f g h : FE Y} {fs : FE (List Y)} {t u : FE Bool} {d a b z : D} {ds es : List D} {i j l : Nat} {fi : FE (List D)}
theorem ws_last (h : WS R m (fSeq F fNx) k) : WS R m F k := WS.mk fun env S q => by
  have := h env S q
  rw [ev_seq] at this
  cases e : F env S <;> rw [e] at this <;> exact this
theorem ws_assoc (h : WS R m (fSeq F (fSeq G I)) k) : WS R m (fSeq (fSeq F G) I) k := WS.mk fun env S q => by
  have := h env S q
  simp only [ev_seq] at this ⊢
  cases e : F env S <;> rw [e] at this <;> exact this
theorem ws_nxl (h : WS R m G k) : WS R m (fSeq fNx G) k := WS.mk h.run
theorem ws_seqJ {mOf : σ → List Sl} {H : (σ → Prop) → Prop} {Wr : σ → Prop} (hF : ∀ Qn, H Qn → WS R m F (kJ R mOf Qn k)) (hG : ∀ s, Wr s → WS R (mOf s) G k) (h : lw H Wr) : WS R m (fSeq F G) k := WS.mk fun env S q => by
  have h2 := hF Wr h env S q
  rw [ev_seq]
  cases e : F env S with
  | nx env1 S1 =>
    rw [e] at h2
    obtain ⟨s, hs, r⟩ := h2
    exact hG s hs env1 S1 r
  | _ => rw [e] at h2; exact h2
theorem RelC.setK (r : RelC R m env S) (k : AK) : RelC R (m.set i k.sl) (env.set i (some (k.y S))) (k.st S) := by
  obtain ⟨c, hc, r⟩ := r
  exact ⟨c, hc, r.setK k⟩
theorem ws_set {κ : α → AK} {H : (α → Prop) → Prop} {Wr : α → Prop} (hf : WX R m f κ H m1) (hk : ∀ x, Wr x → WS R (m1.set i (κ x).sl) G k) (h : lw H Wr) : WS R m (fSeq (fSet i f) G) k := WS.mk fun env S q => by
  obtain ⟨x, S1, e1, r1, q1⟩ := hf Wr h env S q
  simp only [ev_seq, ev_set, e1, Res.bindE, SR.seq]
  exact hk x q1 _ _ (r1.setK (κ x))
theorem ws_setp {C : Prop} (κ : α → AK) {v : α} {Wr : α → Prop} (hf : C → PX m f (κ v) m1) (hk : ∀ x, Wr x → WS R (m1.set i (κ x).sl) G k) (h : C ∧ lt v Wr) : WS R m (fSeq (fSet i f) G) k := ws_set (κ := κ) (H := fun Q => C ∧ Q v) (wx_p hf) hk h
theorem ws_drop {κ : α → D} {H : (α → Prop) → Prop} {Wr : α → Prop} (hf : WV R m f κ H m1) (hk : ∀ x, Wr x → WS R m1 G k) (h : lw H Wr) : WS R m (fSeq (fDrop f) G) k := WS.mk fun env S q => by
  obtain ⟨x, S1, e1, r1, q1⟩ := hf Wr h env S q
  simp only [ev_seq, ev_drop, e1, Res.bindE, SR.seq]
  exact hk x q1 _ _ r1
theorem ws_dropp {C W : Prop} (hf : C → PX m f (.v d) m1) (hk : W → WS R m1 G k) (h : C ∧ W) : WS R m (fSeq (fDrop f) G) k := WS.mk fun env S q => by
  obtain ⟨c, hc, q⟩ := q
  obtain ⟨S1, e1, r1⟩ := hf h.1 _ env S q
  simp only [ev_seq, ev_drop, e1, Res.bindE, SR.seq]
  exact hk h.2 _ _ ⟨c, hc, r1⟩
theorem ws_asg {c : α → D} {t : Tg} {H : (α → Prop) → Prop} {Wr : α → Prop} {m2 : α → List Sl} (hf : WV R m f c H m1) (hk : ∀ x, Wr x → GT t (c x) m1 (m2 x) ∧ WS R (m2 x) G k) (h : lw H Wr) : WS R m (fSeq (fAsg t f) G) k := WS.mk fun env S q => by
  obtain ⟨x, S1, e1, ⟨cc, hc, r1⟩, q1⟩ := hf Wr h env S q
  obtain ⟨h1, h2⟩ := hk x q1
  obtain ⟨env1, e2, r2⟩ := h1 _ env S1 r1
  simp only [ev_seq, ev_asg, e1, Res.bindE, AK.y, AK.st, e2, SR.seq]
  exact h2 _ _ ⟨cc, hc, r2⟩
/-- parallel: all but the last give plain data -/
theorem ws_par {c : α → D} {κ2 : β → AK} {H : (α → Prop) → Prop} {H2 : α → (β → Prop) → Prop} {Wr : α → β → Prop} (hf : WV R m f c H m1) (hg : ∀ x, WX R m1 g κ2 (H2 x) m2) (hk : ∀ x y, Wr x y → WS R ((m2.set i (.va (c x))).set j (κ2 y).sl) G k) (h : lw H fun x => lw (H2 x) fun y => Wr x y) : WS R m (fSeq (fPar i j (fCons f (fCons g fNil))) G) k := WS.mk fun env S q => by
  obtain ⟨x, S1, e1, r1, q1⟩ := hf _ h env S q
  obtain ⟨y, S2, e2, ⟨cc, hc, r2⟩, q2⟩ := hg x _ q1 env S1 r1
  simp only [ev_seq, ev_par, fCons, e1, Res.bind, AK.y, AK.st, e2, fNil, Res.bindE, SR.seq]
  exact hk x y q2 _ _ ⟨cc, hc, r2.setV.setK (κ2 y)⟩
theorem ws_par3 {c : α → D} {c2 : β → D} {κ3 : γ → AK} {H : (α → Prop) → Prop} {H2 : α → (β → Prop) → Prop} {H3 : α → β → (γ → Prop) → Prop} {Wr : α → β → γ → Prop} (hf : WV R m f c H m1) (hg : ∀ x, WV R m1 g c2 (H2 x) m2) (hh : ∀ x y, WX R m2 h κ3 (H3 x y) m3) (hk : ∀ x y z, Wr x y z → WS R (((m3.set i (.va (c x))).set j (.va (c2 y))).set l (κ3 z).sl) G k) (hW : lw H fun x => lw (H2 x) fun y => lw (H3 x y) fun z => Wr x y z) : WS R m (fSeq (fPar3 i j l (fCons f (fCons g (fCons h fNil)))) G) k := WS.mk fun env S q => by
  obtain ⟨x, S1, e1, r1, q1⟩ := hf _ hW env S q
  obtain ⟨y, S2, e2, r2, q2⟩ := hg x _ q1 env S1 r1
  obtain ⟨z, S3, e3, ⟨cc, hc, r3⟩, q3⟩ := hh x y _ q2 env S2 r2
  simp only [ev_seq, ev_par3, fCons, e1, Res.bind, AK.y, AK.st, e2, e3, fNil, Res.bindE, SR.seq]
  exact hk x y z q3 _ _ ⟨cc, hc, r3.setV.setV.setK (κ3 z)⟩
/-- parallel: new things, made without draws -/
theorem ws_parn {κ1 : α → AK} (κ2 : β → AK) {v2 : β} {C : Prop} {H : (α → Prop) → Prop} {Wr : α → β → Prop} (hf : WX R m f κ1 H m1) (hg : C → PN m1 g (κ2 v2)) (hk : ∀ x y, Wr x y → WS R ((m1.set i (κ1 x).sl).set j (κ2 y).sl) G k) (h : lw H fun x => C ∧ lt v2 fun y => Wr x y) : WS R m (fSeq (fPar i j (fCons f (fCons g fNil))) G) k := WS.mk fun env S q => by
  obtain ⟨x, S1, e1, ⟨cc, hc, r1⟩, q1⟩ := hf _ h env S q
  have e2 := hg q1.1 _ env _ (r1.growK (κ1 x))
  simp only [ev_seq, ev_par, fCons, e1, Res.bind, e2, fNil, Res.bindE, SR.seq]
  exact hk x v2 q1.2 _ _ ⟨cc, hc, (r1.setK (κ1 x)).setK (κ2 v2)⟩
theorem ws_aug {x : Int} {H : (Int → Prop) → Prop} {Wr : Int → Prop} (hi : m[i]? = some (.va (.int x))) (hf : WV R m f eI H m1) (hk : ∀ z, Wr z → WS R (m1.set i (.va (.int z))) G k) (h : lw H fun y => lt (x + y) Wr) : WS R m (fSeq (fAug i sIAdd f) G) k := WS.mk fun env S q => by
  obtain ⟨y, S1, e1, r1, q1⟩ := hf _ h env S q
  obtain ⟨c, hc, q⟩ := q
  have e0 := q.va i _ hi
  obtain ⟨c1, hc1, r1⟩ := r1
  simp only [ev_seq, ev_aug e0, e1, Res.bindE, AK.y, AK.st, s_iadd, SR.seq]
  exact hk _ q1 _ _ ⟨c1, hc1, r1.setV⟩
theorem ws_ret {e : ρ → D} {H : (ρ → Prop) → Prop} {Q : ρ → Prop} (hf : WV R m f e H m1) (hk : k.rt = kRt R e Q) (h : H Q) : WS R m (fSeq (fRet f) G) k := WS.mk fun env S q => by
  obtain ⟨x, S1, e1, ⟨c, hc, r1⟩, q1⟩ := hf Q h env S q
  simp only [ev_seq, ev_ret, e1, Res.bindE, SR.seq, AK.y, AK.st, KK.ok, hk]
  obtain ⟨R', e'⟩ := r1.pre
  exact ⟨x, c, R', hc, e', .inl rfl, q1⟩
theorem ws_retl {e : ρ → List D} {H : (ρ → Prop) → Prop} {Q : ρ → Prop} (hf : WX R m f (fun x => AK.l (e x)) H m1) (hk : k.rt = kRt R (fun x => .lst (e x)) Q) (h : H Q) : WS R m (fSeq (fRet f) G) k := WS.mk fun env S q => by
  obtain ⟨x, S1, e1, ⟨c, hc, r1⟩, q1⟩ := hf Q h env S q
  simp only [ev_seq, ev_ret, e1, Res.bindE, SR.seq, AK.y, AK.st, KK.ok, hk]
  obtain ⟨R', rfl⟩ := r1.pre
  exact ⟨x, c, R' ++ [.lst (e x)], hc, by rw [List.append_assoc], .inr ⟨_, rfl, by rw [List.length_append]; omega, by simp [den]⟩, q1⟩
theorem ws_retM {e : ρ → D} {x : ρ} {Q : ρ → Prop} (hi : m[i]? = some (.mu (.lst ds))) (he : e x = .lst ds) (hk : k.rt = kRt R e Q) (h : Q x) : WS R m (fSeq (fRet (fVar i)) G) k := WS.mk fun env S q => by
  obtain ⟨c, hc, q⟩ := q
  obtain ⟨n, e1, e2, e3⟩ := q.mu i _ hi
  have : fVar i env S = .ok (.ref n) S := by simp only [fVar, e1]
  simp only [ev_seq, ev_ret, this, Res.bindE, SR.seq, KK.ok, hk]
  obtain ⟨R', e'⟩ := q.pre
  exact ⟨x, c, R', hc, e', .inr ⟨n, rfl, e2, by simp only [den, e3, he]⟩, h⟩
theorem ws_if {H : (Bool → Prop) → Prop} {W1 W2 : Prop} (ht : WT R m t H m1) (hF : W1 → WS R m1 F k) (hG : W2 → WS R m1 G k) (h : H fun b => (b = true → W1) ∧ (b = false → W2)) : WS R m (fIfS t F G) k := WS.mk fun env S q => by
  obtain ⟨b, S1, e1, r1, q1⟩ := ht _ h env S q
  simp only [ev_ifs, e1, Res.bindE]
  cases b with
  | true => exact hF (q1.1 rfl) _ _ r1
  | false => simp only [Bool.false_eq_true, if_false]; exact hG (q1.2 rfl) _ _ r1
theorem ws_ifp {C p W1 W2 : Prop} (ht : C → PB m t p) (hF : p → W1 → WS R m F k) (hG : ¬p → W2 → WS R m G k) (h : C ∧ (p → W1) ∧ (¬p → W2)) : WS R m (fIfS t F G) k := WS.mk fun env S q => by
  obtain ⟨b, e, g⟩ := ht h.1
  have q' := q
  obtain ⟨c, hc, q⟩ := q
  simp only [ev_ifs, g _ env S q, Res.bindE]
  cases b with
  | true => exact hF (e.mp rfl) (h.2.1 (e.mp rfl)) _ _ q'
  | false =>
    have hp : ¬p := fun z => by have := e.mpr z; cases this
    simp only [Bool.false_eq_true, if_false]
    exact hG hp (h.2.2 hp) _ _ q'
/-- if p: return .. -/
theorem ws_ifseq {C p W1 W2 : Prop} (ht : C → PB m t p) (hF : p → W1 → WS R m (fSeq F I) k) (hG : ¬p → W2 → WS R m (fSeq G I) k) (h : C ∧ (p → W1) ∧ (¬p → W2)) : WS R m (fSeq (fIfS t F G) I) k := WS.mk fun env S q => by
  have key : fSeq (fIfS t F G) I env S = fIfS t (fSeq F I) (fSeq G I) env S := by
    simp only [ev_seq, ev_ifs]
    cases t env S with
    | ok b S1 => cases b <;> rfl
    | _ => rfl
  rw [key]
  exact ws_ifp ht hF hG h env S q
theorem ws_ifseqW {H : (Bool → Prop) → Prop} {W1 W2 : Prop} (ht : WT R m t H m1) (hF : W1 → WS R m1 (fSeq F I) k) (hG : W2 → WS R m1 (fSeq G I) k) (h : H fun b => (b = true → W1) ∧ (b = false → W2)) : WS R m (fSeq (fIfS t F G) I) k := WS.mk fun env S q => by
  have key : fSeq (fIfS t F G) I env S = fIfS t (fSeq F I) (fSeq G I) env S := by
    simp only [ev_seq, ev_ifs]
    cases t env S with
    | ok b S1 => cases b <;> rfl
    | _ => rfl
  rw [key]
  exact ws_if ht hF hG h env S q
theorem ws_st {mOf : σ → List Sl} {s : σ} {Q : σ → Prop} (w : Wk (mOf s) m) (hk : k.nx = kSt R mOf Q) (h : Q s) : WS R m fNx k := WS.mk fun env S q => by
  obtain ⟨c, hc, q⟩ := q
  simp only [ev_nx, KK.ok, hk]
  exact ⟨s, h, c, hc, q.weak w⟩
theorem ws_vd {Q : Unit → Prop} (h : Q ()) : WS R m fNx (kV R Q) := WS.mk fun env S q => by
  obtain ⟨c, hc, q⟩ := q
  obtain ⟨R', e'⟩ := q.pre
  exact ⟨c, R', hc, e', h⟩
theorem ws_cnt {mOf : σ → List Sl} {s : σ} {Q : σ → Prop} (w : Wk (mOf s) m) (hk : k.ct = kSt R mOf Q) (h : Q s) : WS R m (fSeq fCnt G) k := WS.mk fun env S q => by
  obtain ⟨c, hc, q⟩ := q
  show k.ct env S
  rw [hk]
  exact ⟨s, h, c, hc, q.weak w⟩
theorem ws_brk {mOf : σ → List Sl} {s : σ} {Q : σ → Prop} (w : Wk (mOf s) m) (hk : k.bk = kSt R mOf Q) (h : Q s) : WS R m (fSeq fBrk G) k := WS.mk fun env S q => by
  obtain ⟨c, hc, q⟩ := q
  show k.bk env S
  rw [hk]
  exact ⟨s, h, c, hc, q.weak w⟩
theorem ws_app {e : α → D} {xs : List α} {H : (α → Prop) → Prop} {Wr : List α → Prop} (hf : WV R m f e H m1) (h0 : m[i]? = some (.mu (.lst (xs.map e)))) (h1 : m1[i]? = some (.mu (.lst (xs.map e)))) (hk : ∀ ys, Wr ys → WS R (m1.set i (.mu (.lst (ys.map e)))) G k) (hP : lw H fun x => szOk (xs.length + 1) ∧ lt (xs ++ [x]) Wr)
    (hsame : ∀ env S S1, RelC R m env S → RelC R m1 env S1 → True := by intros; trivial) : WS R m (fSeq (fDrop (fMet isSt sApp (fVar i) (fCons f fNil))) G) k := WS.mk fun env S q => by
  obtain ⟨x, S1, g1, ⟨c1, hc1, r1⟩, hz, q1⟩ := hf _ hP env S q
  obtain ⟨c, hc, q⟩ := q
  obtain ⟨n, e1, e2, e3⟩ := q.mu i _ h0
  obtain ⟨n', e1', e2', e3'⟩ := r1.mu i _ h1
  rw [e1] at e1'; cases e1'
  have hv : fVar i env S = .ok (.ref n) S := by simp only [fVar, e1]
  have hc' : isSt (.ref n) S = true := by simp only [isSt, stL, e3, Option.isSome]
  have hs : stL (.ref n) S1 = some (n, xs.map e) := by simp only [stL, e3']
  have hm : fMet isSt sApp (fVar i) (fCons f fNil) env S = .ok (.v .non) (S1.set n (.lst ((xs ++ [x]).map e))) := by
    simp only [fMet, hv, Res.bind, hc', if_true, fCons, g1, fNil, sApp, AK.y, AK.st, thaw1_v, hs, List.length_map, okLen_of hz, List.map_append, List.map_cons, List.map_nil]
  simp only [ev_seq, ev_drop, hm, Res.bindE, SR.seq]
  exact hk _ q1 _ _ ⟨c1, hc1, r1.upd h1 e1⟩
theorem ws_appp {C : Prop} {e : α → D} {xs : List α} {x : α} {Wr : List α → Prop} (hf : C → PH m f (e x) m1) (h0 : m[i]? = some (.mu (.lst (xs.map e)))) (h1 : m1[i]? = some (.mu (.lst (xs.map e)))) (hk : ∀ ys, Wr ys → WS R (m1.set i (.mu (.lst (ys.map e)))) G k) (hP : (szOk (xs.length + 1) ∧ C) ∧ lt (xs ++ [x]) Wr) :
    WS R m (fSeq (fDrop (fMet isSt sApp (fVar i) (fCons f fNil))) G) k := WS.mk fun env S q => by
  obtain ⟨⟨hz, hC⟩, q1⟩ := hP
  obtain ⟨c, hc, q⟩ := q
  obtain ⟨n, e1, e2, e3⟩ := q.mu i _ h0
  obtain ⟨y, S1, S2, g1, g2, g3⟩ := hf hC _ env S q
  obtain ⟨n', e1', e2', e3'⟩ := g3.mu i _ h1
  rw [e1] at e1'; cases e1'
  have hv : fVar i env S = .ok (.ref n) S := by simp only [fVar, e1]
  have hc' : isSt (.ref n) S = true := by simp only [isSt, stL, e3, Option.isSome]
  have hs : stL (.ref n) S2 = some (n, xs.map e) := by simp only [stL, e3']
  have hm : fMet isSt sApp (fVar i) (fCons f fNil) env S = .ok (.v .non) (S2.set n (.lst ((xs ++ [x]).map e))) := by
    simp only [fMet, hv, Res.bind, hc', if_true, fCons, g1, fNil, sApp, g2, hs, List.length_map, okLen_of hz, List.map_append, List.map_cons, List.map_nil]
  simp only [ev_seq, ev_drop, hm, Res.bindE, SR.seq]
  exact hk _ q1 _ _ ⟨c, hc, g3.upd h1 e1⟩
theorem ws_sub {C : Prop} {e : α → D} {xs : List α} {x : α} {j : Int} {Wr : List α → Prop} (hf : C → PV m f (e x)) (hg : C → PV m g (.int j)) (h0 : m[i]? = some (.mu (.lst (xs.map e)))) (hk : ∀ ys, Wr ys → WS R (m.set i (.mu (.lst (ys.map e)))) G k) (hP : (inb xs.length j ∧ C) ∧ lt (psetI xs j x) Wr) :
    WS R m (fSeq (fSub (fVar i) g f) G) k := WS.mk fun env S q => by
  obtain ⟨⟨hj, hC⟩, q1⟩ := hP
  obtain ⟨c, hc, q⟩ := q
  obtain ⟨n, e1, e2, e3⟩ := q.mu i _ h0
  obtain ⟨jj, e4, e5⟩ := ixN_some hj
  have hv : fVar i env S = .ok (.ref n) S := by simp only [fVar, e1]
  have hs : stL (.ref n) S = some (n, xs.map e) := by simp only [stL, e3]
  have hm : fSub (fVar i) g f env S = .nx env (S.set n (.lst ((psetI xs j x).map e))) := by
    simp only [fSub, hf hC _ env S q, Res.bindE, hv, hg hC _ env S q, thaw1_v, hs, List.length_map, e4, psetI, List.map_set]
  simp only [ev_seq, hm, SR.seq]
  exact hk _ q1 _ _ ⟨c, hc, q.upd h0 e1⟩
/-! loops -/
theorem forW_run {c : α → D} {t : Tg} {mOf : σ → List Sl} {m2 : σ → α → List Sl} {body : σ → α → (σ → Prop) → (σ → Prop) → Prop} (hb : ∀ s x Qn Qb, body s x Qn Qb → GT t (c x) (mOf s) (m2 s x) ∧ WS R (m2 s x) F (kL R mOf Qn Qb k)) {Q : σ → Prop} :
    ∀ (l : List α) (s : σ) (env : Ev) (S : Sto), wFor body l s Q → RelC R (mOf s) env S → (kJ R mOf Q k).ok (forD t F (l.map c) env S)
  | [], s, env, S, h, q => ⟨s, h, q⟩
  | x :: l, s, env, S, h, q => by
    obtain ⟨h1, h2⟩ := hb s x _ _ h
    obtain ⟨cc, hc, q⟩ := q
    obtain ⟨env1, e1, r1⟩ := h1 _ env S q
    have h3 := h2 env1 S ⟨cc, hc, r1⟩
    simp only [List.map_cons, forD, e1]
    cases e : F env1 S with
    | nx env2 S2 =>
      rw [e] at h3
      obtain ⟨s', h4, r4⟩ := h3
      exact forW_run hb l s' env2 S2 h4 r4
    | ct env2 S2 =>
      rw [e] at h3
      obtain ⟨s', h4, r4⟩ := h3
      exact forW_run hb l s' env2 S2 h4 r4
    | bk env2 S2 => rw [e] at h3; exact h3
    | rt y S2 => rw [e] at h3; exact h3
    | _ => rw [e] at h3; exact h3.elim
theorem ws_for {c : α → D} {t : Tg} {mOf : σ → List Sl} {m2 : σ → α → List Sl} {body : σ → α → (σ → Prop) → (σ → Prop) → Prop} {H : (List α → Prop) → Prop} {s0 : σ} {Q : σ → Prop} (hi : WI R m fi c H m1) (hw : Wk (mOf s0) m1) (hb : ∀ s x Qn Qb, body s x Qn Qb → GT t (c x) (mOf s) (m2 s x) ∧ WS R (m2 s x) F (kL R mOf Qn Qb k)) (h : lw H fun l => wFor body l s0 Q) :
    WS R m (fFor t fi F) (kJ R mOf Q k) := WS.mk fun env S q => by
  obtain ⟨l, S1, e1, ⟨cc, hc, r1⟩, q1⟩ := hi _ h env S q
  simp only [ev_for, e1, Res.bindE]
  exact forW_run hb l s0 env S1 q1 ⟨cc, hc, r1.weak hw⟩
theorem whW_run {mOf : σ → List Sl} {cd : σ → (Bool → Prop) → Prop} {body : σ → (σ → Prop) → (σ → Prop) → Prop} (hc : ∀ s, WT R (mOf s) t (cd s) (mOf s)) (hb : ∀ s Qn Qb, body s Qn Qb → WS R (mOf s) F (kL R mOf Qn Qb k)) {Q : σ → Prop} :
    ∀ (n : Nat) (s : σ) (env : Ev) (S : Sto), wWh cd body n s Q → RelC R (mOf s) env S → ∃ x, whD t F n env S = x ∧ x ≠ .bad ∧ (kJ R mOf Q k).ok x
  | 0, _, _, _, h, _ => h.elim
  | n + 1, s, env, S, h, q => by
    obtain ⟨b, S1, e1, r1, q1⟩ := hc s _ h env S q
    simp only [whD, e1, Res.bindE]
    cases b with
    | false => exact ⟨_, rfl, (fun z => by simp at z), s, q1.2 rfl, r1⟩
    | true =>
      have h3 := hb s _ _ (q1.1 rfl) env S1 r1
      simp only [if_true]
      cases e : F env S1 with
      | nx env2 S2 =>
        rw [e] at h3
        obtain ⟨s', h4, r4⟩ := h3
        exact whW_run hc hb n s' env2 S2 h4 r4
      | ct env2 S2 =>
        rw [e] at h3
        obtain ⟨s', h4, r4⟩ := h3
        exact whW_run hc hb n s' env2 S2 h4 r4
      | bk env2 S2 => rw [e] at h3; exact ⟨_, rfl, (fun z => by cases z), h3⟩
      | rt y S2 => rw [e] at h3; exact ⟨_, rfl, (fun z => by cases z), h3⟩
      | _ => rw [e] at h3; exact h3.elim
theorem ws_wh {mOf : σ → List Sl} {cd : σ → (Bool → Prop) → Prop} {body : σ → (σ → Prop) → (σ → Prop) → Prop} {s0 : σ} {Q : σ → Prop} (hw : Wk (mOf s0) m) (hc : ∀ s, WT R (mOf s) t (cd s) (mOf s)) (hb : ∀ s Qn Qb, body s Qn Qb → WS R (mOf s) F (kL R mOf Qn Qb k)) (h : ∃ n, wWh cd body n s0 Q) : WS R m (fWh t F) (kJ R mOf Q k) := WS.mk fun env S q => by
  obtain ⟨n, h⟩ := h
  obtain ⟨c, hcc, q⟩ := q
  obtain ⟨x, e, hx, hk⟩ := whW_run hc hb n s0 env S h ⟨c, hcc, q.weak hw⟩
  rw [fWh_of e hx]
  exact hk
/-! a def -/
theorem start_relC (ds : List D) (k : Nat) (c : Int × Int) (R : Sto) : Rel (St c R) (.fx 0 :: (ds.map Sl.va ++ List.replicate k .un)) (startE (1 + ds.length + k) (.ref 0 :: ds.map Y.v)) (St c R) := by
  have r := start_rel ds k (St c R)
  have e : startE (1 + ds.length + k) (.ref 0 :: ds.map Y.v) = some (.ref 0) :: startE (ds.length + k) (ds.map Y.v) := by
    unfold startE
    simp only [List.map_cons, List.length_cons, List.length_map, List.cons_append]
    rw [show 1 + ds.length + k - (ds.length + 1) = ds.length + k - ds.length by omega]
  rw [e]
  refine ⟨by simp [r.len], r.pre, fun i d h => ?_, fun i n h => ?_, fun i o h => ?_, fun i j o p n h h' e e' => ?_⟩
  · cases i with
    | zero => simp at h
    | succ i => simpa using r.va i d (by simpa using h)
  · cases i with
    | zero => simp at h; subst h; rfl
    | succ i => simpa using r.fx i n (by simpa using h)
  · cases i with
    | zero => simp at h
    | succ i => simpa using r.mu i o (by simpa using h)
  · cases i with
    | zero => simp at h
    | succ i => cases j with
      | zero => simp at h'
      | succ j => exact congrArg (· + 1) (r.inj i j o p n (by simpa using h) (by simpa using h') (by simpa using e) (by simpa using e'))
theorem wrapW {N : Nat} (ds : List D) (k : Nat) (e : ρ → D) {b : FS} {H : (ρ → Prop) → Prop} (hN : N = 1 + ds.length + k) (h : ∀ Q, H Q → ∀ R, WS R (.fx 0 :: (ds.map Sl.va ++ List.replicate k .un)) b (kF R e Q)) : OkW (wrap false N b) (ds.map Y.v) e H := fun Q hQ c R hc => by
  subst hN
  have h2 := h Q hQ R _ (St c R) ⟨c, hc, start_relC ds k c R⟩
  have hl : ∀ c' : Int × Int, (St c R).length = (St c' R).length := fun _ => rfl
  unfold wrap
  cases g : b (startE (1 + ds.length + k) (.ref 0 :: ds.map Y.v)) (St c R) with
  | rt y S1 =>
    rw [g] at h2
    obtain ⟨x, c', R', hc', rfl, h3, hq⟩ := h2
    refine ⟨x, c', ?_, hc', hq⟩
    rw [hl c']
    rcases h3 with h3 | ⟨n, rfl, hn, hd⟩
    · subst h3; simp only [close, take_pre]
    · have hn' : ¬ n < (St c' R).length := by omega
      simp only [close, hn', if_false]
      simp only [den] at hd
      split at hd
      · rename_i ds' e'
        have hd' := Option.some.inj hd
        simp only [e', Bool.false_eq_true, if_false, take_pre, hd']
      · rename_i ks vs e'
        have hd' := Option.some.inj hd
        simp only [e', Bool.false_eq_true, if_false, take_pre, hd']
      · cases hd
  | _ => rw [g] at h2; exact h2.elim
end
end Sg

/-! T5: the defs that all laws share; helpers of printed proofs -/
namespace Sg
open PySem PySem.Spec PyProof.Rows L2
/-! ### helpers -/
section
variable {m m1 m2 : List Sl} {f g : FE Y} {fs : FE (List Y)} {d d' : D} {ds : List D} {fi : FE (List D)} {R : Sto} {i : Nat} {α γ : Type}
theorem pv_as (d : D) (h : PV m f d) : PV m f d := h
theorem pr_as (d : D) (h : PR m f d) : PR m f d := h
theorem pv_cast (h : d = d') (hp : PV m f d) : PV m f d' := h ▸ hp
theorem px_as (d : D) (h : PX m f (.v d) m1) : PX m f (.v d) m1 := h
theorem px_cast (h : d = d') (hp : PX m f (.v d) m1) : PX m f (.v d') m1 := h ▸ hp
theorem eO_some {e : α → D} [Inhabited α] {x : Option α} (h : x.isSome = true) : eO e x = e (x.getD default) := by
  cases x with
  | none => cases h
  | some a => rfl
/-- numbers that a range may go between -/
abbrev cR (a b : Int) : Prop := -4000000 ≤ a ∧ a ≤ 4000000 ∧ -4000000 ≤ b ∧ b ≤ 4000000
theorem cR.a {a b : Int} (h : cR a b) : rOk a := ⟨by have := h.1; omega, by have := h.2.1; omega⟩
theorem cR.b {a b : Int} (h : cR a b) : rOk b := ⟨by have := h.2.2.1; omega, by have := h.2.2.2; omega⟩
theorem cR.sz {a b : Int} (h : cR a b) : szOk (rng a b).length := by
  obtain ⟨h1, h2, h3, h4⟩ := h
  simp only [List.length_map, List.length_range, szOk]; omega
theorem cR.szd {a b : Int} (h : cR a b) : szOk (rngdn a b).length := by
  obtain ⟨h1, h2, h3, h4⟩ := h
  simp only [List.length_map, List.length_range, szOk]; omega
theorem sz_zip {β : Type} {xs : List α} {ys : List β} (h : szOk xs.length) : szOk (xs.zip ys).length := by
  simp only [szOk, List.length_zip] at *; omega
theorem numbr_len (k : Nat) : ∀ xs : List α, (numbr k xs).length = xs.length := fun xs => by
  induction xs generalizing k with
  | nil => rfl
  | cons x xs ih => simp [numbr, ih]
theorem sz_numbr {k : Nat} {xs : List α} (h : szOk xs.length) : szOk (numbr k xs).length := by rw [numbr_len]; exact h
theorem pi_lc {f : FE Y} {ds : List D} (h : PIt m (fItS f) ds) : PIt m (fItS f) ds := h
theorem wx_drawp {n : Nat} {mf : List Y → Sto → Res Y} {e : γ → D} {W : (γ → Prop) → Prop} {C : Prop} (hi : m[i]? = some (.fx 0)) (hf : C → PXs m fs ds m1) (hn : ds.length + 1 = n) (hs : OkW mf (ds.map Y.v) e W) :
    WV R m (fOwn n mf (fCons (fVar i) fs)) e (fun Q => C ∧ W Q) m1 :=
  wx_draw (W := fun (_ : Unit) => W) hi (wa_p (v := ()) (dv := fun _ => ds) hf) (fun _ => hn) (fun _ => hs)
theorem wx_drawq {n : Nat} {mf : List Y → Sto → Res Y} {e : γ → D} {W : (γ → Prop) → Prop} (hi : m[i]? = some (.fx 0)) (hf : PXs m fs ds m1) (hn : ds.length + 1 = n) (hs : OkW mf (ds.map Y.v) e W) :
    WV R m (fOwn n mf (fCons (fVar i) fs)) e W m1 := fun Q hQ => wx_drawp hi (fun _ : True => hf) hn hs Q ⟨trivial, hQ⟩
theorem wx_q {κ : α → AK} {v : α} (hf : PX m f (κ v) m1) : WX R m f κ (fun Q => Q v) m1 := fun Q hQ => wx_p (C := True) (fun _ => hf) Q ⟨trivial, hQ⟩
theorem wi_q {c : α → D} {l : List α} (hi : PXI m fi (l.map c) m1) : WI R m fi c (fun Q => Q l) m1 := fun Q hQ => wi_p (C := True) (fun _ => hi) Q ⟨trivial, hQ⟩
theorem wt_q {t : FE Bool} {p : Prop} [Decidable p] (ht : PB m t p) : WT R m t (fun Q => Q (decide p)) m := fun Q hQ => wt_p (C := True) (fun _ => ht) Q ⟨trivial, hQ⟩
theorem wo_q {f : FE (Option Int)} {v : Option Int} (hf : PO m f v) : WO R m f (fun Q => Q v) m := fun Q hQ => wo_p (C := True) (fun _ => hf) Q ⟨trivial, hQ⟩
theorem wx_weak {κ : α → AK} {H H' : (α → Prop) → Prop} (h : WX R m f κ H m1) (i : ∀ Q, H' Q → H Q) : WX R m f κ H' m1 := fun Q hQ => h Q (i Q hQ)
theorem sb_adds {a b : Str} (h : szOk (a.length + b.length)) {mm : Bool} : SB (sAdd mm) (.str a) (.str b) (.str (a ++ b)) := fun x y S h1 h2 => by
  rw [den_str h1, den_str h2]; simp only [sAdd, okLen_of h, if_true]
end
/-! ### draws -/
section
variable {a b : Int} {R : Sto}
theorem ix0R : sIx (.ref 0) (.v (.int 0)) (.lst [.int a, .int b] :: R) = .ok (.v (.int a)) (.lst [.int a, .int b] :: R) := s_ix (fun _ h => by cases h) rfl rfl
theorem ix1R : sIx (.ref 0) (.v (.int 1)) (.lst [.int a, .int b] :: R) = .ok (.v (.int b)) (.lst [.int a, .int b] :: R) := s_ix (fun _ h => by cases h) rfl rfl
theorem subR0 {env : Ev} {v : Int} {S0 : Sto} {f fo fi : FE Y} (h1 : f env S0 = .ok (.v (.int v)) (.lst [.int a, .int b] :: R)) (h2 : fo env (.lst [.int a, .int b] :: R) = .ok (.ref 0) (.lst [.int a, .int b] :: R)) (h3 : fi env (.lst [.int a, .int b] :: R) = .ok (.v (.int 0)) (.lst [.int a, .int b] :: R)) : fSub fo fi f env S0 = .nx env (.lst [.int v, .int b] :: R) := by
  simp [fSub, h1, h2, h3, stL, ixN]
theorem subR1 {env : Ev} {v : Int} {S0 : Sto} {f fo fi : FE Y} (h1 : f env S0 = .ok (.v (.int v)) (.lst [.int a, .int b] :: R)) (h2 : fo env (.lst [.int a, .int b] :: R) = .ok (.ref 0) (.lst [.int a, .int b] :: R)) (h3 : fi env (.lst [.int a, .int b] :: R) = .ok (.v (.int 1)) (.lst [.int a, .int b] :: R)) : fSub fo fi f env S0 = .nx env (.lst [.int a, .int v] :: R) := by
  simp [fSub, h1, h2, h3, stL, ixN]
end
abbrev nOk (n : Int) : Prop := 0 < n ∧ n < 1000000000
def WRoll (n : Int) (Q : Int → Prop) : Prop := ∀ r, 0 ≤ r → r < n → Q r
theorem okRoll {k1 k2 p1 k3 p2 k4 many : Int} (hp1 : 0 < p1 ∧ p1 ≤ 4294967296) (hp2 : 0 < p2) (hk1 : k1.natAbs < 18446744073709551616) (hk4 : okDiv k4 = true) (hm : nOk many) : OkW (wrap false 4 (bRoll k1 k2 p1 k3 p2 k4)) [.v (.int many)] eI (WRoll many) := fun Q hQ c R hc => by
  obtain ⟨a, b⟩ := c
  obtain ⟨ha, hb, hb2⟩ := hc
  have hd : okDiv many = true := okDiv_of (by omega) (by omega)
  have hm0 : many ≠ 0 := by omega
  have hp0 : p1 ≠ 0 := by omega
  have hp20 : p2 ≠ 0 := by omega
  by_cases h0 : 0 < a
  · have g := fmod_range (x := a) hm.1
    refine ⟨a.fmod many, (a.fdiv many, b), ?_, ⟨fdiv_nonneg' ha hm.1, hb, hb2⟩, hQ _ g.1 g.2⟩
    simp only [wrap, bRoll, startE, ev_seq, ev_ifs, ev_test]
    simp [h0, s_mod hm0, ix0R]
    rw [subR0 (R := R) (a := a) (b := b) (v := a.fdiv many) (by simp [s_fdiv hd, ix0R]) (by simp) (by simp)]
    simp
  · have g := fmod_range (x := b * k1 + k2) hp1.1
    have g2 := fmod_range (x := ((((b * k1 + k2).fmod p1) * ((b * k1 + k2).fmod p1 + k3)).fmod p2).fdiv k4) hm.1
    refine ⟨_, (a, (b * k1 + k2).fmod p1), ?_, ⟨ha, g.1, by show _ < _; omega⟩, hQ _ g2.1 g2.2⟩
    simp only [wrap, bRoll, startE, ev_seq, ev_ifs, ev_test]
    simp [h0, ix0R]
    rw [subR1 (R := R) (a := a) (b := b) (v := (b * k1 + k2).fmod p1) (by simp [s_mul (okMul_r hk1), s_mod hp0, ix1R]) (by simp) (by simp)]
    simp [s_mul (okMul_l (a := (b * k1 + k2).fmod p1) (b := (b * k1 + k2).fmod p1 + k3) (by omega)), s_mod hp20, s_fdiv hk4, s_mod hm0, ix1R]
def bSome (mr : List Y → Sto → Res Y) : FS := (fRet (fBin sIx (fVar 1) (fOwn 2 mr (fCons (fVar 0) (fCons (fCall sLen (fCons (fVar 1) fNil)) fNil)))))
abbrev sOk (n : Nat) : Prop := 0 < n ∧ n < 1000000000
theorem okSomeG {α : Type} {e : α → D} {xs : List α} {mr : List Y → Sto → Res Y} (hr : ∀ many, nOk many → OkW mr [.v (.int many)] eI (WRoll many)) (h : sOk xs.length) (d : D) (hd : d = eL e xs ∨ d = eT e xs) : OkW (wrap false 2 (bSome mr)) [.v d] e (fun Q => ∀ x ∈ xs, Q x) := fun Q hQ c R hc => by
  obtain ⟨r, c', e1, hc', h0, h1⟩ := hr (xs.length : Int) ⟨by omega, by omega⟩ (fun r => 0 ≤ r ∧ r < xs.length) (fun r a b => ⟨a, b⟩) c R hc
  obtain ⟨k, rfl⟩ : ∃ k : Nat, r = k := ⟨r.toNat, by omega⟩
  have hk : k < xs.length := by omega
  have ha : L2.atI (xs.map e) (k : Int) = some (e xs[k]) := L2.atI_nat (by rw [List.getElem?_map, List.getElem?_eq_getElem hk]; rfl)
  refine ⟨xs[k], c', ?_, hc', hQ _ (List.getElem_mem hk)⟩
  have hw : wrap false 2 (bSome mr) [.ref 0, .v d] (St c R) = fin false (St c R).length (bSome mr [some (.ref 0), some (.v d)] (St c R)) := wrap_fin
  have hl : sLen [.v d] (St c R) = .ok (.v (.int xs.length)) (St c R) := by
    rcases hd with rfl | rfl <;> simp [sLen, getS]
  have hi : sIx (.v d) (.v (.int k)) (St c' R) = .ok (.v (e xs[k])) (St c' R) := by
    rcases hd with rfl | rfl
    · exact s_ixL ha
    · exact s_ixT ha
  rw [hw]
  unfold bSome
  refine (congrArg (fin false _) (ret_ok (bin_ok (var_ok (by rfl)) (own_ok (cons_ok (var_ok (by rfl)) (cons_ok (call_ok (cons_ok (var_ok (by rfl)) ev_nil) hl) ev_nil)) (by rfl) e1) hi))).trans ?_
  rw [fin_rt, show (St c R).length = (St c' R).length from rfl, List.take_length]
theorem cupW {d k1 k2 p c : Int} (hd : okDiv d = true ∧ 0 < d) (hk : k1.natAbs < 18446744073709551616) (hp : 0 < p ∧ p + c ≤ 4294967296) (hc : 0 ≤ c) (ns : List Int) (hl : ns.length ≤ 63) : ∃ cc, CupP cc ∧ wrap true 2 (bCup d k1 k2 p c) [.v (.scr (ns.map D.int))] [] = .ok (.ref 0) (St cc []) := by
  obtain ⟨S', e, a, b, rfl, h1, h2, h3⟩ := cup_ok hd hk hp hc ns hl
  exact ⟨(a, b), ⟨h1, h2, h3⟩, e⟩
/-- the law's start: the cup -/
theorem law_start {N : Nat} {i : Nat} {G : FS} {m : List Sl} {mc : List Y → Sto → Res Y} {x : D} (hN : ∀ c, Rel (St c []) m ((startE N [.v x]).set i (some (.ref 0))) (St c [])) (h0 : (startE N [.v x])[0]? = some (some (.v x))) (hc : ∃ c, CupP c ∧ mc [.v x] [] = .ok (.ref 0) (St c [])) (h : WS [] m G (kF [] eB (fun b => b = true))) : wrap false N (fSeq (fSet i (fOwn 1 mc (fCons (fVar 0) fNil))) G) [.v x] [] = .ok (.v (.bl true)) [] := by
  obtain ⟨c, hcc, e⟩ := hc
  have h2 := h _ (St c []) ⟨c, hcc, hN c⟩
  have e1 : fSet i (fOwn 1 mc (fCons (fVar 0) fNil)) (startE N [.v x]) [] = .nx ((startE N [.v x]).set i (some (.ref 0))) (St c []) := set_ok (own_ok (cons_ok (var_ok h0) ev_nil) rfl e)
  unfold wrap
  rw [seq_nx e1]
  cases g : G ((startE N [.v x]).set i (some (.ref 0))) (St c []) with
  | rt y S1 =>
    rw [g] at h2
    obtain ⟨b, c', R', _, rfl, h3, rfl⟩ := h2
    rcases h3 with h3 | ⟨n, rfl, hn, hd⟩
    · subst h3; simp [close]
    · simp only [den] at hd
      split at hd <;> cases hd
  | _ => rw [g] at h2; exact h2.elim
/-! ### shared small defs -/
def fw (v : D) (lo hi : Int) : Bool := match v with
  | .int i => decide (lo ≤ i ∧ i ≤ hi)
  | _ => false
def tof (v : D) (a b : Int) : Bool := match v with
  | .tup ds => decide (a ≤ ds.length ∧ ds.length ≤ b)
  | _ => false
def bFw : FS := (fRet (fAndV (fCall sIsi (fCons (fVar 0) (fCons (fC (.ty "int")) fNil))) (fAndV (fNotV (fCall sIsi (fCons (fVar 0) (fCons (fC (.ty "bool")) fNil)))) (fChain sLe sLe (fVar 1) (fVar 0) (fVar 2)))))
def bTof : FS := (fRet (fAndV (fCall sIsi (fCons (fVar 0) (fCons (fC (.ty "tuple")) fNil))) (fChain sLe sLe (fVar 1) (fCall sLen (fCons (fVar 0) fNil)) (fVar 2))))
theorem fw_ok {v : D} (h : (tyD v).isSome = true) {lo hi : Int} (S : Sto) : wrap false 3 bFw [.v v, .v (.int lo), .v (.int hi)] S = .ok (.v (.bl (fw v lo hi))) S := by
  cases v with
  | int i =>
    simp [wrap, bFw, startE, sIsi, tyY, tyD, tyOk, isSub, fw]
    by_cases h1 : lo ≤ i <;> by_cases h2 : i ≤ hi <;> simp [h1, h2]
  | non => simp [wrap, bFw, startE, sIsi, tyY, tyD, tyOk, isSub, fw]
  | bl b => simp [wrap, bFw, startE, sIsi, tyY, tyD, tyOk, isSub, fw]
  | str b => simp [wrap, bFw, startE, sIsi, tyY, tyD, tyOk, isSub, fw]
  | tup b => simp [wrap, bFw, startE, sIsi, tyY, tyD, tyOk, isSub, fw]
  | lst b => simp [wrap, bFw, startE, sIsi, tyY, tyD, tyOk, isSub, fw]
  | _ => cases h
theorem fwI_ok {i : Int} {lo hi : Int} (S : Sto) : wrap false 3 bFw [.v (.int i), .v (.int lo), .v (.int hi)] S = .ok (.v (.bl (decide (lo ≤ i ∧ i ≤ hi)))) S := fw_ok rfl S
theorem tof_ok {v : D} (h : (tyD v).isSome = true) {a b : Int} (S : Sto) : wrap false 3 bTof [.v v, .v (.int a), .v (.int b)] S = .ok (.v (.bl (tof v a b))) S := by
  cases v with
  | tup ds =>
    simp [wrap, bTof, startE, sIsi, tyY, tyD, tyOk, isSub, tof]
    by_cases h1 : a ≤ ds.length <;> by_cases h2 : (ds.length : Int) ≤ b <;> simp [h1, h2]
  | non => simp [wrap, bTof, startE, sIsi, tyY, tyD, tyOk, isSub, tof]
  | bl b => simp [wrap, bTof, startE, sIsi, tyY, tyD, tyOk, isSub, tof]
  | str b => simp [wrap, bTof, startE, sIsi, tyY, tyD, tyOk, isSub, tof]
  | int b => simp [wrap, bTof, startE, sIsi, tyY, tyD, tyOk, isSub, tof]
  | lst b => simp [wrap, bTof, startE, sIsi, tyY, tyD, tyOk, isSub, tof]
  | _ => cases h
theorem tofT_ok {α : Type} {e : α → D} {xs : List α} {a b : Int} (S : Sto) : wrap false 3 bTof [.v (eT e xs), .v (.int a), .v (.int b)] S = .ok (.v (.bl (decide (a ≤ (xs.length : Int) ∧ (xs.length : Int) ≤ b)))) S := by
  rw [tof_ok rfl]; simp [tof]
abbrev sameP (a b : D) : Prop := a = b ∧ D.sg a = true ∧ D.dep a < 6
theorem same_ok {a b : D} (h : sameP a b) (S : Sto) : mSame 6 [.v a, .v b] S = .ok (.v (.bl true)) S := by
  obtain ⟨rfl, h1, h2⟩ := h
  exact same_refl 6 a h1 h2
/-! ### rules without conditions -/
section
variable {α β γ : Type} {R : Sto} {m m1 m2 m3 : List Sl} {f g h : FE Y} {fs : FE (List Y)} {t : FE Bool} {d : D}
theorem wx_binq {sem : Y → Y → Sto → Res Y} {e1 : α → D} {e2 : β → D} {e : γ → D} {H : (α → Prop) → Prop} {H2 : α → (β → Prop) → Prop} {op : α → β → γ} (hf : WV R m f e1 H m1) (hg : ∀ x, WV R m1 g e2 (H2 x) m2) (hs : ∀ x y, SB sem (e1 x) (e2 y) (e (op x y))) :
    WV R m (fBin sem f g) e (fun Q => H fun x => H2 x fun y => Q (op x y)) m2 := fun Q hQ env S q => by
  obtain ⟨x, S1, g1, r1, q1⟩ := hf _ hQ env S q
  obtain ⟨y, S2, g2, r2, q2⟩ := hg x _ q1 env S1 r1
  exact ⟨op x y, S2, by simp only [fBin, g1, Res.bind, AK.y, AK.st, g2]; exact hs x y (.v (e1 x)) (.v (e2 y)) S2 rfl rfl, r2, q2⟩
theorem wx_unq {sem : Y → Sto → Res Y} {e1 : α → D} {e : γ → D} {H : (α → Prop) → Prop} {op : α → γ} (hf : WV R m f e1 H m1) (hs : ∀ x, SU sem (e1 x) (e (op x))) :
    WV R m (fUn sem f) e (fun Q => H fun x => Q (op x)) m1 := fun Q hQ env S q => by
  obtain ⟨x, S1, g1, r1, q1⟩ := hf _ hQ env S q
  exact ⟨op x, S1, by simp only [fUn, g1, Res.bind, AK.y, AK.st]; exact hs x (.v (e1 x)) S1 rfl, r1, q1⟩
theorem wx_call1q {sem : List Y → Sto → Res Y} {e1 : α → D} {e : γ → D} {H : (α → Prop) → Prop} {op : α → γ} (hf : WV R m f e1 H m1) (hs : ∀ x, SC sem [e1 x] (e (op x))) :
    WV R m (fCall sem (fCons f fNil)) e (fun Q => H fun x => Q (op x)) m1 := fun Q hQ env S q => by
  obtain ⟨x, S1, g1, r1, q1⟩ := hf _ hQ env S q
  exact ⟨op x, S1, by simp only [fCall, fCons, g1, Res.bind, AK.y, AK.st, fNil]; exact hs x [.v (e1 x)] S1 rfl, r1, q1⟩
theorem wx_call1N {sem : List Y → Sto → Res Y} {e1 : α → D} {e : γ → List D} {H : (α → Prop) → Prop} {op : α → γ} (hf : WV R m f e1 H m1) (hs : ∀ x, SCN sem [e1 x] (e (op x))) :
    WX R m (fCall sem (fCons f fNil)) (fun x => AK.l (e x)) (fun Q => H fun x => Q (op x)) m1 := fun Q hQ env S q => by
  obtain ⟨x, S1, g1, r1, q1⟩ := hf _ hQ env S q
  exact ⟨op x, S1, by simp only [fCall, fCons, g1, Res.bind, AK.y, AK.st, fNil]; exact hs x [.v (e1 x)] S1 rfl, r1, q1⟩
theorem wx_callq {sem : List Y → Sto → Res Y} {dv : α → List D} {e : γ → D} {H : (α → Prop) → Prop} {op : α → γ} (hf : WA R m fs dv H m1) (hs : ∀ x, SC sem (dv x) (e (op x))) :
    WV R m (fCall sem fs) e (fun Q => H fun x => Q (op x)) m1 := fun Q hQ env S q => by
  obtain ⟨x, S1, g1, r1, q1⟩ := hf _ hQ env S q
  exact ⟨op x, S1, by simp only [fCall, g1, Res.bind, AK.y, AK.st]; exact hs x _ S1 (by rw [List.map_map]; rfl), r1, q1⟩
theorem wx_ownq {n : Nat} {mf : List Y → Sto → Res Y} {dv : α → List D} {e : γ → D} {H : (α → Prop) → Prop} {op : α → γ} (hf : WA R m fs dv H m1) (hn : ∀ x, (dv x).length = n) (hs : ∀ x, ∀ S, mf ((dv x).map Y.v) S = .ok (.v (e (op x))) S) :
    WV R m (fOwn n mf fs) e (fun Q => H fun x => Q (op x)) m1 := fun Q hQ env S q => by
  obtain ⟨x, S1, g1, r1, q1⟩ := hf _ hQ env S q
  exact ⟨op x, S1, by simp only [fOwn, fCall, g1, Res.bind, AK.y, AK.st, List.length_map, hn, if_true]; exact hs x S1, r1, q1⟩
theorem px_if {κ : γ → AK} {p : Prop} [Decidable p] {x y : γ} (ht : PB m t p) (hf : p → PX m f (κ x) m1) (hg : ¬p → PX m g (κ y) m1) : PX m (fIf t f g) (κ (if p then x else y)) m1 := fun B env S r => by
  simp only [fIf, ht.dec B env S r, Res.bind]
  by_cases q : p
  · simp only [q, decide_true, if_true]; exact hf q B env S r
  · simp only [q, decide_false, if_false]; exact hg q B env S r
theorem pvs_px (h : PVs m fs ds) : PXs m fs ds m := fun B env S r => ⟨S, h B env S r, r⟩
end
end Sg
namespace Sg
open PySem PySem.Spec PyProof.Rows L2
theorem forP_triv {σ α : Type} (body : σ → α → σ) : ∀ (l : List α) (s : σ), forP body (fun _ _ => True) l s
  | [], _ => trivial
  | _ :: l, s => ⟨trivial, forP_triv body l _⟩
theorem forCP_triv {σ ρ α : Type} (body : σ → α → Ctl σ ρ) : ∀ (l : List α) (s : σ), forCP body (fun _ _ => True) l s
  | [], _ => trivial
  | x :: l, s => ⟨trivial, by cases body s x <;> first | exact forCP_triv body l _ | trivial⟩
theorem afterP_triv {σ ρ : Type} (c : Ctl σ ρ) : c.afterP fun _ => True := by cases c <;> trivial
theorem pb_dec {m : List Sl} {t : FE Bool} {p : Prop} [Decidable p] (h : PB m t p) : PB m t (decide p = true) := pb_iff h ⟨fun h => decide_eq_true h, fun h => of_decide_eq_true h⟩
theorem map_enc {α : Type} (e : α → D) (xs : List α) : xs.map e = (xs.map e).map eA := by rw [List.map_map]; rfl
instance instInhD : Inhabited D := ⟨.non⟩
theorem sb_ixA {d : D} {a : Int} (hs : isSq d = true) (h : inb (dIt d).length a) : SB sIx d (.int a) (pix (dIt d) a) := fun x y S h1 h2 => by
  cases d with
  | tup ds =>
    have := sb_ixT (e := eA) (xs := ds) (a := a) h x y S (by rw [h1]; simp [eT, eA]) h2
    exact this
  | lst ds =>
    have := sb_ixL (e := eA) (xs := ds) (a := a) h x y S (by rw [h1]; simp [eL, eA]) h2
    exact this
  | _ => cases hs
theorem sc_lenA {d : D} (hs : isSq d = true) : SC sLen [d] (.int (dIt d).length) := fun ys S h => by
  cases d with
  | tup ds =>
    have := sc_lenT (e := eA) (xs := ds) ys S (by rw [h]; simp [eT, eA])
    exact this
  | lst ds =>
    have := sc_lenL (e := eA) (xs := ds) ys S (by rw [h]; simp [eL, eA])
    exact this
  | _ => cases hs
theorem pv_tupR {m : List Sl} {f g : FE Y} {a b : Int} (hf : PV m f (.int a)) (hg : PV m g (.int b)) (h : cR a b) : PV m (fTupR false false f g) (eT eI (rng a b)) := fun B env S r => by
  have hz := h.sz
  simp only [List.length_map, List.length_range] at hz
  rw [tupR_ok (hf B env S r) (hg B env S r) (okR_of' h.a) (okR_of' h.b) (okLen_of hz)]
  simp [rngD, rng, eI]
theorem pv_lstR {m : List Sl} {f g : FE Y} {a b : Int} (hf : PV m f (.int a)) (hg : PV m g (.int b)) (h : cR a b) : PV m (fTupR true false f g) (eL eI (rng a b)) := fun B env S r => by
  have hz := h.sz
  simp only [List.length_map, List.length_range] at hz
  unfold fTupR
  rw [hf B env S r]
  simp only [Res.bind, hg B env S r, sTupR_ok (okR_of' h.a) (okR_of' h.b) (okLen_of hz), if_true, newL_f]
  simp [rngD, rng, eI]
end Sg
namespace Sg
open PySem PySem.Spec PyProof.Rows L2
section
variable {α β γ : Type} {R : Sto} {m m1 m2 m3 : List Sl} {f g h : FE Y} {fs : FE (List Y)} {t : FE Bool} {d : D} {ds : List D} {i : Nat}
theorem wx_drawc {n : Nat} {mf : List Y → Sto → Res Y} {e : γ → D} {W : (γ → Prop) → Prop} {C : Prop} (hi : m[i]? = some (.fx 0)) (hf : C → PXs m fs ds m1) (hn : ds.length + 1 = n) (hs : C → OkW mf (ds.map Y.v) e W) :
    WV R m (fOwn n mf (fCons (fVar i) fs)) e (fun Q => C ∧ W Q) m1 := fun Q hQ => wx_drawq hi (hf hQ.1) hn (hs hQ.1) Q hQ.2
theorem wx_drawC {n : Nat} {mf : List Y → Sto → Res Y} {dv : α → List D} {e : γ → D} {H : (α → Prop) → Prop} {C : α → Prop} {W : α → (γ → Prop) → Prop} (hi : m[i]? = some (.fx 0)) (hf : WA R m fs dv H m1) (hn : ∀ x, (dv x).length + 1 = n) (hs : ∀ x, C x → OkW mf ((dv x).map Y.v) e (W x)) :
    WV R m (fOwn n mf (fCons (fVar i) fs)) e (fun Q => H fun x => C x ∧ W x Q) m1 :=
  wx_draw (W := fun x Q => C x ∧ W x Q) hi hf hn (fun x Q hQ => hs x hQ.1 Q hQ.2)
theorem wx_conv {e1 : α → D} {e2 : β → D} {H : (α → Prop) → Prop} {g : α → β} (h : WV R m f e1 H m1) (he : ∀ x, e2 (g x) = e1 x) : WV R m f e2 (fun Q => H fun x => Q (g x)) m1 := fun Q hQ env S q => by
  obtain ⟨x, S1, g1, r1, q1⟩ := h _ hQ env S q
  exact ⟨g x, S1, by rw [g1]; simp only [AK.y, AK.st, he], r1, q1⟩
end
theorem start_law (n i : Nat) (hi : i < n + 1) {x : D} {m : List Sl} (hm : m = (List.replicate (n + 1) Sl.un).set i (.fx 0)) (c : Int × Int) : Rel (St c []) m ((startE (n + 1) [.v x]).set i (some (.ref 0))) (St c []) := by
  subst hm
  refine ⟨by simp [startE], ⟨[], by simp⟩, fun j d h => ?_, fun j k h => ?_, fun j o h => ?_, fun j l o p k h _ _ _ => ?_⟩
  · rcases set_get h with ⟨rfl, q, _⟩ | ⟨g, e⟩
    · cases q
    · have := get_rep e; cases this
  · rcases set_get h with ⟨rfl, q, hl⟩ | ⟨g, e⟩
    · cases q; exact set_same (by simp [startE] at hl ⊢; omega)
    · have := get_rep e; cases this
  · rcases set_get h with ⟨rfl, q, _⟩ | ⟨g, e⟩
    · cases q
    · have := get_rep e; cases this
  · rcases set_get h with ⟨rfl, q, _⟩ | ⟨g, e⟩
    · cases q
    · have := get_rep e; cases this
end Sg
namespace Sg
open PySem PySem.Spec PyProof.Rows L2
theorem wrap_ok0 {ρ : Type} (k : Nat) (e : ρ → D) {v : ρ} {b : FS} {S : Sto} (h : TS S (List.replicate k .un) b (fun r => Oc.rt (e r)) v) : wrap false k b [] S = .ok (.v (e v)) S :=
  wrap_ok (N := k) [] k e (by simp) h
end Sg
namespace Sg
open PySem PySem.Spec PyProof.Rows L2
/-- what stands at a place -/
inductive At : List Sl → Nat → Sl → Prop
  | z {x : Sl} {m : List Sl} : At (x :: m) 0 x
  | s {x y : Sl} {m : List Sl} {i : Nat} : At m i x → At (y :: m) (i + 1) x
theorem At.get : ∀ {m : List Sl} {i : Nat} {x : Sl}, At m i x → m[i]? = some x
  | _, _, _, .z => rfl
  | _, _, _, .s h => by simpa using At.get h
theorem pv_at {m : List Sl} {i : Nat} {d : D} (h : At m i (.va d)) : PV m (fVar i) d := pv_var h.get
theorem pr_atl {m : List Sl} {i : Nat} {ds : List D} (h : At m i (.mu (.lst ds))) : PR m (fVar i) (.lst ds) := pr_mul h.get
theorem pr_atd {m : List Sl} {i : Nat} {ks vs : List D} (h : At m i (.mu (.dic ks vs))) : PR m (fVar i) (.dic ks vs) := pr_mud h.get
theorem ts_m {ρ : Type} {B : Sto} {m : List Sl} {F : FS} {φ : ρ → Oc} {r : ρ} (m' : List Sl) (e : m = m') (h : TS B m' F φ r) : TS B m F φ r := e ▸ h
theorem ws_m {R : Sto} {m : List Sl} {F : FS} {k : KK} (m' : List Sl) (e : m = m') (h : WS R m' F k) : WS R m F k := e ▸ h
end Sg

/-! T6: dicts, typed -/
namespace Sg
open PySem PySem.Spec PyProof.Rows L2
section
variable {κ ν : Type} [DecidableEq κ]
def dget : List (κ × ν) → κ → Option ν
  | [], _ => none
  | p :: r, k => if p.1 = k then some p.2 else dget r k
def dputR : List (κ × ν) → κ → ν → List (κ × ν)
  | [], _, _ => []
  | p :: r, k, v => (if p.1 = k then (p.1, v) else p) :: dputR r k v
def dput (kvs : List (κ × ν)) (k : κ) (v : ν) : List (κ × ν) := if (dget kvs k).isSome then dputR kvs k v else kvs ++ [(k, v)]
def dmany (kvs : List (κ × ν)) (ps : List (κ × ν)) : List (κ × ν) := ps.foldl (fun a p => dput a p.1 p.2) kvs
variable {ek : κ → D} {ev : ν → D} {n : Nat}
abbrev ksD (ek : κ → D) (kvs : List (κ × ν)) : List D := kvs.map fun p => ek p.1
abbrev vsD (ev : ν → D) (kvs : List (κ × ν)) : List D := kvs.map fun p => ev p.2
theorem dicGet_t (h : EqD ek n) (k : κ) : ∀ kvs : List (κ × ν), dicGet (ksD ek kvs) (vsD ev kvs) (ek k) = (dget kvs k).map ev
  | [] => rfl
  | p :: r => by
    simp only [ksD, vsD, List.map_cons, dicGet, dget, h.dec]
    by_cases q : p.1 = k
    · simp [q]
    · simp only [q, decide_false, Bool.false_eq_true, if_false]; exact dicGet_t h k r
theorem dicSet_t (h : EqD ek n) (k : κ) (v : ν) : ∀ kvs : List (κ × ν), dicSet (ksD ek kvs) (vsD ev kvs) (ek k) (ev v) = vsD ev (dputR kvs k v)
  | [] => rfl
  | p :: r => by
    simp only [ksD, vsD, List.map_cons, dicSet, dputR, h.dec]
    rw [show dicSet (List.map (fun p => ek p.1) r) (List.map (fun p => ev p.2) r) (ek k) (ev v) = vsD ev (dputR r k v) from dicSet_t h k v r]
    by_cases q : p.1 = k <;> simp [q]
theorem dputR_keys (k : κ) (v : ν) : ∀ kvs : List (κ × ν), ksD ek (dputR kvs k v) = ksD ek kvs
  | [] => rfl
  | p :: r => by
    simp only [ksD, dputR, List.map_cons]
    rw [show List.map (fun p => ek p.1) (dputR r k v) = List.map (fun p => ek p.1) r from dputR_keys k v r]
    by_cases q : p.1 = k <;> simp [q]
theorem dicPut_t (h : EqD ek n) (k : κ) (v : ν) (kvs : List (κ × ν)) : dicPut (ksD ek kvs) (vsD ev kvs) (ek k) (ev v) = (ksD ek (dput kvs k v), vsD ev (dput kvs k v)) := by
  unfold dicPut dput
  rw [dicGet_t h, Option.isSome_map]
  by_cases q : (dget kvs k).isSome = true
  · rw [if_pos q, if_pos q, dicSet_t h, dputR_keys]
  · rw [if_neg q, if_neg q]; simp [ksD, vsD]
theorem dput_len (k : κ) (v : ν) (kvs : List (κ × ν)) : (dput kvs k v).length ≤ kvs.length + 1 := by
  unfold dput
  have : ∀ l : List (κ × ν), (dputR l k v).length = l.length := fun l => by
    induction l with
    | nil => rfl
    | cons p r ih => simp [dputR, ih]
  split <;> simp [this]
end
/-- what may be a key -/
structure KyD {α : Type} (e : α → D) : Prop where
  ok : ∀ a, (keyK (e a)).isSome = true
structure NkD {α : Type} (e : α → D) (n : Nat) : Prop where
  ok : ∀ a, ∃ k, nkey (e a) = some k ∧ k.depth ≤ n
theorem nI : NkD eI 0 := ⟨fun a => ⟨_, rfl, by simp [NestedKey.depth]⟩⟩
theorem nB : NkD eB 0 := ⟨fun a => ⟨_, rfl, by simp [NestedKey.depth]⟩⟩
theorem nkeys_map {α : Type} {e : α → D} {n : Nat} (h : NkD e n) : ∀ xs : List α, ∃ ks, nkeys (xs.map e) = some ks ∧ NestedKey.depthAll ks ≤ n
  | [] => ⟨[], by simp [nkeys], by simp [NestedKey.depthAll]⟩
  | x :: xs => by
    obtain ⟨k, e1, h1⟩ := h.ok x
    obtain ⟨ks, e2, h2⟩ := nkeys_map h xs
    exact ⟨k :: ks, by simp [nkeys, e1, e2], by simp only [NestedKey.depthAll]; omega⟩
theorem nT {α : Type} {e : α → D} {n : Nat} (h : NkD e n) : NkD (eT e) (n + 1) := ⟨fun a => by
  obtain ⟨ks, e1, h1⟩ := nkeys_map h a
  exact ⟨.tup ks, by simp only [nkey, e1], by simp only [NestedKey.depth]; omega⟩⟩
theorem nP {α β : Type} {e : α → D} {f : β → D} {n k : Nat} (h : NkD e n) (g : NkD f k) : NkD (eP e f) (max n k + 1) := ⟨fun a => by
  obtain ⟨k1, e1, h1⟩ := h.ok a.1
  obtain ⟨k2, e2, h2⟩ := g.ok a.2
  exact ⟨.tup [k1, k2], by simp [nkey, nkeys, e1, e2], by simp only [NestedKey.depth, NestedKey.depthAll]; omega⟩⟩
theorem nP3 {α β γ : Type} {e : α → D} {f : β → D} {g : γ → D} {n k l : Nat} (h : NkD e n) (hf : NkD f k) (hg : NkD g l) : NkD (eP3 e f g) (max n (max k l) + 1) := ⟨fun a => by
  obtain ⟨k1, e1, h1⟩ := h.ok a.1
  obtain ⟨k2, e2, h2⟩ := hf.ok a.2.1
  obtain ⟨k3, e3, h3⟩ := hg.ok a.2.2
  exact ⟨.tup [k1, k2, k3], by simp [nkey, nkeys, e1, e2, e3], by simp only [NestedKey.depth, NestedKey.depthAll]; omega⟩⟩
theorem NkD.key {α : Type} {e : α → D} {n : Nat} (h : NkD e n) (hn : n ≤ 8) (ht : ∀ a, ∃ ds, e a = .tup ds) : KyD e := ⟨fun a => by
  obtain ⟨k, e1, h1⟩ := h.ok a
  obtain ⟨ds, e2⟩ := ht a
  rw [e2] at e1 ⊢
  have hk : decide (k.depth ≤ 8) = true := decide_eq_true (by omega)
  simp only [keyK, e1, hk, if_true, Option.isSome]⟩
theorem kT {α : Type} {e : α → D} {n : Nat} (h : NkD (eT e) n) (hn : n ≤ 8) : KyD (eT e) := h.key hn fun a => ⟨_, rfl⟩
theorem kP {α β : Type} {e : α → D} {f : β → D} {n : Nat} (h : NkD (eP e f) n) (hn : n ≤ 8) : KyD (eP e f) := h.key hn fun a => ⟨_, rfl⟩
theorem kP3 {α β γ : Type} {e : α → D} {f : β → D} {g : γ → D} {n : Nat} (h : NkD (eP3 e f g) n) (hn : n ≤ 8) : KyD (eP3 e f g) := h.key hn fun a => ⟨_, rfl⟩
theorem KyD.get {α : Type} {e : α → D} (h : KyD e) (a : α) : ∃ k, keyK (e a) = some k := Option.isSome_iff_exists.mp (h.ok a)
theorem KyD.nd {α : Type} {e : α → D} (h : KyD e) (a : α) : (∀ ds, e a ≠ .lst ds) ∧ ∀ ks vs, e a ≠ .dic ks vs := by
  obtain ⟨k, q⟩ := h.get a
  refine ⟨fun ds z => ?_, fun ks vs z => ?_⟩ <;> rw [z] at q <;> cases q
theorem KyD.den {α : Type} {e : α → D} (h : KyD e) {a : α} {y : Y} {S : Sto} (hy : den y S = some (e a)) : y = .v (e a) := den_v hy (h.nd a).1 (h.nd a).2
section
variable {κ ν : Type} [DecidableEq κ] {ek : κ → D} {ev : ν → D} {n : Nat} {kvs : List (κ × ν)} {k : κ} {v : ν}
theorem sb_ixD [Inhabited ν] (hq : EqD ek n) (hk : KyD ek) (h : (dget kvs k).isSome = true) : SB sIxD (eD ek ev kvs) (ek k) (ev ((dget kvs k).getD default)) := fun x y S h1 h2 => by
  rw [hk.den h2]
  obtain ⟨k', e'⟩ := hk.get k
  obtain ⟨v, hv⟩ := Option.isSome_iff_exists.mp h
  have hg := dicGet_t (ev := ev) hq k kvs
  rw [hv] at hg
  simp only [ksD, vsD] at hg
  simp only [sIxD, den_d h1, e', hg, Option.map, hv, Option.getD]
theorem sb_inD (hq : EqD ek n) (hk : KyD ek) : SB (sInD false) (ek k) (eD ek ev kvs) (.bl (dget kvs k).isSome) := fun x y S h1 h2 => by
  rw [hk.den h1]
  obtain ⟨k', e'⟩ := hk.get k
  have hg := dicGet_t (ev := ev) hq k kvs
  simp only [ksD, vsD] at hg
  simp only [sInD, den_d h2, e', hg, Option.isSome_map, Bool.false_xor]
theorem sb_ninD (hq : EqD ek n) (hk : KyD ek) : SB (sInD true) (ek k) (eD ek ev kvs) (.bl (!(dget kvs k).isSome)) := fun x y S h1 h2 => by
  rw [hk.den h1]
  obtain ⟨k', e'⟩ := hk.get k
  have hg := dicGet_t (ev := ev) hq k kvs
  simp only [ksD, vsD] at hg
  simp only [sInD, den_d h2, e', hg, Option.isSome_map, Bool.true_xor]
theorem sb_eq0 : SB (sEq0 false) (eD ek ev kvs) (.dic [] []) (.bl kvs.isEmpty) := fun x y S h1 h2 => by
  simp only [sEq0, den_d h1, den_d h2, List.length_map, Bool.false_xor]
  cases kvs <;> simp
theorem sb_ne0 : SB (sEq0 true) (eD ek ev kvs) (.dic [] []) (.bl (!kvs.isEmpty)) := fun x y S h1 h2 => by
  simp only [sEq0, den_d h1, den_d h2, List.length_map, Bool.true_xor]
  cases kvs <;> simp
theorem sc_lenD : SC sLenD [eD ek ev kvs] (.int kvs.length) := fun ys S h => by
  obtain ⟨y, rfl, q⟩ := d1 h
  simp only [sLenD, den_d q, List.length_map]
variable {m m1 m2 : List Sl} {f g : FE Y} {i : Nat} {R : Sto}
theorem pv_newd : PV m (fNewD false) (eD ek ev ([] : List (κ × ν))) := fun B env S r => rfl
theorem pn_newdT : PN m (fNewD true) (.dc (ksD ek ([] : List (κ × ν))) (vsD ev ([] : List (κ × ν)))) := fun B env S r => rfl
theorem pv_dget1 [Inhabited ν] (hq : EqD ek n) (hk : KyD ek) (ho : PR m f (eD ek ev kvs)) (hf : PV m g (ek k)) : PV m (fMet isDc sDget f (fCons g fNil)) (eO ev (dget kvs k)) := fun B env S r => by
  obtain ⟨y, e1, q⟩ := ho B env S r
  obtain ⟨k', e'⟩ := hk.get k
  have hg := dicGet_t (ev := ev) hq k kvs
  simp only [ksD, vsD] at hg
  have hc : isDc y S = true := by simp only [isDc, den_d q, Option.isSome]
  simp only [fMet, e1, Res.bind, hc, if_true, fCons, hf B env S r, fNil, sDget, den_d q, e', hg]
  cases dget kvs k <;> rfl
theorem pv_dget2 (hq : EqD ek n) (hk : KyD ek) {h : FE Y} {z : ν} (ho : PR m f (eD ek ev kvs)) (hf : PV m g (ek k)) (hz : PV m h (ev z)) : PV m (fMet isDc sDget f (fCons g (fCons h fNil))) (ev ((dget kvs k).getD z)) := fun B env S r => by
  obtain ⟨y, e1, q⟩ := ho B env S r
  obtain ⟨k', e'⟩ := hk.get k
  have hg := dicGet_t (ev := ev) hq k kvs
  simp only [ksD, vsD] at hg
  have hc : isDc y S = true := by simp only [isDc, den_d q, Option.isSome]
  simp only [fMet, e1, Res.bind, hc, if_true, fCons, hf B env S r, hz B env S r, fNil, sDget, den_d q, e', hg]
  cases dget kvs k <;> rfl
theorem pn_disp1 (hk : KyD ek) (hf : PV m f (ek k)) (hg : PV m g (ev v)) : PN m (fDisp1 true f g) (.dc (ksD ek [(k, v)]) (vsD ev [(k, v)])) := fun B env S r => by
  obtain ⟨k', e'⟩ := hk.get k
  simp only [fDisp1, hf B env S r, hg B env S r, Res.bind, e', thaw1_v]; rfl
theorem pv_disp1 (hk : KyD ek) (hf : PV m f (ek k)) (hg : PV m g (ev v)) : PV m (fDisp1 false f g) (eD ek ev [(k, v)]) := fun B env S r => by
  obtain ⟨k', e'⟩ := hk.get k
  simp only [fDisp1, hf B env S r, hg B env S r, Res.bind, e', thaw1_v]; rfl
theorem prsD_t (hk : KyD ek) : ∀ ps : List (κ × ν), prsD (ps.map (eP ek ev)) = some (ps.map fun p => (ek p.1, ev p.2))
  | [] => rfl
  | p :: ps => by
    obtain ⟨k', e'⟩ := hk.get p.1
    simp only [List.map_cons, prsD, e', prsD_t hk ps]
theorem putAll_t (hq : EqD ek n) : ∀ (ps kvs : List (κ × ν)), putAll (ksD ek kvs, vsD ev kvs) (ps.map fun p => (ek p.1, ev p.2)) = (ksD ek (dmany kvs ps), vsD ev (dmany kvs ps))
  | [], kvs => rfl
  | p :: ps, kvs => by
    have := putAll_t hq ps (dput kvs p.1 p.2)
    unfold putAll dmany at *
    simp only [List.map_cons, List.foldl_cons]
    rw [dicPut_t hq]
    exact this
theorem sc_dict (hq : EqD ek n) (hk : KyD ek) {ps : List (κ × ν)} : SC (sDict false) [eL (eP ek ev) ps] (eD ek ev (dmany [] ps)) := fun ys S h => by
  obtain ⟨y, rfl, q⟩ := d1 h
  have := putAll_t (ev := ev) hq ps []
  simp only [ksD, vsD, List.map_nil] at this
  simp only [sDict, (den_l q).1, prsD_t hk, this]; rfl
theorem scn_dict (hq : EqD ek n) (hk : KyD ek) {ps : List (κ × ν)} (hf : PC m fs [eL (eP ek ev) ps]) : PN m (fCall (sDict true) fs) (.dc (ksD ek (dmany [] ps)) (vsD ev (dmany [] ps))) := fun B env S r => by
  obtain ⟨x, e1, h⟩ := hf B env S r
  obtain ⟨y, rfl, q⟩ := d1 h
  have := putAll_t (ev := ev) hq ps []
  simp only [ksD, vsD, List.map_nil] at this
  simp only [fCall, e1, Res.bind, sDict, (den_l q).1, prsD_t hk, this]; rfl
theorem stK_at {nn : Nat} {S : Sto} {ks vs : List D} (h : S[nn]? = some (.dic ks vs)) : stK (.ref nn) S = some (nn, ks, vs) := by simp only [stK, h]
/-- d[k] = v -/
theorem subD_run (hq : EqD ek n) (hk : KyD ek) {B : Sto} {env : Ev} {S : Sto} (q : Rel B m env S) (hf : f env S = .ok (.v (ev v)) S) (hg : g env S = .ok (.v (ek k)) S) (h0 : m[i]? = some (.mu (.dic (ksD ek kvs) (vsD ev kvs)))) (hz : szOk (kvs.length + 1)) :
    ∃ S', fSubD (fVar i) g f env S = .nx env S' ∧ Rel B (m.set i (.mu (.dic (ksD ek (dput kvs k v)) (vsD ev (dput kvs k v))))) env S' := by
  obtain ⟨nn, e1, e2, e3⟩ := q.mu i _ h0
  obtain ⟨k', e'⟩ := hk.get k
  have hv : fVar i env S = .ok (.ref nn) S := by simp only [fVar, e1]
  refine ⟨_, ?_, q.upd h0 e1⟩
  · simp only [fSubD, hf, hv, hg, Res.bindE, thaw1_v, stK_at e3, e', List.length_map, okLen_of hz, if_true, dicPut_t hq]
theorem ts_subd {ρ : Type} {B : Sto} {φ : ρ → Oc} {G : FS} {Pk : List (κ × ν) → Prop} {kk : List (κ × ν) → ρ} (hq : EqD ek n) (hk' : KyD ek) (hf : PV m f (ev v)) (hg : PV m g (ek k)) (h0 : m[i]? = some (.mu (.dic (ksD ek kvs) (vsD ev kvs)))) (hz : szOk (kvs.length + 1))
    (hk : ∀ ys, Pk ys → TS B (m.set i (.mu (.dic (ksD ek ys) (vsD ev ys)))) G φ (kk ys)) (hP : lt (dput kvs k v) Pk) : TS B m (fSeq (fSubD (fVar i) g f) G) φ (lt (dput kvs k v) kk) := TS.mk fun env S q => by
  obtain ⟨S', e, r⟩ := subD_run hq hk' q (hf B env S q) (hg B env S q) h0 hz
  simp only [ev_seq, e, SR.seq]
  exact hk _ hP _ _ r
theorem ws_subd {k2 : KK} {G : FS} {C : Prop} {Wr : List (κ × ν) → Prop} (hq : EqD ek n) (hk' : KyD ek) (hf : C → PV m f (ev v)) (hg : C → PV m g (ek k)) (h0 : m[i]? = some (.mu (.dic (ksD ek kvs) (vsD ev kvs))))
    (hk : ∀ ys, Wr ys → WS R (m.set i (.mu (.dic (ksD ek ys) (vsD ev ys)))) G k2) (hP : (szOk (kvs.length + 1) ∧ C) ∧ lt (dput kvs k v) Wr) : WS R m (fSeq (fSubD (fVar i) g f) G) k2 := WS.mk fun env S q => by
  obtain ⟨⟨hz, hC⟩, q1⟩ := hP
  obtain ⟨c, hc, q⟩ := q
  obtain ⟨S', e, r⟩ := subD_run hq hk' q (hf hC _ env S q) (hg hC _ env S q) h0 hz
  simp only [ev_seq, e, SR.seq]
  exact hk _ q1 _ _ ⟨c, hc, r⟩
end
end Sg

/-! T7: plain helpers for plain laws -/
namespace Sg
open PySem PySem.Spec PyProof.Rows L2
section
variable {α β σ : Type}
theorem forP_of {body : σ → α → σ} {P : σ → α → Prop} : ∀ (l : List α) (s : σ), (∀ x ∈ l, ∀ s, P s x) → forP body P l s
  | [], _, _ => trivial
  | x :: l, s, h => ⟨h x List.mem_cons_self s, forP_of l _ fun y hy => h y (List.mem_cons_of_mem _ hy)⟩
theorem forP_inv {body : σ → α → σ} {P : σ → α → Prop} (Iv : σ → Prop) : ∀ (l : List α) (s : σ), Iv s → (∀ s, ∀ x ∈ l, Iv s → P s x ∧ Iv (body s x)) → forP body P l s
  | [], _, _, _ => trivial
  | x :: l, s, h0, h => ⟨(h s x List.mem_cons_self h0).1, forP_inv Iv l _ (h s x List.mem_cons_self h0).2 fun s y hy => h s y (List.mem_cons_of_mem _ hy)⟩
theorem foldl_inv {body : σ → α → σ} (Iv : σ → Prop) : ∀ (l : List α) (s : σ), Iv s → (∀ s, ∀ x ∈ l, Iv s → Iv (body s x)) → Iv (l.foldl body s)
  | [], _, h, _ => h
  | x :: l, s, h0, h => foldl_inv Iv l _ (h s x List.mem_cons_self h0) fun s y hy => h s y (List.mem_cons_of_mem _ hy)
theorem wFor_inv {body : σ → α → (σ → Prop) → (σ → Prop) → Prop} (Iv : σ → Prop) {Q : σ → Prop} : ∀ (l : List α) (s : σ), Iv s → (∀ x ∈ l, ∀ s, Iv s → ∀ Qn Qb : σ → Prop, (∀ s', Iv s' → Qn s') → body s x Qn Qb) → (∀ s, Iv s → Q s) → wFor body l s Q
  | [], s, h0, _, hq => hq s h0
  | x :: l, s, h0, h, hq => h x List.mem_cons_self s h0 _ _ fun s' h' => wFor_inv Iv l s' h' (fun y hy => h y (List.mem_cons_of_mem _ hy)) hq
theorem wFor_idx {body : σ → α → (σ → Prop) → (σ → Prop) → Prop} (Iv : Nat → σ → Prop) {Q : σ → Prop} : ∀ (l : List α) (i : Nat) (s : σ), Iv i s → (∀ (j : Nat) (x : α), l[j]? = some x → ∀ s, Iv (i + j) s → ∀ Qn Qb : σ → Prop, (∀ s', Iv (i + j + 1) s' → Qn s') → body s x Qn Qb) → (∀ s, Iv (i + l.length) s → Q s) → wFor body l s Q
  | [], i, s, h0, _, hq => hq s h0
  | x :: l, i, s, h0, h, hq => h 0 x rfl s h0 _ _ fun s' h' => wFor_idx Iv l (i + 1) s' h' (fun j y hy s hs Qn Qb hQ => h (j + 1) y (by simpa using hy) s (by rw [show i + (j + 1) = i + 1 + j by omega]; exact hs) Qn Qb (fun s' hs' => hQ s' (by rw [show i + 1 + j + 1 = i + (j + 1) + 1 by omega]; exact hs'))) (fun s hs => hq s (by rw [List.length_cons, show i + (l.length + 1) = i + 1 + l.length by omega]; exact hs))
theorem wFor_unit {body : Unit → α → (Unit → Prop) → (Unit → Prop) → Prop} {Q : Unit → Prop} (l : List α) (h : ∀ x ∈ l, ∀ Qn Qb : Unit → Prop, Qn () → body () x Qn Qb) (hq : Q ()) : wFor body l () Q :=
  wFor_inv (fun _ => True) l () trivial (fun x hx s _ Qn Qb hQ => h x hx Qn Qb (hQ () trivial)) fun _ _ => hq
/-- a loop whose turns are functions -/
theorem wFor_fun {body : σ → α → (σ → Prop) → (σ → Prop) → Prop} (g : σ → α → σ) (Iv : σ → Prop) {Q : σ → Prop} : ∀ (l : List α) (s : σ), Iv s → (∀ x ∈ l, ∀ s, Iv s → Iv (g s x) ∧ ∀ Qn Qb : σ → Prop, Qn (g s x) → body s x Qn Qb) → Q (l.foldl g s) → wFor body l s Q
  | [], s, _, _, hq => hq
  | x :: l, s, h0, h, hq => (h x List.mem_cons_self s h0).2 _ _ (wFor_fun g Iv l _ (h x List.mem_cons_self s h0).1 (fun y hy => h y (List.mem_cons_of_mem _ hy)) hq)
theorem wLc_all {b : α → (β → Prop) → Prop} (Po : α → β → Prop) : ∀ (l : List α) (Q : List β → Prop), (∀ x ∈ l, ∀ Q : β → Prop, (∀ y, Po x y → Q y) → b x Q) → (∀ ys : List β, ys.length = l.length → (∀ p ∈ l.zip ys, Po p.1 p.2) → Q ys) → wLc b l Q
  | [], Q, _, hq => hq [] rfl fun p hp => by simp at hp
  | x :: l, Q, h, hq => h x List.mem_cons_self _ fun y hy => wLc_all Po l _ (fun z hz => h z (List.mem_cons_of_mem _ hz)) fun ys hl hp => hq (y :: ys) (by simp [hl]) fun p hm => by
    rw [List.zip_cons_cons] at hm
    rcases List.mem_cons.mp hm with rfl | hm
    · exact hy
    · exact hp p hm
/-- where the drawn items' property does not lean on the place -/
theorem wLc_mem {b : α → (β → Prop) → Prop} (Po : β → Prop) (l : List α) (Q : List β → Prop) (h : ∀ x ∈ l, ∀ Q : β → Prop, (∀ y, Po y → Q y) → b x Q) (hq : ∀ ys : List β, ys.length = l.length → (∀ y ∈ ys, Po y) → Q ys) : wLc b l Q :=
  wLc_all (fun _ y => Po y) l Q h fun ys hl hp => hq ys hl fun y hy => by
    obtain ⟨i, hi, e⟩ := List.getElem_of_mem hy
    have hi' : i < (l.zip ys).length := by rw [List.length_zip]; omega
    have := hp _ (List.getElem_mem hi')
    rw [List.getElem_zip] at this
    simpa [e] using this
theorem wWh_step {c : σ → (Bool → Prop) → Prop} {body : σ → (σ → Prop) → (σ → Prop) → Prop} {s : σ} {Q : σ → Prop} (h : c s fun b => (b = true → body s (fun s' => ∃ n, wWh c body n s' Q) Q) ∧ (b = false → Q s)) (mono : ∀ {P P' : Bool → Prop}, (∀ b, P b → P' b) → c s P → c s P') : True := trivial
theorem mem_rng {a b x : Int} : x ∈ rng a b ↔ a ≤ x ∧ x < b := by
  unfold rng
  rw [List.mem_map]
  constructor
  · rintro ⟨i, hi, rfl⟩
    have := List.mem_range.mp hi; omega
  · intro h
    exact ⟨(x - a).toNat, List.mem_range.mpr (by omega), by omega⟩
theorem mem_rngdn {a b x : Int} : x ∈ rngdn a b ↔ b < x ∧ x ≤ a := by
  unfold rngdn
  rw [List.mem_map]
  constructor
  · rintro ⟨i, hi, rfl⟩
    have := List.mem_range.mp hi; omega
  · intro h
    exact ⟨(a - x).toNat, List.mem_range.mpr (by omega), by omega⟩
theorem len_rng {a b : Int} : (rng a b).length = (b - a).toNat := by simp [rng]
theorem len_rngdn {a b : Int} : (rngdn a b).length = (a - b).toNat := by simp [rngdn]
theorem rng_get {a b : Int} {j : Nat} {x : Int} (h : (rng a b)[j]? = some x) : x = a + j ∧ x < b := by
  have hl : j < (b - a).toNat := by have := lt_some h; simpa [rng] using this
  unfold rng at h
  rw [List.getElem?_map, List.getElem?_range hl] at h
  cases h
  refine ⟨rfl, ?_⟩
  show a + (j : Int) < b
  omega
theorem rngdn_get {a b : Int} {j : Nat} {x : Int} (h : (rngdn a b)[j]? = some x) : x = a - j ∧ b < x := by
  unfold rngdn at h
  rw [List.getElem?_map] at h
  rw [Option.map_eq_some_iff] at h
  obtain ⟨i, hi, rfl⟩ := h
  have hl : j < (a - b).toNat := by have := lt_some hi; simpa using this
  rw [List.getElem?_range hl] at hi
  cases hi
  constructor <;> omega
theorem pix_nat [Inhabited α] {xs : List α} {j : Nat} (h : j < xs.length) : pix xs (j : Int) = xs[j] := by
  unfold pix; rw [atI_nat (List.getElem?_eq_getElem h)]; rfl
theorem pix_0 [Inhabited α] {x : α} {xs : List α} : pix (x :: xs) 0 = x := pix_nat (xs := x :: xs) (j := 0) (by simp)
theorem pix_last [Inhabited α] (xs : List α) (x : α) : pix (xs ++ [x]) (-1) = x := by
  unfold pix; rw [atI_last]; rfl
theorem cut_some (xs : List α) (a b : Nat) : cut xs (some (a : Int)) (some (b : Int)) = (xs.drop a).take (b - a) := by
  unfold cut
  rw [HT.sIx_nat, HT.sIx_nat]
  by_cases h : a ≤ xs.length
  · rw [Nat.min_eq_left h]
    by_cases h2 : b ≤ xs.length
    · rw [Nat.min_eq_left h2]
    · rw [Nat.min_eq_right (Nat.le_of_lt (Nat.lt_of_not_le h2)), List.take_of_length_le (by simp), List.take_of_length_le (by simp; omega)]
  · rw [Nat.min_eq_right (a := a) (Nat.le_of_lt (Nat.lt_of_not_le h)), List.drop_eq_nil_of_le (Nat.le_refl _), List.drop_eq_nil_of_le (Nat.le_of_lt (Nat.lt_of_not_le h))]
    simp
theorem absI_eq (a : Int) : absI a = a.natAbs := by unfold absI; split <;> omega
theorem maxJ_eq (a b : Int) : maxJ a b = max a b := by unfold maxJ; split <;> omega
theorem minJ_eq (a b : Int) : minJ a b = min a b := by unfold minJ; split <;> omega
theorem fdiv2 (a : Int) : a.fdiv 2 = a / 2 := Int.fdiv_eq_ediv_of_nonneg a (by decide)
theorem fmod2 (a : Int) : a.fmod 2 = a % 2 := Int.fmod_eq_emod_of_nonneg a (by decide)
theorem all_id (bs : List Bool) : bs.all id = true ↔ ∀ b ∈ bs, b = true := by simp
end
end Sg

/-! T8: xs += ys, t < u, pop -/
namespace Sg
open PySem PySem.Spec PyProof.Rows L2
def perase {α : Type} (xs : List α) (i : Int) : List α := match L2.ixN xs.length i with
  | some j => xs.eraseIdx j
  | none => xs
theorem sb_ltXI {a b : Int} : SB sLtX (.int a) (.int b) (.bl (decide (a < b))) := fun x y S h1 h2 => by rw [den_int h1, den_int h2]; rfl
theorem sb_ltXT {a b : List Int} : SB sLtX (eT eI a) (eT eI b) (.bl (HT.lexLt a b)) := fun x y S h1 h2 => by
  rw [den_tup h1, den_tup h2]
  simp only [sLtX, intsD_map]
section
variable {ρ : Type} {B R : Sto} {m m1 m2 : List Sl} {G : FS} {φ : ρ → Oc} {f g : FE Y} {i : Nat} {α : Type} {e : α → D} {xs ys : List α} {kk : KK}
theorem env_same {env : Ev} {i : Nat} {y : Option Y} (h : env[i]? = some y) : env.set i y = env := by
  apply List.ext_getElem?
  intro j
  by_cases q : i = j
  · subst q; rw [List.getElem?_set_self (lt_some h), h]
  · rw [List.getElem?_set_ne q]
theorem augl_run {env : Ev} {S S1 : Sto} (q : Rel B m env S) (r1 : Rel B m1 env S1) (e1 : f env S = .ok (.ref S1.length) (S1 ++ [.lst (ys.map e)])) (h0 : m[i]? = some (.mu (.lst (xs.map e)))) (h1 : m1[i]? = some (.mu (.lst (xs.map e)))) (hz : szOk (xs.length + ys.length)) :
    ∃ S', fAug i sIExt f env S = .nx env S' ∧ Rel B (m1.set i (.mu (.lst ((xs ++ ys).map e)))) env S' := by
  obtain ⟨n, a1, a2, a3⟩ := q.mu i _ h0
  have r2 := r1.grow [O.lst (ys.map e)]
  obtain ⟨n', b1, b2, b3⟩ := r2.mu i _ h1
  rw [a1] at b1; cases b1
  have hl : (S1 ++ [O.lst (ys.map e)])[S1.length]? = some (.lst (ys.map e)) := by simp
  refine ⟨_, ?_, r2.upd (o' := .lst ((xs ++ ys).map e)) h1 a1⟩
  have hk : okLen ((xs.map e).length + (ys.map e).length) = true := by rw [List.length_map, List.length_map]; exact okLen_of hz
  simp only [fAug, a1, e1, Res.bindE, sIExt, b3, hl, hk, if_true, env_same a1, List.map_append]
theorem map_erase {β γ : Type} (f : β → γ) : ∀ (l : List β) (j : Nat), (l.map f).eraseIdx j = (l.eraseIdx j).map f
  | [], _ => rfl
  | _ :: _, 0 => rfl
  | _ :: l, j + 1 => congrArg (_ :: ·) (map_erase f l j)
theorem ts_augl {Pk : List α → Prop} {k : List α → ρ} (hf : PX m f (.l (ys.map e)) m1) (h0 : m[i]? = some (.mu (.lst (xs.map e)))) (h1 : m1[i]? = some (.mu (.lst (xs.map e)))) (hz : szOk (xs.length + ys.length)) (hk : ∀ zs, Pk zs → TS B (m1.set i (.mu (.lst (zs.map e)))) G φ (k zs)) (hP : lt (xs ++ ys) Pk) : TS B m (fSeq (fAug i sIExt f) G) φ (lt (xs ++ ys) k) := TS.mk fun env S q => by
  obtain ⟨S1, e1, r1⟩ := hf B env S q
  obtain ⟨S', e2, r2⟩ := augl_run q r1 e1 h0 h1 hz
  simp only [ev_seq, e2, SR.seq]
  exact hk _ hP _ _ r2
theorem ws_augl {H : (List α → Prop) → Prop} {Wr : List α → Prop} (hf : WX R m f (fun ys : List α => AK.l (ys.map e)) H m1) (h0 : m[i]? = some (.mu (.lst (xs.map e)))) (h1 : m1[i]? = some (.mu (.lst (xs.map e)))) (hk : ∀ zs, Wr zs → WS R (m1.set i (.mu (.lst (zs.map e)))) G kk) (hP : lw H fun ys => szOk (xs.length + ys.length) ∧ lt (xs ++ ys) Wr) : WS R m (fSeq (fAug i sIExt f) G) kk := WS.mk fun env S q => by
  obtain ⟨ys, S1, e1, ⟨c1, hc1, r1⟩, hz, q1⟩ := hf _ hP env S q
  obtain ⟨c, hc, q⟩ := q
  obtain ⟨n, a1, a2, a3⟩ := q.mu i _ h0
  have r2 := r1.grow [O.lst (ys.map e)]
  obtain ⟨n', b1, b2, b3⟩ := r2.mu i _ h1
  rw [a1] at b1; cases b1
  have hl : (S1 ++ [O.lst (ys.map e)])[S1.length]? = some (.lst (ys.map e)) := by simp
  have hk' : okLen ((xs.map e).length + (ys.map e).length) = true := by rw [List.length_map, List.length_map]; exact okLen_of hz
  have e2 : fAug i sIExt f env S = .nx env ((S1 ++ [O.lst (ys.map e)]).set n (.lst ((xs ++ ys).map e))) := by
    simp only [fAug, a1, e1, Res.bindE, AK.y, AK.st, sIExt, b3, hl, hk', if_true, env_same a1, List.map_append]
  simp only [ev_seq, e2, SR.seq]
  exact hk _ q1 _ _ ⟨c1, hc1, r2.upd h1 a1⟩
theorem px_pop [Inhabited α] (h0 : m[i]? = some (.mu (.lst (xs.map e)))) (hn : xs ≠ []) : PX m (fMet isSt sPop (fVar i) fNil) (.v (e (pix xs (-1)))) (m.set i (.mu (.lst (xs.dropLast.map e)))) := fun B env S q => by
  obtain ⟨n, e1, e2, e3⟩ := q.mu i _ h0
  have hv : fVar i env S = .ok (.ref n) S := by simp only [fVar, e1]
  have hc : isSt (.ref n) S = true := by simp only [isSt, stL, e3, Option.isSome]
  have hs : stL (.ref n) S = some (n, xs.map e) := by simp only [stL, e3]
  have hd : (xs.map e)[(xs.map e).length - 1]? = some (e (pix xs (-1))) := by
    obtain ⟨ys, y, rfl⟩ : ∃ ys y, xs = ys ++ [y] := ⟨xs.dropLast, xs.getLast hn, (List.dropLast_concat_getLast hn).symm⟩
    rw [show pix (ys ++ [y]) (-1) = y by unfold pix; rw [atI_last]; rfl]
    simp
  refine ⟨S.set n (.lst (xs.dropLast.map e)), ?_, q.upd h0 e1⟩
  simp only [fMet, hv, Res.bind, hc, if_true, fNil, sPop, hs, hd, List.map_dropLast]; rfl
theorem px_popI [Inhabited α] {j : Int} (h0 : m[i]? = some (.mu (.lst (xs.map e)))) (hg : PV m g (.int j)) (hj : inb xs.length j) (hz : szOk xs.length) : PX m (fMet isSt sPopI (fVar i) (fCons g fNil)) (.v (e (pix xs j))) (m.set i (.mu (.lst ((perase xs j).map e)))) := fun B env S q => by
  obtain ⟨n, e1, e2, e3⟩ := q.mu i _ h0
  obtain ⟨jj, e4, e5⟩ := ixN_some hj
  have hv : fVar i env S = .ok (.ref n) S := by simp only [fVar, e1]
  have hc : isSt (.ref n) S = true := by simp only [isSt, stL, e3, Option.isSome]
  have hs : stL (.ref n) S = some (n, xs.map e) := by simp only [stL, e3]
  have hq : seqIndex? j (xs.map e).length = some jj := by rw [List.length_map]; exact (ixN_seq e4).1
  have hp : pix xs j = xs[jj] := by
    unfold pix L2.atI; rw [e4]; simp [List.getElem?_eq_getElem e5]
  have hd : (xs.map e)[jj]? = some (e (pix xs j)) := by rw [hp, List.getElem?_map, List.getElem?_eq_getElem e5]; rfl
  have hr : -(2 ^ 63) ≤ j ∧ j < 2 ^ 63 := by
    have h1 := hj.1; have h2 := hj.2
    have h3 : xs.length ≤ 16777216 := hz
    constructor <;> omega
  have he : (xs.map e).eraseIdx jj = (perase xs j).map e := by unfold perase; rw [e4]; exact map_erase e xs jj
  refine ⟨S.set n (.lst ((perase xs j).map e)), ?_, q.upd h0 e1⟩
  simp only [fMet, hv, Res.bind, hc, if_true, fCons, hg B env S q, fNil, sPopI, hs, hq, hd, hr, and_self, he]; rfl
end
end Sg

/-! T9: membership with any decision -/
namespace Sg
open PySem PySem.Spec PyProof.Rows L2
theorem sb_inTd {α : Type} {e : α → D} {n : Nat} (h : EqD e n) (hn : n ≤ 59) {x : α} {xs : List α} [DecidableEq α] {i : Decidable (x ∈ xs)} : SB (sIn false) (e x) (eT e xs) (.bl (@decide _ i)) := by
  exact (congrArg (fun b => SB (sIn false) (e x) (eT e xs) (.bl b)) (decide_eq_decide.mpr Iff.rfl)).mp (sb_inT h hn)
theorem sb_inLd {α : Type} {e : α → D} {n : Nat} (h : EqD e n) (hn : n ≤ 59) {x : α} {xs : List α} [DecidableEq α] {i : Decidable (x ∈ xs)} : SB (sIn false) (e x) (eL e xs) (.bl (@decide _ i)) := by
  exact (congrArg (fun b => SB (sIn false) (e x) (eL e xs) (.bl b)) (decide_eq_decide.mpr Iff.rfl)).mp (sb_inL h hn)
theorem sb_ninTd {α : Type} {e : α → D} {n : Nat} (h : EqD e n) (hn : n ≤ 59) {x : α} {xs : List α} [DecidableEq α] {i : Decidable (¬ x ∈ xs)} : SB (sIn true) (e x) (eT e xs) (.bl (@decide _ i)) := by
  exact (congrArg (fun b => SB (sIn true) (e x) (eT e xs) (.bl b)) (decide_eq_decide.mpr Iff.rfl)).mp (sb_ninT h hn)
theorem sb_ninLd {α : Type} {e : α → D} {n : Nat} (h : EqD e n) (hn : n ≤ 59) {x : α} {xs : List α} [DecidableEq α] {i : Decidable (¬ x ∈ xs)} : SB (sIn true) (e x) (eL e xs) (.bl (@decide _ i)) := by
  exact (congrArg (fun b => SB (sIn true) (e x) (eL e xs) (.bl b)) (decide_eq_decide.mpr Iff.rfl)).mp (sb_ninL h hn)
end Sg


namespace Sg
open PySem PySem.Spec PyProof.Rows L2
noncomputable section
abbrev Pw : Program := PySem.Challenge.pw_signway_k22_whole_snakes_and_coils
def topS (i : Nat) : Stmt := Pw.main.body.getD i (.Pass ⟨0, 0, 0, 0⟩)
/-! ### _law_cup -/
abbrev st_law_cupU : Stmt := topS 17
abbrev N_law_cupU : List Str := ["script", "cell"]
abbrev P_law_cupU : List Str := ["script"]
theorem sc_law_cupU : FnScope N_law_cupU P_law_cupU (defScope st_law_cupU) := ⟨rfl, rfl, rfl, by decide +kernel, rfl, by decide +kernel, by decide +kernel⟩
def b_law_cupU : FS :=
  (fSeq (fSet 1 (fCall sAbs (fCons (fBin sIx (fBin (sAdd false) (fCall (sList false) (fCons (fVar 0) fNil)) (fLst false (fCons (fC (.int 0)) fNil))) (fC (.int 0))) fNil)))
  (fRet (fLst true (fCons (fIf (fTest (fBin sGe (fVar 1) (fBin sPow (fC (.int 10)) (fC (.int 18))))) (fBin sFdiv (fVar 1) (fC (.int 227))) (fC (.int 0))) (fCons (fBin (sAdd false) (fBin sMod (fCall sInt (fCons (fBin (sAdd false) (fBin (sMul false) (fVar 1) (fC (.int 751))) (fC (.int 7411))) fNil)) (fC (.int 2077501591))) (fC (.int 391))) fNil)))))
def m_law_cupU : List Y → Sto → Res Y := wrap true 2 b_law_cupU
set_option maxHeartbeats 4000000 in
theorem fn_law_cupU {w : World} {K : PySem.W.Frag} {mg : Str → Option Value} {base : Heap} (blt : ∀ (j : Nat) (x : Str), bls[j]? = some x → mg x = none) {f : Addr} {fd : FuncData} (F : Fun K "_law_cup" "_law_cup" st_law_cupU f fd) : FnOk Pw w K mg base (L2.CX Pw w) 1 f fd P_law_cupU (spM K mg 1 m_law_cupU) :=
  fn_mk (k := 0) true F sc_law_cupU (fun cdv A outer s H E hr => by
    have O := okS (P := Pw) (w := w) (K := K) (base := base) (outer := outer) (H := H) (E := E) (vl := [(1, "cell"), (0, "script")]) (wl := [(1, "cell"), (0, "script")]) (gl := ["abs", "list", "int"]) sc_law_cupU hr (by decide +kernel) blt
    exact (rss_cons (rs_set O.o 0 (re_abs O.o 0 (ra_cons (re_ix (re_add false (re_listc false O.o 1 (ra_cons (re_var O.o 1) ra_nil)) (re_lst false (ra_cons re_int ra_nil))) re_int) ra_nil)))
  (rss_one (rs_ret (re_lst true (ra_cons (re_if (rt_ge (re_var O.o 0) (re_pow re_int re_int)) (re_fdiv (re_var O.o 0) re_int) re_int) (ra_cons (re_add false (re_mod (re_intc O.o 2 (ra_cons (re_add false (re_mul false (re_var O.o 0) re_int) re_int) ra_nil)) re_int) re_int) ra_nil)))))))
/-! ### _law_doubled -/
abbrev st_law_doubledU : Stmt := topS 32
abbrev N_law_doubledU : List Str := ["words", "found", "one", "other"]
abbrev P_law_doubledU : List Str := ["words"]
theorem sc_law_doubledU : FnScope N_law_doubledU P_law_doubledU (defScope st_law_doubledU) := ⟨rfl, rfl, rfl, by decide +kernel, rfl, by decide +kernel, by decide +kernel⟩
def b_law_doubledU : FS :=
  (fSeq (fSet 1 (fLst false (fCons (fBin (sAdd false) (fBin sIx (fVar 0) (fC (.int 0))) (fBin sIx (fVar 0) (fC (.int 0)))) fNil)))
  (fSeq (fFor (.tp [(.nm 2), (.nm 3)]) (fIt (itS2 zipL) (fCons (fVar 0) (fCons (fSl false (fVar 0) (fPart (fC (.int 1))) fNoP) fNil))) (fSet 1 (fBin (sAdd false) (fVar 1) (fLst false (fCons (fBin (sAdd false) (fVar 3) (fVar 2)) (fCons (fBin (sAdd false) (fVar 3) (fVar 3)) fNil))))))
  (fRet (fCall sTuple (fCons (fVar 1) fNil)))))
def m_law_doubledU : List Y → Sto → Res Y := wrap false 4 b_law_doubledU
set_option maxHeartbeats 4000000 in
theorem fn_law_doubledU {w : World} {K : PySem.W.Frag} {mg : Str → Option Value} {base : Heap} (blt : ∀ (j : Nat) (x : Str), bls[j]? = some x → mg x = none) {f : Addr} {fd : FuncData} (F : Fun K "_law_doubled" "_law_doubled" st_law_doubledU f fd) : FnOk Pw w K mg base (L2.CX Pw w) 1 f fd P_law_doubledU (spM K mg 1 m_law_doubledU) :=
  fn_mk (k := 0) false F sc_law_doubledU (fun cdv A outer s H E hr => by
    have O := okS (P := Pw) (w := w) (K := K) (base := base) (outer := outer) (H := H) (E := E) (vl := [(1, "found"), (0, "words"), (2, "one"), (3, "other")]) (wl := [(1, "found"), (0, "words"), (2, "one"), (3, "other")]) (gl := ["zip", "tuple"]) sc_law_doubledU hr (by decide +kernel) blt
    exact (rss_cons (rs_set O.o 0 (re_lst false (ra_cons (re_add false (re_ix (re_var O.o 1) re_int) (re_ix (re_var O.o 1) re_int)) ra_nil)))
  (rss_cons (rs_for O.o passD (ri_zip O.o 0 (ra_cons (re_var O.o 1) (ra_cons (re_sl false (re_var O.o 1) (ro_some re_int) ro_none) ra_nil))) (rg_tp O.o (rg_cons (rg_nm O.o 2) (rg_cons (rg_nm O.o 3) rg_nil))) (rss_one (rs_set O.o 0 (re_add false (re_var O.o 0) (re_lst false (ra_cons (re_add false (re_var O.o 3) (re_var O.o 2)) (ra_cons (re_add false (re_var O.o 3) (re_var O.o 3)) ra_nil)))))))
  (rss_one (rs_ret (re_tupc O.o 1 (ra_cons (re_var O.o 0) ra_nil)))))))
/-! ### turned_at -/
abbrev st_turned_at : Stmt := topS 6
abbrev N_turned_at : List Str := ["word", "place"]
abbrev P_turned_at : List Str := ["word", "place"]
theorem sc_turned_at : FnScope N_turned_at P_turned_at (defScope st_turned_at) := ⟨rfl, rfl, rfl, by decide +kernel, rfl, by decide +kernel, by decide +kernel⟩
def b_turned_at : FS :=
  (fRet (fBin (sAdd false) (fBin (sAdd false) (fSl false (fVar 0) fNoP (fPart (fBin sSub (fVar 1) (fC (.int 1))))) (fTup (fCons (fBin sSub (fC (.int 1)) (fBin sIx (fVar 0) (fBin sSub (fVar 1) (fC (.int 1))))) fNil))) (fSl false (fVar 0) (fPart (fVar 1)) fNoP)))
def m_turned_at : List Y → Sto → Res Y := wrap false 2 b_turned_at
set_option maxHeartbeats 4000000 in
theorem fn_turned_at {w : World} {K : PySem.W.Frag} {mg : Str → Option Value} {base : Heap} (blt : ∀ (j : Nat) (x : Str), bls[j]? = some x → mg x = none) {f : Addr} {fd : FuncData} (F : Fun K "turned_at" "turned_at" st_turned_at f fd) : FnOk Pw w K mg base (L2.CX Pw w) 1 f fd P_turned_at (spM K mg 2 m_turned_at) :=
  fn_mk (k := 0) false F sc_turned_at (fun cdv A outer s H E hr => by
    have O := okS (P := Pw) (w := w) (K := K) (base := base) (outer := outer) (H := H) (E := E) (vl := [(0, "word"), (1, "place")]) (wl := [(0, "word"), (1, "place")]) (gl := []) sc_turned_at hr (by decide +kernel) blt
    exact (rss_one (rs_ret (re_add false (re_add false (re_sl false (re_var O.o 0) ro_none (ro_some (re_sub (re_var O.o 1) re_int))) (re_tup (ra_cons (re_sub re_int (re_ix (re_var O.o 0) (re_sub (re_var O.o 1) re_int))) ra_nil))) (re_sl false (re_var O.o 0) (ro_some (re_var O.o 1)) ro_none)))))
/-! ### near_in -/
abbrev st_near_in : Stmt := topS 10
abbrev N_near_in : List Str := ["word", "place"]
abbrev P_near_in : List Str := ["word"]
theorem sc_near_in : FnScope N_near_in P_near_in (defScope st_near_in) := ⟨rfl, rfl, rfl, by decide +kernel, rfl, by decide +kernel, by decide +kernel⟩
def b_near_in : FS :=
  (fRet (fLc false [1] (fIt sRng2 (fCons (fC (.int 1)) (fCons (fBin (sAdd false) (fCall sLen (fCons (fVar 0) fNil)) (fC (.int 1))) fNil))) (.nm 1) fYes (fOwn 2 m_turned_at (fCons (fVar 0) (fCons (fVar 1) fNil)))))
def m_near_in : List Y → Sto → Res Y := wrap false 2 b_near_in
set_option maxHeartbeats 4000000 in
theorem fn_near_in {w : World} {K : PySem.W.Frag} {mg : Str → Option Value} {base : Heap} (blt : ∀ (j : Nat) (x : Str), bls[j]? = some x → mg x = none) (d_turned_at : Def Pw w K mg base "turned_at" 2 1 m_turned_at) {f : Addr} {fd : FuncData} (F : Fun K "near_in" "near_in" st_near_in f fd) : FnOk Pw w K mg base (L2.CX Pw w) 2 f fd P_near_in (spM K mg 1 m_near_in) :=
  fn_mk (k := 1) false F sc_near_in (fun cdv A outer s H E hr => by
    have O := okS (P := Pw) (w := w) (K := K) (base := base) (outer := outer) (H := H) (E := E) (vl := [(0, "word")]) (wl := [(0, "word")]) (gl := ["range", "len"]) sc_near_in hr (by decide +kernel) blt
    exact (rss_one (rs_ret (re_lcO false O [("place", 1)] [(0, "word"), (1, "place")] [(1, "place")] ["turned_at"] (ri_rng2 O.o 0 (ra_cons re_int (ra_cons (re_add false (re_len O.o 1 (ra_cons (re_var O.o 0) ra_nil)) re_int) ra_nil))) (by decide +kernel) (by decide +kernel) (by decide +kernel) (fun s H C cl fp O1 => ⟨(rg_nm O1.o 0), rts_nil, (re_own O1 d_turned_at 0 (ra_cons (re_var O1.o 0) (ra_cons (re_var O1.o 1) ra_nil)))⟩)))))
/-! ### touches_in -/
abbrev st_touches_in : Stmt := topS 11
abbrev N_touches_in : List Str := ["words", "table", "found", "at", "word", "other"]
abbrev P_touches_in : List Str := ["words"]
theorem sc_touches_in : FnScope N_touches_in P_touches_in (defScope st_touches_in) := ⟨rfl, rfl, rfl, by decide +kernel, rfl, by decide +kernel, by decide +kernel⟩
def b_touches_in : FS :=
  (fSeq (fSet 1 (fCall (sDict false) (fCons (fLc false [3, 4] (fIt (itS1 (enumL 0)) (fCons (fVar 0) fNil)) (.tp [(.nm 3), (.nm 4)]) fYes (fTup (fCons (fVar 4) (fCons (fVar 3) fNil)))) fNil)))
  (fSeq (fIfS (fTest (fBin sLtX (fCall sLenD (fCons (fVar 1) fNil)) (fCall sLen (fCons (fVar 0) fNil)))) (fRet (fC .non)) fNx)
  (fSeq (fSet 2 (fLst true fNil))
  (fSeq (fFor (.tp [(.nm 3), (.nm 4)]) (fIt (itS1 (enumL 0)) (fCons (fVar 0) fNil)) (fAug 2 sIExt (fLc true [5] (fItS (fOwn 1 m_near_in (fCons (fVar 4) fNil))) (.nm 5) (fTest (fBin sGt (fMet isDc sDget (fVar 1) (fCons (fVar 5) (fCons (fUn sNeg (fC (.int 1))) fNil))) (fVar 3))) (fTup (fCons (fVar 3) (fCons (fBin sIxD (fVar 1) (fVar 5)) fNil))))))
  (fRet (fVar 2))))))
def m_touches_in : List Y → Sto → Res Y := wrap false 6 b_touches_in
set_option maxHeartbeats 4000000 in
theorem fn_touches_in {w : World} {K : PySem.W.Frag} {mg : Str → Option Value} {base : Heap} (blt : ∀ (j : Nat) (x : Str), bls[j]? = some x → mg x = none) (d_near_in : Def Pw w K mg base "near_in" 1 2 m_near_in) {f : Addr} {fd : FuncData} (F : Fun K "touches_in" "touches_in" st_touches_in f fd) : FnOk Pw w K mg base (L2.CX Pw w) 3 f fd P_touches_in (spM K mg 1 m_touches_in) :=
  fn_mk (k := 2) false F sc_touches_in (fun cdv A outer s H E hr => by
    have O := okS (P := Pw) (w := w) (K := K) (base := base) (outer := outer) (H := H) (E := E) (vl := [(1, "table"), (0, "words"), (2, "found"), (3, "at"), (4, "word")]) (wl := [(1, "table"), (0, "words"), (2, "found"), (3, "at"), (4, "word")]) (gl := ["dict", "enumerate", "len", "near_in"]) sc_touches_in hr (by decide +kernel) blt
    exact (rss_cons (rs_set O.o 0 (re_dict false O.o 0 (ra_cons (re_lcO false O [("at", 3), ("word", 4)] [(4, "word"), (3, "at")] [(3, "at"), (4, "word")] [] (ri_enum O.o 1 (ra_cons (re_var O.o 1) ra_nil)) (by decide +kernel) (by decide +kernel) (by decide +kernel) (fun s H C cl fp O1 => ⟨(rg_tp O1.o (rg_cons (rg_nm O1.o 0) (rg_cons (rg_nm O1.o 1) rg_nil))), rts_nil, (re_tup (ra_cons (re_var O1.o 0) (ra_cons (re_var O1.o 1) ra_nil)))⟩)) ra_nil)))
  (rss_cons (rs_if (rt_ltX O.o (re_lend O.o 2 (ra_cons (re_var O.o 0) ra_nil)) (re_len O.o 2 (ra_cons (re_var O.o 1) ra_nil))) (rss_one (rs_ret re_non)) rss_nil)
  (rss_cons (rs_set O.o 2 (re_lst true ra_nil))
  (rss_cons (rs_for O.o passD (ri_enum O.o 1 (ra_cons (re_var O.o 1) ra_nil)) (rg_tp O.o (rg_cons (rg_nm O.o 3) (rg_cons (rg_nm O.o 4) rg_nil))) (rss_one (rs_augL O.o 2 (re_lcO true O [("other", 5)] [(3, "at"), (1, "table"), (5, "other")] [(5, "other")] [] (ri_seq (re_own O d_near_in 3 (ra_cons (re_var O.o 4) ra_nil))) (by decide +kernel) (by decide +kernel) (by decide +kernel) (fun s H C cl fp O1 => ⟨(rg_nm O1.o 0), (rts_one (rt_gt (re_dget O1.o (re_var O1.o 1) (ra_cons (re_var O1.o 2) (ra_cons (re_neg re_int) ra_nil))) (re_var O1.o 0))), (re_tup (ra_cons (re_var O1.o 0) (ra_cons (re_ixd O1.o (re_var O1.o 1) (re_var O1.o 2)) ra_nil)))⟩)))))
  (rss_one (rs_ret (re_var O.o 2))))))))
/-! ### is_tuple_of -/
abbrev st_is_tuple_of : Stmt := topS 4
abbrev N_is_tuple_of : List Str := ["value", "least", "most"]
abbrev P_is_tuple_of : List Str := ["value", "least", "most"]
theorem sc_is_tuple_of : FnScope N_is_tuple_of P_is_tuple_of (defScope st_is_tuple_of) := ⟨rfl, rfl, rfl, by decide +kernel, rfl, by decide +kernel, by decide +kernel⟩
def b_is_tuple_of : FS :=
  (fRet (fAndV (fCall sIsi (fCons (fVar 0) (fCons (fC (.ty "tuple")) fNil))) (fChain sLe sLe (fVar 1) (fCall sLen (fCons (fVar 0) fNil)) (fVar 2))))
def m_is_tuple_of : List Y → Sto → Res Y := wrap false 3 b_is_tuple_of
set_option maxHeartbeats 4000000 in
theorem fn_is_tuple_of {w : World} {K : PySem.W.Frag} {mg : Str → Option Value} {base : Heap} (blt : ∀ (j : Nat) (x : Str), bls[j]? = some x → mg x = none) {f : Addr} {fd : FuncData} (F : Fun K "is_tuple_of" "is_tuple_of" st_is_tuple_of f fd) : FnOk Pw w K mg base (L2.CX Pw w) 1 f fd P_is_tuple_of (spM K mg 3 m_is_tuple_of) :=
  fn_mk (k := 0) false F sc_is_tuple_of (fun cdv A outer s H E hr => by
    have O := okS (P := Pw) (w := w) (K := K) (base := base) (outer := outer) (H := H) (E := E) (vl := [(0, "value"), (1, "least"), (2, "most")]) (wl := [(0, "value"), (1, "least"), (2, "most")]) (gl := ["isinstance", "tuple", "len"]) sc_is_tuple_of hr (by decide +kernel) blt
    exact (rss_one (rs_ret (re_and (re_isi O.o 0 (ra_cons (re_var O.o 0) (ra_cons (re_ty O.o 1 (n := "tuple") 13) ra_nil))) (re_one (re_chain op_le op_le sLe_ok sLe_ok (re_var O.o 1) (re_len O.o 2 (ra_cons (re_var O.o 0) ra_nil)) (re_var O.o 2)))))))
/-! ### fits_whole -/
abbrev st_fits_whole : Stmt := topS 3
abbrev N_fits_whole : List Str := ["value", "low", "high"]
abbrev P_fits_whole : List Str := ["value", "low", "high"]
theorem sc_fits_whole : FnScope N_fits_whole P_fits_whole (defScope st_fits_whole) := ⟨rfl, rfl, rfl, by decide +kernel, rfl, by decide +kernel, by decide +kernel⟩
def b_fits_whole : FS :=
  (fRet (fAndV (fCall sIsi (fCons (fVar 0) (fCons (fC (.ty "int")) fNil))) (fAndV (fNotV (fCall sIsi (fCons (fVar 0) (fCons (fC (.ty "bool")) fNil)))) (fChain sLe sLe (fVar 1) (fVar 0) (fVar 2)))))
def m_fits_whole : List Y → Sto → Res Y := wrap false 3 b_fits_whole
set_option maxHeartbeats 4000000 in
theorem fn_fits_whole {w : World} {K : PySem.W.Frag} {mg : Str → Option Value} {base : Heap} (blt : ∀ (j : Nat) (x : Str), bls[j]? = some x → mg x = none) {f : Addr} {fd : FuncData} (F : Fun K "fits_whole" "fits_whole" st_fits_whole f fd) : FnOk Pw w K mg base (L2.CX Pw w) 1 f fd P_fits_whole (spM K mg 3 m_fits_whole) :=
  fn_mk (k := 0) false F sc_fits_whole (fun cdv A outer s H E hr => by
    have O := okS (P := Pw) (w := w) (K := K) (base := base) (outer := outer) (H := H) (E := E) (vl := [(0, "value"), (1, "low"), (2, "high")]) (wl := [(0, "value"), (1, "low"), (2, "high")]) (gl := ["isinstance", "int", "bool"]) sc_fits_whole hr (by decide +kernel) blt
    exact (rss_one (rs_ret (re_and (re_isi O.o 0 (ra_cons (re_var O.o 0) (ra_cons (re_ty O.o 1 (n := "int") 10) ra_nil))) (re_and (re_not (re_isi O.o 0 (ra_cons (re_var O.o 0) (ra_cons (re_ty O.o 2 (n := "bool") 18) ra_nil)))) (re_one (re_chain op_le op_le sLe_ok sLe_ok (re_var O.o 1) (re_var O.o 0) (re_var O.o 2))))))))
/-! ### fits_word -/
abbrev st_fits_word : Stmt := topS 5
abbrev N_fits_word : List Str := ["value", "sign"]
abbrev P_fits_word : List Str := ["value"]
theorem sc_fits_word : FnScope N_fits_word P_fits_word (defScope st_fits_word) := ⟨rfl, rfl, rfl, by decide +kernel, rfl, by decide +kernel, by decide +kernel⟩
def b_fits_word : FS :=
  (fRet (fAndV (fOwn 3 m_is_tuple_of (fCons (fVar 0) (fCons (fC (.int 1)) (fCons (fC (.int 16)) fNil)))) (fCall sAll (fCons (fLc false [1] (fItS (fVar 0)) (.nm 1) fYes (fOwn 3 m_fits_whole (fCons (fVar 1) (fCons (fC (.int 0)) (fCons (fC (.int 1)) fNil))))) fNil))))
def m_fits_word : List Y → Sto → Res Y := wrap false 2 b_fits_word
set_option maxHeartbeats 4000000 in
theorem fn_fits_word {w : World} {K : PySem.W.Frag} {mg : Str → Option Value} {base : Heap} (blt : ∀ (j : Nat) (x : Str), bls[j]? = some x → mg x = none) (c_SIGNS : ∃ t, mg "SIGNS" = some (.int 16 t)) (d_is_tuple_of : Def Pw w K mg base "is_tuple_of" 3 1 m_is_tuple_of) (d_fits_whole : Def Pw w K mg base "fits_whole" 3 1 m_fits_whole) {f : Addr} {fd : FuncData} (F : Fun K "fits_word" "fits_word" st_fits_word f fd) : FnOk Pw w K mg base (L2.CX Pw w) 2 f fd P_fits_word (spM K mg 1 m_fits_word) :=
  fn_mk (k := 1) false F sc_fits_word (fun cdv A outer s H E hr => by
    have O := okS (P := Pw) (w := w) (K := K) (base := base) (outer := outer) (H := H) (E := E) (vl := [(0, "value")]) (wl := [(0, "value")]) (gl := ["is_tuple_of", "SIGNS", "all"]) sc_fits_word hr (by decide +kernel) blt
    exact (rss_one (rs_ret (re_and (re_own O d_is_tuple_of 0 (ra_cons (re_var O.o 0) (ra_cons re_int (ra_cons (g_const O 1 c_SIGNS) ra_nil)))) (re_one (re_all O.o 2 (ra_cons (re_lcO false O [("sign", 1)] [(1, "sign")] [(1, "sign")] ["fits_whole"] (ri_seq (re_var O.o 0)) (by decide +kernel) (by decide +kernel) (by decide +kernel) (fun s H C cl fp O1 => ⟨(rg_nm O1.o 0), rts_nil, (re_own O1 d_fits_whole 0 (ra_cons (re_var O1.o 0) (ra_cons re_int (ra_cons re_int ra_nil))))⟩)) ra_nil)))))))
/-! ### unlike_in -/
abbrev st_unlike_in : Stmt := topS 7
abbrev N_unlike_in : List Str := ["one", "other", "at"]
abbrev P_unlike_in : List Str := ["one", "other"]
theorem sc_unlike_in : FnScope N_unlike_in P_unlike_in (defScope st_unlike_in) := ⟨rfl, rfl, rfl, by decide +kernel, rfl, by decide +kernel, by decide +kernel⟩
def b_unlike_in : FS :=
  (fRet (fLc false [2] (fIt sRng1 (fCons (fCall sLen (fCons (fVar 0) fNil)) fNil)) (.nm 2) (fTest (fBin sNe (fBin sIx (fVar 0) (fVar 2)) (fBin sIx (fVar 1) (fVar 2)))) (fBin (sAdd false) (fVar 2) (fC (.int 1)))))
def m_unlike_in : List Y → Sto → Res Y := wrap false 3 b_unlike_in
set_option maxHeartbeats 4000000 in
theorem fn_unlike_in {w : World} {K : PySem.W.Frag} {mg : Str → Option Value} {base : Heap} (blt : ∀ (j : Nat) (x : Str), bls[j]? = some x → mg x = none) {f : Addr} {fd : FuncData} (F : Fun K "unlike_in" "unlike_in" st_unlike_in f fd) : FnOk Pw w K mg base (L2.CX Pw w) 1 f fd P_unlike_in (spM K mg 2 m_unlike_in) :=
  fn_mk (k := 0) false F sc_unlike_in (fun cdv A outer s H E hr => by
    have O := okS (P := Pw) (w := w) (K := K) (base := base) (outer := outer) (H := H) (E := E) (vl := [(0, "one")]) (wl := [(0, "one")]) (gl := ["range", "len"]) sc_unlike_in hr (by decide +kernel) blt
    exact (rss_one (rs_ret (re_lcO false O [("at", 2)] [(2, "at"), (0, "one"), (1, "other")] [(2, "at")] [] (ri_rng1 O.o 0 (ra_cons (re_len O.o 1 (ra_cons (re_var O.o 0) ra_nil)) ra_nil)) (by decide +kernel) (by decide +kernel) (by decide +kernel) (fun s H C cl fp O1 => ⟨(rg_nm O1.o 0), (rts_one (rt_ne O1.o (re_ix (re_var O1.o 1) (re_var O1.o 0)) (re_ix (re_var O1.o 2) (re_var O1.o 0)))), (re_add false (re_var O1.o 0) re_int)⟩)))))
/-! ### fits_list -/
abbrev st_fits_list : Stmt := topS 8
abbrev N_fits_list : List Str := ["value", "one", "other", "word"]
abbrev P_fits_list : List Str := ["value"]
theorem sc_fits_list : FnScope N_fits_list P_fits_list (defScope st_fits_list) := ⟨rfl, rfl, rfl, by decide +kernel, rfl, by decide +kernel, by decide +kernel⟩
def b_fits_list : FS :=
  (fSeq (fIfS (fOr (fNot (fTru (fOwn 3 m_is_tuple_of (fCons (fVar 0) (fCons (fC (.int 1)) (fCons (fC (.int 5000)) fNil)))))) (fNot (fTru (fCall sAll (fCons (fLc false [3] (fItS (fVar 0)) (.nm 3) fYes (fOwn 1 m_fits_word (fCons (fVar 3) fNil))) fNil))))) (fRet (fC (.bl false))) fNx)
  (fSeq (fIfS (fNot (fTru (fCall sAll (fCons (fLc false [3] (fItS (fVar 0)) (.nm 3) fYes (fBin sEq (fCall sLen (fCons (fVar 3) fNil)) (fCall sLen (fCons (fBin sIx (fVar 0) (fC (.int 0))) fNil)))) fNil)))) (fRet (fC (.bl false))) fNx)
  (fRet (fCall sAll (fCons (fLc false [1, 2] (fIt (itS2 zipL) (fCons (fVar 0) (fCons (fSl false (fVar 0) (fPart (fC (.int 1))) fNoP) fNil))) (.tp [(.nm 1), (.nm 2)]) fYes (fBin sEq (fCall sLen (fCons (fOwn 2 m_unlike_in (fCons (fVar 1) (fCons (fVar 2) fNil))) fNil)) (fC (.int 1)))) fNil)))))
def m_fits_list : List Y → Sto → Res Y := wrap false 4 b_fits_list
set_option maxHeartbeats 4000000 in
theorem fn_fits_list {w : World} {K : PySem.W.Frag} {mg : Str → Option Value} {base : Heap} (blt : ∀ (j : Nat) (x : Str), bls[j]? = some x → mg x = none) (c_WORDS : ∃ t, mg "WORDS" = some (.int 5000 t)) (d_is_tuple_of : Def Pw w K mg base "is_tuple_of" 3 1 m_is_tuple_of) (d_fits_word : Def Pw w K mg base "fits_word" 1 2 m_fits_word) (d_unlike_in : Def Pw w K mg base "unlike_in" 2 1 m_unlike_in) {f : Addr} {fd : FuncData} (F : Fun K "fits_list" "fits_list" st_fits_list f fd) : FnOk Pw w K mg base (L2.CX Pw w) 3 f fd P_fits_list (spM K mg 1 m_fits_list) :=
  fn_mk (k := 2) false F sc_fits_list (fun cdv A outer s H E hr => by
    have O := okS (P := Pw) (w := w) (K := K) (base := base) (outer := outer) (H := H) (E := E) (vl := [(0, "value")]) (wl := [(0, "value")]) (gl := ["is_tuple_of", "WORDS", "all", "zip"]) sc_fits_list hr (by decide +kernel) blt
    exact (rss_cons (rs_if (rt_w (rw_or (rt_not (rt_tru (re_own O d_is_tuple_of 0 (ra_cons (re_var O.o 0) (ra_cons re_int (ra_cons (g_const O 1 c_WORDS) ra_nil)))))) (rw_or1 (rt_not (rt_tru (re_all O.o 2 (ra_cons (re_lcO false O [("word", 3)] [(3, "word")] [(3, "word")] ["fits_word"] (ri_seq (re_var O.o 0)) (by decide +kernel) (by decide +kernel) (by decide +kernel) (fun s H C cl fp O1 => ⟨(rg_nm O1.o 0), rts_nil, (re_own O1 d_fits_word 0 (ra_cons (re_var O1.o 0) ra_nil))⟩)) ra_nil))))))) (rss_one (rs_ret re_bl)) rss_nil)
  (rss_cons (rs_if (rt_not (rt_tru (re_all O.o 2 (ra_cons (re_lcO false O [("word", 3)] [(3, "word"), (0, "value")] [(3, "word")] ["len"] (ri_seq (re_var O.o 0)) (by decide +kernel) (by decide +kernel) (by decide +kernel) (fun s H C cl fp O1 => ⟨(rg_nm O1.o 0), rts_nil, (re_eq O1.o (re_len O1.o 0 (ra_cons (re_var O1.o 0) ra_nil)) (re_len O1.o 0 (ra_cons (re_ix (re_var O1.o 1) re_int) ra_nil)))⟩)) ra_nil)))) (rss_one (rs_ret re_bl)) rss_nil)
  (rss_one (rs_ret (re_all O.o 2 (ra_cons (re_lcO false O [("one", 1), ("other", 2)] [(1, "one"), (2, "other")] [(1, "one"), (2, "other")] ["len", "unlike_in"] (ri_zip O.o 3 (ra_cons (re_var O.o 0) (ra_cons (re_sl false (re_var O.o 0) (ro_some re_int) ro_none) ra_nil))) (by decide +kernel) (by decide +kernel) (by decide +kernel) (fun s H C cl fp O1 => ⟨(rg_tp O1.o (rg_cons (rg_nm O1.o 0) (rg_cons (rg_nm O1.o 1) rg_nil))), rts_nil, (re_eq O1.o (re_len O1.o 0 (ra_cons (re_own O1 d_unlike_in 1 (ra_cons (re_var O1.o 0) (ra_cons (re_var O1.o 1) ra_nil))) ra_nil)) re_int)⟩)) ra_nil)))))))
/-! ### fits_snake -/
abbrev st_fits_snake : Stmt := topS 12
abbrev N_fits_snake : List Str := ["value", "touches", "one", "other"]
abbrev P_fits_snake : List Str := ["value"]
theorem sc_fits_snake : FnScope N_fits_snake P_fits_snake (defScope st_fits_snake) := ⟨rfl, rfl, rfl, by decide +kernel, rfl, by decide +kernel, by decide +kernel⟩
def b_fits_snake : FS :=
  (fSeq (fIfS (fNot (fTru (fOwn 1 m_fits_list (fCons (fVar 0) fNil)))) (fRet (fC (.bl false))) fNx)
  (fSeq (fSet 1 (fOwn 1 m_touches_in (fCons (fVar 0) fNil)))
  (fRet (fAndV (fBin (sIs true) (fVar 1) (fC .non)) (fCall sAll (fCons (fLc false [2, 3] (fItS (fVar 1)) (.tp [(.nm 2), (.nm 3)]) fYes (fBin sEq (fVar 3) (fBin (sAdd false) (fVar 2) (fC (.int 1))))) fNil))))))
def m_fits_snake : List Y → Sto → Res Y := wrap false 4 b_fits_snake
set_option maxHeartbeats 4000000 in
theorem fn_fits_snake {w : World} {K : PySem.W.Frag} {mg : Str → Option Value} {base : Heap} (blt : ∀ (j : Nat) (x : Str), bls[j]? = some x → mg x = none) (d_touches_in : Def Pw w K mg base "touches_in" 1 3 m_touches_in) (d_fits_list : Def Pw w K mg base "fits_list" 1 3 m_fits_list) {f : Addr} {fd : FuncData} (F : Fun K "fits_snake" "fits_snake" st_fits_snake f fd) : FnOk Pw w K mg base (L2.CX Pw w) 4 f fd P_fits_snake (spM K mg 1 m_fits_snake) :=
  fn_mk (k := 3) false F sc_fits_snake (fun cdv A outer s H E hr => by
    have O := okS (P := Pw) (w := w) (K := K) (base := base) (outer := outer) (H := H) (E := E) (vl := [(0, "value"), (1, "touches")]) (wl := [(0, "value"), (1, "touches")]) (gl := ["fits_list", "touches_in", "all"]) sc_fits_snake hr (by decide +kernel) blt
    exact (rss_cons (rs_if (rt_not (rt_tru (re_own O d_fits_list 0 (ra_cons (re_var O.o 0) ra_nil)))) (rss_one (rs_ret re_bl)) rss_nil)
  (rss_cons (rs_set O.o 1 (re_own O d_touches_in 1 (ra_cons (re_var O.o 0) ra_nil)))
  (rss_one (rs_ret (re_and (re_isn (re_var O.o 1) re_non) (re_one (re_all O.o 2 (ra_cons (re_lcO false O [("one", 2), ("other", 3)] [(3, "other"), (2, "one")] [(2, "one"), (3, "other")] [] (ri_seq (re_var O.o 1)) (by decide +kernel) (by decide +kernel) (by decide +kernel) (fun s H C cl fp O1 => ⟨(rg_tp O1.o (rg_cons (rg_nm O1.o 0) (rg_cons (rg_nm O1.o 1) rg_nil))), rts_nil, (re_eq O1.o (re_var O1.o 0) (re_add false (re_var O1.o 1) re_int))⟩)) ra_nil)))))))))
/-! ### is_snake -/
abbrev st_is_snake : Stmt := topS 14
abbrev N_is_snake : List Str := ["value"]
abbrev P_is_snake : List Str := ["value"]
theorem sc_is_snake : FnScope N_is_snake P_is_snake (defScope st_is_snake) := ⟨rfl, rfl, rfl, by decide +kernel, rfl, by decide +kernel, by decide +kernel⟩
def b_is_snake : FS :=
  (fRet (fOwn 1 m_fits_snake (fCons (fVar 0) fNil)))
def m_is_snake : List Y → Sto → Res Y := wrap false 1 b_is_snake
set_option maxHeartbeats 4000000 in
theorem fn_is_snake {w : World} {K : PySem.W.Frag} {mg : Str → Option Value} {base : Heap} (blt : ∀ (j : Nat) (x : Str), bls[j]? = some x → mg x = none) (d_fits_snake : Def Pw w K mg base "fits_snake" 1 4 m_fits_snake) {f : Addr} {fd : FuncData} (F : Fun K "is_snake" "is_snake" st_is_snake f fd) : FnOk Pw w K mg base (L2.CX Pw w) 5 f fd P_is_snake (spM K mg 1 m_is_snake) :=
  fn_mk (k := 4) false F sc_is_snake (fun cdv A outer s H E hr => by
    have O := okS (P := Pw) (w := w) (K := K) (base := base) (outer := outer) (H := H) (E := E) (vl := [(0, "value")]) (wl := [(0, "value")]) (gl := ["fits_snake"]) sc_is_snake hr (by decide +kernel) blt
    exact (rss_one (rs_ret (re_own O d_fits_snake 0 (ra_cons (re_var O.o 0) ra_nil)))))
/-! ### fits_coil -/
abbrev st_fits_coil : Stmt := topS 13
abbrev N_fits_coil : List Str := ["value", "touches", "one", "other"]
abbrev P_fits_coil : List Str := ["value"]
theorem sc_fits_coil : FnScope N_fits_coil P_fits_coil (defScope st_fits_coil) := ⟨rfl, rfl, rfl, by decide +kernel, rfl, by decide +kernel, by decide +kernel⟩
def b_fits_coil : FS :=
  (fSeq (fIfS (fOr (fNot (fTru (fOwn 1 m_fits_list (fCons (fVar 0) fNil)))) (fOr (fTest (fBin sLtX (fCall sLen (fCons (fVar 0) fNil)) (fC (.int 3)))) (fTest (fBin sNe (fCall sLen (fCons (fOwn 2 m_unlike_in (fCons (fBin sIx (fVar 0) (fC (.int 0))) (fCons (fBin sIx (fVar 0) (fUn sNeg (fC (.int 1)))) fNil))) fNil)) (fC (.int 1)))))) (fRet (fC (.bl false))) fNx)
  (fSeq (fSet 1 (fOwn 1 m_touches_in (fCons (fVar 0) fNil)))
  (fSeq (fIfS (fTest (fBin (sIs false) (fVar 1) (fC .non))) (fRet (fC (.bl false))) fNx)
  (fRet (fCall sAll (fCons (fLc false [2, 3] (fItS (fVar 1)) (.tp [(.nm 2), (.nm 3)]) fYes (fOrV (fBin sEq (fVar 3) (fBin (sAdd false) (fVar 2) (fC (.int 1)))) (fBin sEq (fTup (fCons (fVar 2) (fCons (fVar 3) fNil))) (fTup (fCons (fC (.int 0)) (fCons (fBin sSub (fCall sLen (fCons (fVar 0) fNil)) (fC (.int 1))) fNil)))))) fNil))))))
def m_fits_coil : List Y → Sto → Res Y := wrap false 4 b_fits_coil
set_option maxHeartbeats 4000000 in
theorem fn_fits_coil {w : World} {K : PySem.W.Frag} {mg : Str → Option Value} {base : Heap} (blt : ∀ (j : Nat) (x : Str), bls[j]? = some x → mg x = none) (d_touches_in : Def Pw w K mg base "touches_in" 1 3 m_touches_in) (d_fits_list : Def Pw w K mg base "fits_list" 1 3 m_fits_list) (d_unlike_in : Def Pw w K mg base "unlike_in" 2 1 m_unlike_in) {f : Addr} {fd : FuncData} (F : Fun K "fits_coil" "fits_coil" st_fits_coil f fd) : FnOk Pw w K mg base (L2.CX Pw w) 4 f fd P_fits_coil (spM K mg 1 m_fits_coil) :=
  fn_mk (k := 3) false F sc_fits_coil (fun cdv A outer s H E hr => by
    have O := okS (P := Pw) (w := w) (K := K) (base := base) (outer := outer) (H := H) (E := E) (vl := [(0, "value"), (1, "touches")]) (wl := [(0, "value"), (1, "touches")]) (gl := ["fits_list", "len", "unlike_in", "touches_in", "all"]) sc_fits_coil hr (by decide +kernel) blt
    exact (rss_cons (rs_if (rt_w (rw_or (rt_not (rt_tru (re_own O d_fits_list 0 (ra_cons (re_var O.o 0) ra_nil)))) (rw_or (rt_ltX O.o (re_len O.o 1 (ra_cons (re_var O.o 0) ra_nil)) re_int) (rw_or1 (rt_ne O.o (re_len O.o 1 (ra_cons (re_own O d_unlike_in 2 (ra_cons (re_ix (re_var O.o 0) re_int) (ra_cons (re_ix (re_var O.o 0) (re_neg re_int)) ra_nil))) ra_nil)) re_int))))) (rss_one (rs_ret re_bl)) rss_nil)
  (rss_cons (rs_set O.o 1 (re_own O d_touches_in 3 (ra_cons (re_var O.o 0) ra_nil)))
  (rss_cons (rs_if (rt_is (re_var O.o 1) re_non) (rss_one (rs_ret re_bl)) rss_nil)
  (rss_one (rs_ret (re_all O.o 4 (ra_cons (re_lcO false O [("one", 2), ("other", 3)] [(3, "other"), (2, "one"), (0, "value")] [(2, "one"), (3, "other")] ["len"] (ri_seq (re_var O.o 1)) (by decide +kernel) (by decide +kernel) (by decide +kernel) (fun s H C cl fp O1 => ⟨(rg_tp O1.o (rg_cons (rg_nm O1.o 0) (rg_cons (rg_nm O1.o 1) rg_nil))), rts_nil, (re_or (re_eq O1.o (re_var O1.o 0) (re_add false (re_var O1.o 1) re_int)) (re_one (re_eq O1.o (re_tup (ra_cons (re_var O1.o 1) (ra_cons (re_var O1.o 0) ra_nil))) (re_tup (ra_cons re_int (ra_cons (re_sub (re_len O1.o 0 (ra_cons (re_var O1.o 2) ra_nil)) re_int) ra_nil))))))⟩)) ra_nil))))))))
/-! ### is_coil -/
abbrev st_is_coil : Stmt := topS 15
abbrev N_is_coil : List Str := ["value"]
abbrev P_is_coil : List Str := ["value"]
theorem sc_is_coil : FnScope N_is_coil P_is_coil (defScope st_is_coil) := ⟨rfl, rfl, rfl, by decide +kernel, rfl, by decide +kernel, by decide +kernel⟩
def b_is_coil : FS :=
  (fRet (fOwn 1 m_fits_coil (fCons (fVar 0) fNil)))
def m_is_coil : List Y → Sto → Res Y := wrap false 1 b_is_coil
set_option maxHeartbeats 4000000 in
theorem fn_is_coil {w : World} {K : PySem.W.Frag} {mg : Str → Option Value} {base : Heap} (blt : ∀ (j : Nat) (x : Str), bls[j]? = some x → mg x = none) (d_fits_coil : Def Pw w K mg base "fits_coil" 1 4 m_fits_coil) {f : Addr} {fd : FuncData} (F : Fun K "is_coil" "is_coil" st_is_coil f fd) : FnOk Pw w K mg base (L2.CX Pw w) 5 f fd P_is_coil (spM K mg 1 m_is_coil) :=
  fn_mk (k := 4) false F sc_is_coil (fun cdv A outer s H E hr => by
    have O := okS (P := Pw) (w := w) (K := K) (base := base) (outer := outer) (H := H) (E := E) (vl := [(0, "value")]) (wl := [(0, "value")]) (gl := ["fits_coil"]) sc_is_coil hr (by decide +kernel) blt
    exact (rss_one (rs_ret (re_own O d_fits_coil 0 (ra_cons (re_var O.o 0) ra_nil)))))
/-! ### _law_rows_right -/
abbrev st_law_rows_rightU : Stmt := topS 34
abbrev N_law_rows_rightU : List Str := ["square", "coil"]
abbrev P_law_rows_rightU : List Str := []
theorem sc_law_rows_rightU : FnScope N_law_rows_rightU P_law_rows_rightU (defScope st_law_rows_rightU) := ⟨rfl, rfl, rfl, by decide +kernel, rfl, by decide +kernel, by decide +kernel⟩
def b_law_rows_rightU : FS :=
  (fSeq (fSet 0 (fTup (fCons (fTup (fCons (fC (.int 0)) (fCons (fC (.int 0)) fNil))) (fCons (fTup (fCons (fC (.int 0)) (fCons (fC (.int 1)) fNil))) (fCons (fTup (fCons (fC (.int 1)) (fCons (fC (.int 1)) fNil))) (fCons (fTup (fCons (fC (.int 1)) (fCons (fC (.int 0)) fNil))) fNil))))))
  (fSeq (fSet 1 (fTup (fCons (fTup (fCons (fC (.int 0)) (fCons (fC (.int 0)) (fCons (fC (.int 0)) fNil)))) (fCons (fTup (fCons (fC (.int 1)) (fCons (fC (.int 0)) (fCons (fC (.int 0)) fNil)))) (fCons (fTup (fCons (fC (.int 1)) (fCons (fC (.int 0)) (fCons (fC (.int 1)) fNil)))) (fCons (fTup (fCons (fC (.int 0)) (fCons (fC (.int 0)) (fCons (fC (.int 1)) fNil)))) (fCons (fTup (fCons (fC (.int 0)) (fCons (fC (.int 1)) (fCons (fC (.int 1)) fNil)))) (fCons (fTup (fCons (fC (.int 0)) (fCons (fC (.int 1)) (fCons (fC (.int 0)) fNil)))) fNil))))))))
  (fRet (fBin sEq (fLst false (fCons (fOwn 1 m_is_snake (fCons (fVar 0) fNil)) (fCons (fOwn 1 m_is_coil (fCons (fVar 1) fNil)) fNil))) (fLst false (fCons (fC (.bl false)) (fCons (fC (.bl false)) fNil)))))))
def m_law_rows_rightU : List Y → Sto → Res Y := wrap false 2 b_law_rows_rightU
set_option maxHeartbeats 4000000 in
theorem fn_law_rows_rightU {w : World} {K : PySem.W.Frag} {mg : Str → Option Value} {base : Heap} (blt : ∀ (j : Nat) (x : Str), bls[j]? = some x → mg x = none) (d_is_snake : Def Pw w K mg base "is_snake" 1 5 m_is_snake) (d_is_coil : Def Pw w K mg base "is_coil" 1 5 m_is_coil) {f : Addr} {fd : FuncData} (F : Fun K "_law_rows_right" "_law_rows_right" st_law_rows_rightU f fd) : FnOk Pw w K mg base (L2.CX Pw w) 6 f fd P_law_rows_rightU (spM K mg 0 m_law_rows_rightU) :=
  fn_mk (k := 5) false F sc_law_rows_rightU (fun cdv A outer s H E hr => by
    have O := okS (P := Pw) (w := w) (K := K) (base := base) (outer := outer) (H := H) (E := E) (vl := [(0, "square"), (1, "coil")]) (wl := [(0, "square"), (1, "coil")]) (gl := ["is_snake", "is_coil"]) sc_law_rows_rightU hr (by decide +kernel) blt
    exact (rss_cons (rs_set O.o 0 (re_tup (ra_cons (re_tup (ra_cons re_int (ra_cons re_int ra_nil))) (ra_cons (re_tup (ra_cons re_int (ra_cons re_int ra_nil))) (ra_cons (re_tup (ra_cons re_int (ra_cons re_int ra_nil))) (ra_cons (re_tup (ra_cons re_int (ra_cons re_int ra_nil))) ra_nil))))))
  (rss_cons (rs_set O.o 1 (re_tup (ra_cons (re_tup (ra_cons re_int (ra_cons re_int (ra_cons re_int ra_nil)))) (ra_cons (re_tup (ra_cons re_int (ra_cons re_int (ra_cons re_int ra_nil)))) (ra_cons (re_tup (ra_cons re_int (ra_cons re_int (ra_cons re_int ra_nil)))) (ra_cons (re_tup (ra_cons re_int (ra_cons re_int (ra_cons re_int ra_nil)))) (ra_cons (re_tup (ra_cons re_int (ra_cons re_int (ra_cons re_int ra_nil)))) (ra_cons (re_tup (ra_cons re_int (ra_cons re_int (ra_cons re_int ra_nil)))) ra_nil))))))))
  (rss_one (rs_ret (re_eq O.o (re_lst false (ra_cons (re_own O d_is_snake 0 (ra_cons (re_var O.o 0) ra_nil)) (ra_cons (re_own O d_is_coil 1 (ra_cons (re_var O.o 1) ra_nil)) ra_nil))) (re_lst false (ra_cons re_bl (ra_cons re_bl ra_nil)))))))))
/-! ### _law_roll -/
abbrev st_law_rollU : Stmt := topS 18
abbrev N_law_rollU : List Str := ["cup", "many", "found", "deep"]
abbrev P_law_rollU : List Str := ["cup", "many"]
theorem sc_law_rollU : FnScope N_law_rollU P_law_rollU (defScope st_law_rollU) := ⟨rfl, rfl, rfl, by decide +kernel, rfl, by decide +kernel, by decide +kernel⟩
def b_law_rollU : FS :=
  (fSeq (fIfS (fTest (fBin sGt (fBin sIx (fVar 0) (fC (.int 0))) (fC (.int 0)))) (fSeq (fSet 2 (fBin sMod (fCall sInt (fCons (fBin sIx (fVar 0) (fC (.int 0))) fNil)) (fVar 1)))
  (fSeq (fSub (fVar 0) (fC (.int 0)) (fBin sFdiv (fBin sIx (fVar 0) (fC (.int 0))) (fVar 1)))
  (fRet (fVar 2)))) fNx)
  (fSeq (fSub (fVar 0) (fC (.int 1)) (fBin sMod (fCall sInt (fCons (fBin (sAdd false) (fBin (sMul false) (fBin sIx (fVar 0) (fC (.int 1))) (fC (.int 33489))) (fC (.int 8263))) fNil)) (fC (.int 2147483423))))
  (fSeq (fSet 3 (fBin sMod (fCall sInt (fCons (fBin (sMul false) (fBin sIx (fVar 0) (fC (.int 1))) (fBin (sAdd false) (fBin sIx (fVar 0) (fC (.int 1))) (fC (.int 521)))) fNil)) (fC (.int 2147483587))))
  (fRet (fBin sMod (fCall sInt (fCons (fBin sFdiv (fVar 3) (fC (.int 1053))) fNil)) (fVar 1))))))
def m_law_rollU : List Y → Sto → Res Y := wrap false 4 b_law_rollU
set_option maxHeartbeats 4000000 in
theorem fn_law_rollU {w : World} {K : PySem.W.Frag} {mg : Str → Option Value} {base : Heap} (blt : ∀ (j : Nat) (x : Str), bls[j]? = some x → mg x = none) {f : Addr} {fd : FuncData} (F : Fun K "_law_roll" "_law_roll" st_law_rollU f fd) : FnOk Pw w K mg base (L2.CX Pw w) 1 f fd P_law_rollU (spM K mg 2 m_law_rollU) :=
  fn_mk (k := 0) false F sc_law_rollU (fun cdv A outer s H E hr => by
    have O := okS (P := Pw) (w := w) (K := K) (base := base) (outer := outer) (H := H) (E := E) (vl := [(0, "cup"), (2, "found"), (1, "many"), (3, "deep")]) (wl := [(0, "cup"), (2, "found"), (1, "many"), (3, "deep")]) (gl := ["int"]) sc_law_rollU hr (by decide +kernel) blt
    exact (rss_cons (rs_if (rt_gt (re_ix (re_var O.o 0) re_int) re_int) (rss_cons (rs_set O.o 1 (re_mod (re_intc O.o 0 (ra_cons (re_ix (re_var O.o 0) re_int) ra_nil)) (re_var O.o 2)))
  (rss_cons (rs_sub O.o (re_fdiv (re_ix (re_var O.o 0) re_int) (re_var O.o 2)) (re_var O.o 0) re_int)
  (rss_one (rs_ret (re_var O.o 1))))) rss_nil)
  (rss_cons (rs_sub O.o (re_mod (re_intc O.o 0 (ra_cons (re_add false (re_mul false (re_ix (re_var O.o 0) re_int) re_int) re_int) ra_nil)) re_int) (re_var O.o 0) re_int)
  (rss_cons (rs_set O.o 3 (re_mod (re_intc O.o 0 (ra_cons (re_mul false (re_ix (re_var O.o 0) re_int) (re_add false (re_ix (re_var O.o 0) re_int) re_int)) ra_nil)) re_int))
  (rss_one (rs_ret (re_mod (re_intc O.o 0 (ra_cons (re_fdiv (re_var O.o 3) re_int) ra_nil)) (re_var O.o 2))))))))
/-! ### _law_word -/
abbrev st_law_wordU : Stmt := topS 21
abbrev N_law_wordU : List Str := ["cup", "signs", "turn"]
abbrev P_law_wordU : List Str := ["cup", "signs"]
theorem sc_law_wordU : FnScope N_law_wordU P_law_wordU (defScope st_law_wordU) := ⟨rfl, rfl, rfl, by decide +kernel, rfl, by decide +kernel, by decide +kernel⟩
def b_law_wordU : FS :=
  (fRet (fCall sTuple (fCons (fLc false [2] (fIt sRng1 (fCons (fVar 1) fNil)) (.nm 2) fYes (fOwn 2 m_law_rollU (fCons (fVar 0) (fCons (fC (.int 2)) fNil)))) fNil)))
def m_law_wordU : List Y → Sto → Res Y := wrap false 3 b_law_wordU
set_option maxHeartbeats 4000000 in
theorem fn_law_wordU {w : World} {K : PySem.W.Frag} {mg : Str → Option Value} {base : Heap} (blt : ∀ (j : Nat) (x : Str), bls[j]? = some x → mg x = none) (d_law_rollU : Def Pw w K mg base "_law_roll" 2 1 m_law_rollU) {f : Addr} {fd : FuncData} (F : Fun K "_law_word" "_law_word" st_law_wordU f fd) : FnOk Pw w K mg base (L2.CX Pw w) 2 f fd P_law_wordU (spM K mg 2 m_law_wordU) :=
  fn_mk (k := 1) false F sc_law_wordU (fun cdv A outer s H E hr => by
    have O := okS (P := Pw) (w := w) (K := K) (base := base) (outer := outer) (H := H) (E := E) (vl := [(1, "signs")]) (wl := [(1, "signs")]) (gl := ["tuple", "range"]) sc_law_wordU hr (by decide +kernel) blt
    exact (rss_one (rs_ret (re_tupc O.o 0 (ra_cons (re_lcO false O [("turn", 2)] [(0, "cup"), (2, "turn")] [(2, "turn")] ["_law_roll"] (ri_rng1 O.o 1 (ra_cons (re_var O.o 0) ra_nil)) (by decide +kernel) (by decide +kernel) (by decide +kernel) (fun s H C cl fp O1 => ⟨(rg_nm O1.o 0), rts_nil, (re_own O1 d_law_rollU 0 (ra_cons (re_var O1.o 0) (ra_cons re_int ra_nil)))⟩)) ra_nil)))))
/-! ### _law_turn -/
abbrev st_law_turnU : Stmt := topS 22
abbrev N_law_turnU : List Str := ["word", "place", "at", "sign"]
abbrev P_law_turnU : List Str := ["word", "place"]
theorem sc_law_turnU : FnScope N_law_turnU P_law_turnU (defScope st_law_turnU) := ⟨rfl, rfl, rfl, by decide +kernel, rfl, by decide +kernel, by decide +kernel⟩
def b_law_turnU : FS :=
  (fRet (fCall sTuple (fCons (fLc false [2, 3] (fIt (itS1 (enumL 0)) (fCons (fVar 0) fNil)) (.tp [(.nm 2), (.nm 3)]) fYes (fIf (fTest (fBin sEq (fBin (sAdd false) (fVar 2) (fC (.int 1))) (fVar 1))) (fBin sSub (fC (.int 1)) (fVar 3)) (fVar 3))) fNil)))
def m_law_turnU : List Y → Sto → Res Y := wrap false 4 b_law_turnU
set_option maxHeartbeats 4000000 in
theorem fn_law_turnU {w : World} {K : PySem.W.Frag} {mg : Str → Option Value} {base : Heap} (blt : ∀ (j : Nat) (x : Str), bls[j]? = some x → mg x = none) {f : Addr} {fd : FuncData} (F : Fun K "_law_turn" "_law_turn" st_law_turnU f fd) : FnOk Pw w K mg base (L2.CX Pw w) 1 f fd P_law_turnU (spM K mg 2 m_law_turnU) :=
  fn_mk (k := 0) false F sc_law_turnU (fun cdv A outer s H E hr => by
    have O := okS (P := Pw) (w := w) (K := K) (base := base) (outer := outer) (H := H) (E := E) (vl := [(0, "word")]) (wl := [(0, "word")]) (gl := ["tuple", "enumerate"]) sc_law_turnU hr (by decide +kernel) blt
    exact (rss_one (rs_ret (re_tupc O.o 0 (ra_cons (re_lcO false O [("at", 2), ("sign", 3)] [(2, "at"), (1, "place"), (3, "sign")] [(2, "at"), (3, "sign")] [] (ri_enum O.o 1 (ra_cons (re_var O.o 0) ra_nil)) (by decide +kernel) (by decide +kernel) (by decide +kernel) (fun s H C cl fp O1 => ⟨(rg_tp O1.o (rg_cons (rg_nm O1.o 0) (rg_cons (rg_nm O1.o 1) rg_nil))), rts_nil, (re_if (rt_eq O1.o (re_add false (re_var O1.o 0) re_int) (re_var O1.o 1)) (re_sub re_int (re_var O1.o 2)) (re_var O1.o 2))⟩)) ra_nil)))))
/-! ### _law_barred -/
abbrev st_law_barredU : Stmt := topS 25
abbrev N_law_barredU : List Str := ["snake", "found", "word", "place"]
abbrev P_law_barredU : List Str := ["snake"]
theorem sc_law_barredU : FnScope N_law_barredU P_law_barredU (defScope st_law_barredU) := ⟨rfl, rfl, rfl, by decide +kernel, rfl, by decide +kernel, by decide +kernel⟩
def b_law_barredU : FS :=
  (fSeq (fSet 1 (fCall (sDict true) (fCons (fLc false [2] (fItS (fVar 0)) (.nm 2) fYes (fTup (fCons (fVar 2) (fCons (fC (.bl true)) fNil)))) fNil)))
  (fSeq (fFor (.nm 2) (fItS (fSl false (fVar 0) fNoP (fPart (fUn sNeg (fC (.int 1)))))) (fFor (.nm 3) (fIt sRng2 (fCons (fC (.int 1)) (fCons (fBin (sAdd false) (fCall sLen (fCons (fVar 2) fNil)) (fC (.int 1))) fNil))) (fSubD (fVar 1) (fOwn 2 m_law_turnU (fCons (fVar 2) (fCons (fVar 3) fNil))) (fC (.bl true)))))
  (fRet (fVar 1))))
def m_law_barredU : List Y → Sto → Res Y := wrap false 4 b_law_barredU
set_option maxHeartbeats 4000000 in
theorem fn_law_barredU {w : World} {K : PySem.W.Frag} {mg : Str → Option Value} {base : Heap} (blt : ∀ (j : Nat) (x : Str), bls[j]? = some x → mg x = none) (d_law_turnU : Def Pw w K mg base "_law_turn" 2 1 m_law_turnU) {f : Addr} {fd : FuncData} (F : Fun K "_law_barred" "_law_barred" st_law_barredU f fd) : FnOk Pw w K mg base (L2.CX Pw w) 2 f fd P_law_barredU (spM K mg 1 m_law_barredU) :=
  fn_mk (k := 1) false F sc_law_barredU (fun cdv A outer s H E hr => by
    have O := okS (P := Pw) (w := w) (K := K) (base := base) (outer := outer) (H := H) (E := E) (vl := [(1, "found"), (0, "snake"), (2, "word"), (3, "place")]) (wl := [(1, "found"), (0, "snake"), (2, "word"), (3, "place")]) (gl := ["dict", "range", "len", "_law_turn"]) sc_law_barredU hr (by decide +kernel) blt
    exact (rss_cons (rs_set O.o 0 (re_dict true O.o 0 (ra_cons (re_lcO false O [("word", 2)] [(2, "word")] [(2, "word")] [] (ri_seq (re_var O.o 1)) (by decide +kernel) (by decide +kernel) (by decide +kernel) (fun s H C cl fp O1 => ⟨(rg_nm O1.o 0), rts_nil, (re_tup (ra_cons (re_var O1.o 0) (ra_cons re_bl ra_nil)))⟩)) ra_nil)))
  (rss_cons (rs_for O.o passD (ri_seq (re_sl false (re_var O.o 1) ro_none (ro_some (re_neg re_int)))) (rg_nm O.o 2) (rss_one (rs_for O.o passD (ri_rng2 O.o 1 (ra_cons re_int (ra_cons (re_add false (re_len O.o 2 (ra_cons (re_var O.o 2) ra_nil)) re_int) ra_nil))) (rg_nm O.o 3) (rss_one (rs_subd O.o re_bl (re_var O.o 0) (re_own O d_law_turnU 3 (ra_cons (re_var O.o 2) (ra_cons (re_var O.o 3) ra_nil))))))))
  (rss_one (rs_ret (re_var O.o 0))))))
/-! ### _law_ways -/
abbrev st_law_waysU : Stmt := topS 26
abbrev N_law_waysU : List Str := ["snake", "barred", "place"]
abbrev P_law_waysU : List Str := ["snake"]
theorem sc_law_waysU : FnScope N_law_waysU P_law_waysU (defScope st_law_waysU) := ⟨rfl, rfl, rfl, by decide +kernel, rfl, by decide +kernel, by decide +kernel⟩
def b_law_waysU : FS :=
  (fSeq (fSet 1 (fOwn 1 m_law_barredU (fCons (fVar 0) fNil)))
  (fRet (fLc false [2] (fIt sRng2 (fCons (fC (.int 1)) (fCons (fBin (sAdd false) (fCall sLen (fCons (fBin sIx (fVar 0) (fC (.int 0))) fNil)) (fC (.int 1))) fNil))) (.nm 2) (fTest (fBin (sInD true) (fOwn 2 m_law_turnU (fCons (fBin sIx (fVar 0) (fUn sNeg (fC (.int 1)))) (fCons (fVar 2) fNil))) (fVar 1))) (fVar 2))))
def m_law_waysU : List Y → Sto → Res Y := wrap false 3 b_law_waysU
set_option maxHeartbeats 4000000 in
theorem fn_law_waysU {w : World} {K : PySem.W.Frag} {mg : Str → Option Value} {base : Heap} (blt : ∀ (j : Nat) (x : Str), bls[j]? = some x → mg x = none) (d_law_barredU : Def Pw w K mg base "_law_barred" 1 2 m_law_barredU) (d_law_turnU : Def Pw w K mg base "_law_turn" 2 1 m_law_turnU) {f : Addr} {fd : FuncData} (F : Fun K "_law_ways" "_law_ways" st_law_waysU f fd) : FnOk Pw w K mg base (L2.CX Pw w) 3 f fd P_law_waysU (spM K mg 1 m_law_waysU) :=
  fn_mk (k := 2) false F sc_law_waysU (fun cdv A outer s H E hr => by
    have O := okS (P := Pw) (w := w) (K := K) (base := base) (outer := outer) (H := H) (E := E) (vl := [(1, "barred"), (0, "snake")]) (wl := [(1, "barred"), (0, "snake")]) (gl := ["_law_barred", "range", "len"]) sc_law_waysU hr (by decide +kernel) blt
    exact (rss_cons (rs_set O.o 0 (re_own O d_law_barredU 0 (ra_cons (re_var O.o 1) ra_nil)))
  (rss_one (rs_ret (re_lcO false O [("place", 2)] [(2, "place"), (0, "snake"), (1, "barred")] [(2, "place")] ["_law_turn"] (ri_rng2 O.o 1 (ra_cons re_int (ra_cons (re_add false (re_len O.o 2 (ra_cons (re_ix (re_var O.o 1) re_int) ra_nil)) re_int) ra_nil))) (by decide +kernel) (by decide +kernel) (by decide +kernel) (fun s H C cl fp O1 => ⟨(rg_nm O1.o 0), (rts_one (rt_nind O1.o (re_own O1 d_law_turnU 0 (ra_cons (re_ix (re_var O1.o 1) (re_neg re_int)) (ra_cons (re_var O1.o 0) ra_nil))) (re_var O1.o 2))), (re_var O1.o 0)⟩))))))
/-! ### _law_some -/
abbrev st_law_someU : Stmt := topS 19
abbrev N_law_someU : List Str := ["cup", "things"]
abbrev P_law_someU : List Str := ["cup", "things"]
theorem sc_law_someU : FnScope N_law_someU P_law_someU (defScope st_law_someU) := ⟨rfl, rfl, rfl, by decide +kernel, rfl, by decide +kernel, by decide +kernel⟩
def b_law_someU : FS :=
  (fRet (fBin sIx (fVar 1) (fOwn 2 m_law_rollU (fCons (fVar 0) (fCons (fCall sLen (fCons (fVar 1) fNil)) fNil)))))
def m_law_someU : List Y → Sto → Res Y := wrap false 2 b_law_someU
set_option maxHeartbeats 4000000 in
theorem fn_law_someU {w : World} {K : PySem.W.Frag} {mg : Str → Option Value} {base : Heap} (blt : ∀ (j : Nat) (x : Str), bls[j]? = some x → mg x = none) (d_law_rollU : Def Pw w K mg base "_law_roll" 2 1 m_law_rollU) {f : Addr} {fd : FuncData} (F : Fun K "_law_some" "_law_some" st_law_someU f fd) : FnOk Pw w K mg base (L2.CX Pw w) 2 f fd P_law_someU (spM K mg 2 m_law_someU) :=
  fn_mk (k := 1) false F sc_law_someU (fun cdv A outer s H E hr => by
    have O := okS (P := Pw) (w := w) (K := K) (base := base) (outer := outer) (H := H) (E := E) (vl := [(1, "things"), (0, "cup")]) (wl := [(1, "things"), (0, "cup")]) (gl := ["_law_roll", "len"]) sc_law_someU hr (by decide +kernel) blt
    exact (rss_one (rs_ret (re_ix (re_var O.o 0) (re_own O d_law_rollU 0 (ra_cons (re_var O.o 1) (ra_cons (re_len O.o 1 (ra_cons (re_var O.o 0) ra_nil)) ra_nil)))))))
/-! ### _law_snake -/
abbrev st_law_snakeU : Stmt := topS 27
abbrev N_law_snakeU : List Str := ["cup", "signs", "most", "found", "turn", "ways"]
abbrev P_law_snakeU : List Str := ["cup", "signs", "most"]
theorem sc_law_snakeU : FnScope N_law_snakeU P_law_snakeU (defScope st_law_snakeU) := ⟨rfl, rfl, rfl, by decide +kernel, rfl, by decide +kernel, by decide +kernel⟩
def b_law_snakeU : FS :=
  (fSeq (fSet 3 (fTup (fCons (fOwn 2 m_law_wordU (fCons (fVar 0) (fCons (fVar 1) fNil))) fNil)))
  (fSeq (fFor (.nm 4) (fIt sRng1 (fCons (fOwn 2 m_law_rollU (fCons (fVar 0) (fCons (fVar 2) fNil))) fNil)) (fSeq (fSet 5 (fOwn 1 m_law_waysU (fCons (fVar 3) fNil)))
  (fSet 3 (fBin (sAdd false) (fVar 3) (fIf (fTest (fBin sNe (fVar 5) (fLst false fNil))) (fTup (fCons (fOwn 2 m_law_turnU (fCons (fBin sIx (fVar 3) (fUn sNeg (fC (.int 1)))) (fCons (fOwn 2 m_law_someU (fCons (fVar 0) (fCons (fVar 5) fNil))) fNil))) fNil)) (fTup fNil))))))
  (fRet (fVar 3))))
def m_law_snakeU : List Y → Sto → Res Y := wrap false 6 b_law_snakeU
set_option maxHeartbeats 4000000 in
theorem fn_law_snakeU {w : World} {K : PySem.W.Frag} {mg : Str → Option Value} {base : Heap} (blt : ∀ (j : Nat) (x : Str), bls[j]? = some x → mg x = none) (d_law_wordU : Def Pw w K mg base "_law_word" 2 2 m_law_wordU) (d_law_rollU : Def Pw w K mg base "_law_roll" 2 1 m_law_rollU) (d_law_waysU : Def Pw w K mg base "_law_ways" 1 3 m_law_waysU) (d_law_turnU : Def Pw w K mg base "_law_turn" 2 1 m_law_turnU) (d_law_someU : Def Pw w K mg base "_law_some" 2 2 m_law_someU) {f : Addr} {fd : FuncData} (F : Fun K "_law_snake" "_law_snake" st_law_snakeU f fd) : FnOk Pw w K mg base (L2.CX Pw w) 4 f fd P_law_snakeU (spM K mg 3 m_law_snakeU) :=
  fn_mk (k := 3) false F sc_law_snakeU (fun cdv A outer s H E hr => by
    have O := okS (P := Pw) (w := w) (K := K) (base := base) (outer := outer) (H := H) (E := E) (vl := [(3, "found"), (0, "cup"), (1, "signs"), (4, "turn"), (2, "most"), (5, "ways")]) (wl := [(3, "found"), (0, "cup"), (1, "signs"), (4, "turn"), (2, "most"), (5, "ways")]) (gl := ["_law_word", "range", "_law_roll", "_law_ways", "_law_turn", "_law_some"]) sc_law_snakeU hr (by decide +kernel) blt
    exact (rss_cons (rs_set O.o 0 (re_tup (ra_cons (re_own O d_law_wordU 0 (ra_cons (re_var O.o 1) (ra_cons (re_var O.o 2) ra_nil))) ra_nil)))
  (rss_cons (rs_for O.o passD (ri_rng1 O.o 1 (ra_cons (re_own O d_law_rollU 2 (ra_cons (re_var O.o 1) (ra_cons (re_var O.o 4) ra_nil))) ra_nil)) (rg_nm O.o 3) (rss_cons (rs_set O.o 5 (re_own O d_law_waysU 3 (ra_cons (re_var O.o 0) ra_nil)))
  (rss_one (rs_set O.o 0 (re_add false (re_var O.o 0) (re_if (rt_ne O.o (re_var O.o 5) (re_lst false ra_nil)) (re_tup (ra_cons (re_own O d_law_turnU 4 (ra_cons (re_ix (re_var O.o 0) (re_neg re_int)) (ra_cons (re_own O d_law_someU 5 (ra_cons (re_var O.o 1) (ra_cons (re_var O.o 5) ra_nil))) ra_nil))) ra_nil)) (re_tup ra_nil)))))))
  (rss_one (rs_ret (re_var O.o 0))))))
/-! ### _law_list -/
abbrev st_law_listU : Stmt := topS 31
abbrev N_law_listU : List Str := ["cup", "signs", "most", "found", "turn"]
abbrev P_law_listU : List Str := ["cup", "signs", "most"]
theorem sc_law_listU : FnScope N_law_listU P_law_listU (defScope st_law_listU) := ⟨rfl, rfl, rfl, by decide +kernel, rfl, by decide +kernel, by decide +kernel⟩
def b_law_listU : FS :=
  (fSeq (fSet 3 (fTup (fCons (fOwn 2 m_law_wordU (fCons (fVar 0) (fCons (fVar 1) fNil))) fNil)))
  (fSeq (fFor (.nm 4) (fIt sRng1 (fCons (fOwn 2 m_law_rollU (fCons (fVar 0) (fCons (fVar 2) fNil))) fNil)) (fSet 3 (fBin (sAdd false) (fVar 3) (fTup (fCons (fOwn 2 m_law_turnU (fCons (fBin sIx (fVar 3) (fUn sNeg (fC (.int 1)))) (fCons (fBin (sAdd false) (fC (.int 1)) (fOwn 2 m_law_rollU (fCons (fVar 0) (fCons (fVar 1) fNil)))) fNil))) fNil)))))
  (fRet (fVar 3))))
def m_law_listU : List Y → Sto → Res Y := wrap false 5 b_law_listU
set_option maxHeartbeats 4000000 in
theorem fn_law_listU {w : World} {K : PySem.W.Frag} {mg : Str → Option Value} {base : Heap} (blt : ∀ (j : Nat) (x : Str), bls[j]? = some x → mg x = none) (d_law_wordU : Def Pw w K mg base "_law_word" 2 2 m_law_wordU) (d_law_rollU : Def Pw w K mg base "_law_roll" 2 1 m_law_rollU) (d_law_turnU : Def Pw w K mg base "_law_turn" 2 1 m_law_turnU) {f : Addr} {fd : FuncData} (F : Fun K "_law_list" "_law_list" st_law_listU f fd) : FnOk Pw w K mg base (L2.CX Pw w) 3 f fd P_law_listU (spM K mg 3 m_law_listU) :=
  fn_mk (k := 2) false F sc_law_listU (fun cdv A outer s H E hr => by
    have O := okS (P := Pw) (w := w) (K := K) (base := base) (outer := outer) (H := H) (E := E) (vl := [(3, "found"), (0, "cup"), (1, "signs"), (4, "turn"), (2, "most")]) (wl := [(3, "found"), (0, "cup"), (1, "signs"), (4, "turn"), (2, "most")]) (gl := ["_law_word", "range", "_law_roll", "_law_turn"]) sc_law_listU hr (by decide +kernel) blt
    exact (rss_cons (rs_set O.o 0 (re_tup (ra_cons (re_own O d_law_wordU 0 (ra_cons (re_var O.o 1) (ra_cons (re_var O.o 2) ra_nil))) ra_nil)))
  (rss_cons (rs_for O.o passD (ri_rng1 O.o 1 (ra_cons (re_own O d_law_rollU 2 (ra_cons (re_var O.o 1) (ra_cons (re_var O.o 4) ra_nil))) ra_nil)) (rg_nm O.o 3) (rss_one (rs_set O.o 0 (re_add false (re_var O.o 0) (re_tup (ra_cons (re_own O d_law_turnU 3 (ra_cons (re_ix (re_var O.o 0) (re_neg re_int)) (ra_cons (re_add false re_int (re_own O d_law_rollU 2 (ra_cons (re_var O.o 1) (ra_cons (re_var O.o 2) ra_nil)))) ra_nil))) ra_nil))))))
  (rss_one (rs_ret (re_var O.o 0))))))
/-! ### _law_reflected -/
abbrev st_law_reflectedU : Stmt := topS 23
abbrev N_law_reflectedU : List Str := ["signs", "found", "turn", "word"]
abbrev P_law_reflectedU : List Str := ["signs"]
theorem sc_law_reflectedU : FnScope N_law_reflectedU P_law_reflectedU (defScope st_law_reflectedU) := ⟨rfl, rfl, rfl, by decide +kernel, rfl, by decide +kernel, by decide +kernel⟩
def b_law_reflectedU : FS :=
  (fSeq (fSet 1 (fLst false (fCons (fTup fNil) fNil)))
  (fSeq (fFor (.nm 2) (fIt sRng1 (fCons (fVar 0) fNil)) (fSet 1 (fBin (sAdd false) (fLc false [3] (fItS (fVar 1)) (.nm 3) fYes (fBin (sAdd false) (fTup (fCons (fC (.int 0)) fNil)) (fVar 3))) (fLc false [3] (fItS (fUn (sRev false) (fVar 1))) (.nm 3) fYes (fBin (sAdd false) (fTup (fCons (fC (.int 1)) fNil)) (fVar 3))))))
  (fRet (fVar 1))))
def m_law_reflectedU : List Y → Sto → Res Y := wrap false 4 b_law_reflectedU
set_option maxHeartbeats 4000000 in
theorem fn_law_reflectedU {w : World} {K : PySem.W.Frag} {mg : Str → Option Value} {base : Heap} (blt : ∀ (j : Nat) (x : Str), bls[j]? = some x → mg x = none) {f : Addr} {fd : FuncData} (F : Fun K "_law_reflected" "_law_reflected" st_law_reflectedU f fd) : FnOk Pw w K mg base (L2.CX Pw w) 1 f fd P_law_reflectedU (spM K mg 1 m_law_reflectedU) :=
  fn_mk (k := 0) false F sc_law_reflectedU (fun cdv A outer s H E hr => by
    have O := okS (P := Pw) (w := w) (K := K) (base := base) (outer := outer) (H := H) (E := E) (vl := [(1, "found"), (2, "turn"), (0, "signs")]) (wl := [(1, "found"), (2, "turn"), (0, "signs")]) (gl := ["range"]) sc_law_reflectedU hr (by decide +kernel) blt
    exact (rss_cons (rs_set O.o 0 (re_lst false (ra_cons (re_tup ra_nil) ra_nil)))
  (rss_cons (rs_for O.o passD (ri_rng1 O.o 0 (ra_cons (re_var O.o 2) ra_nil)) (rg_nm O.o 1) (rss_one (rs_set O.o 0 (re_add false (re_lcO false O [("word", 3)] [(3, "word")] [(3, "word")] [] (ri_seq (re_var O.o 0)) (by decide +kernel) (by decide +kernel) (by decide +kernel) (fun s H C cl fp O1 => ⟨(rg_nm O1.o 0), rts_nil, (re_add false (re_tup (ra_cons re_int ra_nil)) (re_var O1.o 0))⟩)) (re_lcO false O [("word", 3)] [(3, "word")] [(3, "word")] [] (ri_seq (re_rev false (re_var O.o 0))) (by decide +kernel) (by decide +kernel) (by decide +kernel) (fun s H C cl fp O1 => ⟨(rg_nm O1.o 0), rts_nil, (re_add false (re_tup (ra_cons re_int ra_nil)) (re_var O1.o 0))⟩))))))
  (rss_one (rs_ret (re_var O.o 0))))))
/-! ### _law_same -/
abbrev st_law_sameU : Stmt := topS 20
abbrev N_law_sameU : List Str := ["told", "due", "at"]
abbrev P_law_sameU : List Str := ["told", "due"]
theorem sc_law_sameU : FnScope N_law_sameU P_law_sameU (defScope st_law_sameU) := ⟨rfl, rfl, rfl, by decide +kernel, rfl, by decide +kernel, by decide +kernel⟩
def b_law_sameU (r : List Y → Sto → Res Y) : FS :=
  (fSeq (fIfS (fOr (fTru (fCall sIsi (fCons (fVar 1) (fCons (fC (.ty "tuple")) fNil)))) (fTru (fCall sIsi (fCons (fVar 1) (fCons (fC (.ty "list")) fNil))))) (fSeq (fIfS (fOr (fTest (fBin sNe (fCall sIsi (fCons (fVar 0) (fCons (fC (.ty "tuple")) fNil))) (fCall sIsi (fCons (fVar 1) (fCons (fC (.ty "tuple")) fNil))))) (fOr (fTest (fBin sNe (fCall sIsi (fCons (fVar 0) (fCons (fC (.ty "list")) fNil))) (fCall sIsi (fCons (fVar 1) (fCons (fC (.ty "list")) fNil))))) (fTest (fBin sNe (fCall sLen (fCons (fVar 0) fNil)) (fCall sLen (fCons (fVar 1) fNil)))))) (fRet (fC (.bl false))) fNx)
  (fRet (fBin sEq (fLc false [2] (fIt sRng1 (fCons (fCall sLen (fCons (fVar 1) fNil)) fNil)) (.nm 2) (fNot (fTru (fOwn 2 (r) (fCons (fBin sIx (fVar 0) (fVar 2)) (fCons (fBin sIx (fVar 1) (fVar 2)) fNil))))) (fC (.int 1))) (fLst false fNil)))) fNx)
  (fSeq (fIfS (fTest (fBin (sIs false) (fVar 1) (fC .non))) (fRet (fBin (sIs false) (fVar 0) (fC .non))) fNx)
  (fSeq (fIfS (fTru (fCall sIsi (fCons (fVar 1) (fCons (fC (.ty "bool")) fNil)))) (fRet (fIf (fTru (fVar 1)) (fBin (sIs false) (fVar 0) (fC (.bl true))) (fBin (sIs false) (fVar 0) (fC (.bl false))))) fNx)
  (fSeq (fIfS (fTru (fCall sIsi (fCons (fVar 1) (fCons (fC (.ty "int")) fNil)))) (fRet (fAndV (fCall sIsi (fCons (fVar 0) (fCons (fC (.ty "int")) fNil))) (fAndV (fNotV (fCall sIsi (fCons (fVar 0) (fCons (fC (.ty "bool")) fNil)))) (fBin sEq (fCall sInt (fCons (fVar 0) fNil)) (fVar 1))))) fNx)
  (fRet (fAndV (fCall sIsi (fCons (fVar 0) (fCons (fC (.ty "str")) fNil))) (fBin sEq (fCall sStr (fCons (fVar 0) fNil)) (fVar 1))))))))
def m_law_sameU : Nat → List Y → Sto → Res Y
  | 0 => fun _ _ => .bad
  | n + 1 => wrap false 3 (b_law_sameU (m_law_sameU n))
set_option maxHeartbeats 4000000 in
theorem fn_law_sameU {w : World} {K : PySem.W.Frag} {mg : Str → Option Value} {base : Heap} (blt : ∀ (j : Nat) (x : Str), bls[j]? = some x → mg x = none) {f : Addr} {fd : FuncData} (F : Fun K "_law_same" "_law_same" st_law_sameU f fd) (gx : mg "_law_same" = some (.ref f)) : ∀ n : Nat, Def Pw w K mg base "_law_same" 2 (1 + n) (m_law_sameU n)
  | 0 => def_bad (j := 0) F gx sc_law_sameU (F.binds (ps := P_law_sameU) fun _ _ _ _ _ _ us hl => match us, hl with | [_, _], _ => rfl)
  | n + 1 => by
    have ih := fn_law_sameU (w := w) (base := base) blt F gx n
    exact def_rec (k := 1 + n) false F gx sc_law_sameU (F.binds (ps := P_law_sameU) fun _ _ _ _ _ _ us hl => match us, hl with | [_, _], _ => rfl) (fun cdv A outer s H E hr => by
    have O := okS (P := Pw) (w := w) (K := K) (base := base) (outer := outer) (H := H) (E := E) (vl := [(1, "due"), (0, "told")]) (wl := [(1, "due"), (0, "told")]) (gl := ["isinstance", "tuple", "list", "len", "range", "bool", "int", "str"]) sc_law_sameU hr (by decide +kernel) blt
    exact (rss_cons (rs_if (rt_w (rw_or (rt_tru (re_isi O.o 0 (ra_cons (re_var O.o 0) (ra_cons (re_ty O.o 1 (n := "tuple") 13) ra_nil)))) (rw_or1 (rt_tru (re_isi O.o 0 (ra_cons (re_var O.o 0) (ra_cons (re_ty O.o 2 (n := "list") 12) ra_nil))))))) (rss_cons (rs_if (rt_w (rw_or (rt_ne O.o (re_isi O.o 0 (ra_cons (re_var O.o 1) (ra_cons (re_ty O.o 1 (n := "tuple") 13) ra_nil))) (re_isi O.o 0 (ra_cons (re_var O.o 0) (ra_cons (re_ty O.o 1 (n := "tuple") 13) ra_nil)))) (rw_or (rt_ne O.o (re_isi O.o 0 (ra_cons (re_var O.o 1) (ra_cons (re_ty O.o 2 (n := "list") 12) ra_nil))) (re_isi O.o 0 (ra_cons (re_var O.o 0) (ra_cons (re_ty O.o 2 (n := "list") 12) ra_nil)))) (rw_or1 (rt_ne O.o (re_len O.o 3 (ra_cons (re_var O.o 1) ra_nil)) (re_len O.o 3 (ra_cons (re_var O.o 0) ra_nil))))))) (rss_one (rs_ret re_bl)) rss_nil)
  (rss_one (rs_ret (re_eq O.o (re_lcO false O [("at", 2)] [(2, "at"), (0, "told"), (1, "due")] [(2, "at")] ["_law_same"] (ri_rng1 O.o 4 (ra_cons (re_len O.o 3 (ra_cons (re_var O.o 0) ra_nil)) ra_nil)) (by decide +kernel) (by decide +kernel) (by decide +kernel) (fun s H C cl fp O1 => ⟨(rg_nm O1.o 0), (rts_one (rt_not (rt_tru (re_own O1 ih 0 (ra_cons (re_ix (re_var O1.o 1) (re_var O1.o 0)) (ra_cons (re_ix (re_var O1.o 2) (re_var O1.o 0)) ra_nil)))))), re_int⟩)) (re_lst false ra_nil))))) rss_nil)
  (rss_cons (rs_if (rt_is (re_var O.o 0) re_non) (rss_one (rs_ret (re_is (re_var O.o 1) re_non))) rss_nil)
  (rss_cons (rs_if (rt_tru (re_isi O.o 0 (ra_cons (re_var O.o 0) (ra_cons (re_ty O.o 5 (n := "bool") 18) ra_nil)))) (rss_one (rs_ret (re_if (rt_tru (re_var O.o 0)) (re_is (re_var O.o 1) re_bl) (re_is (re_var O.o 1) re_bl)))) rss_nil)
  (rss_cons (rs_if (rt_tru (re_isi O.o 0 (ra_cons (re_var O.o 0) (ra_cons (re_ty O.o 6 (n := "int") 10) ra_nil)))) (rss_one (rs_ret (re_and (re_isi O.o 0 (ra_cons (re_var O.o 1) (ra_cons (re_ty O.o 6 (n := "int") 10) ra_nil))) (re_and (re_not (re_isi O.o 0 (ra_cons (re_var O.o 1) (ra_cons (re_ty O.o 5 (n := "bool") 18) ra_nil)))) (re_one (re_eq O.o (re_intc O.o 6 (ra_cons (re_var O.o 1) ra_nil)) (re_var O.o 0))))))) rss_nil)
  (rss_one (rs_ret (re_and (re_isi O.o 0 (ra_cons (re_var O.o 1) (ra_cons (re_ty O.o 7 (n := "str") 11) ra_nil))) (re_one (re_eq O.o (re_strc O.o 7 (ra_cons (re_var O.o 1) ra_nil)) (re_var O.o 0)))))))))))
/-! ### _law_places -/
abbrev st_law_placesU : Stmt := topS 24
abbrev N_law_placesU : List Str := ["one", "other", "at"]
abbrev P_law_placesU : List Str := ["one", "other"]
theorem sc_law_placesU : FnScope N_law_placesU P_law_placesU (defScope st_law_placesU) := ⟨rfl, rfl, rfl, by decide +kernel, rfl, by decide +kernel, by decide +kernel⟩
def b_law_placesU : FS :=
  (fRet (fLc false [2] (fIt sRng1 (fCons (fCall sLen (fCons (fVar 0) fNil)) fNil)) (.nm 2) (fTest (fBin sNe (fBin sIx (fVar 0) (fVar 2)) (fBin sIx (fVar 1) (fVar 2)))) (fBin (sAdd false) (fVar 2) (fC (.int 1)))))
def m_law_placesU : List Y → Sto → Res Y := wrap false 3 b_law_placesU
set_option maxHeartbeats 4000000 in
theorem fn_law_placesU {w : World} {K : PySem.W.Frag} {mg : Str → Option Value} {base : Heap} (blt : ∀ (j : Nat) (x : Str), bls[j]? = some x → mg x = none) {f : Addr} {fd : FuncData} (F : Fun K "_law_places" "_law_places" st_law_placesU f fd) : FnOk Pw w K mg base (L2.CX Pw w) 1 f fd P_law_placesU (spM K mg 2 m_law_placesU) :=
  fn_mk (k := 0) false F sc_law_placesU (fun cdv A outer s H E hr => by
    have O := okS (P := Pw) (w := w) (K := K) (base := base) (outer := outer) (H := H) (E := E) (vl := [(0, "one")]) (wl := [(0, "one")]) (gl := ["range", "len"]) sc_law_placesU hr (by decide +kernel) blt
    exact (rss_one (rs_ret (re_lcO false O [("at", 2)] [(2, "at"), (0, "one"), (1, "other")] [(2, "at")] [] (ri_rng1 O.o 0 (ra_cons (re_len O.o 1 (ra_cons (re_var O.o 0) ra_nil)) ra_nil)) (by decide +kernel) (by decide +kernel) (by decide +kernel) (fun s H C cl fp O1 => ⟨(rg_nm O1.o 0), (rts_one (rt_ne O1.o (re_ix (re_var O1.o 1) (re_var O1.o 0)) (re_ix (re_var O1.o 2) (re_var O1.o 0)))), (re_add false (re_var O1.o 0) re_int)⟩)))))
/-! ### _law_is_list -/
abbrev st_law_is_listU : Stmt := topS 28
abbrev N_law_is_listU : List Str := ["value", "word", "one", "other", "sign"]
abbrev P_law_is_listU : List Str := ["value"]
theorem sc_law_is_listU : FnScope N_law_is_listU P_law_is_listU (defScope st_law_is_listU) := ⟨rfl, rfl, rfl, by decide +kernel, rfl, by decide +kernel, by decide +kernel⟩
def b_law_is_listU : FS :=
  (fSeq (fIfS (fOr (fNot (fTru (fCall sIsi (fCons (fVar 0) (fCons (fC (.ty "tuple")) fNil))))) (fNot (fTest (fChain sLe sLe (fC (.int 1)) (fCall sLen (fCons (fVar 0) fNil)) (fC (.int 5000)))))) (fRet (fC (.bl false))) fNx)
  (fSeq (fFor (.nm 1) (fItS (fVar 0)) (fSeq (fIfS (fOr (fNot (fTru (fCall sIsi (fCons (fVar 1) (fCons (fC (.ty "tuple")) fNil))))) (fOr (fNot (fTest (fChain sLe sLe (fC (.int 1)) (fCall sLen (fCons (fVar 1) fNil)) (fC (.int 16))))) (fTest (fBin sNe (fCall sLen (fCons (fVar 1) fNil)) (fCall sLen (fCons (fBin sIx (fVar 0) (fC (.int 0))) fNil)))))) (fRet (fC (.bl false))) fNx)
  (fIfS (fTest (fBin sNe (fLc false [4] (fItS (fVar 1)) (.nm 4) (fOr (fTru (fCall sIsi (fCons (fVar 4) (fCons (fC (.ty "bool")) fNil)))) (fOr (fNot (fTru (fCall sIsi (fCons (fVar 4) (fCons (fC (.ty "int")) fNil))))) (fTest (fBin (sIn true) (fVar 4) (fTup (fCons (fC (.int 0)) (fCons (fC (.int 1)) fNil))))))) (fVar 4)) (fLst false fNil))) (fRet (fC (.bl false))) fNx)))
  (fRet (fBin sEq (fLc false [2, 3] (fIt (itS2 zipL) (fCons (fVar 0) (fCons (fSl false (fVar 0) (fPart (fC (.int 1))) fNoP) fNil))) (.tp [(.nm 2), (.nm 3)]) (fTest (fBin sNe (fCall sLen (fCons (fOwn 2 m_law_placesU (fCons (fVar 2) (fCons (fVar 3) fNil))) fNil)) (fC (.int 1)))) (fC (.int 1))) (fLst false fNil)))))
def m_law_is_listU : List Y → Sto → Res Y := wrap false 5 b_law_is_listU
set_option maxHeartbeats 4000000 in
theorem fn_law_is_listU {w : World} {K : PySem.W.Frag} {mg : Str → Option Value} {base : Heap} (blt : ∀ (j : Nat) (x : Str), bls[j]? = some x → mg x = none) (d_law_placesU : Def Pw w K mg base "_law_places" 2 1 m_law_placesU) {f : Addr} {fd : FuncData} (F : Fun K "_law_is_list" "_law_is_list" st_law_is_listU f fd) : FnOk Pw w K mg base (L2.CX Pw w) 2 f fd P_law_is_listU (spM K mg 1 m_law_is_listU) :=
  fn_mk (k := 1) false F sc_law_is_listU (fun cdv A outer s H E hr => by
    have O := okS (P := Pw) (w := w) (K := K) (base := base) (outer := outer) (H := H) (E := E) (vl := [(0, "value"), (1, "word")]) (wl := [(0, "value"), (1, "word")]) (gl := ["isinstance", "tuple", "len", "zip"]) sc_law_is_listU hr (by decide +kernel) blt
    exact (rss_cons (rs_if (rt_w (rw_or (rt_not (rt_tru (re_isi O.o 0 (ra_cons (re_var O.o 0) (ra_cons (re_ty O.o 1 (n := "tuple") 13) ra_nil))))) (rw_or1 (rt_not (rt_chain op_le op_le sLe_ok sLe_ok re_int (re_len O.o 2 (ra_cons (re_var O.o 0) ra_nil)) re_int))))) (rss_one (rs_ret re_bl)) rss_nil)
  (rss_cons (rs_for O.o passD (ri_seq (re_var O.o 0)) (rg_nm O.o 1) (rss_cons (rs_if (rt_w (rw_or (rt_not (rt_tru (re_isi O.o 0 (ra_cons (re_var O.o 1) (ra_cons (re_ty O.o 1 (n := "tuple") 13) ra_nil))))) (rw_or (rt_not (rt_chain op_le op_le sLe_ok sLe_ok re_int (re_len O.o 2 (ra_cons (re_var O.o 1) ra_nil)) re_int)) (rw_or1 (rt_ne O.o (re_len O.o 2 (ra_cons (re_var O.o 1) ra_nil)) (re_len O.o 2 (ra_cons (re_ix (re_var O.o 0) re_int) ra_nil))))))) (rss_one (rs_ret re_bl)) rss_nil)
  (rss_one (rs_if (rt_ne O.o (re_lcO false O [("sign", 4)] [(4, "sign")] [(4, "sign")] ["isinstance", "bool", "int"] (ri_seq (re_var O.o 1)) (by decide +kernel) (by decide +kernel) (by decide +kernel) (fun s H C cl fp O1 => ⟨(rg_nm O1.o 0), (rts_one (rt_w (rw_or (rt_tru (re_isi O1.o 0 (ra_cons (re_var O1.o 0) (ra_cons (re_ty O1.o 1 (n := "bool") 18) ra_nil)))) (rw_or (rt_not (rt_tru (re_isi O1.o 0 (ra_cons (re_var O1.o 0) (ra_cons (re_ty O1.o 2 (n := "int") 10) ra_nil))))) (rw_or1 (rt_nin O1.o (re_var O1.o 0) (re_tup (ra_cons re_int (ra_cons re_int ra_nil))))))))), (re_var O1.o 0)⟩)) (re_lst false ra_nil)) (rss_one (rs_ret re_bl)) rss_nil))))
  (rss_one (rs_ret (re_eq O.o (re_lcO false O [("one", 2), ("other", 3)] [(2, "one"), (3, "other")] [(2, "one"), (3, "other")] ["len", "_law_places"] (ri_zip O.o 3 (ra_cons (re_var O.o 0) (ra_cons (re_sl false (re_var O.o 0) (ro_some re_int) ro_none) ra_nil))) (by decide +kernel) (by decide +kernel) (by decide +kernel) (fun s H C cl fp O1 => ⟨(rg_tp O1.o (rg_cons (rg_nm O1.o 0) (rg_cons (rg_nm O1.o 1) rg_nil))), (rts_one (rt_ne O1.o (re_len O1.o 0 (ra_cons (re_own O1 d_law_placesU 1 (ra_cons (re_var O1.o 0) (ra_cons (re_var O1.o 1) ra_nil))) ra_nil)) re_int)), re_int⟩)) (re_lst false ra_nil)))))))
/-! ### _law_touching -/
abbrev st_law_touchingU : Stmt := topS 29
abbrev N_law_touchingU : List Str := ["words", "found", "at", "place", "far"]
abbrev P_law_touchingU : List Str := ["words"]
theorem sc_law_touchingU : FnScope N_law_touchingU P_law_touchingU (defScope st_law_touchingU) := ⟨rfl, rfl, rfl, by decide +kernel, rfl, by decide +kernel, by decide +kernel⟩
def b_law_touchingU : FS :=
  (fSeq (fSet 1 (fLst false fNil))
  (fSeq (fFor (.nm 2) (fIt sRng1 (fCons (fCall sLen (fCons (fVar 0) fNil)) fNil)) (fFor (.nm 3) (fIt sRng2 (fCons (fBin (sAdd false) (fVar 2) (fC (.int 1))) (fCons (fCall sLen (fCons (fVar 0) fNil)) fNil))) (fSeq (fSet 4 (fCall sLen (fCons (fOwn 2 m_law_placesU (fCons (fBin sIx (fVar 0) (fVar 2)) (fCons (fBin sIx (fVar 0) (fVar 3)) fNil))) fNil)))
  (fSeq (fIfS (fTest (fBin sEq (fVar 4) (fC (.int 0)))) (fRet (fC .non)) fNx)
  (fSet 1 (fBin (sAdd false) (fVar 1) (fIf (fTest (fBin sEq (fVar 4) (fC (.int 1)))) (fLst false (fCons (fTup (fCons (fVar 2) (fCons (fVar 3) fNil))) fNil)) (fLst false fNil))))))))
  (fRet (fVar 1))))
def m_law_touchingU : List Y → Sto → Res Y := wrap false 5 b_law_touchingU
set_option maxHeartbeats 4000000 in
theorem fn_law_touchingU {w : World} {K : PySem.W.Frag} {mg : Str → Option Value} {base : Heap} (blt : ∀ (j : Nat) (x : Str), bls[j]? = some x → mg x = none) (d_law_placesU : Def Pw w K mg base "_law_places" 2 1 m_law_placesU) {f : Addr} {fd : FuncData} (F : Fun K "_law_touching" "_law_touching" st_law_touchingU f fd) : FnOk Pw w K mg base (L2.CX Pw w) 2 f fd P_law_touchingU (spM K mg 1 m_law_touchingU) :=
  fn_mk (k := 1) false F sc_law_touchingU (fun cdv A outer s H E hr => by
    have O := okS (P := Pw) (w := w) (K := K) (base := base) (outer := outer) (H := H) (E := E) (vl := [(1, "found"), (2, "at"), (0, "words"), (3, "place"), (4, "far")]) (wl := [(1, "found"), (2, "at"), (0, "words"), (3, "place"), (4, "far")]) (gl := ["range", "len", "_law_places"]) sc_law_touchingU hr (by decide +kernel) blt
    exact (rss_cons (rs_set O.o 0 (re_lst false ra_nil))
  (rss_cons (rs_for O.o passD (ri_rng1 O.o 0 (ra_cons (re_len O.o 1 (ra_cons (re_var O.o 2) ra_nil)) ra_nil)) (rg_nm O.o 1) (rss_one (rs_for O.o passD (ri_rng2 O.o 0 (ra_cons (re_add false (re_var O.o 1) re_int) (ra_cons (re_len O.o 1 (ra_cons (re_var O.o 2) ra_nil)) ra_nil))) (rg_nm O.o 3) (rss_cons (rs_set O.o 4 (re_len O.o 1 (ra_cons (re_own O d_law_placesU 2 (ra_cons (re_ix (re_var O.o 2) (re_var O.o 1)) (ra_cons (re_ix (re_var O.o 2) (re_var O.o 3)) ra_nil))) ra_nil)))
  (rss_cons (rs_if (rt_eq O.o (re_var O.o 4) re_int) (rss_one (rs_ret re_non)) rss_nil)
  (rss_one (rs_set O.o 0 (re_add false (re_var O.o 0) (re_if (rt_eq O.o (re_var O.o 4) re_int) (re_lst false (ra_cons (re_tup (ra_cons (re_var O.o 1) (ra_cons (re_var O.o 3) ra_nil))) ra_nil)) (re_lst false ra_nil))))))))))
  (rss_one (rs_ret (re_var O.o 0))))))
/-! ### _law_judged -/
abbrev st_law_judgedU : Stmt := topS 30
abbrev N_law_judgedU : List Str := ["value", "touching", "last", "line", "at", "pair"]
abbrev P_law_judgedU : List Str := ["value"]
theorem sc_law_judgedU : FnScope N_law_judgedU P_law_judgedU (defScope st_law_judgedU) := ⟨rfl, rfl, rfl, by decide +kernel, rfl, by decide +kernel, by decide +kernel⟩
def b_law_judgedU : FS :=
  (fSeq (fIfS (fNot (fTru (fOwn 1 m_law_is_listU (fCons (fVar 0) fNil)))) (fRet (fTup (fCons (fC (.bl false)) (fCons (fC (.bl false)) fNil)))) fNx)
  (fSeq (fAsg (.tp [(.nm 1), (.nm 2)]) (fTup (fCons (fOwn 1 m_law_touchingU (fCons (fVar 0) fNil)) (fCons (fBin sSub (fCall sLen (fCons (fVar 0) fNil)) (fC (.int 1))) fNil))))
  (fSeq (fIfS (fTest (fBin (sIs false) (fVar 1) (fC .non))) (fRet (fTup (fCons (fC (.bl false)) (fCons (fC (.bl false)) fNil)))) fNx)
  (fSeq (fSet 3 (fLc false [4] (fIt sRng1 (fCons (fVar 2) fNil)) (.nm 4) fYes (fTup (fCons (fVar 4) (fCons (fBin (sAdd false) (fVar 4) (fC (.int 1))) fNil)))))
  (fRet (fTup (fCons (fBin sEq (fVar 1) (fVar 3)) (fCons (fAndV (fBin sGt (fVar 2) (fC (.int 1))) (fAndV (fBin (sIn false) (fTup (fCons (fC (.int 0)) (fCons (fVar 2) fNil))) (fVar 1)) (fBin sEq (fLc false [5] (fItS (fVar 1)) (.nm 5) (fTest (fBin (sIn true) (fVar 5) (fBin (sAdd false) (fVar 3) (fLst false (fCons (fTup (fCons (fC (.int 0)) (fCons (fVar 2) fNil))) fNil))))) (fVar 5)) (fLst false fNil)))) fNil))))))))
def m_law_judgedU : List Y → Sto → Res Y := wrap false 6 b_law_judgedU
set_option maxHeartbeats 4000000 in
theorem fn_law_judgedU {w : World} {K : PySem.W.Frag} {mg : Str → Option Value} {base : Heap} (blt : ∀ (j : Nat) (x : Str), bls[j]? = some x → mg x = none) (d_law_is_listU : Def Pw w K mg base "_law_is_list" 1 2 m_law_is_listU) (d_law_touchingU : Def Pw w K mg base "_law_touching" 1 2 m_law_touchingU) {f : Addr} {fd : FuncData} (F : Fun K "_law_judged" "_law_judged" st_law_judgedU f fd) : FnOk Pw w K mg base (L2.CX Pw w) 3 f fd P_law_judgedU (spM K mg 1 m_law_judgedU) :=
  fn_mk (k := 2) false F sc_law_judgedU (fun cdv A outer s H E hr => by
    have O := okS (P := Pw) (w := w) (K := K) (base := base) (outer := outer) (H := H) (E := E) (vl := [(0, "value"), (1, "touching"), (2, "last"), (3, "line")]) (wl := [(0, "value"), (1, "touching"), (2, "last"), (3, "line")]) (gl := ["_law_is_list", "_law_touching", "len", "range"]) sc_law_judgedU hr (by decide +kernel) blt
    exact (rss_cons (rs_if (rt_not (rt_tru (re_own O d_law_is_listU 0 (ra_cons (re_var O.o 0) ra_nil)))) (rss_one (rs_ret (re_tup (ra_cons re_bl (ra_cons re_bl ra_nil))))) rss_nil)
  (rss_cons (rs_asg O.o (re_tup (ra_cons (re_own O d_law_touchingU 1 (ra_cons (re_var O.o 0) ra_nil)) (ra_cons (re_sub (re_len O.o 2 (ra_cons (re_var O.o 0) ra_nil)) re_int) ra_nil))) (rg_tp O.o (rg_cons (rg_nm O.o 1) (rg_cons (rg_nm O.o 2) rg_nil))))
  (rss_cons (rs_if (rt_is (re_var O.o 1) re_non) (rss_one (rs_ret (re_tup (ra_cons re_bl (ra_cons re_bl ra_nil))))) rss_nil)
  (rss_cons (rs_set O.o 3 (re_lcO false O [("at", 4)] [(4, "at")] [(4, "at")] [] (ri_rng1 O.o 3 (ra_cons (re_var O.o 2) ra_nil)) (by decide +kernel) (by decide +kernel) (by decide +kernel) (fun s H C cl fp O1 => ⟨(rg_nm O1.o 0), rts_nil, (re_tup (ra_cons (re_var O1.o 0) (ra_cons (re_add false (re_var O1.o 0) re_int) ra_nil)))⟩)))
  (rss_one (rs_ret (re_tup (ra_cons (re_eq O.o (re_var O.o 1) (re_var O.o 3)) (ra_cons (re_and (re_gt (re_var O.o 2) re_int) (re_and (re_in O.o (re_tup (ra_cons re_int (ra_cons (re_var O.o 2) ra_nil))) (re_var O.o 1)) (re_one (re_eq O.o (re_lcO false O [("pair", 5)] [(5, "pair"), (3, "line"), (2, "last")] [(5, "pair")] [] (ri_seq (re_var O.o 1)) (by decide +kernel) (by decide +kernel) (by decide +kernel) (fun s H C cl fp O1 => ⟨(rg_nm O1.o 0), (rts_one (rt_nin O1.o (re_var O1.o 0) (re_add false (re_var O1.o 1) (re_lst false (ra_cons (re_tup (ra_cons re_int (ra_cons (re_var O1.o 2) ra_nil))) ra_nil))))), (re_var O1.o 0)⟩)) (re_lst false ra_nil))))) ra_nil))))))))))
/-! ### _law_right -/
abbrev st_law_rightU : Stmt := topS 33
abbrev N_law_rightU : List Str := ["value"]
abbrev P_law_rightU : List Str := ["value"]
theorem sc_law_rightU : FnScope N_law_rightU P_law_rightU (defScope st_law_rightU) := ⟨rfl, rfl, rfl, by decide +kernel, rfl, by decide +kernel, by decide +kernel⟩
def b_law_rightU : FS :=
  (fRet (fOwn 2 (m_law_sameU 6) (fCons (fTup (fCons (fOwn 1 m_is_snake (fCons (fVar 0) fNil)) (fCons (fOwn 1 m_is_coil (fCons (fVar 0) fNil)) fNil))) (fCons (fOwn 1 m_law_judgedU (fCons (fVar 0) fNil)) fNil))))
def m_law_rightU : List Y → Sto → Res Y := wrap false 1 b_law_rightU
set_option maxHeartbeats 4000000 in
theorem fn_law_rightU {w : World} {K : PySem.W.Frag} {mg : Str → Option Value} {base : Heap} (blt : ∀ (j : Nat) (x : Str), bls[j]? = some x → mg x = none) (d_law_sameU : Def Pw w K mg base "_law_same" 2 7 (m_law_sameU 6)) (d_law_judgedU : Def Pw w K mg base "_law_judged" 1 3 m_law_judgedU) (d_is_snake : Def Pw w K mg base "is_snake" 1 5 m_is_snake) (d_is_coil : Def Pw w K mg base "is_coil" 1 5 m_is_coil) {f : Addr} {fd : FuncData} (F : Fun K "_law_right" "_law_right" st_law_rightU f fd) : FnOk Pw w K mg base (L2.CX Pw w) 8 f fd P_law_rightU (spM K mg 1 m_law_rightU) :=
  fn_mk (k := 7) false F sc_law_rightU (fun cdv A outer s H E hr => by
    have O := okS (P := Pw) (w := w) (K := K) (base := base) (outer := outer) (H := H) (E := E) (vl := [(0, "value")]) (wl := [(0, "value")]) (gl := ["_law_same", "is_snake", "is_coil", "_law_judged"]) sc_law_rightU hr (by decide +kernel) blt
    exact (rss_one (rs_ret (re_own O d_law_sameU 0 (ra_cons (re_tup (ra_cons (re_own O d_is_snake 1 (ra_cons (re_var O.o 0) ra_nil)) (ra_cons (re_own O d_is_coil 2 (ra_cons (re_var O.o 0) ra_nil)) ra_nil))) (ra_cons (re_own O d_law_judgedU 3 (ra_cons (re_var O.o 0) ra_nil)) ra_nil))))))
/-! ### law -/
abbrev st_law : Stmt := topS 35
abbrev N_law : List Str := ["script", "cup", "coils", "turn", "signs", "snake", "words", "coil", "mask", "one", "at", "other", "values", "odds", "value", "four", "step", "around", "line", "near", "far", "word", "odd", "sign", "turned"]
abbrev P_law : List Str := ["script"]
theorem sc_law : FnScope N_law P_law (defScope st_law) := ⟨rfl, rfl, rfl, by decide +kernel, rfl, by decide +kernel, by decide +kernel⟩
def b_law : FS :=
  (fSeq (fSet 1 (fOwn 1 m_law_cupU (fCons (fVar 0) fNil)))
  (fSeq (fIfS (fNot (fTru (fOwn 0 m_law_rows_rightU fNil))) (fRet (fC (.bl false))) fNx)
  (fSeq (fSet 2 (fLst false (fCons (fTup (fCons (fTup (fCons (fC (.int 0)) (fCons (fC (.int 0)) fNil))) (fCons (fTup (fCons (fC (.int 0)) (fCons (fC (.int 1)) fNil))) (fCons (fTup (fCons (fC (.int 1)) (fCons (fC (.int 1)) fNil))) (fCons (fTup (fCons (fC (.int 1)) (fCons (fC (.int 0)) fNil))) fNil))))) (fCons (fTup (fCons (fTup (fCons (fC (.int 0)) (fCons (fC (.int 0)) (fCons (fC (.int 0)) fNil)))) (fCons (fTup (fCons (fC (.int 0)) (fCons (fC (.int 0)) (fCons (fC (.int 1)) fNil)))) (fCons (fTup (fCons (fC (.int 0)) (fCons (fC (.int 1)) (fCons (fC (.int 1)) fNil)))) (fCons (fTup (fCons (fC (.int 1)) (fCons (fC (.int 1)) (fCons (fC (.int 1)) fNil)))) (fCons (fTup (fCons (fC (.int 1)) (fCons (fC (.int 1)) (fCons (fC (.int 0)) fNil)))) (fCons (fTup (fCons (fC (.int 1)) (fCons (fC (.int 0)) (fCons (fC (.int 0)) fNil)))) fNil))))))) (fCons (fTup (fCons (fTup (fCons (fC (.int 0)) fNil)) (fCons (fTup (fCons (fC (.int 1)) fNil)) fNil))) fNil)))))
  (fSeq (fFor (.nm 3) (fIt sRng1 (fCons (fC (.int 4)) fNil)) (fSeq (fSet 4 (fBin (sAdd false) (fC (.int 1)) (fOwn 2 m_law_rollU (fCons (fVar 1) (fCons (fC (.int 8)) fNil)))))
  (fSeq (fPar3 5 6 7 (fCons (fOwn 3 m_law_snakeU (fCons (fVar 1) (fCons (fVar 4) (fCons (fC (.int 14)) fNil)))) (fCons (fOwn 3 m_law_listU (fCons (fVar 1) (fCons (fVar 4) (fCons (fC (.int 8)) fNil)))) (fCons (fOwn 2 m_law_someU (fCons (fVar 1) (fCons (fVar 2) fNil))) fNil))))
  (fSeq (fSet 8 (fOwn 2 m_law_wordU (fCons (fVar 1) (fCons (fCall sLen (fCons (fBin sIx (fVar 7) (fC (.int 0))) fNil)) fNil))))
  (fSeq (fSet 7 (fCall sTuple (fCons (fLc false [21] (fItS (fVar 7)) (.nm 21) fYes (fCall sTuple (fCons (fLc false [23, 24] (fIt (itS2 zipL) (fCons (fVar 21) (fCons (fVar 8) fNil))) (.tp [(.nm 23), (.nm 24)]) fYes (fIf (fTest (fBin sEq (fVar 24) (fC (.int 1)))) (fBin sSub (fC (.int 1)) (fVar 23)) (fVar 23))) fNil))) fNil)))
  (fFor (.nm 9) (fItS (fTup (fCons (fVar 5) (fCons (fVar 6) (fCons (fVar 7) (fCons (fOwn 1 m_law_doubledU (fCons (fVar 6) fNil)) (fCons (fBin (sAdd false) (fVar 7) (fSl false (fVar 7) fNoP (fPart (fC (.int 1))))) fNil))))))) (fSeq (fAsg (.tp [(.nm 10), (.nm 11)]) (fTup (fCons (fOwn 2 m_law_rollU (fCons (fVar 1) (fCons (fCall sLen (fCons (fVar 9) fNil)) fNil))) (fCons (fOwn 2 m_law_wordU (fCons (fVar 1) (fCons (fCall sLen (fCons (fBin sIx (fVar 9) (fC (.int 0))) fNil)) fNil))) fNil))))
  (fSeq (fSet 12 (fLst false (fCons (fVar 9) (fCons (fUn (sRev false) (fVar 9)) (fCons (fBin (sAdd false) (fVar 9) (fSl false (fVar 9) (fPart (fUn sNeg (fC (.int 1)))) fNoP)) (fCons (fBin (sAdd false) (fSl false (fVar 9) fNoP (fPart (fVar 10))) (fSl false (fVar 9) (fPart (fBin (sAdd false) (fVar 10) (fC (.int 1)))) fNoP)) (fCons (fBin (sAdd false) (fBin (sAdd false) (fSl false (fVar 9) fNoP (fPart (fVar 10))) (fTup (fCons (fVar 11) fNil))) (fSl false (fVar 9) (fPart (fBin (sAdd false) (fVar 10) (fC (.int 1)))) fNoP)) (fCons (fBin (sAdd false) (fSl false (fVar 9) (fPart (fVar 10)) fNoP) (fSl false (fVar 9) fNoP (fPart (fVar 10)))) (fCons (fCall (sList false) (fCons (fVar 9) fNil)) fNil)))))))))
  (fSeq (fSet 13 (fLst false (fCons (fC .non) (fCons (fCall (sList false) (fCons (fVar 11) fNil)) (fCons (fSl false (fVar 11) fNoP (fPart (fUn sNeg (fC (.int 1))))) (fCons (fBin (sAdd false) (fVar 11) (fTup (fCons (fC (.int 0)) fNil))) (fCons (fBin (sAdd false) (fTup (fCons (fC (.bl true)) fNil)) (fSl false (fVar 11) (fPart (fC (.int 1))) fNoP)) (fCons (fC (.int 5)) (fCons (fBin (sAdd false) (fTup (fCons (fC (.int 2)) fNil)) (fSl false (fVar 11) (fPart (fC (.int 1))) fNoP)) fNil)))))))))
  (fSeq (fSet 12 (fBin (sAdd false) (fVar 12) (fLc false [22] (fItS (fVar 13)) (.nm 22) fYes (fBin (sAdd false) (fBin (sAdd false) (fSl false (fVar 9) fNoP (fPart (fVar 10))) (fTup (fCons (fVar 22) fNil))) (fSl false (fVar 9) (fPart (fBin (sAdd false) (fVar 10) (fC (.int 1)))) fNoP)))))
  (fFor (.nm 14) (fItS (fBin (sAdd false) (fVar 12) (fLst false (fCons (fTup fNil) (fCons (fC .non) (fCons (fVar 11) (fCons (fTup (fCons (fVar 11) fNil)) (fCons (fBin (sAdd false) (fVar 9) (fTup (fCons (fOwn 2 m_law_turnU (fCons (fBin sIx (fVar 9) (fUn sNeg (fC (.int 1)))) (fCons (fBin (sAdd false) (fC (.int 1)) (fOwn 2 m_law_rollU (fCons (fVar 1) (fCons (fCall sLen (fCons (fVar 11) fNil)) fNil)))) fNil))) fNil))) fNil)))))))) (fIfS (fNot (fTru (fOwn 1 m_law_rightU (fCons (fVar 14) fNil)))) (fRet (fC (.bl false))) fNx))))))))))))
  (fSeq (fSet 15 (fLst true (fCons (fOwn 2 m_law_wordU (fCons (fVar 1) (fCons (fC (.int 4)) fNil))) fNil)))
  (fSeq (fFor (.nm 16) (fIt sRng1 (fCons (fC (.int 7)) fNil)) (fDrop (fMet isSt sApp (fVar 15) (fCons (fOwn 2 m_law_turnU (fCons (fBin sIx (fVar 15) (fUn sNeg (fC (.int 1)))) (fCons (fBin (sAdd false) (fC (.int 1)) (fBin sMod (fCall sInt (fCons (fVar 16) fNil)) (fC (.int 4)))) fNil))) fNil))))
  (fSeq (fSet 17 (fOwn 1 m_law_doubledU (fCons (fCall sTuple (fCons (fOwn 1 m_law_reflectedU (fCons (fC (.int 4)) fNil)) fNil)) fNil)))
  (fSeq (fSet 17 (fBin (sAdd false) (fVar 17) (fTup (fCons (fBin (sAdd false) (fBin sIx (fOwn 1 m_law_reflectedU (fCons (fC (.int 4)) fNil)) (fC (.int 0))) (fBin sIx (fOwn 1 m_law_reflectedU (fCons (fC (.int 4)) fNil)) (fUn sNeg (fC (.int 1))))) fNil))))
  (fSeq (fFor (.nm 9) (fItS (fTup (fCons (fCall sTuple (fCons (fVar 15) fNil)) (fCons (fVar 17) (fCons (fUn (sRev false) (fVar 17)) (fCons (fBin (sAdd false) (fSl false (fVar 17) (fPart (fC (.int 5))) fNoP) (fSl false (fVar 17) fNoP (fPart (fC (.int 5))))) (fCons (fSl false (fVar 17) fNoP (fPart (fUn sNeg (fC (.int 1))))) (fCons (fCall sTuple (fCons (fBin (sAdd false) (fSl false (fVar 15) (fPart (fC (.int 3))) fNoP) (fSl false (fVar 15) fNoP (fPart (fC (.int 3))))) fNil)) fNil)))))))) (fIfS (fNot (fTru (fOwn 1 m_law_rightU (fCons (fVar 9) fNil)))) (fRet (fC (.bl false))) fNx))
  (fSeq (fIfS (fTest (fBin sGt (fOwn 2 m_law_rollU (fCons (fVar 1) (fCons (fC (.int 3)) fNil))) (fC (.int 0)))) (fRet (fC (.bl true))) fNx)
  (fSeq (fSet 18 (fOwn 1 m_law_doubledU (fCons (fCall sTuple (fCons (fOwn 1 m_law_reflectedU (fCons (fC (.int 8)) fNil)) fNil)) fNil)))
  (fSeq (fSet 19 (fBin (sAdd false) (fSl false (fVar 18) fNoP (fPart (fC (.int 300)))) (fTup (fCons (fOwn 2 m_law_turnU (fCons (fBin sIx (fVar 18) (fC (.int 299))) (fCons (fBin sIx (fOwn 2 m_law_placesU (fCons (fBin sIx (fVar 18) (fC (.int 298))) (fCons (fBin sIx (fVar 18) (fC (.int 299))) fNil))) (fC (.int 0))) fNil))) fNil))))
  (fSeq (fSet 20 (fLst true (fCons (fCall sTuple (fCons (fBin (sMul false) (fLst false (fCons (fC (.int 0)) fNil)) (fC (.int 16))) fNil)) fNil)))
  (fSeq (fFor (.nm 16) (fIt sRng1 (fCons (fC (.int 4999)) fNil)) (fDrop (fMet isSt sApp (fVar 20) (fCons (fOwn 2 m_law_turnU (fCons (fBin sIx (fVar 20) (fUn sNeg (fC (.int 1)))) (fCons (fBin (sAdd false) (fC (.int 1)) (fBin sFdiv (fVar 16) (fC (.int 400)))) fNil))) fNil))))
  (fRet (fBin sEq (fLc false [14] (fItS (fTup (fCons (fVar 18) (fCons (fUn (sRev false) (fVar 18)) (fCons (fVar 19) (fCons (fCall sTuple (fCons (fVar 20) fNil)) (fCons (fBin (sAdd false) (fVar 18) (fSl false (fVar 18) fNoP (fPart (fC (.int 1))))) fNil))))))) (.nm 14) fYes (fOwn 1 m_is_snake (fCons (fVar 14) fNil))) (fLst false (fCons (fC (.bl true)) (fCons (fC (.bl true)) (fCons (fC (.bl false)) (fCons (fC (.bl false)) (fCons (fC (.bl false)) fNil))))))))))))))))))))))
def m_law : List Y → Sto → Res Y := wrap false 25 b_law
set_option maxHeartbeats 4000000 in
theorem fn_law {w : World} {K : PySem.W.Frag} {mg : Str → Option Value} {base : Heap} (blt : ∀ (j : Nat) (x : Str), bls[j]? = some x → mg x = none) (d_law_cupU : Def Pw w K mg base "_law_cup" 1 1 m_law_cupU) (d_law_doubledU : Def Pw w K mg base "_law_doubled" 1 1 m_law_doubledU) (d_law_rows_rightU : Def Pw w K mg base "_law_rows_right" 0 6 m_law_rows_rightU) (d_law_wordU : Def Pw w K mg base "_law_word" 2 2 m_law_wordU) (d_law_rollU : Def Pw w K mg base "_law_roll" 2 1 m_law_rollU) (d_law_snakeU : Def Pw w K mg base "_law_snake" 3 4 m_law_snakeU) (d_law_listU : Def Pw w K mg base "_law_list" 3 3 m_law_listU) (d_law_someU : Def Pw w K mg base "_law_some" 2 2 m_law_someU) (d_law_turnU : Def Pw w K mg base "_law_turn" 2 1 m_law_turnU) (d_law_reflectedU : Def Pw w K mg base "_law_reflected" 1 1 m_law_reflectedU) (d_law_rightU : Def Pw w K mg base "_law_right" 1 8 m_law_rightU) (d_is_snake : Def Pw w K mg base "is_snake" 1 5 m_is_snake) (d_law_placesU : Def Pw w K mg base "_law_places" 2 1 m_law_placesU) {f : Addr} {fd : FuncData} (F : Fun K "law" "law" st_law f fd) : FnOk Pw w K mg base (L2.CX Pw w) 9 f fd P_law (spM K mg 1 m_law) :=
  fn_mk (k := 8) false F sc_law (fun cdv A outer s H E hr => by
    have O := okS (P := Pw) (w := w) (K := K) (base := base) (outer := outer) (H := H) (E := E) (vl := [(1, "cup"), (0, "script"), (2, "coils"), (3, "turn"), (4, "signs"), (5, "snake"), (6, "words"), (7, "coil"), (8, "mask"), (9, "one"), (10, "at"), (11, "other"), (12, "values"), (13, "odds"), (14, "value"), (15, "four"), (16, "step"), (17, "around"), (18, "line"), (19, "near"), (20, "far")]) (wl := [(1, "cup"), (0, "script"), (2, "coils"), (3, "turn"), (4, "signs"), (5, "snake"), (6, "words"), (7, "coil"), (8, "mask"), (9, "one"), (10, "at"), (11, "other"), (12, "values"), (13, "odds"), (14, "value"), (15, "four"), (16, "step"), (17, "around"), (18, "line"), (19, "near"), (20, "far")]) (gl := ["_law_cup", "_law_rows_right", "range", "_law_roll", "_law_snake", "_law_list", "_law_some", "_law_word", "len", "tuple", "_law_doubled", "list", "_law_turn", "_law_right", "int", "_law_reflected", "_law_places"]) sc_law hr (by decide +kernel) blt
    exact (rss_cons (rs_set O.o 0 (re_own O d_law_cupU 0 (ra_cons (re_var O.o 1) ra_nil)))
  (rss_cons (rs_if (rt_not (rt_tru (re_own0 O d_law_rows_rightU 1))) (rss_one (rs_ret re_bl)) rss_nil)
  (rss_cons (rs_set O.o 2 (re_lst false (ra_cons (re_tup (ra_cons (re_tup (ra_cons re_int (ra_cons re_int ra_nil))) (ra_cons (re_tup (ra_cons re_int (ra_cons re_int ra_nil))) (ra_cons (re_tup (ra_cons re_int (ra_cons re_int ra_nil))) (ra_cons (re_tup (ra_cons re_int (ra_cons re_int ra_nil))) ra_nil))))) (ra_cons (re_tup (ra_cons (re_tup (ra_cons re_int (ra_cons re_int (ra_cons re_int ra_nil)))) (ra_cons (re_tup (ra_cons re_int (ra_cons re_int (ra_cons re_int ra_nil)))) (ra_cons (re_tup (ra_cons re_int (ra_cons re_int (ra_cons re_int ra_nil)))) (ra_cons (re_tup (ra_cons re_int (ra_cons re_int (ra_cons re_int ra_nil)))) (ra_cons (re_tup (ra_cons re_int (ra_cons re_int (ra_cons re_int ra_nil)))) (ra_cons (re_tup (ra_cons re_int (ra_cons re_int (ra_cons re_int ra_nil)))) ra_nil))))))) (ra_cons (re_tup (ra_cons (re_tup (ra_cons re_int ra_nil)) (ra_cons (re_tup (ra_cons re_int ra_nil)) ra_nil))) ra_nil)))))
  (rss_cons (rs_for O.o passD (ri_rng1 O.o 2 (ra_cons re_int ra_nil)) (rg_nm O.o 3) (rss_cons (rs_set O.o 4 (re_add false re_int (re_own O d_law_rollU 3 (ra_cons (re_var O.o 0) (ra_cons re_int ra_nil)))))
  (rss_cons (rs_par3 O.o 5 6 7 (ra_cons (re_own O d_law_snakeU 4 (ra_cons (re_var O.o 0) (ra_cons (re_var O.o 4) (ra_cons re_int ra_nil)))) (ra_cons (re_own O d_law_listU 5 (ra_cons (re_var O.o 0) (ra_cons (re_var O.o 4) (ra_cons re_int ra_nil)))) (ra_cons (re_own O d_law_someU 6 (ra_cons (re_var O.o 0) (ra_cons (re_var O.o 2) ra_nil))) ra_nil))))
  (rss_cons (rs_set O.o 8 (re_own O d_law_wordU 7 (ra_cons (re_var O.o 0) (ra_cons (re_len O.o 8 (ra_cons (re_ix (re_var O.o 7) re_int) ra_nil)) ra_nil))))
  (rss_cons (rs_set O.o 7 (re_tupc O.o 9 (ra_cons (re_lcO false O [("word", 21)] [(21, "word"), (8, "mask")] [(21, "word")] ["tuple", "zip"] (ri_seq (re_var O.o 7)) (by decide +kernel) (by decide +kernel) (by decide +kernel) (fun s H C cl fp O1 => ⟨(rg_nm O1.o 0), rts_nil, (re_tupc O1.o 0 (ra_cons (re_lcO false O1 [("sign", 23), ("turned", 24)] [(24, "turned"), (23, "sign")] [(23, "sign"), (24, "turned")] [] (ri_zip O1.o 1 (ra_cons (re_var O1.o 0) (ra_cons (re_var O1.o 1) ra_nil))) (by decide +kernel) (by decide +kernel) (by decide +kernel) (fun s H C cl fp O2 => ⟨(rg_tp O2.o (rg_cons (rg_nm O2.o 0) (rg_cons (rg_nm O2.o 1) rg_nil))), rts_nil, (re_if (rt_eq O2.o (re_var O2.o 0) re_int) (re_sub re_int (re_var O2.o 1)) (re_var O2.o 1))⟩)) ra_nil))⟩)) ra_nil)))
  (rss_one (rs_for O.o passD (ri_seq (re_tup (ra_cons (re_var O.o 5) (ra_cons (re_var O.o 6) (ra_cons (re_var O.o 7) (ra_cons (re_own O d_law_doubledU 10 (ra_cons (re_var O.o 6) ra_nil)) (ra_cons (re_add false (re_var O.o 7) (re_sl false (re_var O.o 7) ro_none (ro_some re_int))) ra_nil))))))) (rg_nm O.o 9) (rss_cons (rs_asg O.o (re_tup (ra_cons (re_own O d_law_rollU 3 (ra_cons (re_var O.o 0) (ra_cons (re_len O.o 8 (ra_cons (re_var O.o 9) ra_nil)) ra_nil))) (ra_cons (re_own O d_law_wordU 7 (ra_cons (re_var O.o 0) (ra_cons (re_len O.o 8 (ra_cons (re_ix (re_var O.o 9) re_int) ra_nil)) ra_nil))) ra_nil))) (rg_tp O.o (rg_cons (rg_nm O.o 10) (rg_cons (rg_nm O.o 11) rg_nil))))
  (rss_cons (rs_set O.o 12 (re_lst false (ra_cons (re_var O.o 9) (ra_cons (re_rev false (re_var O.o 9)) (ra_cons (re_add false (re_var O.o 9) (re_sl false (re_var O.o 9) (ro_some (re_neg re_int)) ro_none)) (ra_cons (re_add false (re_sl false (re_var O.o 9) ro_none (ro_some (re_var O.o 10))) (re_sl false (re_var O.o 9) (ro_some (re_add false (re_var O.o 10) re_int)) ro_none)) (ra_cons (re_add false (re_add false (re_sl false (re_var O.o 9) ro_none (ro_some (re_var O.o 10))) (re_tup (ra_cons (re_var O.o 11) ra_nil))) (re_sl false (re_var O.o 9) (ro_some (re_add false (re_var O.o 10) re_int)) ro_none)) (ra_cons (re_add false (re_sl false (re_var O.o 9) (ro_some (re_var O.o 10)) ro_none) (re_sl false (re_var O.o 9) ro_none (ro_some (re_var O.o 10)))) (ra_cons (re_listc false O.o 11 (ra_cons (re_var O.o 9) ra_nil)) ra_nil)))))))))
  (rss_cons (rs_set O.o 13 (re_lst false (ra_cons re_non (ra_cons (re_listc false O.o 11 (ra_cons (re_var O.o 11) ra_nil)) (ra_cons (re_sl false (re_var O.o 11) ro_none (ro_some (re_neg re_int))) (ra_cons (re_add false (re_var O.o 11) (re_tup (ra_cons re_int ra_nil))) (ra_cons (re_add false (re_tup (ra_cons re_bl ra_nil)) (re_sl false (re_var O.o 11) (ro_some re_int) ro_none)) (ra_cons re_int (ra_cons (re_add false (re_tup (ra_cons re_int ra_nil)) (re_sl false (re_var O.o 11) (ro_some re_int) ro_none)) ra_nil)))))))))
  (rss_cons (rs_set O.o 12 (re_add false (re_var O.o 12) (re_lcO false O [("odd", 22)] [(9, "one"), (10, "at"), (22, "odd")] [(22, "odd")] [] (ri_seq (re_var O.o 13)) (by decide +kernel) (by decide +kernel) (by decide +kernel) (fun s H C cl fp O1 => ⟨(rg_nm O1.o 0), rts_nil, (re_add false (re_add false (re_sl false (re_var O1.o 0) ro_none (ro_some (re_var O1.o 1))) (re_tup (ra_cons (re_var O1.o 2) ra_nil))) (re_sl false (re_var O1.o 0) (ro_some (re_add false (re_var O1.o 1) re_int)) ro_none))⟩))))
  (rss_one (rs_for O.o passD (ri_seq (re_add false (re_var O.o 12) (re_lst false (ra_cons (re_tup ra_nil) (ra_cons re_non (ra_cons (re_var O.o 11) (ra_cons (re_tup (ra_cons (re_var O.o 11) ra_nil)) (ra_cons (re_add false (re_var O.o 9) (re_tup (ra_cons (re_own O d_law_turnU 12 (ra_cons (re_ix (re_var O.o 9) (re_neg re_int)) (ra_cons (re_add false re_int (re_own O d_law_rollU 3 (ra_cons (re_var O.o 0) (ra_cons (re_len O.o 8 (ra_cons (re_var O.o 11) ra_nil)) ra_nil)))) ra_nil))) ra_nil))) ra_nil)))))))) (rg_nm O.o 14) (rss_one (rs_if (rt_not (rt_tru (re_own O d_law_rightU 13 (ra_cons (re_var O.o 14) ra_nil)))) (rss_one (rs_ret re_bl)) rss_nil)))))))))))))))
  (rss_cons (rs_set O.o 15 (re_lst true (ra_cons (re_own O d_law_wordU 7 (ra_cons (re_var O.o 0) (ra_cons re_int ra_nil))) ra_nil)))
  (rss_cons (rs_for O.o passD (ri_rng1 O.o 2 (ra_cons re_int ra_nil)) (rg_nm O.o 16) (rss_one (rs_expr (re_app (re_var O.o 15) (re_own O d_law_turnU 12 (ra_cons (re_ix (re_var O.o 15) (re_neg re_int)) (ra_cons (re_add false re_int (re_mod (re_intc O.o 14 (ra_cons (re_var O.o 16) ra_nil)) re_int)) ra_nil)))))))
  (rss_cons (rs_set O.o 17 (re_own O d_law_doubledU 10 (ra_cons (re_tupc O.o 9 (ra_cons (re_own O d_law_reflectedU 15 (ra_cons re_int ra_nil)) ra_nil)) ra_nil)))
  (rss_cons (rs_set O.o 17 (re_add false (re_var O.o 17) (re_tup (ra_cons (re_add false (re_ix (re_own O d_law_reflectedU 15 (ra_cons re_int ra_nil)) re_int) (re_ix (re_own O d_law_reflectedU 15 (ra_cons re_int ra_nil)) (re_neg re_int))) ra_nil))))
  (rss_cons (rs_for O.o passD (ri_seq (re_tup (ra_cons (re_tupc O.o 9 (ra_cons (re_var O.o 15) ra_nil)) (ra_cons (re_var O.o 17) (ra_cons (re_rev false (re_var O.o 17)) (ra_cons (re_add false (re_sl false (re_var O.o 17) (ro_some re_int) ro_none) (re_sl false (re_var O.o 17) ro_none (ro_some re_int))) (ra_cons (re_sl false (re_var O.o 17) ro_none (ro_some (re_neg re_int))) (ra_cons (re_tupc O.o 9 (ra_cons (re_add false (re_sl false (re_var O.o 15) (ro_some re_int) ro_none) (re_sl false (re_var O.o 15) ro_none (ro_some re_int))) ra_nil)) ra_nil)))))))) (rg_nm O.o 9) (rss_one (rs_if (rt_not (rt_tru (re_own O d_law_rightU 13 (ra_cons (re_var O.o 9) ra_nil)))) (rss_one (rs_ret re_bl)) rss_nil)))
  (rss_cons (rs_if (rt_gt (re_own O d_law_rollU 3 (ra_cons (re_var O.o 0) (ra_cons re_int ra_nil))) re_int) (rss_one (rs_ret re_bl)) rss_nil)
  (rss_cons (rs_set O.o 18 (re_own O d_law_doubledU 10 (ra_cons (re_tupc O.o 9 (ra_cons (re_own O d_law_reflectedU 15 (ra_cons re_int ra_nil)) ra_nil)) ra_nil)))
  (rss_cons (rs_set O.o 19 (re_add false (re_sl false (re_var O.o 18) ro_none (ro_some re_int)) (re_tup (ra_cons (re_own O d_law_turnU 12 (ra_cons (re_ix (re_var O.o 18) re_int) (ra_cons (re_ix (re_own O d_law_placesU 16 (ra_cons (re_ix (re_var O.o 18) re_int) (ra_cons (re_ix (re_var O.o 18) re_int) ra_nil))) re_int) ra_nil))) ra_nil))))
  (rss_cons (rs_set O.o 20 (re_lst true (ra_cons (re_tupc O.o 9 (ra_cons (re_mul false (re_lst false (ra_cons re_int ra_nil)) re_int) ra_nil)) ra_nil)))
  (rss_cons (rs_for O.o passD (ri_rng1 O.o 2 (ra_cons re_int ra_nil)) (rg_nm O.o 16) (rss_one (rs_expr (re_app (re_var O.o 20) (re_own O d_law_turnU 12 (ra_cons (re_ix (re_var O.o 20) (re_neg re_int)) (ra_cons (re_add false re_int (re_fdiv (re_var O.o 16) re_int)) ra_nil)))))))
  (rss_one (rs_ret (re_eq O.o (re_lcO false O [("value", 14)] [(14, "value")] [(14, "value")] ["is_snake"] (ri_seq (re_tup (ra_cons (re_var O.o 18) (ra_cons (re_rev false (re_var O.o 18)) (ra_cons (re_var O.o 19) (ra_cons (re_tupc O.o 9 (ra_cons (re_var O.o 20) ra_nil)) (ra_cons (re_add false (re_var O.o 18) (re_sl false (re_var O.o 18) ro_none (ro_some re_int))) ra_nil))))))) (by decide +kernel) (by decide +kernel) (by decide +kernel) (fun s H C cl fp O1 => ⟨(rg_nm O1.o 0), rts_nil, (re_own O1 d_is_snake 0 (ra_cons (re_var O1.o 0) ra_nil))⟩)) (re_lst false (ra_cons re_bl (ra_cons re_bl (ra_cons re_bl (ra_cons re_bl (ra_cons re_bl ra_nil))))))))))))))))))))))))
/-! ### all together -/
theorem all_mk {w : World} {K : PySem.W.Frag} {h : Heap} {mg : Str → Option Value} {fa : Addr} (hlaw : ∀ ns : List Int, ns.length ≤ 63 → m_law [.v (.scr (ns.map D.int))] [] = .ok (.v (.bl true)) []) (X : K.In h) (G : h.Ns mainGlobals mg) (hfa : mg "law" = some (.ref fa))
    {f0 : Addr} {od0 an0 : Option Addr} {sl0 : Array (Option Value)} {oc0 kV0 dc0 pm0 cd0 ct0 : Value}
    {f1 : Addr} {od1 an1 : Option Addr} {sl1 : Array (Option Value)} {oc1 kV1 dc1 pm1 cd1 ct1 : Value}
    {f2 : Addr} {od2 an2 : Option Addr} {sl2 : Array (Option Value)} {oc2 kV2 dc2 pm2 cd2 ct2 : Value}
    {f3 : Addr} {od3 an3 : Option Addr} {sl3 : Array (Option Value)} {oc3 kV3 dc3 pm3 cd3 ct3 : Value}
    {f4 : Addr} {od4 an4 : Option Addr} {sl4 : Array (Option Value)} {oc4 kV4 dc4 pm4 cd4 ct4 : Value}
    {f5 : Addr} {od5 an5 : Option Addr} {sl5 : Array (Option Value)} {oc5 kV5 dc5 pm5 cd5 ct5 : Value}
    {f6 : Addr} {od6 an6 : Option Addr} {sl6 : Array (Option Value)} {oc6 kV6 dc6 pm6 cd6 ct6 : Value}
    {f7 : Addr} {od7 an7 : Option Addr} {sl7 : Array (Option Value)} {oc7 kV7 dc7 pm7 cd7 ct7 : Value}
    {f8 : Addr} {od8 an8 : Option Addr} {sl8 : Array (Option Value)} {oc8 kV8 dc8 pm8 cd8 ct8 : Value}
    {f9 : Addr} {od9 an9 : Option Addr} {sl9 : Array (Option Value)} {oc9 kV9 dc9 pm9 cd9 ct9 : Value}
    {f10 : Addr} {od10 an10 : Option Addr} {sl10 : Array (Option Value)} {oc10 kV10 dc10 pm10 cd10 ct10 : Value}
    {f11 : Addr} {od11 an11 : Option Addr} {sl11 : Array (Option Value)} {oc11 kV11 dc11 pm11 cd11 ct11 : Value}
    {f12 : Addr} {od12 an12 : Option Addr} {sl12 : Array (Option Value)} {oc12 kV12 dc12 pm12 cd12 ct12 : Value}
    {f13 : Addr} {od13 an13 : Option Addr} {sl13 : Array (Option Value)} {oc13 kV13 dc13 pm13 cd13 ct13 : Value}
    {f14 : Addr} {od14 an14 : Option Addr} {sl14 : Array (Option Value)} {oc14 kV14 dc14 pm14 cd14 ct14 : Value}
    {f15 : Addr} {od15 an15 : Option Addr} {sl15 : Array (Option Value)} {oc15 kV15 dc15 pm15 cd15 ct15 : Value}
    {f16 : Addr} {od16 an16 : Option Addr} {sl16 : Array (Option Value)} {oc16 kV16 dc16 pm16 cd16 ct16 : Value}
    {f17 : Addr} {od17 an17 : Option Addr} {sl17 : Array (Option Value)} {oc17 kV17 dc17 pm17 cd17 ct17 : Value}
    {f18 : Addr} {od18 an18 : Option Addr} {sl18 : Array (Option Value)} {oc18 kV18 dc18 pm18 cd18 ct18 : Value}
    {f19 : Addr} {od19 an19 : Option Addr} {sl19 : Array (Option Value)} {oc19 kV19 dc19 pm19 cd19 ct19 : Value}
    {f20 : Addr} {od20 an20 : Option Addr} {sl20 : Array (Option Value)} {oc20 kV20 dc20 pm20 cd20 ct20 : Value}
    {f21 : Addr} {od21 an21 : Option Addr} {sl21 : Array (Option Value)} {oc21 kV21 dc21 pm21 cd21 ct21 : Value}
    {f22 : Addr} {od22 an22 : Option Addr} {sl22 : Array (Option Value)} {oc22 kV22 dc22 pm22 cd22 ct22 : Value}
    {f23 : Addr} {od23 an23 : Option Addr} {sl23 : Array (Option Value)} {oc23 kV23 dc23 pm23 cd23 ct23 : Value}
    {f24 : Addr} {od24 an24 : Option Addr} {sl24 : Array (Option Value)} {oc24 kV24 dc24 pm24 cd24 ct24 : Value}
    {f25 : Addr} {od25 an25 : Option Addr} {sl25 : Array (Option Value)} {oc25 kV25 dc25 pm25 cd25 ct25 : Value}
    {f26 : Addr} {od26 an26 : Option Addr} {sl26 : Array (Option Value)} {oc26 kV26 dc26 pm26 cd26 ct26 : Value}
    {f27 : Addr} {od27 an27 : Option Addr} {sl27 : Array (Option Value)} {oc27 kV27 dc27 pm27 cd27 ct27 : Value}
    {f28 : Addr} {od28 an28 : Option Addr} {sl28 : Array (Option Value)} {oc28 kV28 dc28 pm28 cd28 ct28 : Value}
    {f29 : Addr} {od29 an29 : Option Addr} {sl29 : Array (Option Value)} {oc29 kV29 dc29 pm29 cd29 ct29 : Value}
    {f30 : Addr} {od30 an30 : Option Addr} {sl30 : Array (Option Value)} {oc30 kV30 dc30 pm30 cd30 ct30 : Value}
    (a0 : PySem.W.nsIn K mainGlobals "_law_cup" = some (some (.ref f0))) (l0 : K.lookup f0 = some ⟨oc0, od0, .func (PySem.W.fnOf "_law_cup" "_law_cup" (defArgs st_law_cupU) (defBody st_law_cupU) (defScope st_law_cupU) .none kV0 dc0 pm0 an0 cd0 ct0), sl0⟩) (q0 : PySem.W.codeIn K cd0 "_law_cup" = true) (k0 : PySem.W.keepIn K (.ref f0) = true)
    (a1 : PySem.W.nsIn K mainGlobals "_law_doubled" = some (some (.ref f1))) (l1 : K.lookup f1 = some ⟨oc1, od1, .func (PySem.W.fnOf "_law_doubled" "_law_doubled" (defArgs st_law_doubledU) (defBody st_law_doubledU) (defScope st_law_doubledU) .none kV1 dc1 pm1 an1 cd1 ct1), sl1⟩) (q1 : PySem.W.codeIn K cd1 "_law_doubled" = true) (k1 : PySem.W.keepIn K (.ref f1) = true)
    (a2 : PySem.W.nsIn K mainGlobals "turned_at" = some (some (.ref f2))) (l2 : K.lookup f2 = some ⟨oc2, od2, .func (PySem.W.fnOf "turned_at" "turned_at" (defArgs st_turned_at) (defBody st_turned_at) (defScope st_turned_at) .none kV2 dc2 pm2 an2 cd2 ct2), sl2⟩) (q2 : PySem.W.codeIn K cd2 "turned_at" = true) (k2 : PySem.W.keepIn K (.ref f2) = true)
    (a3 : PySem.W.nsIn K mainGlobals "near_in" = some (some (.ref f3))) (l3 : K.lookup f3 = some ⟨oc3, od3, .func (PySem.W.fnOf "near_in" "near_in" (defArgs st_near_in) (defBody st_near_in) (defScope st_near_in) .none kV3 dc3 pm3 an3 cd3 ct3), sl3⟩) (q3 : PySem.W.codeIn K cd3 "near_in" = true) (k3 : PySem.W.keepIn K (.ref f3) = true)
    (a4 : PySem.W.nsIn K mainGlobals "touches_in" = some (some (.ref f4))) (l4 : K.lookup f4 = some ⟨oc4, od4, .func (PySem.W.fnOf "touches_in" "touches_in" (defArgs st_touches_in) (defBody st_touches_in) (defScope st_touches_in) .none kV4 dc4 pm4 an4 cd4 ct4), sl4⟩) (q4 : PySem.W.codeIn K cd4 "touches_in" = true) (k4 : PySem.W.keepIn K (.ref f4) = true)
    (a5 : PySem.W.nsIn K mainGlobals "is_tuple_of" = some (some (.ref f5))) (l5 : K.lookup f5 = some ⟨oc5, od5, .func (PySem.W.fnOf "is_tuple_of" "is_tuple_of" (defArgs st_is_tuple_of) (defBody st_is_tuple_of) (defScope st_is_tuple_of) .none kV5 dc5 pm5 an5 cd5 ct5), sl5⟩) (q5 : PySem.W.codeIn K cd5 "is_tuple_of" = true) (k5 : PySem.W.keepIn K (.ref f5) = true)
    (a6 : PySem.W.nsIn K mainGlobals "fits_whole" = some (some (.ref f6))) (l6 : K.lookup f6 = some ⟨oc6, od6, .func (PySem.W.fnOf "fits_whole" "fits_whole" (defArgs st_fits_whole) (defBody st_fits_whole) (defScope st_fits_whole) .none kV6 dc6 pm6 an6 cd6 ct6), sl6⟩) (q6 : PySem.W.codeIn K cd6 "fits_whole" = true) (k6 : PySem.W.keepIn K (.ref f6) = true)
    (a7 : PySem.W.nsIn K mainGlobals "fits_word" = some (some (.ref f7))) (l7 : K.lookup f7 = some ⟨oc7, od7, .func (PySem.W.fnOf "fits_word" "fits_word" (defArgs st_fits_word) (defBody st_fits_word) (defScope st_fits_word) .none kV7 dc7 pm7 an7 cd7 ct7), sl7⟩) (q7 : PySem.W.codeIn K cd7 "fits_word" = true) (k7 : PySem.W.keepIn K (.ref f7) = true)
    (a8 : PySem.W.nsIn K mainGlobals "unlike_in" = some (some (.ref f8))) (l8 : K.lookup f8 = some ⟨oc8, od8, .func (PySem.W.fnOf "unlike_in" "unlike_in" (defArgs st_unlike_in) (defBody st_unlike_in) (defScope st_unlike_in) .none kV8 dc8 pm8 an8 cd8 ct8), sl8⟩) (q8 : PySem.W.codeIn K cd8 "unlike_in" = true) (k8 : PySem.W.keepIn K (.ref f8) = true)
    (a9 : PySem.W.nsIn K mainGlobals "fits_list" = some (some (.ref f9))) (l9 : K.lookup f9 = some ⟨oc9, od9, .func (PySem.W.fnOf "fits_list" "fits_list" (defArgs st_fits_list) (defBody st_fits_list) (defScope st_fits_list) .none kV9 dc9 pm9 an9 cd9 ct9), sl9⟩) (q9 : PySem.W.codeIn K cd9 "fits_list" = true) (k9 : PySem.W.keepIn K (.ref f9) = true)
    (a10 : PySem.W.nsIn K mainGlobals "fits_snake" = some (some (.ref f10))) (l10 : K.lookup f10 = some ⟨oc10, od10, .func (PySem.W.fnOf "fits_snake" "fits_snake" (defArgs st_fits_snake) (defBody st_fits_snake) (defScope st_fits_snake) .none kV10 dc10 pm10 an10 cd10 ct10), sl10⟩) (q10 : PySem.W.codeIn K cd10 "fits_snake" = true) (k10 : PySem.W.keepIn K (.ref f10) = true)
    (a11 : PySem.W.nsIn K mainGlobals "is_snake" = some (some (.ref f11))) (l11 : K.lookup f11 = some ⟨oc11, od11, .func (PySem.W.fnOf "is_snake" "is_snake" (defArgs st_is_snake) (defBody st_is_snake) (defScope st_is_snake) .none kV11 dc11 pm11 an11 cd11 ct11), sl11⟩) (q11 : PySem.W.codeIn K cd11 "is_snake" = true) (k11 : PySem.W.keepIn K (.ref f11) = true)
    (a12 : PySem.W.nsIn K mainGlobals "fits_coil" = some (some (.ref f12))) (l12 : K.lookup f12 = some ⟨oc12, od12, .func (PySem.W.fnOf "fits_coil" "fits_coil" (defArgs st_fits_coil) (defBody st_fits_coil) (defScope st_fits_coil) .none kV12 dc12 pm12 an12 cd12 ct12), sl12⟩) (q12 : PySem.W.codeIn K cd12 "fits_coil" = true) (k12 : PySem.W.keepIn K (.ref f12) = true)
    (a13 : PySem.W.nsIn K mainGlobals "is_coil" = some (some (.ref f13))) (l13 : K.lookup f13 = some ⟨oc13, od13, .func (PySem.W.fnOf "is_coil" "is_coil" (defArgs st_is_coil) (defBody st_is_coil) (defScope st_is_coil) .none kV13 dc13 pm13 an13 cd13 ct13), sl13⟩) (q13 : PySem.W.codeIn K cd13 "is_coil" = true) (k13 : PySem.W.keepIn K (.ref f13) = true)
    (a14 : PySem.W.nsIn K mainGlobals "_law_rows_right" = some (some (.ref f14))) (l14 : K.lookup f14 = some ⟨oc14, od14, .func (PySem.W.fnOf "_law_rows_right" "_law_rows_right" (defArgs st_law_rows_rightU) (defBody st_law_rows_rightU) (defScope st_law_rows_rightU) .none kV14 dc14 pm14 an14 cd14 ct14), sl14⟩) (q14 : PySem.W.codeIn K cd14 "_law_rows_right" = true) (k14 : PySem.W.keepIn K (.ref f14) = true)
    (a15 : PySem.W.nsIn K mainGlobals "_law_roll" = some (some (.ref f15))) (l15 : K.lookup f15 = some ⟨oc15, od15, .func (PySem.W.fnOf "_law_roll" "_law_roll" (defArgs st_law_rollU) (defBody st_law_rollU) (defScope st_law_rollU) .none kV15 dc15 pm15 an15 cd15 ct15), sl15⟩) (q15 : PySem.W.codeIn K cd15 "_law_roll" = true) (k15 : PySem.W.keepIn K (.ref f15) = true)
    (a16 : PySem.W.nsIn K mainGlobals "_law_word" = some (some (.ref f16))) (l16 : K.lookup f16 = some ⟨oc16, od16, .func (PySem.W.fnOf "_law_word" "_law_word" (defArgs st_law_wordU) (defBody st_law_wordU) (defScope st_law_wordU) .none kV16 dc16 pm16 an16 cd16 ct16), sl16⟩) (q16 : PySem.W.codeIn K cd16 "_law_word" = true) (k16 : PySem.W.keepIn K (.ref f16) = true)
    (a17 : PySem.W.nsIn K mainGlobals "_law_turn" = some (some (.ref f17))) (l17 : K.lookup f17 = some ⟨oc17, od17, .func (PySem.W.fnOf "_law_turn" "_law_turn" (defArgs st_law_turnU) (defBody st_law_turnU) (defScope st_law_turnU) .none kV17 dc17 pm17 an17 cd17 ct17), sl17⟩) (q17 : PySem.W.codeIn K cd17 "_law_turn" = true) (k17 : PySem.W.keepIn K (.ref f17) = true)
    (a18 : PySem.W.nsIn K mainGlobals "_law_barred" = some (some (.ref f18))) (l18 : K.lookup f18 = some ⟨oc18, od18, .func (PySem.W.fnOf "_law_barred" "_law_barred" (defArgs st_law_barredU) (defBody st_law_barredU) (defScope st_law_barredU) .none kV18 dc18 pm18 an18 cd18 ct18), sl18⟩) (q18 : PySem.W.codeIn K cd18 "_law_barred" = true) (k18 : PySem.W.keepIn K (.ref f18) = true)
    (a19 : PySem.W.nsIn K mainGlobals "_law_ways" = some (some (.ref f19))) (l19 : K.lookup f19 = some ⟨oc19, od19, .func (PySem.W.fnOf "_law_ways" "_law_ways" (defArgs st_law_waysU) (defBody st_law_waysU) (defScope st_law_waysU) .none kV19 dc19 pm19 an19 cd19 ct19), sl19⟩) (q19 : PySem.W.codeIn K cd19 "_law_ways" = true) (k19 : PySem.W.keepIn K (.ref f19) = true)
    (a20 : PySem.W.nsIn K mainGlobals "_law_some" = some (some (.ref f20))) (l20 : K.lookup f20 = some ⟨oc20, od20, .func (PySem.W.fnOf "_law_some" "_law_some" (defArgs st_law_someU) (defBody st_law_someU) (defScope st_law_someU) .none kV20 dc20 pm20 an20 cd20 ct20), sl20⟩) (q20 : PySem.W.codeIn K cd20 "_law_some" = true) (k20 : PySem.W.keepIn K (.ref f20) = true)
    (a21 : PySem.W.nsIn K mainGlobals "_law_snake" = some (some (.ref f21))) (l21 : K.lookup f21 = some ⟨oc21, od21, .func (PySem.W.fnOf "_law_snake" "_law_snake" (defArgs st_law_snakeU) (defBody st_law_snakeU) (defScope st_law_snakeU) .none kV21 dc21 pm21 an21 cd21 ct21), sl21⟩) (q21 : PySem.W.codeIn K cd21 "_law_snake" = true) (k21 : PySem.W.keepIn K (.ref f21) = true)
    (a22 : PySem.W.nsIn K mainGlobals "_law_list" = some (some (.ref f22))) (l22 : K.lookup f22 = some ⟨oc22, od22, .func (PySem.W.fnOf "_law_list" "_law_list" (defArgs st_law_listU) (defBody st_law_listU) (defScope st_law_listU) .none kV22 dc22 pm22 an22 cd22 ct22), sl22⟩) (q22 : PySem.W.codeIn K cd22 "_law_list" = true) (k22 : PySem.W.keepIn K (.ref f22) = true)
    (a23 : PySem.W.nsIn K mainGlobals "_law_reflected" = some (some (.ref f23))) (l23 : K.lookup f23 = some ⟨oc23, od23, .func (PySem.W.fnOf "_law_reflected" "_law_reflected" (defArgs st_law_reflectedU) (defBody st_law_reflectedU) (defScope st_law_reflectedU) .none kV23 dc23 pm23 an23 cd23 ct23), sl23⟩) (q23 : PySem.W.codeIn K cd23 "_law_reflected" = true) (k23 : PySem.W.keepIn K (.ref f23) = true)
    (a24 : PySem.W.nsIn K mainGlobals "_law_same" = some (some (.ref f24))) (l24 : K.lookup f24 = some ⟨oc24, od24, .func (PySem.W.fnOf "_law_same" "_law_same" (defArgs st_law_sameU) (defBody st_law_sameU) (defScope st_law_sameU) .none kV24 dc24 pm24 an24 cd24 ct24), sl24⟩) (q24 : PySem.W.codeIn K cd24 "_law_same" = true) (k24 : PySem.W.keepIn K (.ref f24) = true)
    (a25 : PySem.W.nsIn K mainGlobals "_law_places" = some (some (.ref f25))) (l25 : K.lookup f25 = some ⟨oc25, od25, .func (PySem.W.fnOf "_law_places" "_law_places" (defArgs st_law_placesU) (defBody st_law_placesU) (defScope st_law_placesU) .none kV25 dc25 pm25 an25 cd25 ct25), sl25⟩) (q25 : PySem.W.codeIn K cd25 "_law_places" = true) (k25 : PySem.W.keepIn K (.ref f25) = true)
    (a26 : PySem.W.nsIn K mainGlobals "_law_is_list" = some (some (.ref f26))) (l26 : K.lookup f26 = some ⟨oc26, od26, .func (PySem.W.fnOf "_law_is_list" "_law_is_list" (defArgs st_law_is_listU) (defBody st_law_is_listU) (defScope st_law_is_listU) .none kV26 dc26 pm26 an26 cd26 ct26), sl26⟩) (q26 : PySem.W.codeIn K cd26 "_law_is_list" = true) (k26 : PySem.W.keepIn K (.ref f26) = true)
    (a27 : PySem.W.nsIn K mainGlobals "_law_touching" = some (some (.ref f27))) (l27 : K.lookup f27 = some ⟨oc27, od27, .func (PySem.W.fnOf "_law_touching" "_law_touching" (defArgs st_law_touchingU) (defBody st_law_touchingU) (defScope st_law_touchingU) .none kV27 dc27 pm27 an27 cd27 ct27), sl27⟩) (q27 : PySem.W.codeIn K cd27 "_law_touching" = true) (k27 : PySem.W.keepIn K (.ref f27) = true)
    (a28 : PySem.W.nsIn K mainGlobals "_law_judged" = some (some (.ref f28))) (l28 : K.lookup f28 = some ⟨oc28, od28, .func (PySem.W.fnOf "_law_judged" "_law_judged" (defArgs st_law_judgedU) (defBody st_law_judgedU) (defScope st_law_judgedU) .none kV28 dc28 pm28 an28 cd28 ct28), sl28⟩) (q28 : PySem.W.codeIn K cd28 "_law_judged" = true) (k28 : PySem.W.keepIn K (.ref f28) = true)
    (a29 : PySem.W.nsIn K mainGlobals "_law_right" = some (some (.ref f29))) (l29 : K.lookup f29 = some ⟨oc29, od29, .func (PySem.W.fnOf "_law_right" "_law_right" (defArgs st_law_rightU) (defBody st_law_rightU) (defScope st_law_rightU) .none kV29 dc29 pm29 an29 cd29 ct29), sl29⟩) (q29 : PySem.W.codeIn K cd29 "_law_right" = true) (k29 : PySem.W.keepIn K (.ref f29) = true)
    (a30 : PySem.W.nsIn K mainGlobals "law" = some (some (.ref f30))) (l30 : K.lookup f30 = some ⟨oc30, od30, .func (PySem.W.fnOf "law" "law" (defArgs st_law) (defBody st_law) (defScope st_law) .none kV30 dc30 pm30 an30 cd30 ct30), sl30⟩) (q30 : PySem.W.codeIn K cd30 "law" = true) (k30 : PySem.W.keepIn K (.ref f30) = true)
    {t_SIGNS : Tok} (e_SIGNS : PySem.W.nsIn K mainGlobals "SIGNS" = some (some (.int 16 t_SIGNS)))
    {t_WORDS : Tok} (e_WORDS : PySem.W.nsIn K mainGlobals "WORDS" = some (some (.int 5000 t_WORDS)))
    (z_len : PySem.W.nsIn K mainGlobals "len" = some none)
    (z_range : PySem.W.nsIn K mainGlobals "range" = some none)
    (z_isinstance : PySem.W.nsIn K mainGlobals "isinstance" = some none)
    (z_abs : PySem.W.nsIn K mainGlobals "abs" = some none)
    (z_sum : PySem.W.nsIn K mainGlobals "sum" = some none)
    (z_min : PySem.W.nsIn K mainGlobals "min" = some none)
    (z_max : PySem.W.nsIn K mainGlobals "max" = some none)
    (z_all : PySem.W.nsIn K mainGlobals "all" = some none)
    (z_any : PySem.W.nsIn K mainGlobals "any" = some none)
    (z_sorted : PySem.W.nsIn K mainGlobals "sorted" = some none)
    (z_int : PySem.W.nsIn K mainGlobals "int" = some none)
    (z_str : PySem.W.nsIn K mainGlobals "str" = some none)
    (z_list : PySem.W.nsIn K mainGlobals "list" = some none)
    (z_tuple : PySem.W.nsIn K mainGlobals "tuple" = some none)
    (z_dict : PySem.W.nsIn K mainGlobals "dict" = some none)
    (z_set : PySem.W.nsIn K mainGlobals "set" = some none)
    (z_zip : PySem.W.nsIn K mainGlobals "zip" = some none)
    (z_enumerate : PySem.W.nsIn K mainGlobals "enumerate" = some none)
    (z_bool : PySem.W.nsIn K mainGlobals "bool" = some none)
    (z_type : PySem.W.nsIn K mainGlobals "type" = some none)
    (z_reversed : PySem.W.nsIn K mainGlobals "reversed" = some none)
    (z_super : PySem.W.nsIn K mainGlobals "super" = some none) :
    ∃ fd : FuncData, (∀ (s : Shared) (v : Value), BindsTo s fd ⟨[v], []⟩ [("script", v)]) ∧ ∀ base : Heap, K.In base → base.Ns mainGlobals mg → FnOk Pw w K mg base (L2.CX Pw w) 9 fa fd ["script"] (spL K 63) := by
  have e := hfa.symm.trans (PySem.W.mg_of X G a30)
  cases e
  have blt : ∀ (j : Nat) (x : Str), bls[j]? = some x → mg x = none := blt_of X G (List.forall_mem_cons.mpr ⟨z_len, (List.forall_mem_cons.mpr ⟨z_range, (List.forall_mem_cons.mpr ⟨z_isinstance, (List.forall_mem_cons.mpr ⟨z_abs, (List.forall_mem_cons.mpr ⟨z_sum, (List.forall_mem_cons.mpr ⟨z_min, (List.forall_mem_cons.mpr ⟨z_max, (List.forall_mem_cons.mpr ⟨z_all, (List.forall_mem_cons.mpr ⟨z_any, (List.forall_mem_cons.mpr ⟨z_sorted, (List.forall_mem_cons.mpr ⟨z_int, (List.forall_mem_cons.mpr ⟨z_str, (List.forall_mem_cons.mpr ⟨z_list, (List.forall_mem_cons.mpr ⟨z_tuple, (List.forall_mem_cons.mpr ⟨z_dict, (List.forall_mem_cons.mpr ⟨z_set, (List.forall_mem_cons.mpr ⟨z_zip, (List.forall_mem_cons.mpr ⟨z_enumerate, (List.forall_mem_cons.mpr ⟨z_bool, (List.forall_mem_cons.mpr ⟨z_type, (List.forall_mem_cons.mpr ⟨z_reversed, (List.forall_mem_cons.mpr ⟨z_super, (fun _ h => absurd h List.not_mem_nil)⟩)⟩)⟩)⟩)⟩)⟩)⟩)⟩)⟩)⟩)⟩)⟩)⟩)⟩)⟩)⟩)⟩)⟩)⟩)⟩)⟩)⟩)
  have c_SIGNS : ∃ t, mg "SIGNS" = some (.int 16 t) := ⟨_, PySem.W.mg_of X G e_SIGNS⟩
  have c_WORDS : ∃ t, mg "WORDS" = some (.int 5000 t) := ⟨_, PySem.W.mg_of X G e_WORDS⟩
  have F0 := fun_mk (st := st_law_cupU) l0 q0 k0
  have F1 := fun_mk (st := st_law_doubledU) l1 q1 k1
  have F2 := fun_mk (st := st_turned_at) l2 q2 k2
  have F3 := fun_mk (st := st_near_in) l3 q3 k3
  have F4 := fun_mk (st := st_touches_in) l4 q4 k4
  have F5 := fun_mk (st := st_is_tuple_of) l5 q5 k5
  have F6 := fun_mk (st := st_fits_whole) l6 q6 k6
  have F7 := fun_mk (st := st_fits_word) l7 q7 k7
  have F8 := fun_mk (st := st_unlike_in) l8 q8 k8
  have F9 := fun_mk (st := st_fits_list) l9 q9 k9
  have F10 := fun_mk (st := st_fits_snake) l10 q10 k10
  have F11 := fun_mk (st := st_is_snake) l11 q11 k11
  have F12 := fun_mk (st := st_fits_coil) l12 q12 k12
  have F13 := fun_mk (st := st_is_coil) l13 q13 k13
  have F14 := fun_mk (st := st_law_rows_rightU) l14 q14 k14
  have F15 := fun_mk (st := st_law_rollU) l15 q15 k15
  have F16 := fun_mk (st := st_law_wordU) l16 q16 k16
  have F17 := fun_mk (st := st_law_turnU) l17 q17 k17
  have F18 := fun_mk (st := st_law_barredU) l18 q18 k18
  have F19 := fun_mk (st := st_law_waysU) l19 q19 k19
  have F20 := fun_mk (st := st_law_someU) l20 q20 k20
  have F21 := fun_mk (st := st_law_snakeU) l21 q21 k21
  have F22 := fun_mk (st := st_law_listU) l22 q22 k22
  have F23 := fun_mk (st := st_law_reflectedU) l23 q23 k23
  have F24 := fun_mk (st := st_law_sameU) l24 q24 k24
  have F25 := fun_mk (st := st_law_placesU) l25 q25 k25
  have F26 := fun_mk (st := st_law_is_listU) l26 q26 k26
  have F27 := fun_mk (st := st_law_touchingU) l27 q27 k27
  have F28 := fun_mk (st := st_law_judgedU) l28 q28 k28
  have F29 := fun_mk (st := st_law_rightU) l29 q29 k29
  have F30 := fun_mk (st := st_law) l30 q30 k30
  refine ⟨PySem.W.fnOf "law" "law" (defArgs st_law) (defBody st_law) (defScope st_law) .none kV30 dc30 pm30 an30 cd30 ct30, fun s v => .of_eq rfl, fun base _ _ => ?_⟩
  have d_law_cupU := def_of (fn_law_cupU (w := w) (base := base) blt F0) (PySem.W.mg_of X G a0) k0 (F0.binds (ps := P_law_cupU) fun _ _ _ _ _ _ us hl => match us, hl with | [_], _ => rfl)
  have d_law_doubledU := def_of (fn_law_doubledU (w := w) (base := base) blt F1) (PySem.W.mg_of X G a1) k1 (F1.binds (ps := P_law_doubledU) fun _ _ _ _ _ _ us hl => match us, hl with | [_], _ => rfl)
  have d_turned_at := def_of (fn_turned_at (w := w) (base := base) blt F2) (PySem.W.mg_of X G a2) k2 (F2.binds (ps := P_turned_at) fun _ _ _ _ _ _ us hl => match us, hl with | [_, _], _ => rfl)
  have d_near_in := def_of (fn_near_in (w := w) (base := base) blt d_turned_at F3) (PySem.W.mg_of X G a3) k3 (F3.binds (ps := P_near_in) fun _ _ _ _ _ _ us hl => match us, hl with | [_], _ => rfl)
  have d_touches_in := def_of (fn_touches_in (w := w) (base := base) blt d_near_in F4) (PySem.W.mg_of X G a4) k4 (F4.binds (ps := P_touches_in) fun _ _ _ _ _ _ us hl => match us, hl with | [_], _ => rfl)
  have d_is_tuple_of := def_of (fn_is_tuple_of (w := w) (base := base) blt F5) (PySem.W.mg_of X G a5) k5 (F5.binds (ps := P_is_tuple_of) fun _ _ _ _ _ _ us hl => match us, hl with | [_, _, _], _ => rfl)
  have d_fits_whole := def_of (fn_fits_whole (w := w) (base := base) blt F6) (PySem.W.mg_of X G a6) k6 (F6.binds (ps := P_fits_whole) fun _ _ _ _ _ _ us hl => match us, hl with | [_, _, _], _ => rfl)
  have d_fits_word := def_of (fn_fits_word (w := w) (base := base) blt c_SIGNS d_is_tuple_of d_fits_whole F7) (PySem.W.mg_of X G a7) k7 (F7.binds (ps := P_fits_word) fun _ _ _ _ _ _ us hl => match us, hl with | [_], _ => rfl)
  have d_unlike_in := def_of (fn_unlike_in (w := w) (base := base) blt F8) (PySem.W.mg_of X G a8) k8 (F8.binds (ps := P_unlike_in) fun _ _ _ _ _ _ us hl => match us, hl with | [_, _], _ => rfl)
  have d_fits_list := def_of (fn_fits_list (w := w) (base := base) blt c_WORDS d_is_tuple_of d_fits_word d_unlike_in F9) (PySem.W.mg_of X G a9) k9 (F9.binds (ps := P_fits_list) fun _ _ _ _ _ _ us hl => match us, hl with | [_], _ => rfl)
  have d_fits_snake := def_of (fn_fits_snake (w := w) (base := base) blt d_touches_in d_fits_list F10) (PySem.W.mg_of X G a10) k10 (F10.binds (ps := P_fits_snake) fun _ _ _ _ _ _ us hl => match us, hl with | [_], _ => rfl)
  have d_is_snake := def_of (fn_is_snake (w := w) (base := base) blt d_fits_snake F11) (PySem.W.mg_of X G a11) k11 (F11.binds (ps := P_is_snake) fun _ _ _ _ _ _ us hl => match us, hl with | [_], _ => rfl)
  have d_fits_coil := def_of (fn_fits_coil (w := w) (base := base) blt d_touches_in d_fits_list d_unlike_in F12) (PySem.W.mg_of X G a12) k12 (F12.binds (ps := P_fits_coil) fun _ _ _ _ _ _ us hl => match us, hl with | [_], _ => rfl)
  have d_is_coil := def_of (fn_is_coil (w := w) (base := base) blt d_fits_coil F13) (PySem.W.mg_of X G a13) k13 (F13.binds (ps := P_is_coil) fun _ _ _ _ _ _ us hl => match us, hl with | [_], _ => rfl)
  have d_law_rows_rightU := def_of (fn_law_rows_rightU (w := w) (base := base) blt d_is_snake d_is_coil F14) (PySem.W.mg_of X G a14) k14 (F14.binds (ps := P_law_rows_rightU) fun _ _ _ _ _ _ us hl => match us, hl with | [], _ => rfl)
  have d_law_rollU := def_of (fn_law_rollU (w := w) (base := base) blt F15) (PySem.W.mg_of X G a15) k15 (F15.binds (ps := P_law_rollU) fun _ _ _ _ _ _ us hl => match us, hl with | [_, _], _ => rfl)
  have d_law_wordU := def_of (fn_law_wordU (w := w) (base := base) blt d_law_rollU F16) (PySem.W.mg_of X G a16) k16 (F16.binds (ps := P_law_wordU) fun _ _ _ _ _ _ us hl => match us, hl with | [_, _], _ => rfl)
  have d_law_turnU := def_of (fn_law_turnU (w := w) (base := base) blt F17) (PySem.W.mg_of X G a17) k17 (F17.binds (ps := P_law_turnU) fun _ _ _ _ _ _ us hl => match us, hl with | [_, _], _ => rfl)
  have d_law_barredU := def_of (fn_law_barredU (w := w) (base := base) blt d_law_turnU F18) (PySem.W.mg_of X G a18) k18 (F18.binds (ps := P_law_barredU) fun _ _ _ _ _ _ us hl => match us, hl with | [_], _ => rfl)
  have d_law_waysU := def_of (fn_law_waysU (w := w) (base := base) blt d_law_barredU d_law_turnU F19) (PySem.W.mg_of X G a19) k19 (F19.binds (ps := P_law_waysU) fun _ _ _ _ _ _ us hl => match us, hl with | [_], _ => rfl)
  have d_law_someU := def_of (fn_law_someU (w := w) (base := base) blt d_law_rollU F20) (PySem.W.mg_of X G a20) k20 (F20.binds (ps := P_law_someU) fun _ _ _ _ _ _ us hl => match us, hl with | [_, _], _ => rfl)
  have d_law_snakeU := def_of (fn_law_snakeU (w := w) (base := base) blt d_law_wordU d_law_rollU d_law_waysU d_law_turnU d_law_someU F21) (PySem.W.mg_of X G a21) k21 (F21.binds (ps := P_law_snakeU) fun _ _ _ _ _ _ us hl => match us, hl with | [_, _, _], _ => rfl)
  have d_law_listU := def_of (fn_law_listU (w := w) (base := base) blt d_law_wordU d_law_rollU d_law_turnU F22) (PySem.W.mg_of X G a22) k22 (F22.binds (ps := P_law_listU) fun _ _ _ _ _ _ us hl => match us, hl with | [_, _, _], _ => rfl)
  have d_law_reflectedU := def_of (fn_law_reflectedU (w := w) (base := base) blt F23) (PySem.W.mg_of X G a23) k23 (F23.binds (ps := P_law_reflectedU) fun _ _ _ _ _ _ us hl => match us, hl with | [_], _ => rfl)
  have d_law_sameU := fn_law_sameU (w := w) (base := base) blt F24 (PySem.W.mg_of X G a24) 6
  have d_law_placesU := def_of (fn_law_placesU (w := w) (base := base) blt F25) (PySem.W.mg_of X G a25) k25 (F25.binds (ps := P_law_placesU) fun _ _ _ _ _ _ us hl => match us, hl with | [_, _], _ => rfl)
  have d_law_is_listU := def_of (fn_law_is_listU (w := w) (base := base) blt d_law_placesU F26) (PySem.W.mg_of X G a26) k26 (F26.binds (ps := P_law_is_listU) fun _ _ _ _ _ _ us hl => match us, hl with | [_], _ => rfl)
  have d_law_touchingU := def_of (fn_law_touchingU (w := w) (base := base) blt d_law_placesU F27) (PySem.W.mg_of X G a27) k27 (F27.binds (ps := P_law_touchingU) fun _ _ _ _ _ _ us hl => match us, hl with | [_], _ => rfl)
  have d_law_judgedU := def_of (fn_law_judgedU (w := w) (base := base) blt d_law_is_listU d_law_touchingU F28) (PySem.W.mg_of X G a28) k28 (F28.binds (ps := P_law_judgedU) fun _ _ _ _ _ _ us hl => match us, hl with | [_], _ => rfl)
  have d_law_rightU := def_of (fn_law_rightU (w := w) (base := base) blt d_law_sameU d_law_judgedU d_is_snake d_is_coil F29) (PySem.W.mg_of X G a29) k29 (F29.binds (ps := P_law_rightU) fun _ _ _ _ _ _ us hl => match us, hl with | [_], _ => rfl)
  exact law_fn (fn_law (base := base) blt d_law_cupU d_law_doubledU d_law_rows_rightU d_law_wordU d_law_rollU d_law_snakeU d_law_listU d_law_someU d_law_turnU d_law_reflectedU d_law_rightU d_is_snake d_law_placesU F30) hlaw
end
end Sg

namespace Sg
open PySem PySem.Spec PyProof.Rows L2
theorem ok_law_rollU (n : Int) (h : nOk n) : OkW m_law_rollU [.v (.int n)] eI (WRoll n) :=
  okRoll (k1 := 33489) (k2 := 8263) (p1 := 2147483423) (k3 := 521) (p2 := 2147483587) (k4 := 1053) (by decide) (by decide) (by decide) (by decide) h
theorem ok_law_someL {α : Type} {e : α → D} (xs : List α) (h : sOk xs.length) : OkW m_law_someU [.v (eL e xs)] e (fun Q => ∀ x ∈ xs, Q x) :=
  okSomeG (fun n h => ok_law_rollU n h) h _ (.inl rfl)
theorem ok_law_someT {α : Type} {e : α → D} (xs : List α) (h : sOk xs.length) : OkW m_law_someU [.v (eT e xs)] e (fun Q => ∀ x ∈ xs, Q x) :=
  okSomeG (fun n h => ok_law_rollU n h) h _ (.inr rfl)
theorem ok_law_cupU (ns : List Int) (hl : ns.length ≤ 63) : ∃ c, CupP c ∧ m_law_cupU [.v (.scr (ns.map D.int))] [] = .ok (.ref 0) (St c []) :=
  cupW (d := 227) (k1 := 751) (k2 := 7411) (p := 2077501591) (c := 391) (by decide) (by decide) (by decide) (by decide) ns hl
theorem mSame_eq : m_law_sameU = mSame := by
  funext n
  induction n with
  | zero => rfl
  | succ n ih => show wrap false 3 (b_law_sameU (m_law_sameU n)) = wrap false 3 (bSame (mSame n)); rw [ih]; rfl
theorem law_same_ok {a b : D} (h : sameP a b) (S : Sto) : m_law_sameU 6 [.v a, .v b] S = .ok (.v (.bl true)) S := by rw [mSame_eq]; exact same_ok h S
/-! _law_doubled -/
def v_law_doubledU_L1  (found_1 : ((List (List Int)))) (p : ((List Int) × (List Int))) : ((List (List Int))) :=
  lt ((found_1 ++ [(p.2 ++ p.1), (p.2 ++ p.2)]) : (List (List Int))) fun found_2 => found_2
def C_law_doubledU_L1  (found_1 : ((List (List Int)))) (p : ((List Int) × (List Int))) : Prop :=
  szOk (p.2.length + p.1.length) ∧ szOk (p.2.length + p.2.length) ∧ szOk (found_1.length + [(p.2 ++ p.1), (p.2 ++ p.2)].length)
def v_law_doubledU (words : (List (List Int))) : (List (List Int)) :=
  lt ([((pix words 0) ++ (pix words 0))] : (List (List Int))) fun found => lt (((words.zip (cut words (some 1) none)).foldl v_law_doubledU_L1 found) : ((List (List Int)))) fun found_3 => found_3
def C_law_doubledU (words : (List (List Int))) : Prop :=
  inb words.length 0 ∧ szOk ((pix words 0).length + (pix words 0).length) ∧ lt ([((pix words 0) ++ (pix words 0))] : (List (List Int))) fun found => forP v_law_doubledU_L1 C_law_doubledU_L1 (words.zip (cut words (some 1) none)) found
theorem ok_law_doubledU (words : (List (List Int))) (h : C_law_doubledU words) (S : Sto) : m_law_doubledU [.v ((eT (eT eI)) words)] S = .ok (.v ((eT (eT eI)) (v_law_doubledU words))) S := by
  unfold C_law_doubledU at h; exact wrap_ok [(eT (eT eI)) words] 3 (eT (eT eI)) rfl (show TS S [.va ((eT (eT eI)) words), .un, .un, .un] b_law_doubledU (fun r => Oc.rt ((eT (eT eI)) r)) (v_law_doubledU words) from by unfold b_law_doubledU v_law_doubledU; exact (ts_set  (fun x : (List (List Int)) => AK.v ((eL (eT eI)) x)) (px_v (pv_as ((eL (eT eI)) [((pix words 0) ++ (pix words 0))]) (pv_lst (pvs_cons (pv_bin (pv_r (pv_bin (pv_r (pv_at .z)) (pv_r pv_c) (sb_ixT (e := (eT eI)) (xs := words) h.1))) (pv_r (pv_bin (pv_r (pv_at .z)) (pv_r pv_c) (sb_ixT (e := (eT eI)) (xs := words) h.1))) (sb_catT (e := eI) (xs := (pix words 0)) (ys := (pix words 0)) h.2.1)) pvs_nil) (Nat.le_of_ble_eq_true rfl)))) (fun found h1 => (ts_m [.va ((eT (eT eI)) words), .va ((eL (eT eI)) found), .un, .un] rfl (ts_join (Pk := fun _ => True) (mOf := (fun found_3 : ((List (List Int))) => [.va ((eT (eT eI)) words), .va ((eL (eT eI)) found_3), .un, .un])) (ts_for (m2 := fun found_1 p => [.va ((eT (eT eI)) words), .va ((eL (eT eI)) found_1), .va ((eT eI) p.1), .va ((eT eI) p.2)]) (c := (eP (eT eI) (eT eI))) (mOf := (fun found_1 : ((List (List Int))) => [.va ((eT (eT eI)) words), .va ((eL (eT eI)) found_1), .un, .un])) (l := (words.zip (cut words (some 1) none))) (s0 := found) (body := v_law_doubledU_L1) (P := C_law_doubledU_L1) (pxi_v (pi_zip (e := (eT eI)) (xs := words) (e' := (eT eI)) (ys := (cut words (some 1) none)) (pv_at .z) (pv_slT (pv_at .z) (po_some pv_c) po_none) (.tup _) (.tup _))) (.kp (.kp (.un (.un .nil)))) (fun found_1 p m3 h2 => by unfold v_law_doubledU_L1; unfold C_law_doubledU_L1 at h2; exact ⟨(gt_tp (gts_cons gt_nm (gts_cons gt_nm gts_nil))), (ts_last (ts_set (Pk := fun _ => True) (fun x : (List (List Int)) => AK.v ((eL (eT eI)) x)) (px_v (pv_bin (pv_r (pv_at (.s .z))) (pv_r (pv_as ((eL (eT eI)) [(p.2 ++ p.1), (p.2 ++ p.2)]) (pv_lst (pvs_cons (pv_bin (pv_r (pv_at (.s (.s (.s .z))))) (pv_r (pv_at (.s (.s .z)))) (sb_catT (e := eI) (xs := p.2) (ys := p.1) h2.1)) (pvs_cons (pv_bin (pv_r (pv_at (.s (.s (.s .z))))) (pv_r (pv_at (.s (.s (.s .z))))) (sb_catT (e := eI) (xs := p.2) (ys := p.2) h2.2.1)) pvs_nil)) (Nat.le_of_ble_eq_true rfl)))) (sb_catL (e := (eT eI)) (xs := found_1) (ys := [(p.2 ++ p.1), (p.2 ++ p.2)]) h2.2.2))) (fun found_2 h4 => (ts_m [.va ((eT (eT eI)) words), .va ((eL (eT eI)) found_2), .va ((eT eI) p.1), .va ((eT eI) p.2)] rfl (ts_lp (.kp (.kp (.un (.un .nil))))))) trivial))⟩) h1) (fun found_3 h5 => (ts_last (ts_retd (px_v (pv_call (pc_cons (pv_r (pv_at (.s .z))) pc_nil) (sc_tupL (e := (eT eI)) (xs := found_3))))))) trivial))) h.2.2))
/-! turned_at -/
def v_turned_at (word : (List Int)) (place : Int) : (List Int) :=
  (((cut word none (some (place - 1))) ++ [(1 - (pix word (place - 1)))]) ++ (cut word (some place) none))
def C_turned_at (word : (List Int)) (place : Int) : Prop :=
  inb word.length (place - 1) ∧ szOk ((cut word none (some (place - 1))).length + [(1 - (pix word (place - 1)))].length) ∧ szOk (((cut word none (some (place - 1))) ++ [(1 - (pix word (place - 1)))]).length + (cut word (some place) none).length)
theorem ok_turned_at (word : (List Int)) (place : Int) (h : C_turned_at word place) (S : Sto) : m_turned_at [.v ((eT eI) word), .v (eI place)] S = .ok (.v ((eT eI) (v_turned_at word place))) S := by
  unfold C_turned_at at h; exact wrap_ok [(eT eI) word, eI place] 0 (eT eI) rfl (show TS S [.va ((eT eI) word), .va (eI place)] b_turned_at (fun r => Oc.rt ((eT eI) r)) (v_turned_at word place) from by unfold b_turned_at v_turned_at; exact (ts_last (ts_retd (px_v (pv_bin (pv_r (pv_bin (pv_r (pv_slT (pv_at .z) po_none (po_some (pv_bin (pv_r (pv_at (.s .z))) (pv_r pv_c) sb_sub)))) (pv_r (pv_as ((eT eI) [(1 - (pix word (place - 1)))]) (pv_tup (pvs_cons (pv_bin (pv_r pv_c) (pv_r (pv_bin (pv_r (pv_at .z)) (pv_r (pv_bin (pv_r (pv_at (.s .z))) (pv_r pv_c) sb_sub)) (sb_ixT (e := eI) (xs := word) h.1))) sb_sub) pvs_nil) (Nat.le_of_ble_eq_true rfl)))) (sb_catT (e := eI) (xs := (cut word none (some (place - 1)))) (ys := [(1 - (pix word (place - 1)))]) h.2.1))) (pv_r (pv_slT (pv_at .z) (po_some (pv_at (.s .z))) po_none)) (sb_catT (e := eI) (xs := ((cut word none (some (place - 1))) ++ [(1 - (pix word (place - 1)))])) (ys := (cut word (some place) none)) h.2.2))))))
/-! near_in -/
def v_near_in (word : (List Int)) : (List (List Int)) :=
  ((rng 1 ((word.length : Int) + 1)).map fun (place : Int) => (v_turned_at word place))
def C_near_in (word : (List Int)) : Prop :=
  cR 1 ((word.length : Int) + 1) ∧ ∀ place ∈ (rng 1 ((word.length : Int) + 1)), C_turned_at word place
theorem ok_near_in (word : (List Int)) (h : C_near_in word) (S : Sto) : m_near_in [.v ((eT eI) word)] S = .ok (.v ((eL (eT eI)) (v_near_in word))) S := by
  unfold C_near_in at h; exact wrap_ok [(eT eI) word] 1 (eL (eT eI)) rfl (show TS S [.va ((eT eI) word), .un] b_near_in (fun r => Oc.rt ((eL (eT eI)) r)) (v_near_in word) from by unfold b_near_in v_near_in; exact (ts_last (ts_retd (px_v (pv_lcy (m1 := fun place => [.va ((eT eI) word), .va (eI place)]) (c := eI) (e := (eT eI)) (l := (rng 1 ((word.length : Int) + 1))) (k := fun (place : Int) => (v_turned_at word place)) (pi_rng2 pv_c (pv_bin (pv_r (pv_call (pc_cons (pv_r (pv_at .z)) pc_nil) (sc_lenT (e := eI) (xs := word)))) (pv_r pv_c) sb_add) h.1.a h.1.b) h.1.sz (fun place m2 => ⟨gt_nm, (pv_own (pvs_cons (pv_at .z) (pvs_cons (pv_at (.s .z)) pvs_nil)) rfl (ok_turned_at word place (h.2 place m2)))⟩))))))
/-! touches_in -/
def v_touches_in_L1 (table : (List ((List Int) × Int))) (found_1 : ((List (Int × Int)))) (p_1 : (Int × (List Int))) : ((List (Int × Int))) :=
  lt ((found_1 ++ (((v_near_in p_1.2).filter fun (other : (List Int)) => decide (((dget table other).getD (-1)) > p_1.1)).map fun (other : (List Int)) => (p_1.1, ((dget table other).getD default)))) : (List (Int × Int))) fun found_2 => found_2
def C_touches_in_L1 (table : (List ((List Int) × Int))) (found_1 : ((List (Int × Int)))) (p_1 : (Int × (List Int))) : Prop :=
  C_near_in p_1.2 ∧ szOk (v_near_in p_1.2).length ∧ (∀ other ∈ (v_near_in p_1.2), ((((dget table other).getD (-1)) > p_1.1) → (dget table other).isSome = true)) ∧ szOk (found_1.length + (((v_near_in p_1.2).filter fun (other : (List Int)) => decide (((dget table other).getD (-1)) > p_1.1)).map fun (other : (List Int)) => (p_1.1, ((dget table other).getD default))).length)
def v_touches_in (words : (List (List Int))) : (Option (List (Int × Int))) :=
  lt ((dmany [] ((numbr 0 words).map fun (p : (Int × (List Int))) => (p.2, p.1))) : (List ((List Int) × Int))) fun table => if (table.length : Int) < (words.length : Int) then (none : (Option (List (Int × Int)))) else lt (([] : List (Int × Int)) : (List (Int × Int))) fun found => lt (((numbr 0 words).foldl (v_touches_in_L1 table) found) : ((List (Int × Int)))) fun found_3 => (some found_3)
def C_touches_in (words : (List (List Int))) : Prop :=
  szOk words.length ∧ (lt ((dmany [] ((numbr 0 words).map fun (p : (Int × (List Int))) => (p.2, p.1))) : (List ((List Int) × Int))) fun table => (¬((table.length : Int) < (words.length : Int)) → lt (([] : List (Int × Int)) : (List (Int × Int))) fun found => forP (v_touches_in_L1 table) (C_touches_in_L1 table) (numbr 0 words) found))
theorem ok_touches_in (words : (List (List Int))) (h : C_touches_in words) (S : Sto) : m_touches_in [.v ((eT (eT eI)) words)] S = .ok (.v ((eO (eL (eP eI eI))) (v_touches_in words))) S := by
  unfold C_touches_in at h; exact wrap_ok [(eT (eT eI)) words] 5 (eO (eL (eP eI eI))) rfl (show TS S [.va ((eT (eT eI)) words), .un, .un, .un, .un, .un] b_touches_in (fun r => Oc.rt ((eO (eL (eP eI eI))) r)) (v_touches_in words) from by unfold b_touches_in v_touches_in; exact (ts_set  (fun x : (List ((List Int) × Int)) => AK.v ((eD (eT eI) eI) x)) (px_v (pv_call (pc_cons (pv_r (pv_lcy (m1 := fun p => [.va ((eT (eT eI)) words), .un, .un, .va (eI p.1), .va ((eT eI) p.2), .un]) (c := (eP eI (eT eI))) (e := (eP (eT eI) eI)) (l := (numbr 0 words)) (k := fun (p : (Int × (List Int))) => (p.2, p.1)) (pi_enum (e := (eT eI)) (xs := words) (pv_at .z) (.tup _)) (sz_numbr h.1) (fun p m2 => ⟨(gt_tp (gts_cons gt_nm (gts_cons gt_nm gts_nil))), (pv_as ((eP (eT eI) eI) (p.2, p.1)) (pv_tup (pvs_cons (pv_at (.s (.s (.s (.s .z))))) (pvs_cons (pv_at (.s (.s (.s .z)))) pvs_nil)) (Nat.le_of_ble_eq_true rfl)))⟩))) pc_nil) (sc_dict (ek := (eT eI)) (ev := eI) (ps := ((numbr 0 words).map fun (p : (Int × (List Int))) => (p.2, p.1))) (qT qI) (kT (nT nI) (by decide))))) (fun table h3 => (ts_m [.va ((eT (eT eI)) words), .va ((eD (eT eI) eI) table), .un, .un, .un, .un] rfl (ts_if (pb_bin (pv_r (pv_call (pc_cons (pv_r (pv_at (.s .z))) pc_nil) (sc_lenD (ek := (eT eI)) (ev := eI) (kvs := table)))) (pv_r (pv_call (pc_cons (pv_r (pv_at .z)) pc_nil) (sc_lenT (e := (eT eI)) (xs := words)))) sb_ltXI) (fun h4 => (ts_retd (px_v pv_c))) (fun h5 => (ts_nxl (ts_set  (fun x : (List (Int × Int)) => AK.l (x.map (eP eI eI))) (px_n (pn_lst pvs_nil (Nat.le_of_ble_eq_true rfl))) (fun found h6 => (ts_m [.va ((eT (eT eI)) words), .va ((eD (eT eI) eI) table), .mu (.lst (found.map (eP eI eI))), .un, .un, .un] rfl (ts_join (Pk := fun _ => True) (mOf := (fun found_3 : ((List (Int × Int))) => [.va ((eT (eT eI)) words), .va ((eD (eT eI) eI) table), .mu (.lst (found_3.map (eP eI eI))), .un, .un, .un])) (ts_for (m2 := fun found_1 p_1 => [.va ((eT (eT eI)) words), .va ((eD (eT eI) eI) table), .mu (.lst (found_1.map (eP eI eI))), .va (eI p_1.1), .va ((eT eI) p_1.2), .un]) (c := (eP eI (eT eI))) (mOf := (fun found_1 : ((List (Int × Int))) => [.va ((eT (eT eI)) words), .va ((eD (eT eI) eI) table), .mu (.lst (found_1.map (eP eI eI))), .un, .un, .un])) (l := (numbr 0 words)) (s0 := found) (body := (v_touches_in_L1 table)) (P := (C_touches_in_L1 table)) (pxi_v (pi_enum (e := (eT eI)) (xs := words) (pv_at .z) (.tup _))) (.kp (.kp (.kp (.un (.un (.un .nil)))))) (fun found_1 p_1 m8 h7 => by unfold v_touches_in_L1; unfold C_touches_in_L1 at h7; exact ⟨(gt_tp (gts_cons gt_nm (gts_cons gt_nm gts_nil))), (ts_last (ts_augl (Pk := fun _ => True) (e := (eP eI eI)) (xs := found_1) (ys := (((v_near_in p_1.2).filter fun (other : (List Int)) => decide (((dget table other).getD (-1)) > p_1.1)).map fun (other : (List Int)) => (p_1.1, ((dget table other).getD default)))) (px_lct (m2 := fun other => [.va ((eT (eT eI)) words), .va ((eD (eT eI) eI) table), .mu (.lst (found_1.map (eP eI eI))), .va (eI p_1.1), .va ((eT eI) p_1.2), .va ((eT eI) other)]) (c := (eT eI)) (e := (eP eI eI)) (l := (v_near_in p_1.2)) (p := fun (other : (List Int)) => ((dget table other).getD (-1)) > p_1.1) (k := fun (other : (List Int)) => (p_1.1, ((dget table other).getD default))) (pxi_v (pi_L (e := (eT eI)) (xs := (v_near_in p_1.2)) (pv_own (pvs_cons (pv_at (.s (.s (.s (.s .z))))) pvs_nil) rfl (ok_near_in p_1.2 h7.1)))) h7.2.1 (fun other m10 => ⟨gt_nm, (pb_bin (pv_r (pv_dget2 (ek := (eT eI)) (ev := eI) (kvs := table) (k := other) (qT qI) (kT (nT nI) (by decide)) (z := (-1)) (pv_r (pv_at (.s .z))) (pv_at (.s (.s (.s (.s (.s .z)))))) (pv_un (pv_r pv_c) su_neg))) (pv_r (pv_at (.s (.s (.s .z))))) sb_gt), fun h11 => (pv_as ((eP eI eI) (p_1.1, ((dget table other).getD default))) (pv_tup (pvs_cons (pv_at (.s (.s (.s .z)))) (pvs_cons (pv_bin (pv_r (pv_at (.s .z))) (pv_r (pv_at (.s (.s (.s (.s (.s .z))))))) (sb_ixD (ek := (eT eI)) (ev := eI) (kvs := table) (k := other) (qT qI) (kT (nT nI) (by decide)) ((h7.2.2.1 other m10) h11))) pvs_nil)) (Nat.le_of_ble_eq_true rfl)))⟩)) rfl rfl h7.2.2.2 (fun found_2 h12 => (ts_m [.va ((eT (eT eI)) words), .va ((eD (eT eI) eI) table), .mu (.lst (found_2.map (eP eI eI))), .va (eI p_1.1), .va ((eT eI) p_1.2), .un] rfl (ts_lp (.kp (.kp (.kp (.un (.un (.un .nil))))))))) trivial))⟩) h6) (fun found_3 h13 => (ts_last (ts_retM rfl))) trivial))) (h3 h5))))))) h.2))
/-! fits_word -/
def v_fits_word (value : D) : Bool :=
  ((tof value 1 16) && (((dIt value).map fun (sign : D) => (fw sign 0 1)).all id))
def C_fits_word (value : D) : Prop :=
  (tyD value).isSome = true ∧ ((tof value 1 16) = true → isSq value = true ∧ szOk (dIt value).length ∧ ∀ sign ∈ (dIt value), (tyD sign).isSome = true)
theorem ok_fits_word (value : D) (h : C_fits_word value) (S : Sto) : m_fits_word [.v (eA value)] S = .ok (.v (eB (v_fits_word value))) S := by
  unfold C_fits_word at h; exact wrap_ok [eA value] 1 eB rfl (show TS S [.va (eA value), .un] b_fits_word (fun r => Oc.rt (eB r)) (v_fits_word value) from by unfold b_fits_word v_fits_word; exact (ts_last (ts_retd (px_v (pv_and (pv_own (pvs_cons (pv_at .z) (pvs_cons pv_c (pvs_cons pv_c pvs_nil))) rfl (tof_ok (v := value) h.1)) (fun h1 => (pv_call (pc_cons (pv_r (pv_lcy (m1 := fun sign => [.va (eA value), .va (eA sign)]) (c := eA) (e := eB) (l := (dIt value)) (k := fun (sign : D) => (fw sign 0 1)) (pi_A (pv_at .z) (h.2 h1).1) (h.2 h1).2.1 (fun sign m3 => ⟨gt_nm, (pv_own (pvs_cons (pv_at (.s .z)) (pvs_cons pv_c (pvs_cons pv_c pvs_nil))) rfl (fw_ok (v := sign) ((h.2 h1).2.2 sign m3)))⟩))) pc_nil) (sc_all (bs := ((dIt value).map fun (sign : D) => (fw sign 0 1)))))))))))
/-! unlike_in -/
def v_unlike_in (one : (List Int)) (other : (List Int)) : (List Int) :=
  (((rng 0 (one.length : Int)).filter fun (at' : Int) => decide ((pix one at') ≠ (pix other at'))).map fun (at' : Int) => (at' + 1))
def C_unlike_in (one : (List Int)) (other : (List Int)) : Prop :=
  cR 0 (one.length : Int) ∧ ∀ at' ∈ (rng 0 (one.length : Int)), inb one.length at' ∧ inb other.length at'
theorem ok_unlike_in (one : (List Int)) (other : (List Int)) (h : C_unlike_in one other) (S : Sto) : m_unlike_in [.v ((eT eI) one), .v ((eT eI) other)] S = .ok (.v ((eL eI) (v_unlike_in one other))) S := by
  unfold C_unlike_in at h; exact wrap_ok [(eT eI) one, (eT eI) other] 1 (eL eI) rfl (show TS S [.va ((eT eI) one), .va ((eT eI) other), .un] b_unlike_in (fun r => Oc.rt ((eL eI) r)) (v_unlike_in one other) from by unfold b_unlike_in v_unlike_in; exact (ts_last (ts_retd (px_v (pv_lc (m1 := fun at' => [.va ((eT eI) one), .va ((eT eI) other), .va (eI at')]) (c := eI) (e := eI) (l := (rng 0 (one.length : Int))) (p := fun (at' : Int) => (pix one at') ≠ (pix other at')) (k := fun (at' : Int) => (at' + 1)) (pi_rng1 (pv_call (pc_cons (pv_r (pv_at .z)) pc_nil) (sc_lenT (e := eI) (xs := one))) h.1.b) h.1.sz (fun at' m2 => ⟨gt_nm, (pb_bin (pv_r (pv_bin (pv_r (pv_at .z)) (pv_r (pv_at (.s (.s .z)))) (sb_ixT (e := eI) (xs := one) (h.2 at' m2).1))) (pv_r (pv_bin (pv_r (pv_at (.s .z))) (pv_r (pv_at (.s (.s .z)))) (sb_ixT (e := eI) (xs := other) (h.2 at' m2).2))) (sb_ne (a := (pix one at')) (b := (pix other at')) qI (by decide))), fun h3 => (pv_bin (pv_r (pv_at (.s (.s .z)))) (pv_r pv_c) sb_add)⟩))))))
/-! fits_list -/
def v_fits_list (value : D) : Bool :=
  if (¬((tof value 1 5000) = true)) ∨ (¬((((dIt value).map fun (word : D) => (v_fits_word word)).all id) = true)) then false else if ¬((((dIt value).map fun (word_1 : D) => (decide (((dIt word_1).length : Int) = ((dIt (pix (dIt value) 0)).length : Int)))).all id) = true) then false else (((((asT (asT asI)) value).zip (cut ((asT (asT asI)) value) (some 1) none)).map fun (p : ((List Int) × (List Int))) => (decide (((v_unlike_in p.1 p.2).length : Int) = 1))).all id)
def C_fits_list (value : D) : Prop :=
  (tyD value).isSome = true ∧ (¬(¬((tof value 1 5000) = true)) → isSq value = true ∧ szOk (dIt value).length ∧ ∀ word ∈ (dIt value), C_fits_word word) ∧ (¬((¬((tof value 1 5000) = true)) ∨ (¬((((dIt value).map fun (word : D) => (v_fits_word word)).all id) = true))) → isSq value = true ∧ szOk (dIt value).length ∧ (∀ word_1 ∈ (dIt value), isSq word_1 = true ∧ inb (dIt value).length 0 ∧ isSq (pix (dIt value) 0) = true) ∧ (¬(¬((((dIt value).map fun (word_1 : D) => (decide (((dIt word_1).length : Int) = ((dIt (pix (dIt value) 0)).length : Int)))).all id) = true)) → value = (eT (eT eI)) ((asT (asT asI)) value) ∧ szOk ((asT (asT asI)) value).length ∧ ∀ p ∈ (((asT (asT asI)) value).zip (cut ((asT (asT asI)) value) (some 1) none)), C_unlike_in p.1 p.2))
theorem ok_fits_list (value : D) (h : C_fits_list value) (S : Sto) : m_fits_list [.v (eA value)] S = .ok (.v (eB (v_fits_list value))) S := by
  unfold C_fits_list at h; exact wrap_ok [eA value] 3 eB rfl (show TS S [.va (eA value), .un, .un, .un] b_fits_list (fun r => Oc.rt (eB r)) (v_fits_list value) from by unfold b_fits_list v_fits_list; exact (ts_if (pb_or (pb_not (pb_tru (pv_own (pvs_cons (pv_at .z) (pvs_cons pv_c (pvs_cons pv_c pvs_nil))) rfl (tof_ok (v := value) h.1)))) (fun h1 => (pb_not (pb_tru (pv_call (pc_cons (pv_r (pv_lcy (m1 := fun word => [.va (eA value), .un, .un, .va (eA word)]) (c := eA) (e := eB) (l := (dIt value)) (k := fun (word : D) => (v_fits_word word)) (pi_A (pv_at .z) (h.2.1 h1).1) (h.2.1 h1).2.1 (fun word m3 => ⟨gt_nm, (pv_own (pvs_cons (pv_at (.s (.s (.s .z)))) pvs_nil) rfl (ok_fits_word word ((h.2.1 h1).2.2 word m3)))⟩))) pc_nil) (sc_all (bs := ((dIt value).map fun (word : D) => (v_fits_word word))))))))) (fun h4 => (ts_retd (px_v pv_c))) (fun h5 => (ts_nxl (ts_if (pb_not (pb_tru (pv_call (pc_cons (pv_r (pv_lcy (m1 := fun word_1 => [.va (eA value), .un, .un, .va (eA word_1)]) (c := eA) (e := eB) (l := (dIt value)) (k := fun (word_1 : D) => (decide (((dIt word_1).length : Int) = ((dIt (pix (dIt value) 0)).length : Int)))) (pi_A (pv_at .z) (h.2.2 h5).1) (h.2.2 h5).2.1 (fun word_1 m7 => ⟨gt_nm, (pv_bin (pv_r (pv_call (pc_cons (pv_r (pv_at (.s (.s (.s .z))))) pc_nil) (sc_lenA ((h.2.2 h5).2.2.1 word_1 m7).1))) (pv_r (pv_call (pc_cons (pv_r (pv_bin (pv_r (pv_at .z)) (pv_r pv_c) (sb_ixA (h.2.2 h5).1 ((h.2.2 h5).2.2.1 word_1 m7).2.1))) pc_nil) (sc_lenA ((h.2.2 h5).2.2.1 word_1 m7).2.2))) (sb_eq (a := ((dIt word_1).length : Int)) (b := ((dIt (pix (dIt value) 0)).length : Int)) qI (by decide)))⟩))) pc_nil) (sc_all (bs := ((dIt value).map fun (word_1 : D) => (decide (((dIt word_1).length : Int) = ((dIt (pix (dIt value) 0)).length : Int))))))))) (fun h8 => (ts_retd (px_v pv_c))) (fun h9 => (ts_nxl (ts_last (ts_retd (px_v (pv_call (pc_cons (pv_r (pv_lcy (m1 := fun p => [.va (eA value), .va ((eT eI) p.1), .va ((eT eI) p.2), .un]) (c := (eP (eT eI) (eT eI))) (e := eB) (l := (((asT (asT asI)) value).zip (cut ((asT (asT asI)) value) (some 1) none))) (k := fun (p : ((List Int) × (List Int))) => (decide (((v_unlike_in p.1 p.2).length : Int) = 1))) (pi_zip (e := (eT eI)) (xs := ((asT (asT asI)) value)) (e' := (eT eI)) (ys := (cut ((asT (asT asI)) value) (some 1) none)) (pv_cast ((h.2.2 h5).2.2.2 h9).1 (pv_at .z)) (pv_slT (pv_cast ((h.2.2 h5).2.2.2 h9).1 (pv_at .z)) (po_some pv_c) po_none) (.tup _) (.tup _)) (sz_zip ((h.2.2 h5).2.2.2 h9).2.1) (fun p m11 => ⟨(gt_tp (gts_cons gt_nm (gts_cons gt_nm gts_nil))), (pv_bin (pv_r (pv_call (pc_cons (pv_r (pv_own (pvs_cons (pv_at (.s .z)) (pvs_cons (pv_at (.s (.s .z))) pvs_nil)) rfl (ok_unlike_in p.1 p.2 (((h.2.2 h5).2.2.2 h9).2.2 p m11)))) pc_nil) (sc_lenL (e := eI) (xs := (v_unlike_in p.1 p.2))))) (pv_r pv_c) (sb_eq (a := ((v_unlike_in p.1 p.2).length : Int)) (b := 1) qI (by decide)))⟩))) pc_nil) (sc_all (bs := ((((asT (asT asI)) value).zip (cut ((asT (asT asI)) value) (some 1) none)).map fun (p : ((List Int) × (List Int))) => (decide (((v_unlike_in p.1 p.2).length : Int) = 1))))))))))))))))
/-! fits_snake -/
def v_fits_snake (value : D) : Bool :=
  if ¬((v_fits_list value) = true) then false else lt ((v_touches_in ((asT (asT asI)) value)) : (Option (List (Int × Int)))) fun touches => (touches.isSome && (((touches.getD default).map fun (p : (Int × Int)) => (decide (p.2 = (p.1 + 1)))).all id))
def C_fits_snake (value : D) : Prop :=
  C_fits_list value ∧ (¬(¬((v_fits_list value) = true)) → value = (eT (eT eI)) ((asT (asT asI)) value) ∧ C_touches_in ((asT (asT asI)) value) ∧ (lt ((v_touches_in ((asT (asT asI)) value)) : (Option (List (Int × Int)))) fun touches => (touches.isSome = true → (touches).isSome = true ∧ szOk (touches.getD default).length)))
theorem ok_fits_snake (value : D) (h : C_fits_snake value) (S : Sto) : m_fits_snake [.v (eA value)] S = .ok (.v (eB (v_fits_snake value))) S := by
  unfold C_fits_snake at h; exact wrap_ok [eA value] 3 eB rfl (show TS S [.va (eA value), .un, .un, .un] b_fits_snake (fun r => Oc.rt (eB r)) (v_fits_snake value) from by unfold b_fits_snake v_fits_snake; exact (ts_if (pb_not (pb_tru (pv_own (pvs_cons (pv_at .z) pvs_nil) rfl (ok_fits_list value h.1)))) (fun h1 => (ts_retd (px_v pv_c))) (fun h2 => (ts_nxl (ts_set  (fun x : (Option (List (Int × Int))) => AK.v ((eO (eL (eP eI eI))) x)) (px_v (pv_own (pvs_cons (pv_cast (h.2 h2).1 (pv_at .z)) pvs_nil) rfl (ok_touches_in ((asT (asT asI)) value) (h.2 h2).2.1))) (fun touches h3 => (ts_m [.va (eA value), .va ((eO (eL (eP eI eI))) touches), .un, .un] rfl (ts_last (ts_retd (px_v (pv_and (pv_bin (pv_r (pv_at (.s .z))) (pv_r pv_c) (sb_isnO (fun _ h => by cases h))) (fun h4 => (pv_call (pc_cons (pv_r (pv_lcy (m1 := fun p => [.va (eA value), .va ((eO (eL (eP eI eI))) touches), .va (eI p.1), .va (eI p.2)]) (c := (eP eI eI)) (e := eB) (l := (touches.getD default)) (k := fun (p : (Int × Int)) => (decide (p.2 = (p.1 + 1)))) (pi_L (e := (eP eI eI)) (xs := (touches.getD default)) (pv_cast (eO_some (h3 h4).1) (pv_at (.s .z)))) (h3 h4).2 (fun p m6 => ⟨(gt_tp (gts_cons gt_nm (gts_cons gt_nm gts_nil))), (pv_bin (pv_r (pv_at (.s (.s (.s .z))))) (pv_r (pv_bin (pv_r (pv_at (.s (.s .z)))) (pv_r pv_c) sb_add)) (sb_eq (a := p.2) (b := (p.1 + 1)) qI (by decide)))⟩))) pc_nil) (sc_all (bs := ((touches.getD default).map fun (p : (Int × Int)) => (decide (p.2 = (p.1 + 1)))))))))))))) (h.2 h2).2.2)))))
/-! is_snake -/
def v_is_snake (value : D) : Bool :=
  (v_fits_snake value)
def C_is_snake (value : D) : Prop :=
  C_fits_snake value
theorem ok_is_snake (value : D) (h : C_is_snake value) (S : Sto) : m_is_snake [.v (eA value)] S = .ok (.v (eB (v_is_snake value))) S := by
  unfold C_is_snake at h; exact wrap_ok [eA value] 0 eB rfl (show TS S [.va (eA value)] b_is_snake (fun r => Oc.rt (eB r)) (v_is_snake value) from by unfold b_is_snake v_is_snake; exact (ts_last (ts_retd (px_v (pv_own (pvs_cons (pv_at .z) pvs_nil) rfl (ok_fits_snake value h))))))
/-! fits_coil -/
def v_fits_coil (value : D) : Bool :=
  if (¬((v_fits_list value) = true)) ∨ ((((dIt value).length : Int) < 3) ∨ (((v_unlike_in ((asT asI) (pix (dIt value) 0)) ((asT asI) (pix (dIt value) (-1)))).length : Int) ≠ 1)) then false else lt ((v_touches_in ((asT (asT asI)) value)) : (Option (List (Int × Int)))) fun touches => if touches.isNone = true then false else (((touches.getD default).map fun (p : (Int × Int)) => ((decide (p.2 = (p.1 + 1))) || (decide ((p.1, p.2) = (0, (((dIt value).length : Int) - 1)))))).all id)
def C_fits_coil (value : D) : Prop :=
  C_fits_list value ∧ (¬(¬((v_fits_list value) = true)) → isSq value = true ∧ (¬(((dIt value).length : Int) < 3) → inb (dIt value).length 0 ∧ (pix (dIt value) 0) = (eT eI) ((asT asI) (pix (dIt value) 0)) ∧ inb (dIt value).length (-1) ∧ (pix (dIt value) (-1)) = (eT eI) ((asT asI) (pix (dIt value) (-1))) ∧ C_unlike_in ((asT asI) (pix (dIt value) 0)) ((asT asI) (pix (dIt value) (-1))))) ∧ (¬((¬((v_fits_list value) = true)) ∨ ((((dIt value).length : Int) < 3) ∨ (((v_unlike_in ((asT asI) (pix (dIt value) 0)) ((asT asI) (pix (dIt value) (-1)))).length : Int) ≠ 1))) → value = (eT (eT eI)) ((asT (asT asI)) value) ∧ C_touches_in ((asT (asT asI)) value) ∧ (lt ((v_touches_in ((asT (asT asI)) value)) : (Option (List (Int × Int)))) fun touches => (¬(touches.isNone = true) → (touches).isSome = true ∧ szOk (touches.getD default).length ∧ (∀ p ∈ (touches.getD default), ((decide (p.2 = (p.1 + 1))) = false → isSq value = true)))))
theorem ok_fits_coil (value : D) (h : C_fits_coil value) (S : Sto) : m_fits_coil [.v (eA value)] S = .ok (.v (eB (v_fits_coil value))) S := by
  unfold C_fits_coil at h; exact wrap_ok [eA value] 3 eB rfl (show TS S [.va (eA value), .un, .un, .un] b_fits_coil (fun r => Oc.rt (eB r)) (v_fits_coil value) from by unfold b_fits_coil v_fits_coil; exact (ts_if (pb_or (pb_not (pb_tru (pv_own (pvs_cons (pv_at .z) pvs_nil) rfl (ok_fits_list value h.1)))) (fun h1 => (pb_or (pb_bin (pv_r (pv_call (pc_cons (pv_r (pv_at .z)) pc_nil) (sc_lenA (h.2.1 h1).1))) (pv_r pv_c) sb_ltXI) (fun h2 => (pb_bin (pv_r (pv_call (pc_cons (pv_r (pv_own (pvs_cons (pv_cast ((h.2.1 h1).2 h2).2.1 (pv_bin (pv_r (pv_at .z)) (pv_r pv_c) (sb_ixA (h.2.1 h1).1 ((h.2.1 h1).2 h2).1))) (pvs_cons (pv_cast ((h.2.1 h1).2 h2).2.2.2.1 (pv_bin (pv_r (pv_at .z)) (pv_r (pv_un (pv_r pv_c) su_neg)) (sb_ixA (h.2.1 h1).1 ((h.2.1 h1).2 h2).2.2.1))) pvs_nil)) rfl (ok_unlike_in ((asT asI) (pix (dIt value) 0)) ((asT asI) (pix (dIt value) (-1))) ((h.2.1 h1).2 h2).2.2.2.2))) pc_nil) (sc_lenL (e := eI) (xs := (v_unlike_in ((asT asI) (pix (dIt value) 0)) ((asT asI) (pix (dIt value) (-1)))))))) (pv_r pv_c) (sb_ne (a := ((v_unlike_in ((asT asI) (pix (dIt value) 0)) ((asT asI) (pix (dIt value) (-1)))).length : Int)) (b := 1) qI (by decide))))))) (fun h3 => (ts_retd (px_v pv_c))) (fun h4 => (ts_nxl (ts_set  (fun x : (Option (List (Int × Int))) => AK.v ((eO (eL (eP eI eI))) x)) (px_v (pv_own (pvs_cons (pv_cast (h.2.2 h4).1 (pv_at .z)) pvs_nil) rfl (ok_touches_in ((asT (asT asI)) value) (h.2.2 h4).2.1))) (fun touches h5 => (ts_m [.va (eA value), .va ((eO (eL (eP eI eI))) touches), .un, .un] rfl (ts_if (pb_binB (pv_r (pv_at (.s .z))) (pv_r pv_c) (sb_isO (fun _ h => by cases h))) (fun h6 => (ts_retd (px_v pv_c))) (fun h7 => (ts_nxl (ts_last (ts_retd (px_v (pv_call (pc_cons (pv_r (pv_lcy (m1 := fun p => [.va (eA value), .va ((eO (eL (eP eI eI))) touches), .va (eI p.1), .va (eI p.2)]) (c := (eP eI eI)) (e := eB) (l := (touches.getD default)) (k := fun (p : (Int × Int)) => ((decide (p.2 = (p.1 + 1))) || (decide ((p.1, p.2) = (0, (((dIt value).length : Int) - 1)))))) (pi_L (e := (eP eI eI)) (xs := (touches.getD default)) (pv_cast (eO_some (h5 h7).1) (pv_at (.s .z)))) (h5 h7).2.1 (fun p m9 => ⟨(gt_tp (gts_cons gt_nm (gts_cons gt_nm gts_nil))), (pv_or (pv_bin (pv_r (pv_at (.s (.s (.s .z))))) (pv_r (pv_bin (pv_r (pv_at (.s (.s .z)))) (pv_r pv_c) sb_add)) (sb_eq (a := p.2) (b := (p.1 + 1)) qI (by decide))) (fun h10 => (pv_bin (pv_r (pv_as ((eP eI eI) (p.1, p.2)) (pv_tup (pvs_cons (pv_at (.s (.s .z))) (pvs_cons (pv_at (.s (.s (.s .z)))) pvs_nil)) (Nat.le_of_ble_eq_true rfl)))) (pv_r (pv_as ((eP eI eI) (0, (((dIt value).length : Int) - 1))) (pv_tup (pvs_cons pv_c (pvs_cons (pv_bin (pv_r (pv_call (pc_cons (pv_r (pv_at .z)) pc_nil) (sc_lenA (((h5 h7).2.2 p m9) h10)))) (pv_r pv_c) sb_sub) pvs_nil)) (Nat.le_of_ble_eq_true rfl)))) (sb_eq (a := (p.1, p.2)) (b := (0, (((dIt value).length : Int) - 1))) (qP qI qI) (by decide)))))⟩))) pc_nil) (sc_all (bs := ((touches.getD default).map fun (p : (Int × Int)) => ((decide (p.2 = (p.1 + 1))) || (decide ((p.1, p.2) = (0, (((dIt value).length : Int) - 1))))))))))))))))) (h.2.2 h4).2.2)))))
/-! is_coil -/
def v_is_coil (value : D) : Bool :=
  (v_fits_coil value)
def C_is_coil (value : D) : Prop :=
  C_fits_coil value
theorem ok_is_coil (value : D) (h : C_is_coil value) (S : Sto) : m_is_coil [.v (eA value)] S = .ok (.v (eB (v_is_coil value))) S := by
  unfold C_is_coil at h; exact wrap_ok [eA value] 0 eB rfl (show TS S [.va (eA value)] b_is_coil (fun r => Oc.rt (eB r)) (v_is_coil value) from by unfold b_is_coil v_is_coil; exact (ts_last (ts_retd (px_v (pv_own (pvs_cons (pv_at .z) pvs_nil) rfl (ok_fits_coil value h))))))
/-! _law_rows_right -/
def v_law_rows_rightU  : Bool :=
  lt (([(0, 0), (0, 1), (1, 1), (1, 0)] : List (Int × Int)) : (List (Int × Int))) fun square => lt (([(0, 0, 0), (1, 0, 0), (1, 0, 1), (0, 0, 1), (0, 1, 1), (0, 1, 0)] : List (Int × Int × Int)) : (List (Int × Int × Int))) fun coil => (decide ([(v_is_snake ((eT (eP eI eI)) square)), (v_is_coil ((eT (eP3 eI eI eI)) coil))] = [false, false]))
def C_law_rows_rightU  : Prop :=
  lt (([(0, 0), (0, 1), (1, 1), (1, 0)] : List (Int × Int)) : (List (Int × Int))) fun square => lt (([(0, 0, 0), (1, 0, 0), (1, 0, 1), (0, 0, 1), (0, 1, 1), (0, 1, 0)] : List (Int × Int × Int)) : (List (Int × Int × Int))) fun coil => C_is_snake ((eT (eP eI eI)) square) ∧ C_is_coil ((eT (eP3 eI eI eI)) coil)
theorem ok_law_rows_rightU  (h : C_law_rows_rightU ) (S : Sto) : m_law_rows_rightU [] S = .ok (.v (eB (v_law_rows_rightU ))) S := by
  unfold C_law_rows_rightU at h; unfold m_law_rows_rightU; exact wrap_ok0 2 eB (show TS S [.un, .un] b_law_rows_rightU (fun r => Oc.rt (eB r)) (v_law_rows_rightU ) from by unfold b_law_rows_rightU v_law_rows_rightU; exact (ts_set  (fun x : (List (Int × Int)) => AK.v ((eT (eP eI eI)) x)) (px_v (pv_as ((eT (eP eI eI)) ([(0, 0), (0, 1), (1, 1), (1, 0)] : List (Int × Int))) (pv_tup (pvs_cons (pv_as ((eP eI eI) (0, 0)) (pv_tup (pvs_cons pv_c (pvs_cons pv_c pvs_nil)) (Nat.le_of_ble_eq_true rfl))) (pvs_cons (pv_as ((eP eI eI) (0, 1)) (pv_tup (pvs_cons pv_c (pvs_cons pv_c pvs_nil)) (Nat.le_of_ble_eq_true rfl))) (pvs_cons (pv_as ((eP eI eI) (1, 1)) (pv_tup (pvs_cons pv_c (pvs_cons pv_c pvs_nil)) (Nat.le_of_ble_eq_true rfl))) (pvs_cons (pv_as ((eP eI eI) (1, 0)) (pv_tup (pvs_cons pv_c (pvs_cons pv_c pvs_nil)) (Nat.le_of_ble_eq_true rfl))) pvs_nil)))) (Nat.le_of_ble_eq_true rfl)))) (fun square h1 => (ts_m [.va ((eT (eP eI eI)) square), .un] rfl (ts_set  (fun x : (List (Int × Int × Int)) => AK.v ((eT (eP3 eI eI eI)) x)) (px_v (pv_as ((eT (eP3 eI eI eI)) ([(0, 0, 0), (1, 0, 0), (1, 0, 1), (0, 0, 1), (0, 1, 1), (0, 1, 0)] : List (Int × Int × Int))) (pv_tup (pvs_cons (pv_as ((eP3 eI eI eI) (0, 0, 0)) (pv_tup (pvs_cons pv_c (pvs_cons pv_c (pvs_cons pv_c pvs_nil))) (Nat.le_of_ble_eq_true rfl))) (pvs_cons (pv_as ((eP3 eI eI eI) (1, 0, 0)) (pv_tup (pvs_cons pv_c (pvs_cons pv_c (pvs_cons pv_c pvs_nil))) (Nat.le_of_ble_eq_true rfl))) (pvs_cons (pv_as ((eP3 eI eI eI) (1, 0, 1)) (pv_tup (pvs_cons pv_c (pvs_cons pv_c (pvs_cons pv_c pvs_nil))) (Nat.le_of_ble_eq_true rfl))) (pvs_cons (pv_as ((eP3 eI eI eI) (0, 0, 1)) (pv_tup (pvs_cons pv_c (pvs_cons pv_c (pvs_cons pv_c pvs_nil))) (Nat.le_of_ble_eq_true rfl))) (pvs_cons (pv_as ((eP3 eI eI eI) (0, 1, 1)) (pv_tup (pvs_cons pv_c (pvs_cons pv_c (pvs_cons pv_c pvs_nil))) (Nat.le_of_ble_eq_true rfl))) (pvs_cons (pv_as ((eP3 eI eI eI) (0, 1, 0)) (pv_tup (pvs_cons pv_c (pvs_cons pv_c (pvs_cons pv_c pvs_nil))) (Nat.le_of_ble_eq_true rfl))) pvs_nil)))))) (Nat.le_of_ble_eq_true rfl)))) (fun coil h2 => (ts_m [.va ((eT (eP eI eI)) square), .va ((eT (eP3 eI eI eI)) coil)] rfl (ts_last (ts_retd (px_v (pv_bin (pv_r (pv_as ((eL eB) [(v_is_snake ((eT (eP eI eI)) square)), (v_is_coil ((eT (eP3 eI eI eI)) coil))]) (pv_lst (pvs_cons (pv_own (pvs_cons (pv_at .z) pvs_nil) rfl (ok_is_snake ((eT (eP eI eI)) square) h2.1)) (pvs_cons (pv_own (pvs_cons (pv_at (.s .z)) pvs_nil) rfl (ok_is_coil ((eT (eP3 eI eI eI)) coil) h2.2)) pvs_nil)) (Nat.le_of_ble_eq_true rfl)))) (pv_r (pv_as ((eL eB) [false, false]) (pv_lst (pvs_cons pv_c (pvs_cons pv_c pvs_nil)) (Nat.le_of_ble_eq_true rfl)))) (sb_eq (a := [(v_is_snake ((eT (eP eI eI)) square)), (v_is_coil ((eT (eP3 eI eI eI)) coil))]) (b := [false, false]) (qL qB) (by decide)))))))) h1))) h))
/-! _law_word -/
def W_law_wordU (signs : Int) (Qr : (List Int) → Prop) : Prop :=
  (cR 0 signs) ∧ (szOk (rng 0 signs).length) ∧ wLc (fun (turn : Int) (Q2 : Int → Prop) => (∀ r : Int, 0 ≤ r → r < 2 → Q2 r)) (rng 0 signs) (fun ys => Qr ys)
theorem ok_law_wordU (signs : Int) : OkW m_law_wordU [.v (eI signs)] (eT eI) (W_law_wordU signs) :=
  wrapW [eI signs] 1 (eT eI) rfl (fun Qr h R => (show WS R [.fx 0, .va (eI signs), .un] b_law_wordU (kF R (eT eI) Qr) from by unfold b_law_wordU; unfold W_law_wordU at h; exact (ws_last (ws_ret (e := (eT eI)) (wx_call1q (e1 := (eL eI)) (e := (eT eI)) (op := fun x4 : (List Int) => x4) (wx_lc (m2 := fun turn => [.fx 0, .va (eI signs), .va (eI turn)]) (mm := false) (c := eI) (e := eI) (b := fun (turn : Int) (Q2 : Int → Prop) => (∀ r : Int, 0 ≤ r → r < 2 → Q2 r)) (wi_p (c := eI) (l := (rng 0 signs)) (C := cR 0 signs) (fun c1 => (pxi_v (pi_rng1 (pv_at (.s .z)) c1.b)))) rfl (fun turn => ⟨gt_nm, (wx_drawq (e := eI) (W := WRoll 2) (At.get .z) (pxs_cons (px_v pv_c) pxs_nil) rfl (ok_law_rollU 2 (by decide))), (.kp (.kp (.un .nil)))⟩)) (fun x4 => sc_tupL (e := eI) (xs := x4))) rfl h))))
/-! _law_turn -/
def v_law_turnU (word : (List Int)) (place : Int) : (List Int) :=
  ((numbr 0 word).map fun (p : (Int × Int)) => ((if (p.1 + 1) = place then (1 - p.2) else p.2) : Int))
def C_law_turnU (word : (List Int)) (place : Int) : Prop :=
  szOk word.length
theorem ok_law_turnU (word : (List Int)) (place : Int) (h : C_law_turnU word place) (S : Sto) : m_law_turnU [.v ((eT eI) word), .v (eI place)] S = .ok (.v ((eT eI) (v_law_turnU word place))) S := by
  unfold C_law_turnU at h; exact wrap_ok [(eT eI) word, eI place] 2 (eT eI) rfl (show TS S [.va ((eT eI) word), .va (eI place), .un, .un] b_law_turnU (fun r => Oc.rt ((eT eI) r)) (v_law_turnU word place) from by unfold b_law_turnU v_law_turnU; exact (ts_last (ts_retd (px_v (pv_call (pc_cons (pv_r (pv_lcy (m1 := fun p => [.va ((eT eI) word), .va (eI place), .va (eI p.1), .va (eI p.2)]) (c := (eP eI eI)) (e := eI) (l := (numbr 0 word)) (k := fun (p : (Int × Int)) => ((if (p.1 + 1) = place then (1 - p.2) else p.2) : Int)) (pi_enum (e := eI) (xs := word) (pv_at .z) (.tup _)) (sz_numbr h) (fun p m2 => ⟨(gt_tp (gts_cons gt_nm (gts_cons gt_nm gts_nil))), (pv_if eI (x := (1 - p.2)) (y := p.2) (pb_bin (pv_r (pv_bin (pv_r (pv_at (.s (.s .z)))) (pv_r pv_c) sb_add)) (pv_r (pv_at (.s .z))) (sb_eq (a := (p.1 + 1)) (b := place) qI (by decide))) (fun h3 => (pv_bin (pv_r pv_c) (pv_r (pv_at (.s (.s (.s .z))))) sb_sub)) (fun h4 => (pv_at (.s (.s (.s .z))))))⟩))) pc_nil) (sc_tupL (e := eI) (xs := ((numbr 0 word).map fun (p : (Int × Int)) => ((if (p.1 + 1) = place then (1 - p.2) else p.2) : Int)))))))))
/-! _law_barred -/
def v_law_barredU_L1 (word_1 : (List Int)) (found_2 : ((List ((List Int) × Bool)))) (place : Int) : ((List ((List Int) × Bool))) :=
  lt ((dput found_2 (v_law_turnU word_1 place) true) : (List ((List Int) × Bool))) fun found_3 => found_3
def C_law_barredU_L1 (word_1 : (List Int)) (found_2 : ((List ((List Int) × Bool)))) (place : Int) : Prop :=
  C_law_turnU word_1 place ∧ szOk (found_2.length + 1)
def v_law_barredU_L2  (found_1 : ((List ((List Int) × Bool)))) (word_1 : (List Int)) : ((List ((List Int) × Bool))) :=
  lt (((rng 1 ((word_1.length : Int) + 1)).foldl (v_law_barredU_L1 word_1) found_1) : ((List ((List Int) × Bool)))) fun found_4 => found_4
def C_law_barredU_L2  (found_1 : ((List ((List Int) × Bool)))) (word_1 : (List Int)) : Prop :=
  cR 1 ((word_1.length : Int) + 1) ∧ forP (v_law_barredU_L1 word_1) (C_law_barredU_L1 word_1) (rng 1 ((word_1.length : Int) + 1)) found_1
def v_law_barredU (snake : (List (List Int))) : (List ((List Int) × Bool)) :=
  lt ((dmany [] (snake.map fun (word : (List Int)) => (word, true))) : (List ((List Int) × Bool))) fun found => lt (((cut snake none (some (-1))).foldl v_law_barredU_L2 found) : ((List ((List Int) × Bool)))) fun found_5 => found_5
def C_law_barredU (snake : (List (List Int))) : Prop :=
  szOk snake.length ∧ lt ((dmany [] (snake.map fun (word : (List Int)) => (word, true))) : (List ((List Int) × Bool))) fun found => forP v_law_barredU_L2 C_law_barredU_L2 (cut snake none (some (-1))) found
theorem ok_law_barredU (snake : (List (List Int))) (h : C_law_barredU snake) (S : Sto) : m_law_barredU [.v ((eT (eT eI)) snake)] S = .ok (.v ((eD (eT eI) eB) (v_law_barredU snake))) S := by
  unfold C_law_barredU at h; exact wrap_ok [(eT (eT eI)) snake] 3 (eD (eT eI) eB) rfl (show TS S [.va ((eT (eT eI)) snake), .un, .un, .un] b_law_barredU (fun r => Oc.rt ((eD (eT eI) eB) r)) (v_law_barredU snake) from by unfold b_law_barredU v_law_barredU; exact (ts_set  (fun x : (List ((List Int) × Bool)) => AK.dc (ksD (eT eI) x) (vsD eB x)) (px_n (scn_dict (ek := (eT eI)) (ev := eB) (ps := (snake.map fun (word : (List Int)) => (word, true))) (qT qI) (kT (nT nI) (by decide)) (pc_cons (pv_r (pv_lcy (m1 := fun word => [.va ((eT (eT eI)) snake), .un, .va ((eT eI) word), .un]) (c := (eT eI)) (e := (eP (eT eI) eB)) (l := snake) (k := fun (word : (List Int)) => (word, true)) (pi_T (e := (eT eI)) (xs := snake) (pv_at .z)) h.1 (fun word m2 => ⟨gt_nm, (pv_as ((eP (eT eI) eB) (word, true)) (pv_tup (pvs_cons (pv_at (.s (.s .z))) (pvs_cons pv_c pvs_nil)) (Nat.le_of_ble_eq_true rfl)))⟩))) pc_nil))) (fun found h3 => (ts_m [.va ((eT (eT eI)) snake), .mu (.dic (ksD (eT eI) found) (vsD eB found)), .un, .un] rfl (ts_join (Pk := fun _ => True) (mOf := (fun found_5 : ((List ((List Int) × Bool))) => [.va ((eT (eT eI)) snake), .mu (.dic (ksD (eT eI) found_5) (vsD eB found_5)), .un, .un])) (ts_for (m2 := fun found_1 word_1 => [.va ((eT (eT eI)) snake), .mu (.dic (ksD (eT eI) found_1) (vsD eB found_1)), .va ((eT eI) word_1), .un]) (c := (eT eI)) (mOf := (fun found_1 : ((List ((List Int) × Bool))) => [.va ((eT (eT eI)) snake), .mu (.dic (ksD (eT eI) found_1) (vsD eB found_1)), .un, .un])) (l := (cut snake none (some (-1)))) (s0 := found) (body := v_law_barredU_L2) (P := C_law_barredU_L2) (pxi_v (pi_T (e := (eT eI)) (xs := (cut snake none (some (-1)))) (pv_slT (pv_at .z) po_none (po_some (pv_un (pv_r pv_c) su_neg))))) (.kp (.kp (.un (.un .nil)))) (fun found_1 word_1 m5 h4 => by unfold v_law_barredU_L2; unfold C_law_barredU_L2 at h4; exact ⟨gt_nm, (ts_last (ts_join (Pk := fun _ => True) (mOf := (fun found_4 : ((List ((List Int) × Bool))) => [.va ((eT (eT eI)) snake), .mu (.dic (ksD (eT eI) found_4) (vsD eB found_4)), .va ((eT eI) word_1), .un])) (ts_for (m2 := fun found_2 place => [.va ((eT (eT eI)) snake), .mu (.dic (ksD (eT eI) found_2) (vsD eB found_2)), .va ((eT eI) word_1), .va (eI place)]) (c := eI) (mOf := (fun found_2 : ((List ((List Int) × Bool))) => [.va ((eT (eT eI)) snake), .mu (.dic (ksD (eT eI) found_2) (vsD eB found_2)), .va ((eT eI) word_1), .un])) (l := (rng 1 ((word_1.length : Int) + 1))) (s0 := found_1) (body := (v_law_barredU_L1 word_1)) (P := (C_law_barredU_L1 word_1)) (pxi_v (pi_rng2 pv_c (pv_bin (pv_r (pv_call (pc_cons (pv_r (pv_at (.s (.s .z)))) pc_nil) (sc_lenT (e := eI) (xs := word_1)))) (pv_r pv_c) sb_add) h4.1.a h4.1.b)) (.kp (.kp (.kp (.un .nil)))) (fun found_2 place m7 h6 => by unfold v_law_barredU_L1; unfold C_law_barredU_L1 at h6; exact ⟨gt_nm, (ts_last (ts_subd (Pk := fun _ => True) (ek := (eT eI)) (ev := eB) (kvs := found_2) (k := (v_law_turnU word_1 place)) (v := true) (qT qI) (kT (nT nI) (by decide)) pv_c (pv_own (pvs_cons (pv_at (.s (.s .z))) (pvs_cons (pv_at (.s (.s (.s .z)))) pvs_nil)) rfl (ok_law_turnU word_1 place h6.1)) rfl h6.2 (fun found_3 h8 => (ts_m [.va ((eT (eT eI)) snake), .mu (.dic (ksD (eT eI) found_3) (vsD eB found_3)), .va ((eT eI) word_1), .va (eI place)] rfl (ts_lp (.kp (.kp (.kp (.un .nil))))))) trivial))⟩) h4.2) (fun found_4 h9 => (ts_lp (.kp (.kp (.un (.un .nil)))))) trivial))⟩) h3) (fun found_5 h10 => (ts_last (ts_retMd rfl))) trivial))) h.2))
/-! _law_ways -/
def v_law_waysU (snake : (List (List Int))) : (List Int) :=
  lt ((v_law_barredU snake) : (List ((List Int) × Bool))) fun barred => ((rng 1 (((pix snake 0).length : Int) + 1)).filter fun (place : Int) => decide ((!(dget barred (v_law_turnU (pix snake (-1)) place)).isSome) = true))
def C_law_waysU (snake : (List (List Int))) : Prop :=
  C_law_barredU snake ∧ lt ((v_law_barredU snake) : (List ((List Int) × Bool))) fun barred => inb snake.length 0 ∧ cR 1 (((pix snake 0).length : Int) + 1) ∧ ∀ place ∈ (rng 1 (((pix snake 0).length : Int) + 1)), inb snake.length (-1) ∧ C_law_turnU (pix snake (-1)) place
theorem ok_law_waysU (snake : (List (List Int))) (h : C_law_waysU snake) (S : Sto) : m_law_waysU [.v ((eT (eT eI)) snake)] S = .ok (.v ((eL eI) (v_law_waysU snake))) S := by
  unfold C_law_waysU at h; exact wrap_ok [(eT (eT eI)) snake] 2 (eL eI) rfl (show TS S [.va ((eT (eT eI)) snake), .un, .un] b_law_waysU (fun r => Oc.rt ((eL eI) r)) (v_law_waysU snake) from by unfold b_law_waysU v_law_waysU; exact (ts_set  (fun x : (List ((List Int) × Bool)) => AK.v ((eD (eT eI) eB) x)) (px_v (pv_own (pvs_cons (pv_at .z) pvs_nil) rfl (ok_law_barredU snake h.1))) (fun barred h1 => (ts_m [.va ((eT (eT eI)) snake), .va ((eD (eT eI) eB) barred), .un] rfl (ts_last (ts_retd (px_v (pv_lcf (m1 := fun place => [.va ((eT (eT eI)) snake), .va ((eD (eT eI) eB) barred), .va (eI place)]) (c := eI) (l := (rng 1 (((pix snake 0).length : Int) + 1))) (p := fun (place : Int) => (!(dget barred (v_law_turnU (pix snake (-1)) place)).isSome) = true) (pi_rng2 pv_c (pv_bin (pv_r (pv_call (pc_cons (pv_r (pv_bin (pv_r (pv_at .z)) (pv_r pv_c) (sb_ixT (e := (eT eI)) (xs := snake) h1.1))) pc_nil) (sc_lenT (e := eI) (xs := (pix snake 0))))) (pv_r pv_c) sb_add) h1.2.1.a h1.2.1.b) h1.2.1.sz (fun place m3 => ⟨gt_nm, (pb_binB (pv_r (pv_own (pvs_cons (pv_bin (pv_r (pv_at .z)) (pv_r (pv_un (pv_r pv_c) su_neg)) (sb_ixT (e := (eT eI)) (xs := snake) (h1.2.2 place m3).1)) (pvs_cons (pv_at (.s (.s .z))) pvs_nil)) rfl (ok_law_turnU (pix snake (-1)) place (h1.2.2 place m3).2))) (pv_r (pv_at (.s .z))) (sb_ninD (ek := (eT eI)) (ev := eB) (kvs := barred) (k := (v_law_turnU (pix snake (-1)) place)) (qT qI) (kT (nT nI) (by decide)))), fun h4 => (pv_at (.s (.s .z)))⟩))))))) h.2))
/-! _law_snake -/
def B_law_snakeU_L1  (found_1 : ((List (List Int)))) (turn : Int) (Qn Qb : ((List (List Int))) → Prop) : Prop :=
  lw (fun Q25 : (List Int) → Prop => (C_law_waysU found_1) ∧ Q25 (v_law_waysU found_1)) fun ways => lw (fun Q24 : (List (List Int)) → Prop => ((decide (ways ≠ ([] : List Int))) = true → (inb found_1.length (-1)) ∧ (sOk ways.length) ∧ (∀ q ∈ ways, (C_law_turnU (pix found_1 (-1)) q) ∧ (szOk (found_1.length + [(v_law_turnU (pix found_1 (-1)) q)].length)) ∧ Q24 (found_1 ++ [(v_law_turnU (pix found_1 (-1)) q)]))) ∧ ((decide (ways ≠ ([] : List Int))) = false → (szOk (found_1.length + ([] : List (List Int)).length)) ∧ Q24 (found_1 ++ ([] : List (List Int))))) fun found_2 => Qn found_2
def W_law_snakeU (signs : Int) (most : Int) (Qr : (List (List Int)) → Prop) : Prop :=
  lw (fun Q32 : (List (List Int)) → Prop => (W_law_wordU signs) (fun v => Q32 [v])) fun found => lw (fun Q26 : ((List (List Int))) → Prop => lw (fun Q30 : (List Int) → Prop => (nOk most) ∧ (∀ r : Int, 0 ≤ r → r < most → (rOk r) ∧ Q30 (rng 0 r))) fun l31 => wFor B_law_snakeU_L1 l31 found Q26) fun found_3 => Qr found_3
theorem ok_law_snakeU (signs : Int) (most : Int) : OkW m_law_snakeU [.v (eI signs), .v (eI most)] (eT (eT eI)) (W_law_snakeU signs most) :=
  wrapW [eI signs, eI most] 3 (eT (eT eI)) rfl (fun Qr h R => (show WS R [.fx 0, .va (eI signs), .va (eI most), .un, .un, .un] b_law_snakeU (kF R (eT (eT eI)) Qr) from by unfold b_law_snakeU; unfold W_law_snakeU at h; exact (ws_set (κ := (fun x : (List (List Int)) => AK.v ((eT (eT eI)) x))) (wx_tup (e := (eT (eT eI))) (fun p3 : ((List Int) × Unit) => [p3.1]) (wa_cons (e := (eT eI)) (wx_drawq (e := (eT eI)) (W := (W_law_wordU signs)) (At.get .z) (pxs_cons (px_v (pv_at (.s .z))) pxs_nil) rfl (ok_law_wordU signs)) (fun x2 : (List Int) => wa_nil)) (fun _ => rfl) (fun _ => Nat.le_of_ble_eq_true rfl)) (fun found h4 => (ws_m [.fx 0, .va (eI signs), .va (eI most), .va ((eT (eT eI)) found), .un, .un] rfl (ws_seqJ (mOf := (fun found_1 : ((List (List Int))) => [.fx 0, .va (eI signs), .va (eI most), .va ((eT (eT eI)) found_1), .un, .un])) (fun Q26 h27 => ws_for (m2 := fun found_1 turn => [.fx 0, .va (eI signs), .va (eI most), .va ((eT (eT eI)) found_1), .va (eI turn), .un]) (c := eI) (mOf := (fun found_1 : ((List (List Int))) => [.fx 0, .va (eI signs), .va (eI most), .va ((eT (eT eI)) found_1), .un, .un])) (body := B_law_snakeU_L1) (s0 := found) (wi_rng1 (wx_drawc (e := eI) (W := WRoll most) (C := nOk most) (At.get .z) (fun c6 => (pxs_cons (px_v (pv_at (.s (.s .z)))) pxs_nil)) rfl (fun c6 => ok_law_rollU most c6))) (.kp (.kp (.kp (.kp (.un (.un .nil)))))) (fun found_1 turn Qn Qb h7 => by unfold B_law_snakeU_L1 at h7; exact ⟨gt_nm, (ws_set (κ := (fun x : (List Int) => AK.v ((eL eI) x))) (wx_p (κ := (fun x : (List Int) => AK.v ((eL eI) x))) (v := (v_law_waysU found_1)) (C := C_law_waysU found_1) (fun c8 => (px_v (pv_own (pvs_cons (pv_at (.s (.s (.s .z)))) pvs_nil) rfl (ok_law_waysU found_1 c8))))) (fun ways h9 => (ws_m [.fx 0, .va (eI signs), .va (eI most), .va ((eT (eT eI)) found_1), .va (eI turn), .va ((eL eI) ways)] rfl (ws_last (ws_set (κ := (fun x : (List (List Int)) => AK.v ((eT (eT eI)) x))) (wx_bin (e1 := (eT (eT eI))) (e2 := (eT (eT eI))) (e := (eT (eT eI))) (C := fun (x20 : (List (List Int))) (y21 : (List (List Int))) => szOk (x20.length + y21.length)) (op := fun (x20 : (List (List Int))) (y21 : (List (List Int))) => (x20 ++ y21)) (wx_q (κ := (fun x : (List (List Int)) => AK.v ((eT (eT eI)) x))) (v := found_1) (px_v (pv_at (.s (.s (.s .z)))))) (fun _ => (wx_if (κ := (fun x : (List (List Int)) => AK.v ((eT (eT eI)) x))) (wt_q (p := ways ≠ ([] : List Int)) (pb_bin (pv_r (pv_at (.s (.s (.s (.s (.s .z))))))) (pv_r (pv_as ((eL eI) ([] : List Int)) (pv_lst pvs_nil (Nat.le_of_ble_eq_true rfl)))) (sb_ne (a := ways) (b := ([] : List Int)) (qL qI) (by decide)))) (wx_tup (e := (eT (eT eI))) (fun p18 : ((List Int) × Unit) => [p18.1]) (wa_cons (e := (eT eI)) (wx_own (e := (eT eI)) (C := fun p16 : ((List Int) × Int × Unit) => C_law_turnU p16.1 p16.2.1) (op := fun p16 : ((List Int) × Int × Unit) => (v_law_turnU p16.1 p16.2.1)) (wa_cons (e := (eT eI)) (wx_p (κ := (fun x : (List Int) => AK.v ((eT eI) x))) (v := (pix found_1 (-1))) (C := inb found_1.length (-1)) (fun c12 => (px_v (pv_bin (pv_r (pv_at (.s (.s (.s .z))))) (pv_r (pv_un (pv_r pv_c) su_neg)) (sb_ixT (e := (eT eI)) (xs := found_1) c12))))) (fun x15 : (List Int) => (wa_cons (e := eI) (wx_drawc (e := eI) (W := fun Q => ∀ x ∈ ways, Q x) (C := sOk ways.length) (At.get .z) (fun c13 => (pxs_cons (px_as ((eL eI) ways) (px_v (pv_at (.s (.s (.s (.s (.s .z)))))))) pxs_nil)) rfl (fun c13 => ok_law_someL (e := eI) ways c13)) (fun x14 : Int => wa_nil)))) (fun _ => rfl) (fun p16 c S => ok_law_turnU p16.1 p16.2.1 c S)) (fun x17 : (List Int) => wa_nil)) (fun _ => rfl) (fun _ => Nat.le_of_ble_eq_true rfl)) (wx_q (κ := (fun x : (List (List Int)) => AK.v ((eT (eT eI)) x))) (v := ([] : List (List Int))) (px_v (pv_as ((eT (eT eI)) ([] : List (List Int))) (pv_tup pvs_nil (Nat.le_of_ble_eq_true rfl))))))) (fun x20 y21 c22 => sb_catT (e := (eT eI)) (xs := x20) (ys := y21) c22)) (fun found_2 h23 => (ws_m [.fx 0, .va (eI signs), .va (eI most), .va ((eT (eT eI)) found_2), .va (eI turn), .va ((eL eI) ways)] rfl (ws_st (mOf := (fun found_1 : ((List (List Int))) => [.fx 0, .va (eI signs), .va (eI most), .va ((eT (eT eI)) found_1), .un, .un])) (s := found_2) (.kp (.kp (.kp (.kp (.un (.un .nil)))))) rfl h23))) h9)))) h7)⟩) h27) (fun found_3 h28 => (ws_last (ws_ret (e := (eT (eT eI))) (wx_q (κ := (fun x : (List (List Int)) => AK.v ((eT (eT eI)) x))) (v := found_3) (px_v (pv_at (.s (.s (.s .z)))))) rfl h28))) h4))) h)))
/-! _law_list -/
def B_law_listU_L1 (signs : Int) (found_1 : ((List (List Int)))) (turn : Int) (Qn Qb : ((List (List Int))) → Prop) : Prop :=
  lw (fun Q25 : (List (List Int)) → Prop => (inb found_1.length (-1)) ∧ (nOk signs) ∧ (∀ r_1 : Int, 0 ≤ r_1 → r_1 < signs → (C_law_turnU (pix found_1 (-1)) (1 + r_1)) ∧ (szOk (found_1.length + [(v_law_turnU (pix found_1 (-1)) (1 + r_1))].length)) ∧ Q25 (found_1 ++ [(v_law_turnU (pix found_1 (-1)) (1 + r_1))]))) fun found_2 => Qn found_2
def W_law_listU (signs : Int) (most : Int) (Qr : (List (List Int)) → Prop) : Prop :=
  lw (fun Q32 : (List (List Int)) → Prop => (W_law_wordU signs) (fun v => Q32 [v])) fun found => lw (fun Q26 : ((List (List Int))) → Prop => lw (fun Q30 : (List Int) → Prop => (nOk most) ∧ (∀ r : Int, 0 ≤ r → r < most → (rOk r) ∧ Q30 (rng 0 r))) fun l31 => wFor (B_law_listU_L1 signs) l31 found Q26) fun found_3 => Qr found_3
theorem ok_law_listU (signs : Int) (most : Int) : OkW m_law_listU [.v (eI signs), .v (eI most)] (eT (eT eI)) (W_law_listU signs most) :=
  wrapW [eI signs, eI most] 2 (eT (eT eI)) rfl (fun Qr h R => (show WS R [.fx 0, .va (eI signs), .va (eI most), .un, .un] b_law_listU (kF R (eT (eT eI)) Qr) from by unfold b_law_listU; unfold W_law_listU at h; exact (ws_set (κ := (fun x : (List (List Int)) => AK.v ((eT (eT eI)) x))) (wx_tup (e := (eT (eT eI))) (fun p3 : ((List Int) × Unit) => [p3.1]) (wa_cons (e := (eT eI)) (wx_drawq (e := (eT eI)) (W := (W_law_wordU signs)) (At.get .z) (pxs_cons (px_v (pv_at (.s .z))) pxs_nil) rfl (ok_law_wordU signs)) (fun x2 : (List Int) => wa_nil)) (fun _ => rfl) (fun _ => Nat.le_of_ble_eq_true rfl)) (fun found h4 => (ws_m [.fx 0, .va (eI signs), .va (eI most), .va ((eT (eT eI)) found), .un] rfl (ws_seqJ (mOf := (fun found_1 : ((List (List Int))) => [.fx 0, .va (eI signs), .va (eI most), .va ((eT (eT eI)) found_1), .un])) (fun Q26 h27 => ws_for (m2 := fun found_1 turn => [.fx 0, .va (eI signs), .va (eI most), .va ((eT (eT eI)) found_1), .va (eI turn)]) (c := eI) (mOf := (fun found_1 : ((List (List Int))) => [.fx 0, .va (eI signs), .va (eI most), .va ((eT (eT eI)) found_1), .un])) (body := (B_law_listU_L1 signs)) (s0 := found) (wi_rng1 (wx_drawc (e := eI) (W := WRoll most) (C := nOk most) (At.get .z) (fun c6 => (pxs_cons (px_v (pv_at (.s (.s .z)))) pxs_nil)) rfl (fun c6 => ok_law_rollU most c6))) (.kp (.kp (.kp (.kp (.un .nil))))) (fun found_1 turn Qn Qb h7 => by unfold B_law_listU_L1 at h7; exact ⟨gt_nm, (ws_last (ws_set (κ := (fun x : (List (List Int)) => AK.v ((eT (eT eI)) x))) (wx_bin (e1 := (eT (eT eI))) (e2 := (eT (eT eI))) (e := (eT (eT eI))) (C := fun (x21 : (List (List Int))) (y22 : (List (List Int))) => szOk (x21.length + y22.length)) (op := fun (x21 : (List (List Int))) (y22 : (List (List Int))) => (x21 ++ y22)) (wx_q (κ := (fun x : (List (List Int)) => AK.v ((eT (eT eI)) x))) (v := found_1) (px_v (pv_at (.s (.s (.s .z)))))) (fun _ => (wx_tup (e := (eT (eT eI))) (fun p20 : ((List Int) × Unit) => [p20.1]) (wa_cons (e := (eT eI)) (wx_own (e := (eT eI)) (C := fun p18 : ((List Int) × Int × Unit) => C_law_turnU p18.1 p18.2.1) (op := fun p18 : ((List Int) × Int × Unit) => (v_law_turnU p18.1 p18.2.1)) (wa_cons (e := (eT eI)) (wx_p (κ := (fun x : (List Int) => AK.v ((eT eI) x))) (v := (pix found_1 (-1))) (C := inb found_1.length (-1)) (fun c9 => (px_v (pv_bin (pv_r (pv_at (.s (.s (.s .z))))) (pv_r (pv_un (pv_r pv_c) su_neg)) (sb_ixT (e := (eT eI)) (xs := found_1) c9))))) (fun x17 : (List Int) => (wa_cons (e := eI) (wx_binq (e1 := eI) (e2 := eI) (e := eI) (op := fun (x13 : Int) (y14 : Int) => (x13 + y14)) (wx_q (κ := (fun x : Int => AK.v (eI x))) (v := 1) (px_v pv_c)) (fun _ => (wx_drawc (e := eI) (W := WRoll signs) (C := nOk signs) (At.get .z) (fun c12 => (pxs_cons (px_v (pv_at (.s .z))) pxs_nil)) rfl (fun c12 => ok_law_rollU signs c12))) (fun x13 y14 => sb_add)) (fun x16 : Int => wa_nil)))) (fun _ => rfl) (fun p18 c S => ok_law_turnU p18.1 p18.2.1 c S)) (fun x19 : (List Int) => wa_nil)) (fun _ => rfl) (fun _ => Nat.le_of_ble_eq_true rfl))) (fun x21 y22 c23 => sb_catT (e := (eT eI)) (xs := x21) (ys := y22) c23)) (fun found_2 h24 => (ws_m [.fx 0, .va (eI signs), .va (eI most), .va ((eT (eT eI)) found_2), .va (eI turn)] rfl (ws_st (mOf := (fun found_1 : ((List (List Int))) => [.fx 0, .va (eI signs), .va (eI most), .va ((eT (eT eI)) found_1), .un])) (s := found_2) (.kp (.kp (.kp (.kp (.un .nil))))) rfl h24))) h7))⟩) h27) (fun found_3 h28 => (ws_last (ws_ret (e := (eT (eT eI))) (wx_q (κ := (fun x : (List (List Int)) => AK.v ((eT (eT eI)) x))) (v := found_3) (px_v (pv_at (.s (.s (.s .z)))))) rfl h28))) h4))) h)))
/-! _law_reflected -/
def v_law_reflectedU_L1  (found_1 : ((List (List Int)))) (turn : Int) : ((List (List Int))) :=
  lt (((found_1.map fun (word : (List Int)) => (([0] : List Int) ++ word)) ++ (found_1.reverse.map fun (word_1 : (List Int)) => (([1] : List Int) ++ word_1))) : (List (List Int))) fun found_2 => found_2
def C_law_reflectedU_L1  (found_1 : ((List (List Int)))) (turn : Int) : Prop :=
  szOk found_1.length ∧ (∀ word ∈ found_1, szOk (([0] : List Int).length + word.length)) ∧ szOk found_1.reverse.length ∧ (∀ word_1 ∈ found_1.reverse, szOk (([1] : List Int).length + word_1.length)) ∧ szOk ((found_1.map fun (word : (List Int)) => (([0] : List Int) ++ word)).length + (found_1.reverse.map fun (word_1 : (List Int)) => (([1] : List Int) ++ word_1)).length)
def v_law_reflectedU (signs : Int) : (List (List Int)) :=
  lt ([([] : List Int)] : (List (List Int))) fun found => lt (((rng 0 signs).foldl v_law_reflectedU_L1 found) : ((List (List Int)))) fun found_3 => found_3
def C_law_reflectedU (signs : Int) : Prop :=
  lt ([([] : List Int)] : (List (List Int))) fun found => cR 0 signs ∧ forP v_law_reflectedU_L1 C_law_reflectedU_L1 (rng 0 signs) found
theorem ok_law_reflectedU (signs : Int) (h : C_law_reflectedU signs) (S : Sto) : m_law_reflectedU [.v (eI signs)] S = .ok (.v ((eL (eT eI)) (v_law_reflectedU signs))) S := by
  unfold C_law_reflectedU at h; exact wrap_ok [eI signs] 3 (eL (eT eI)) rfl (show TS S [.va (eI signs), .un, .un, .un] b_law_reflectedU (fun r => Oc.rt ((eL (eT eI)) r)) (v_law_reflectedU signs) from by unfold b_law_reflectedU v_law_reflectedU; exact (ts_set  (fun x : (List (List Int)) => AK.v ((eL (eT eI)) x)) (px_v (pv_as ((eL (eT eI)) [([] : List Int)]) (pv_lst (pvs_cons (pv_as ((eT eI) ([] : List Int)) (pv_tup pvs_nil (Nat.le_of_ble_eq_true rfl))) pvs_nil) (Nat.le_of_ble_eq_true rfl)))) (fun found h1 => (ts_m [.va (eI signs), .va ((eL (eT eI)) found), .un, .un] rfl (ts_join (Pk := fun _ => True) (mOf := (fun found_3 : ((List (List Int))) => [.va (eI signs), .va ((eL (eT eI)) found_3), .un, .un])) (ts_for (m2 := fun found_1 turn => [.va (eI signs), .va ((eL (eT eI)) found_1), .va (eI turn), .un]) (c := eI) (mOf := (fun found_1 : ((List (List Int))) => [.va (eI signs), .va ((eL (eT eI)) found_1), .un, .un])) (l := (rng 0 signs)) (s0 := found) (body := v_law_reflectedU_L1) (P := C_law_reflectedU_L1) (pxi_v (pi_rng1 (pv_at .z) h1.1.b)) (.kp (.kp (.un (.un .nil)))) (fun found_1 turn m3 h2 => by unfold v_law_reflectedU_L1; unfold C_law_reflectedU_L1 at h2; exact ⟨gt_nm, (ts_last (ts_set (Pk := fun _ => True) (fun x : (List (List Int)) => AK.v ((eL (eT eI)) x)) (px_v (pv_bin (pv_r (pv_lcy (m1 := fun word => [.va (eI signs), .va ((eL (eT eI)) found_1), .va (eI turn), .va ((eT eI) word)]) (c := (eT eI)) (e := (eT eI)) (l := found_1) (k := fun (word : (List Int)) => (([0] : List Int) ++ word)) (pi_L (e := (eT eI)) (xs := found_1) (pv_at (.s .z))) h2.1 (fun word m5 => ⟨gt_nm, (pv_bin (pv_r (pv_as ((eT eI) ([0] : List Int)) (pv_tup (pvs_cons pv_c pvs_nil) (Nat.le_of_ble_eq_true rfl)))) (pv_r (pv_at (.s (.s (.s .z))))) (sb_catT (e := eI) (xs := ([0] : List Int)) (ys := word) (h2.2.1 word m5)))⟩))) (pv_r (pv_lcy (m1 := fun word_1 => [.va (eI signs), .va ((eL (eT eI)) found_1), .va (eI turn), .va ((eT eI) word_1)]) (c := (eT eI)) (e := (eT eI)) (l := found_1.reverse) (k := fun (word_1 : (List Int)) => (([1] : List Int) ++ word_1)) (pi_L (e := (eT eI)) (xs := found_1.reverse) (pv_un (pv_r (pv_at (.s .z))) (su_revL (e := (eT eI))))) h2.2.2.1 (fun word_1 m7 => ⟨gt_nm, (pv_bin (pv_r (pv_as ((eT eI) ([1] : List Int)) (pv_tup (pvs_cons pv_c pvs_nil) (Nat.le_of_ble_eq_true rfl)))) (pv_r (pv_at (.s (.s (.s .z))))) (sb_catT (e := eI) (xs := ([1] : List Int)) (ys := word_1) (h2.2.2.2.1 word_1 m7)))⟩))) (sb_catL (e := (eT eI)) (xs := (found_1.map fun (word : (List Int)) => (([0] : List Int) ++ word))) (ys := (found_1.reverse.map fun (word_1 : (List Int)) => (([1] : List Int) ++ word_1))) h2.2.2.2.2))) (fun found_2 h8 => (ts_m [.va (eI signs), .va ((eL (eT eI)) found_2), .va (eI turn), .un] rfl (ts_lp (.kp (.kp (.un (.un .nil))))))) trivial))⟩) h1.2) (fun found_3 h9 => (ts_last (ts_retd (px_v (pv_at (.s .z)))))) trivial))) h))
/-! _law_places -/
def v_law_placesU (one : (List Int)) (other : (List Int)) : (List Int) :=
  (((rng 0 (one.length : Int)).filter fun (at' : Int) => decide ((pix one at') ≠ (pix other at'))).map fun (at' : Int) => (at' + 1))
def C_law_placesU (one : (List Int)) (other : (List Int)) : Prop :=
  cR 0 (one.length : Int) ∧ ∀ at' ∈ (rng 0 (one.length : Int)), inb one.length at' ∧ inb other.length at'
theorem ok_law_placesU (one : (List Int)) (other : (List Int)) (h : C_law_placesU one other) (S : Sto) : m_law_placesU [.v ((eT eI) one), .v ((eT eI) other)] S = .ok (.v ((eL eI) (v_law_placesU one other))) S := by
  unfold C_law_placesU at h; exact wrap_ok [(eT eI) one, (eT eI) other] 1 (eL eI) rfl (show TS S [.va ((eT eI) one), .va ((eT eI) other), .un] b_law_placesU (fun r => Oc.rt ((eL eI) r)) (v_law_placesU one other) from by unfold b_law_placesU v_law_placesU; exact (ts_last (ts_retd (px_v (pv_lc (m1 := fun at' => [.va ((eT eI) one), .va ((eT eI) other), .va (eI at')]) (c := eI) (e := eI) (l := (rng 0 (one.length : Int))) (p := fun (at' : Int) => (pix one at') ≠ (pix other at')) (k := fun (at' : Int) => (at' + 1)) (pi_rng1 (pv_call (pc_cons (pv_r (pv_at .z)) pc_nil) (sc_lenT (e := eI) (xs := one))) h.1.b) h.1.sz (fun at' m2 => ⟨gt_nm, (pb_bin (pv_r (pv_bin (pv_r (pv_at .z)) (pv_r (pv_at (.s (.s .z)))) (sb_ixT (e := eI) (xs := one) (h.2 at' m2).1))) (pv_r (pv_bin (pv_r (pv_at (.s .z))) (pv_r (pv_at (.s (.s .z)))) (sb_ixT (e := eI) (xs := other) (h.2 at' m2).2))) (sb_ne (a := (pix one at')) (b := (pix other at')) qI (by decide))), fun h3 => (pv_bin (pv_r (pv_at (.s (.s .z)))) (pv_r pv_c) sb_add)⟩))))))
/-! _law_is_list -/
def v_law_is_listU_L1 (value : D) (s : Unit) (word : D) : Ctl Unit Bool :=
  if (¬((isT "tuple" word) = true)) ∨ ((¬(1 ≤ ((dIt word).length : Int) ∧ ((dIt word).length : Int) ≤ 16)) ∨ (((dIt word).length : Int) ≠ ((dIt (pix (dIt value) 0)).length : Int))) then (.ret false) else if (!(D.eqv ((eL eA) ((dIt word).filter fun (sign : D) => decide (((isT "bool" sign) = true) ∨ ((¬((isT "int" sign) = true)) ∨ (¬ (asI sign) ∈ ([0, 1] : List Int)))))) ((eL eI) ([] : List Int)))) = true then (.ret false) else (.go ())
def C_law_is_listU_L1 (value : D) (s : Unit) (word : D) : Prop :=
  (tyD word).isSome = true ∧ (¬(¬((isT "tuple" word) = true)) → isSq word = true ∧ (¬(¬(1 ≤ ((dIt word).length : Int) ∧ ((dIt word).length : Int) ≤ 16)) → inb (dIt value).length 0 ∧ isSq (pix (dIt value) 0) = true)) ∧ (¬((¬((isT "tuple" word) = true)) ∨ ((¬(1 ≤ ((dIt word).length : Int) ∧ ((dIt word).length : Int) ≤ 16)) ∨ (((dIt word).length : Int) ≠ ((dIt (pix (dIt value) 0)).length : Int)))) → isSq word = true ∧ szOk (dIt word).length ∧ (∀ sign ∈ (dIt word), (tyD sign).isSome = true ∧ (¬((isT "bool" sign) = true) → (¬(¬((isT "int" sign) = true)) → sign = D.int (asI sign)))) ∧ (D.eqk ((eL eA) ((dIt word).filter fun (sign : D) => decide (((isT "bool" sign) = true) ∨ ((¬((isT "int" sign) = true)) ∨ (¬ (asI sign) ∈ ([0, 1] : List Int)))))) = true) ∧ D.eqk ((eL eI) ([] : List Int)) = true)
def v_law_is_listU (value : D) : Bool :=
  if (¬((isT "tuple" value) = true)) ∨ (¬(1 ≤ ((dIt value).length : Int) ∧ ((dIt value).length : Int) ≤ 5000)) then false else (forC (v_law_is_listU_L1 value) (dIt value) ()).after fun s_1 => (decide ((((((asT (asT asI)) value).zip (cut ((asT (asT asI)) value) (some 1) none)).filter fun (p : ((List Int) × (List Int))) => decide (((v_law_placesU p.1 p.2).length : Int) ≠ 1)).map fun (p : ((List Int) × (List Int))) => (1 : Int)) = ([] : List Int)))
def C_law_is_listU (value : D) : Prop :=
  (tyD value).isSome = true ∧ (¬(¬((isT "tuple" value) = true)) → isSq value = true) ∧ (¬((¬((isT "tuple" value) = true)) ∨ (¬(1 ≤ ((dIt value).length : Int) ∧ ((dIt value).length : Int) ≤ 5000))) → isSq value = true ∧ forCP (v_law_is_listU_L1 value) (C_law_is_listU_L1 value) (dIt value) () ∧ ((forC (v_law_is_listU_L1 value) (dIt value) ())).afterP fun s_1 => value = (eT (eT eI)) ((asT (asT asI)) value) ∧ szOk ((asT (asT asI)) value).length ∧ ∀ p ∈ (((asT (asT asI)) value).zip (cut ((asT (asT asI)) value) (some 1) none)), C_law_placesU p.1 p.2)
theorem ok_law_is_listU (value : D) (h : C_law_is_listU value) (S : Sto) : m_law_is_listU [.v (eA value)] S = .ok (.v (eB (v_law_is_listU value))) S := by
  unfold C_law_is_listU at h; exact wrap_ok [eA value] 4 eB rfl (show TS S [.va (eA value), .un, .un, .un, .un] b_law_is_listU (fun r => Oc.rt (eB r)) (v_law_is_listU value) from by unfold b_law_is_listU v_law_is_listU; exact (ts_if (pb_or (pb_not (pb_tru (pv_call (pc_cons (pv_r (pv_at .z)) (pc_cons (pv_r pv_c) pc_nil)) (sc_isi (d := value) rfl h.1)))) (fun h1 => (pb_not (pb_chain pv_c (pv_call (pc_cons (pv_r (pv_at .z)) pc_nil) (sc_lenA (h.2.1 h1))) sb_le (fun h2 => pv_c) (fun _ => sb_le))))) (fun h3 => (ts_retd (px_v pv_c))) (fun h4 => (ts_nxl (ts_forC  (m2 := fun s word => [.va (eA value), .va (eA word), .un, .un, .un]) (c := eA) (mOf := (fun s : Unit => [.va (eA value), .un, .un, .un, .un])) (l := (dIt value)) (s0 := ()) (body := (v_law_is_listU_L1 value)) (P := (C_law_is_listU_L1 value)) (fun _ => trivial) (pxi_v (pi_A (pv_at .z) (h.2.2 h4).1)) (.kp (.un (.un (.un (.un .nil))))) (fun s word m6 h5 => by unfold v_law_is_listU_L1; unfold C_law_is_listU_L1 at h5; exact ⟨gt_nm, (ts_if (pb_or (pb_not (pb_tru (pv_call (pc_cons (pv_r (pv_at (.s .z))) (pc_cons (pv_r pv_c) pc_nil)) (sc_isi (d := word) rfl h5.1)))) (fun h7 => (pb_or (pb_not (pb_chain pv_c (pv_call (pc_cons (pv_r (pv_at (.s .z))) pc_nil) (sc_lenA (h5.2.1 h7).1)) sb_le (fun h8 => pv_c) (fun _ => sb_le))) (fun h9 => (pb_bin (pv_r (pv_call (pc_cons (pv_r (pv_at (.s .z))) pc_nil) (sc_lenA (h5.2.1 h7).1))) (pv_r (pv_call (pc_cons (pv_r (pv_bin (pv_r (pv_at .z)) (pv_r pv_c) (sb_ixA (h.2.2 h4).1 ((h5.2.1 h7).2 h9).1))) pc_nil) (sc_lenA ((h5.2.1 h7).2 h9).2))) (sb_ne (a := ((dIt word).length : Int)) (b := ((dIt (pix (dIt value) 0)).length : Int)) qI (by decide))))))) (fun h10 => (ts_retd (px_v pv_c))) (fun h11 => (ts_nxl (ts_last (ts_if (pb_binB (pv_r (pv_lcf (m1 := fun sign => [.va (eA value), .va (eA word), .un, .un, .va (eA sign)]) (c := eA) (l := (dIt word)) (p := fun (sign : D) => ((isT "bool" sign) = true) ∨ ((¬((isT "int" sign) = true)) ∨ (¬ (asI sign) ∈ ([0, 1] : List Int)))) (pi_A (pv_at (.s .z)) (h5.2.2 h11).1) (h5.2.2 h11).2.1 (fun sign m13 => ⟨gt_nm, (pb_or (pb_tru (pv_call (pc_cons (pv_r (pv_at (.s (.s (.s (.s .z)))))) (pc_cons (pv_r pv_c) pc_nil)) (sc_isi (d := sign) rfl ((h5.2.2 h11).2.2.1 sign m13).1))) (fun h14 => (pb_or (pb_not (pb_tru (pv_call (pc_cons (pv_r (pv_at (.s (.s (.s (.s .z)))))) (pc_cons (pv_r pv_c) pc_nil)) (sc_isi (d := sign) rfl ((h5.2.2 h11).2.2.1 sign m13).1)))) (fun h15 => (pb_bin (pv_r (pv_cast ((((h5.2.2 h11).2.2.1 sign m13).2 h14) h15) (pv_at (.s (.s (.s (.s .z))))))) (pv_r (pv_as ((eT eI) ([0, 1] : List Int)) (pv_tup (pvs_cons pv_c (pvs_cons pv_c pvs_nil)) (Nat.le_of_ble_eq_true rfl)))) (sb_ninTd (x := (asI sign)) (xs := ([0, 1] : List Int)) qI (by decide))))))), fun h16 => (pv_at (.s (.s (.s (.s .z)))))⟩))) (pv_r (pv_as ((eL eI) ([] : List Int)) (pv_lst pvs_nil (Nat.le_of_ble_eq_true rfl)))) (sb_neA (h5.2.2 h11).2.2.2.1 (h5.2.2 h11).2.2.2.2)) (fun h17 => (ts_retd (px_v pv_c))) (fun h18 => (ts_nxl (ts_lp (.kp (.un (.un (.un (.un .nil)))))))))))))⟩) (h.2.2 h4).2.1 (fun s_1 h19 => (ts_last (ts_retd (px_v (pv_bin (pv_r (pv_lc (m1 := fun p => [.va (eA value), .un, .va ((eT eI) p.1), .va ((eT eI) p.2), .un]) (c := (eP (eT eI) (eT eI))) (e := eI) (l := (((asT (asT asI)) value).zip (cut ((asT (asT asI)) value) (some 1) none))) (p := fun (p : ((List Int) × (List Int))) => ((v_law_placesU p.1 p.2).length : Int) ≠ 1) (k := fun (p : ((List Int) × (List Int))) => (1 : Int)) (pi_zip (e := (eT eI)) (xs := ((asT (asT asI)) value)) (e' := (eT eI)) (ys := (cut ((asT (asT asI)) value) (some 1) none)) (pv_cast h19.1 (pv_at .z)) (pv_slT (pv_cast h19.1 (pv_at .z)) (po_some pv_c) po_none) (.tup _) (.tup _)) (sz_zip h19.2.1) (fun p m21 => ⟨(gt_tp (gts_cons gt_nm (gts_cons gt_nm gts_nil))), (pb_bin (pv_r (pv_call (pc_cons (pv_r (pv_own (pvs_cons (pv_at (.s (.s .z))) (pvs_cons (pv_at (.s (.s (.s .z)))) pvs_nil)) rfl (ok_law_placesU p.1 p.2 (h19.2.2 p m21)))) pc_nil) (sc_lenL (e := eI) (xs := (v_law_placesU p.1 p.2))))) (pv_r pv_c) (sb_ne (a := ((v_law_placesU p.1 p.2).length : Int)) (b := 1) qI (by decide))), fun h22 => pv_c⟩))) (pv_r (pv_as ((eL eI) ([] : List Int)) (pv_lst pvs_nil (Nat.le_of_ble_eq_true rfl)))) (sb_eq (a := (((((asT (asT asI)) value).zip (cut ((asT (asT asI)) value) (some 1) none)).filter fun (p : ((List Int) × (List Int))) => decide (((v_law_placesU p.1 p.2).length : Int) ≠ 1)).map fun (p : ((List Int) × (List Int))) => (1 : Int))) (b := ([] : List Int)) (qL qI) (by decide))))))) (h.2.2 h4).2.2)))))
/-! _law_touching -/
def v_law_touchingU_L1 (words : (List (List Int))) (at' : Int) (found_2 : ((List (Int × Int)))) (place : Int) : Ctl ((List (Int × Int))) (Option (List (Int × Int))) :=
  lt ((v_law_placesU (pix words at') (pix words place)).length : Int) fun far => if far = 0 then (.ret (none : (Option (List (Int × Int))))) else lt ((found_2 ++ (if far = 1 then [(at', place)] else ([] : List (Int × Int)))) : (List (Int × Int))) fun found_3 => (.go found_3)
def C_law_touchingU_L1 (words : (List (List Int))) (at' : Int) (found_2 : ((List (Int × Int)))) (place : Int) : Prop :=
  inb words.length at' ∧ inb words.length place ∧ C_law_placesU (pix words at') (pix words place) ∧ (lt ((v_law_placesU (pix words at') (pix words place)).length : Int) fun far => (¬(far = 0) → szOk (found_2.length + (if far = 1 then [(at', place)] else ([] : List (Int × Int))).length)))
def v_law_touchingU_L2 (words : (List (List Int))) (found_1 : ((List (Int × Int)))) (at' : Int) : Ctl ((List (Int × Int))) (Option (List (Int × Int))) :=
  (forC (v_law_touchingU_L1 words at') (rng (at' + 1) (words.length : Int)) found_1).afterL fun found_4 => (.go found_4)
def C_law_touchingU_L2 (words : (List (List Int))) (found_1 : ((List (Int × Int)))) (at' : Int) : Prop :=
  cR (at' + 1) (words.length : Int) ∧ forCP (v_law_touchingU_L1 words at') (C_law_touchingU_L1 words at') (rng (at' + 1) (words.length : Int)) found_1
def v_law_touchingU (words : (List (List Int))) : (Option (List (Int × Int))) :=
  lt (([] : List (Int × Int)) : (List (Int × Int))) fun found => (forC (v_law_touchingU_L2 words) (rng 0 (words.length : Int)) found).after fun found_5 => (some found_5)
def C_law_touchingU (words : (List (List Int))) : Prop :=
  lt (([] : List (Int × Int)) : (List (Int × Int))) fun found => cR 0 (words.length : Int) ∧ forCP (v_law_touchingU_L2 words) (C_law_touchingU_L2 words) (rng 0 (words.length : Int)) found
theorem ok_law_touchingU (words : (List (List Int))) (h : C_law_touchingU words) (S : Sto) : m_law_touchingU [.v ((eT (eT eI)) words)] S = .ok (.v ((eO (eL (eP eI eI))) (v_law_touchingU words))) S := by
  unfold C_law_touchingU at h; exact wrap_ok [(eT (eT eI)) words] 4 (eO (eL (eP eI eI))) rfl (show TS S [.va ((eT (eT eI)) words), .un, .un, .un, .un] b_law_touchingU (fun r => Oc.rt ((eO (eL (eP eI eI))) r)) (v_law_touchingU words) from by unfold b_law_touchingU v_law_touchingU; exact (ts_set  (fun x : (List (Int × Int)) => AK.v ((eL (eP eI eI)) x)) (px_v (pv_as ((eL (eP eI eI)) ([] : List (Int × Int))) (pv_lst pvs_nil (Nat.le_of_ble_eq_true rfl)))) (fun found h1 => (ts_m [.va ((eT (eT eI)) words), .va ((eL (eP eI eI)) found), .un, .un, .un] rfl (ts_forC (Pk := fun _ => True) (m2 := fun found_1 at' => [.va ((eT (eT eI)) words), .va ((eL (eP eI eI)) found_1), .va (eI at'), .un, .un]) (c := eI) (mOf := (fun found_1 : ((List (Int × Int))) => [.va ((eT (eT eI)) words), .va ((eL (eP eI eI)) found_1), .un, .un, .un])) (l := (rng 0 (words.length : Int))) (s0 := found) (body := (v_law_touchingU_L2 words)) (P := (C_law_touchingU_L2 words)) (fun _ => trivial) (pxi_v (pi_rng1 (pv_call (pc_cons (pv_r (pv_at .z)) pc_nil) (sc_lenT (e := (eT eI)) (xs := words))) h1.1.b)) (.kp (.kp (.un (.un (.un .nil))))) (fun found_1 at' m3 h2 => by unfold v_law_touchingU_L2; unfold C_law_touchingU_L2 at h2; exact ⟨gt_nm, (ts_last (ts_forCL (Pk := fun _ => True) (m2 := fun found_2 place => [.va ((eT (eT eI)) words), .va ((eL (eP eI eI)) found_2), .va (eI at'), .va (eI place), .un]) (c := eI) (mOf := (fun found_2 : ((List (Int × Int))) => [.va ((eT (eT eI)) words), .va ((eL (eP eI eI)) found_2), .va (eI at'), .un, .un])) (l := (rng (at' + 1) (words.length : Int))) (s0 := found_1) (body := (v_law_touchingU_L1 words at')) (P := (C_law_touchingU_L1 words at')) (fun _ => trivial) (pxi_v (pi_rng2 (pv_bin (pv_r (pv_at (.s (.s .z)))) (pv_r pv_c) sb_add) (pv_call (pc_cons (pv_r (pv_at .z)) pc_nil) (sc_lenT (e := (eT eI)) (xs := words))) h2.1.a h2.1.b)) (.kp (.kp (.kp (.un (.un .nil))))) (fun found_2 place m5 h4 => by unfold v_law_touchingU_L1; unfold C_law_touchingU_L1 at h4; exact ⟨gt_nm, (ts_set  (fun x : Int => AK.v (eI x)) (px_v (pv_call (pc_cons (pv_r (pv_own (pvs_cons (pv_bin (pv_r (pv_at .z)) (pv_r (pv_at (.s (.s .z)))) (sb_ixT (e := (eT eI)) (xs := words) h4.1)) (pvs_cons (pv_bin (pv_r (pv_at .z)) (pv_r (pv_at (.s (.s (.s .z))))) (sb_ixT (e := (eT eI)) (xs := words) h4.2.1)) pvs_nil)) rfl (ok_law_placesU (pix words at') (pix words place) h4.2.2.1))) pc_nil) (sc_lenL (e := eI) (xs := (v_law_placesU (pix words at') (pix words place)))))) (fun far h6 => (ts_m [.va ((eT (eT eI)) words), .va ((eL (eP eI eI)) found_2), .va (eI at'), .va (eI place), .va (eI far)] rfl (ts_if (pb_bin (pv_r (pv_at (.s (.s (.s (.s .z)))))) (pv_r pv_c) (sb_eq (a := far) (b := 0) qI (by decide))) (fun h7 => (ts_retd (px_v pv_c))) (fun h8 => (ts_nxl (ts_last (ts_set (Pk := fun _ => True) (fun x : (List (Int × Int)) => AK.v ((eL (eP eI eI)) x)) (px_v (pv_bin (pv_r (pv_at (.s .z))) (pv_r (pv_if (eL (eP eI eI)) (x := [(at', place)]) (y := ([] : List (Int × Int))) (pb_bin (pv_r (pv_at (.s (.s (.s (.s .z)))))) (pv_r pv_c) (sb_eq (a := far) (b := 1) qI (by decide))) (fun h9 => (pv_as ((eL (eP eI eI)) [(at', place)]) (pv_lst (pvs_cons (pv_as ((eP eI eI) (at', place)) (pv_tup (pvs_cons (pv_at (.s (.s .z))) (pvs_cons (pv_at (.s (.s (.s .z)))) pvs_nil)) (Nat.le_of_ble_eq_true rfl))) pvs_nil) (Nat.le_of_ble_eq_true rfl)))) (fun h10 => (pv_as ((eL (eP eI eI)) ([] : List (Int × Int))) (pv_lst pvs_nil (Nat.le_of_ble_eq_true rfl)))))) (sb_catL (e := (eP eI eI)) (xs := found_2) (ys := (if far = 1 then [(at', place)] else ([] : List (Int × Int)))) (h6 h8)))) (fun found_3 h11 => (ts_m [.va ((eT (eT eI)) words), .va ((eL (eP eI eI)) found_3), .va (eI at'), .va (eI place), .va (eI far)] rfl (ts_lp (.kp (.kp (.kp (.un (.un .nil)))))))) trivial))))))) h4.2.2.2)⟩) h2.2 (fun found_4 h12 => (ts_lp (.kp (.kp (.un (.un (.un .nil))))))) (afterP_triv _)))⟩) h1.2 (fun found_5 h13 => (ts_last (ts_retd (px_v (pv_at (.s .z)))))) (afterP_triv _)))) h))
/-! _law_judged -/
def v_law_judgedU (value : D) : (Bool × Bool) :=
  if ¬((v_law_is_listU value) = true) then (false, false) else lt (((v_law_touchingU ((asT (asT asI)) value)), (((dIt value).length : Int) - 1)) : ((Option (List (Int × Int))) × Int)) fun p => if p.1.isNone = true then (false, false) else lt (((rng 0 p.2).map fun (at' : Int) => (at', (at' + 1))) : (List (Int × Int))) fun line => ((decide ((p.1.getD default) = line)), ((decide (p.2 > 1)) && ((decide ((0, p.2) ∈ (p.1.getD default))) && (D.eqv ((eL (eP eI eI)) ((p.1.getD default).filter fun (pair : (Int × Int)) => decide (¬ pair ∈ (line ++ [(0, p.2)])))) ((eL eI) ([] : List Int))))))
def C_law_judgedU (value : D) : Prop :=
  C_law_is_listU value ∧ (¬(¬((v_law_is_listU value) = true)) → value = (eT (eT eI)) ((asT (asT asI)) value) ∧ C_law_touchingU ((asT (asT asI)) value) ∧ isSq value = true ∧ (lt (((v_law_touchingU ((asT (asT asI)) value)), (((dIt value).length : Int) - 1)) : ((Option (List (Int × Int))) × Int)) fun p => (¬(p.1.isNone = true) → cR 0 p.2 ∧ (lt (((rng 0 p.2).map fun (at' : Int) => (at', (at' + 1))) : (List (Int × Int))) fun line => (p.1).isSome = true ∧ ((decide (p.2 > 1)) = true → ((decide ((0, p.2) ∈ (p.1.getD default))) = true → szOk (p.1.getD default).length ∧ (∀ pair ∈ (p.1.getD default), szOk (line.length + [(0, p.2)].length)) ∧ (D.eqk ((eL (eP eI eI)) ((p.1.getD default).filter fun (pair : (Int × Int)) => decide (¬ pair ∈ (line ++ [(0, p.2)])))) = true) ∧ D.eqk ((eL eI) ([] : List Int)) = true))))))
theorem ok_law_judgedU (value : D) (h : C_law_judgedU value) (S : Sto) : m_law_judgedU [.v (eA value)] S = .ok (.v ((eP eB eB) (v_law_judgedU value))) S := by
  unfold C_law_judgedU at h; exact wrap_ok [eA value] 5 (eP eB eB) rfl (show TS S [.va (eA value), .un, .un, .un, .un, .un] b_law_judgedU (fun r => Oc.rt ((eP eB eB) r)) (v_law_judgedU value) from by unfold b_law_judgedU v_law_judgedU; exact (ts_if (pb_not (pb_tru (pv_own (pvs_cons (pv_at .z) pvs_nil) rfl (ok_law_is_listU value h.1)))) (fun h1 => (ts_retd (px_v (pv_as ((eP eB eB) (false, false)) (pv_tup (pvs_cons pv_c (pvs_cons pv_c pvs_nil)) (Nat.le_of_ble_eq_true rfl)))))) (fun h2 => (ts_nxl (ts_asg  (c := (eP (eO (eL (eP eI eI))) eI)) (v := ((v_law_touchingU ((asT (asT asI)) value)), (((dIt value).length : Int) - 1))) (px_v (pv_as ((eP (eO (eL (eP eI eI))) eI) ((v_law_touchingU ((asT (asT asI)) value)), (((dIt value).length : Int) - 1))) (pv_tup (pvs_cons (pv_own (pvs_cons (pv_cast (h.2 h2).1 (pv_at .z)) pvs_nil) rfl (ok_law_touchingU ((asT (asT asI)) value) (h.2 h2).2.1)) (pvs_cons (pv_bin (pv_r (pv_call (pc_cons (pv_r (pv_at .z)) pc_nil) (sc_lenA (h.2 h2).2.2.1))) (pv_r pv_c) sb_sub) pvs_nil)) (Nat.le_of_ble_eq_true rfl)))) (fun p h3 => ⟨(gt_tp (gts_cons gt_nm (gts_cons gt_nm gts_nil))), (ts_m [.va (eA value), .va ((eO (eL (eP eI eI))) p.1), .va (eI p.2), .un, .un, .un] rfl (ts_if (pb_binB (pv_r (pv_at (.s .z))) (pv_r pv_c) (sb_isO (fun _ h => by cases h))) (fun h4 => (ts_retd (px_v (pv_as ((eP eB eB) (false, false)) (pv_tup (pvs_cons pv_c (pvs_cons pv_c pvs_nil)) (Nat.le_of_ble_eq_true rfl)))))) (fun h5 => (ts_nxl (ts_set  (fun x : (List (Int × Int)) => AK.v ((eL (eP eI eI)) x)) (px_v (pv_lcy (m1 := fun at' => [.va (eA value), .va ((eO (eL (eP eI eI))) p.1), .va (eI p.2), .un, .va (eI at'), .un]) (c := eI) (e := (eP eI eI)) (l := (rng 0 p.2)) (k := fun (at' : Int) => (at', (at' + 1))) (pi_rng1 (pv_at (.s (.s .z))) (h3 h5).1.b) (h3 h5).1.sz (fun at' m7 => ⟨gt_nm, (pv_as ((eP eI eI) (at', (at' + 1))) (pv_tup (pvs_cons (pv_at (.s (.s (.s (.s .z))))) (pvs_cons (pv_bin (pv_r (pv_at (.s (.s (.s (.s .z)))))) (pv_r pv_c) sb_add) pvs_nil)) (Nat.le_of_ble_eq_true rfl)))⟩))) (fun line h8 => (ts_m [.va (eA value), .va ((eO (eL (eP eI eI))) p.1), .va (eI p.2), .va ((eL (eP eI eI)) line), .un, .un] rfl (ts_last (ts_retd (px_v (pv_as ((eP eB eB) ((decide ((p.1.getD default) = line)), ((decide (p.2 > 1)) && ((decide ((0, p.2) ∈ (p.1.getD default))) && (D.eqv ((eL (eP eI eI)) ((p.1.getD default).filter fun (pair : (Int × Int)) => decide (¬ pair ∈ (line ++ [(0, p.2)])))) ((eL eI) ([] : List Int))))))) (pv_tup (pvs_cons (pv_bin (pv_r (pv_cast (eO_some h8.1) (pv_at (.s .z)))) (pv_r (pv_at (.s (.s (.s .z))))) (sb_eq (a := (p.1.getD default)) (b := line) (qL (qP qI qI)) (by decide))) (pvs_cons (pv_and (pv_bin (pv_r (pv_at (.s (.s .z)))) (pv_r pv_c) sb_gt) (fun h9 => (pv_and (pv_bin (pv_r (pv_as ((eP eI eI) (0, p.2)) (pv_tup (pvs_cons pv_c (pvs_cons (pv_at (.s (.s .z))) pvs_nil)) (Nat.le_of_ble_eq_true rfl)))) (pv_r (pv_cast (eO_some h8.1) (pv_at (.s .z)))) (sb_inLd (x := (0, p.2)) (xs := (p.1.getD default)) (qP qI qI) (by decide))) (fun h10 => (pv_bin (pv_r (pv_lcf (m1 := fun pair => [.va (eA value), .va ((eO (eL (eP eI eI))) p.1), .va (eI p.2), .va ((eL (eP eI eI)) line), .un, .va ((eP eI eI) pair)]) (c := (eP eI eI)) (l := (p.1.getD default)) (p := fun (pair : (Int × Int)) => ¬ pair ∈ (line ++ [(0, p.2)])) (pi_L (e := (eP eI eI)) (xs := (p.1.getD default)) (pv_cast (eO_some h8.1) (pv_at (.s .z)))) ((h8.2 h9) h10).1 (fun pair m12 => ⟨gt_nm, (pb_bin (pv_r (pv_at (.s (.s (.s (.s (.s .z))))))) (pv_r (pv_bin (pv_r (pv_at (.s (.s (.s .z))))) (pv_r (pv_as ((eL (eP eI eI)) [(0, p.2)]) (pv_lst (pvs_cons (pv_as ((eP eI eI) (0, p.2)) (pv_tup (pvs_cons pv_c (pvs_cons (pv_at (.s (.s .z))) pvs_nil)) (Nat.le_of_ble_eq_true rfl))) pvs_nil) (Nat.le_of_ble_eq_true rfl)))) (sb_catL (e := (eP eI eI)) (xs := line) (ys := [(0, p.2)]) (((h8.2 h9) h10).2.1 pair m12)))) (sb_ninLd (x := pair) (xs := (line ++ [(0, p.2)])) (qP qI qI) (by decide))), fun h13 => (pv_at (.s (.s (.s (.s (.s .z))))))⟩))) (pv_r (pv_as ((eL eI) ([] : List Int)) (pv_lst pvs_nil (Nat.le_of_ble_eq_true rfl)))) (sb_eqA ((h8.2 h9) h10).2.2.1 ((h8.2 h9) h10).2.2.2)))))) pvs_nil)) (Nat.le_of_ble_eq_true rfl)))))))) (h3 h5).2)))))⟩) (h.2 h2).2.2.2)))))
/-! _law_right -/
def v_law_rightU (value : D) : Bool :=
  true
def C_law_rightU (value : D) : Prop :=
  C_is_snake value ∧ C_is_coil value ∧ C_law_judgedU value ∧ sameP ((eP eB eB) ((v_is_snake value), (v_is_coil value))) ((eP eB eB) (v_law_judgedU value))
theorem ok_law_rightU (value : D) (h : C_law_rightU value) (S : Sto) : m_law_rightU [.v (eA value)] S = .ok (.v (eB (v_law_rightU value))) S := by
  unfold C_law_rightU at h; exact wrap_ok [eA value] 0 eB rfl (show TS S [.va (eA value)] b_law_rightU (fun r => Oc.rt (eB r)) (v_law_rightU value) from by unfold b_law_rightU v_law_rightU; exact (ts_last (ts_retd (px_v (pv_own (pvs_cons (pv_as ((eP eB eB) ((v_is_snake value), (v_is_coil value))) (pv_as ((eP eB eB) ((v_is_snake value), (v_is_coil value))) (pv_tup (pvs_cons (pv_own (pvs_cons (pv_at .z) pvs_nil) rfl (ok_is_snake value h.1)) (pvs_cons (pv_own (pvs_cons (pv_at .z) pvs_nil) rfl (ok_is_coil value h.2.1)) pvs_nil)) (Nat.le_of_ble_eq_true rfl)))) (pvs_cons (pv_as ((eP eB eB) (v_law_judgedU value)) (pv_own (pvs_cons (pv_at .z) pvs_nil) rfl (ok_law_judgedU value h.2.2.1))) pvs_nil)) rfl (law_same_ok h.2.2.2))))))
/-! law -/
def B_law_L1  (Qr : Bool → Prop) (s_2 : Unit) (value : D) (Qn Qb : Unit → Prop) : Prop :=
  (C_law_rightU value) ∧ ((¬((v_law_rightU value) = true)) → Qr false) ∧ (¬(¬((v_law_rightU value) = true)) → Qn ())
def B_law_L2  (Qr : Bool → Prop) (s_1 : Unit) (one : (List (List Int))) (Qn Qb : Unit → Prop) : Prop :=
  lw (fun Q92 : (Int × (List Int)) → Prop => (nOk (one.length : Int)) ∧ (∀ r_1 : Int, 0 ≤ r_1 → r_1 < (one.length : Int) → (inb one.length 0) ∧ (W_law_wordU ((pix one 0).length : Int)) (fun v_3 => Q92 (r_1, v_3)))) fun p_1 => lw (fun Q91 : (List D) → Prop => (szOk (one.length + (cut one (some (-1)) none).length) ∧ szOk ((cut one none (some p_1.1)).length + (cut one (some (p_1.1 + 1)) none).length) ∧ szOk ((cut one none (some p_1.1)).length + [p_1.2].length) ∧ szOk (((cut one none (some p_1.1)) ++ [p_1.2]).length + (cut one (some (p_1.1 + 1)) none).length) ∧ szOk ((cut one (some p_1.1) none).length + (cut one none (some p_1.1)).length)) ∧ Q91 [((eT (eT eI)) one), ((eT (eT eI)) one.reverse), ((eT (eT eI)) (one ++ (cut one (some (-1)) none))), ((eT (eT eI)) ((cut one none (some p_1.1)) ++ (cut one (some (p_1.1 + 1)) none))), ((eT (eT eI)) (((cut one none (some p_1.1)) ++ [p_1.2]) ++ (cut one (some (p_1.1 + 1)) none))), ((eT (eT eI)) ((cut one (some p_1.1) none) ++ (cut one none (some p_1.1)))), ((eL (eT eI)) one)]) fun values => lw (fun Q90 : (List D) → Prop => (szOk (p_1.2.length + ([0] : List Int).length) ∧ szOk ([(eB true)].length + ((cut p_1.2 (some 1) none).map eI).length) ∧ szOk (([2] : List Int).length + (cut p_1.2 (some 1) none).length)) ∧ Q90 [(eN ()), ((eL eI) p_1.2), ((eT eI) (cut p_1.2 none (some (-1)))), ((eT eI) (p_1.2 ++ ([0] : List Int))), ((eT eA) ([(eB true)] ++ ((cut p_1.2 (some 1) none).map eI))), (eI 5), ((eT eI) (([2] : List Int) ++ (cut p_1.2 (some 1) none)))]) fun odds => lw (fun Q89 : (List D) → Prop => (szOk odds.length ∧ (∀ odd ∈ odds, szOk (((cut one none (some p_1.1)).map (eT eI)).length + [odd].length) ∧ szOk ((((cut one none (some p_1.1)).map (eT eI)) ++ [odd]).length + ((cut one (some (p_1.1 + 1)) none).map (eT eI)).length)) ∧ szOk (values.length + (odds.map fun (odd : D) => ((eT eA) ((((cut one none (some p_1.1)).map (eT eI)) ++ [odd]) ++ ((cut one (some (p_1.1 + 1)) none).map (eT eI))))).length)) ∧ Q89 (values ++ (odds.map fun (odd : D) => ((eT eA) ((((cut one none (some p_1.1)).map (eT eI)) ++ [odd]) ++ ((cut one (some (p_1.1 + 1)) none).map (eT eI))))))) fun values_1 => lw (fun Q84 : Unit → Prop => lw (fun Q87 : (List D) → Prop => (inb one.length (-1)) ∧ (nOk (p_1.2.length : Int)) ∧ (∀ r_2 : Int, 0 ≤ r_2 → r_2 < (p_1.2.length : Int) → (C_law_turnU (pix one (-1)) (1 + r_2)) ∧ (szOk (one.length + [(v_law_turnU (pix one (-1)) (1 + r_2))].length)) ∧ (szOk (values_1.length + [((eT eI) ([] : List Int)), (eN ()), ((eT eI) p_1.2), ((eT (eT eI)) [p_1.2]), ((eT (eT eI)) (one ++ [(v_law_turnU (pix one (-1)) (1 + r_2))]))].length)) ∧ Q87 (values_1 ++ [((eT eI) ([] : List Int)), (eN ()), ((eT eI) p_1.2), ((eT (eT eI)) [p_1.2]), ((eT (eT eI)) (one ++ [(v_law_turnU (pix one (-1)) (1 + r_2))]))]))) fun l88 => wFor (B_law_L1 Qr) l88 () Q84) fun s_3 => Qn ()
def B_law_L3 (coils : (List (List (List Int)))) (Qr : Bool → Prop) (s : Unit) (turn : Int) (Qn Qb : Unit → Prop) : Prop :=
  lw (fun Q103 : Int → Prop => (∀ r : Int, 0 ≤ r → r < 8 → Q103 (1 + r))) fun signs => lw (fun Q102 : (List (List Int)) → Prop => (W_law_snakeU signs 14) (fun v => Q102 v)) fun snake => lw (fun Q101 : (List (List Int)) → Prop => (W_law_listU signs 8) (fun v_1 => Q101 v_1)) fun words => lw (fun Q100 : (List (List Int)) → Prop => (sOk coils.length) ∧ (∀ q ∈ coils, Q100 q)) fun coil => lw (fun Q99 : (List Int) → Prop => (inb coil.length 0) ∧ (W_law_wordU ((pix coil 0).length : Int)) (fun v_2 => Q99 v_2)) fun mask => lw (fun Q98 : (List (List Int)) → Prop => (szOk coil.length ∧ ∀ word ∈ coil, szOk word.length) ∧ Q98 (coil.map fun (word : (List Int)) => ((word.zip mask).map fun (p : (Int × Int)) => ((if p.2 = 1 then (1 - p.1) else p.1) : Int)))) fun coil_1 => lw (fun Q93 : Unit → Prop => lw (fun Q96 : (List (List (List Int))) → Prop => (C_law_doubledU words ∧ szOk (coil_1.length + (cut coil_1 none (some 1)).length)) ∧ Q96 [snake, words, coil_1, (v_law_doubledU words), (coil_1 ++ (cut coil_1 none (some 1)))]) fun l97 => wFor (B_law_L2 Qr) l97 () Q93) fun s_4 => Qn ()
def B_law_L4  (four_1 : ((List (List Int)))) (step : Int) (Qn Qb : ((List (List Int))) → Prop) : Prop :=
  ((szOk (four_1.length + 1)) ∧ (inb four_1.length (-1) ∧ C_law_turnU (pix four_1 (-1)) (1 + (step.fmod 4)))) ∧ lt (four_1 ++ [(v_law_turnU (pix four_1 (-1)) (1 + (step.fmod 4)))]) fun four_2 => Qn four_2
def B_law_L5  (Qr : Bool → Prop) (s_6 : Unit) (one_1 : (List (List Int))) (Qn Qb : Unit → Prop) : Prop :=
  (C_law_rightU ((eT (eT eI)) one_1)) ∧ ((¬((v_law_rightU ((eT (eT eI)) one_1)) = true)) → Qr false) ∧ (¬(¬((v_law_rightU ((eT (eT eI)) one_1)) = true)) → Qn ())
def B_law_L6  (far_1 : ((List (List Int)))) (step_1 : Int) (Qn Qb : ((List (List Int))) → Prop) : Prop :=
  ((szOk (far_1.length + 1)) ∧ (inb far_1.length (-1) ∧ C_law_turnU (pix far_1 (-1)) (1 + (step_1.fdiv 400)))) ∧ lt (far_1 ++ [(v_law_turnU (pix far_1 (-1)) (1 + (step_1.fdiv 400)))]) fun far_2 => Qn far_2
def W_law (Qr : Bool → Prop) : Prop :=
  (C_law_rows_rightU) ∧ ((¬(v_law_rows_rightU = true)) → Qr false) ∧ (¬(¬(v_law_rows_rightU = true)) → lw (fun Q171 : (List (List (List Int))) → Prop => Q171 [[([0, 0] : List Int), ([0, 1] : List Int), ([1, 1] : List Int), ([1, 0] : List Int)], [([0, 0, 0] : List Int), ([0, 0, 1] : List Int), ([0, 1, 1] : List Int), ([1, 1, 1] : List Int), ([1, 1, 0] : List Int), ([1, 0, 0] : List Int)], [([0] : List Int), ([1] : List Int)]]) fun coils => lw (fun Q104 : Unit → Prop => lw (fun Q169 : (List Int) → Prop => (cR 0 4) ∧ Q169 (rng 0 4)) fun l170 => wFor (B_law_L3 coils Qr) l170 () Q104) fun s_5 => lw (fun Q168 : (List (List Int)) → Prop => (W_law_wordU 4) (fun v_4 => Q168 [v_4])) fun four => lw (fun Q115 : ((List (List Int))) → Prop => lw (fun Q166 : (List Int) → Prop => (cR 0 7) ∧ Q166 (rng 0 7)) fun l167 => wFor B_law_L4 l167 four Q115) fun four_3 => lw (fun Q165 : (List (List Int)) → Prop => (C_law_reflectedU 4 ∧ C_law_doubledU (v_law_reflectedU 4)) ∧ Q165 (v_law_doubledU (v_law_reflectedU 4))) fun around => lw (fun Q164 : (List (List Int)) → Prop => (C_law_reflectedU 4 ∧ inb (v_law_reflectedU 4).length 0 ∧ inb (v_law_reflectedU 4).length (-1) ∧ szOk ((pix (v_law_reflectedU 4) 0).length + (pix (v_law_reflectedU 4) (-1)).length) ∧ szOk (around.length + [((pix (v_law_reflectedU 4) 0) ++ (pix (v_law_reflectedU 4) (-1)))].length)) ∧ Q164 (around ++ [((pix (v_law_reflectedU 4) 0) ++ (pix (v_law_reflectedU 4) (-1)))])) fun around_1 => lw (fun Q130 : Unit → Prop => lw (fun Q162 : (List (List (List Int))) → Prop => (szOk ((cut around_1 (some 5) none).length + (cut around_1 none (some 5)).length) ∧ szOk ((cut four_3 (some 3) none).length + (cut four_3 none (some 3)).length)) ∧ Q162 [four_3, around_1, around_1.reverse, ((cut around_1 (some 5) none) ++ (cut around_1 none (some 5))), (cut around_1 none (some (-1))), ((cut four_3 (some 3) none) ++ (cut four_3 none (some 3)))]) fun l163 => wFor (B_law_L5 Qr) l163 () Q130) fun s_7 => (∀ r_3 : Int, 0 ≤ r_3 → r_3 < 3 → ((decide (r_3 > 0)) = true → Qr true) ∧ ((decide (r_3 > 0)) = false → lw (fun Q161 : (List (List Int)) → Prop => (C_law_reflectedU 8 ∧ C_law_doubledU (v_law_reflectedU 8)) ∧ Q161 (v_law_doubledU (v_law_reflectedU 8))) fun line => lw (fun Q160 : (List (List Int)) → Prop => (inb line.length 299 ∧ inb line.length 298 ∧ C_law_placesU (pix line 298) (pix line 299) ∧ inb (v_law_placesU (pix line 298) (pix line 299)).length 0 ∧ C_law_turnU (pix line 299) (pix (v_law_placesU (pix line 298) (pix line 299)) 0) ∧ szOk ((cut line none (some 300)).length + [(v_law_turnU (pix line 299) (pix (v_law_placesU (pix line 298) (pix line 299)) 0))].length)) ∧ Q160 ((cut line none (some 300)) ++ [(v_law_turnU (pix line 299) (pix (v_law_placesU (pix line 298) (pix line 299)) 0))])) fun near => lw (fun Q159 : (List (List Int)) → Prop => (okRp 16 ([0] : List Int).length) ∧ Q159 [(rep 16 ([0] : List Int))]) fun far => lw (fun Q151 : ((List (List Int))) → Prop => lw (fun Q157 : (List Int) → Prop => (cR 0 4999) ∧ Q157 (rng 0 4999)) fun l158 => wFor B_law_L6 l158 far Q151) fun far_3 => (szOk (line.length + (cut line none (some 1)).length) ∧ ∀ value_1 ∈ [line, line.reverse, near, far_3, (line ++ (cut line none (some 1)))], C_is_snake ((eT (eT eI)) value_1)) ∧ Qr (decide (([line, line.reverse, near, far_3, (line ++ (cut line none (some 1)))].map fun (value_1 : (List (List Int))) => (v_is_snake ((eT (eT eI)) value_1))) = [true, true, false, false, false])))))
theorem law_of (h : W_law (fun b => b = true)) (ns : List Int) (hl : ns.length ≤ 63) : m_law [.v (.scr (ns.map D.int))] [] = .ok (.v (.bl true)) [] := by
  unfold W_law at h
  unfold m_law b_law
  exact law_start (m := [.un, .fx 0, .un, .un, .un, .un, .un, .un, .un, .un, .un, .un, .un, .un, .un, .un, .un, .un, .un, .un, .un, .un, .un, .un, .un]) (fun c => start_law 24 1 (by decide) rfl c) rfl (ok_law_cupU ns hl) (ws_ifseq (C := C_law_rows_rightU) (p := ¬(v_law_rows_rightU = true)) (fun c1 => (pb_not (pb_tru (pv_own pvs_nil rfl (ok_law_rows_rightU  c1))))) (fun h2 h4 => (ws_ret (e := eB) (wx_q (κ := (fun x : Bool => AK.v (eB x))) (v := false) (px_v pv_c)) rfl h4)) (fun h3 h5 => (ws_nxl (ws_set (κ := (fun x : (List (List (List Int))) => AK.v ((eL (eT (eT eI))) x))) (wx_q (κ := (fun x : (List (List (List Int))) => AK.v ((eL (eT (eT eI))) x))) (v := [[([0, 0] : List Int), ([0, 1] : List Int), ([1, 1] : List Int), ([1, 0] : List Int)], [([0, 0, 0] : List Int), ([0, 0, 1] : List Int), ([0, 1, 1] : List Int), ([1, 1, 1] : List Int), ([1, 1, 0] : List Int), ([1, 0, 0] : List Int)], [([0] : List Int), ([1] : List Int)]]) (px_v (pv_as ((eL (eT (eT eI))) [[([0, 0] : List Int), ([0, 1] : List Int), ([1, 1] : List Int), ([1, 0] : List Int)], [([0, 0, 0] : List Int), ([0, 0, 1] : List Int), ([0, 1, 1] : List Int), ([1, 1, 1] : List Int), ([1, 1, 0] : List Int), ([1, 0, 0] : List Int)], [([0] : List Int), ([1] : List Int)]]) (pv_lst (pvs_cons (pv_as ((eT (eT eI)) [([0, 0] : List Int), ([0, 1] : List Int), ([1, 1] : List Int), ([1, 0] : List Int)]) (pv_tup (pvs_cons (pv_as ((eT eI) ([0, 0] : List Int)) (pv_tup (pvs_cons pv_c (pvs_cons pv_c pvs_nil)) (Nat.le_of_ble_eq_true rfl))) (pvs_cons (pv_as ((eT eI) ([0, 1] : List Int)) (pv_tup (pvs_cons pv_c (pvs_cons pv_c pvs_nil)) (Nat.le_of_ble_eq_true rfl))) (pvs_cons (pv_as ((eT eI) ([1, 1] : List Int)) (pv_tup (pvs_cons pv_c (pvs_cons pv_c pvs_nil)) (Nat.le_of_ble_eq_true rfl))) (pvs_cons (pv_as ((eT eI) ([1, 0] : List Int)) (pv_tup (pvs_cons pv_c (pvs_cons pv_c pvs_nil)) (Nat.le_of_ble_eq_true rfl))) pvs_nil)))) (Nat.le_of_ble_eq_true rfl))) (pvs_cons (pv_as ((eT (eT eI)) [([0, 0, 0] : List Int), ([0, 0, 1] : List Int), ([0, 1, 1] : List Int), ([1, 1, 1] : List Int), ([1, 1, 0] : List Int), ([1, 0, 0] : List Int)]) (pv_tup (pvs_cons (pv_as ((eT eI) ([0, 0, 0] : List Int)) (pv_tup (pvs_cons pv_c (pvs_cons pv_c (pvs_cons pv_c pvs_nil))) (Nat.le_of_ble_eq_true rfl))) (pvs_cons (pv_as ((eT eI) ([0, 0, 1] : List Int)) (pv_tup (pvs_cons pv_c (pvs_cons pv_c (pvs_cons pv_c pvs_nil))) (Nat.le_of_ble_eq_true rfl))) (pvs_cons (pv_as ((eT eI) ([0, 1, 1] : List Int)) (pv_tup (pvs_cons pv_c (pvs_cons pv_c (pvs_cons pv_c pvs_nil))) (Nat.le_of_ble_eq_true rfl))) (pvs_cons (pv_as ((eT eI) ([1, 1, 1] : List Int)) (pv_tup (pvs_cons pv_c (pvs_cons pv_c (pvs_cons pv_c pvs_nil))) (Nat.le_of_ble_eq_true rfl))) (pvs_cons (pv_as ((eT eI) ([1, 1, 0] : List Int)) (pv_tup (pvs_cons pv_c (pvs_cons pv_c (pvs_cons pv_c pvs_nil))) (Nat.le_of_ble_eq_true rfl))) (pvs_cons (pv_as ((eT eI) ([1, 0, 0] : List Int)) (pv_tup (pvs_cons pv_c (pvs_cons pv_c (pvs_cons pv_c pvs_nil))) (Nat.le_of_ble_eq_true rfl))) pvs_nil)))))) (Nat.le_of_ble_eq_true rfl))) (pvs_cons (pv_as ((eT (eT eI)) [([0] : List Int), ([1] : List Int)]) (pv_tup (pvs_cons (pv_as ((eT eI) ([0] : List Int)) (pv_tup (pvs_cons pv_c pvs_nil) (Nat.le_of_ble_eq_true rfl))) (pvs_cons (pv_as ((eT eI) ([1] : List Int)) (pv_tup (pvs_cons pv_c pvs_nil) (Nat.le_of_ble_eq_true rfl))) pvs_nil)) (Nat.le_of_ble_eq_true rfl))) pvs_nil))) (Nat.le_of_ble_eq_true rfl))))) (fun coils h8 => (ws_m [.un, .fx 0, .va ((eL (eT (eT eI))) coils), .un, .un, .un, .un, .un, .un, .un, .un, .un, .un, .un, .un, .un, .un, .un, .un, .un, .un, .un, .un, .un, .un] rfl (ws_seqJ (mOf := (fun s : Unit => [.un, .fx 0, .va ((eL (eT (eT eI))) coils), .un, .un, .un, .un, .un, .un, .un, .un, .un, .un, .un, .un, .un, .un, .un, .un, .un, .un, .un, .un, .un, .un])) (fun Q104 h105 => ws_for (m2 := fun s turn => [.un, .fx 0, .va ((eL (eT (eT eI))) coils), .va (eI turn), .un, .un, .un, .un, .un, .un, .un, .un, .un, .un, .un, .un, .un, .un, .un, .un, .un, .un, .un, .un, .un]) (c := eI) (mOf := (fun s : Unit => [.un, .fx 0, .va ((eL (eT (eT eI))) coils), .un, .un, .un, .un, .un, .un, .un, .un, .un, .un, .un, .un, .un, .un, .un, .un, .un, .un, .un, .un, .un, .un])) (body := (B_law_L3 coils (fun b => b = true))) (s0 := ()) (wi_p (c := eI) (l := (rng 0 4)) (C := cR 0 4) (fun c9 => (pxi_v (pi_rng1 pv_c c9.b)))) (.un (.kp (.kp (.un (.un (.un (.un (.un (.un (.un (.un (.un (.un (.un (.un (.un (.un (.un (.un (.un (.un (.un (.un (.un (.un .nil))))))))))))))))))))))))) (fun s turn Qn Qb h10 => by unfold B_law_L3 at h10; exact ⟨gt_nm, (ws_set (κ := (fun x : Int => AK.v (eI x))) (wx_binq (e1 := eI) (e2 := eI) (e := eI) (op := fun (x12 : Int) (y13 : Int) => (x12 + y13)) (wx_q (κ := (fun x : Int => AK.v (eI x))) (v := 1) (px_v pv_c)) (fun _ => (wx_drawq (e := eI) (W := WRoll 8) (At.get (.s .z)) (pxs_cons (px_v pv_c) pxs_nil) rfl (ok_law_rollU 8 (by decide)))) (fun x12 y13 => sb_add)) (fun signs h15 => (ws_m [.un, .fx 0, .va ((eL (eT (eT eI))) coils), .va (eI turn), .va (eI signs), .un, .un, .un, .un, .un, .un, .un, .un, .un, .un, .un, .un, .un, .un, .un, .un, .un, .un, .un, .un] rfl (ws_par3 (c := (eT (eT eI))) (c2 := (eT (eT eI))) (κ3 := (fun x : (List (List Int)) => AK.v ((eT (eT eI)) x))) (wx_drawq (e := (eT (eT eI))) (W := (W_law_snakeU signs 14)) (At.get (.s .z)) (pxs_cons (px_v (pv_at (.s (.s (.s (.s .z)))))) (pxs_cons (px_v pv_c) pxs_nil)) rfl (ok_law_snakeU signs 14)) (fun _ => (wx_drawq (e := (eT (eT eI))) (W := (W_law_listU signs 8)) (At.get (.s .z)) (pxs_cons (px_v (pv_at (.s (.s (.s (.s .z)))))) (pxs_cons (px_v pv_c) pxs_nil)) rfl (ok_law_listU signs 8))) (fun _ _ => (wx_drawc (e := (eT (eT eI))) (W := fun Q => ∀ x ∈ coils, Q x) (C := sOk coils.length) (At.get (.s .z)) (fun c18 => (pxs_cons (px_as ((eL (eT (eT eI))) coils) (px_v (pv_at (.s (.s .z))))) pxs_nil)) rfl (fun c18 => ok_law_someL (e := (eT (eT eI))) coils c18))) (fun snake words coil h19 => (ws_m [.un, .fx 0, .va ((eL (eT (eT eI))) coils), .va (eI turn), .va (eI signs), .va ((eT (eT eI)) snake), .va ((eT (eT eI)) words), .va ((eT (eT eI)) coil), .un, .un, .un, .un, .un, .un, .un, .un, .un, .un, .un, .un, .un, .un, .un, .un, .un] rfl (ws_set (κ := (fun x : (List Int) => AK.v ((eT eI) x))) (wx_drawp (e := (eT eI)) (W := (W_law_wordU ((pix coil 0).length : Int))) (C := inb coil.length 0) (At.get (.s .z)) (fun c20 => (pxs_cons (px_v (pv_call (pc_cons (pv_r (pv_bin (pv_r (pv_at (.s (.s (.s (.s (.s (.s (.s .z))))))))) (pv_r pv_c) (sb_ixT (e := (eT eI)) (xs := coil) c20))) pc_nil) (sc_lenT (e := eI) (xs := (pix coil 0))))) pxs_nil)) rfl (ok_law_wordU ((pix coil 0).length : Int))) (fun mask h21 => (ws_m [.un, .fx 0, .va ((eL (eT (eT eI))) coils), .va (eI turn), .va (eI signs), .va ((eT (eT eI)) snake), .va ((eT (eT eI)) words), .va ((eT (eT eI)) coil), .va ((eT eI) mask), .un, .un, .un, .un, .un, .un, .un, .un, .un, .un, .un, .un, .un, .un, .un, .un] rfl (ws_set (κ := (fun x : (List (List Int)) => AK.v ((eT (eT eI)) x))) (wx_p (κ := (fun x : (List (List Int)) => AK.v ((eT (eT eI)) x))) (v := (coil.map fun (word : (List Int)) => ((word.zip mask).map fun (p : (Int × Int)) => ((if p.2 = 1 then (1 - p.1) else p.1) : Int)))) (C := szOk coil.length ∧ ∀ word ∈ coil, szOk word.length) (fun c22 => (px_v (pv_call (pc_cons (pv_r (pv_lcy (m1 := fun word => [.un, .fx 0, .va ((eL (eT (eT eI))) coils), .va (eI turn), .va (eI signs), .va ((eT (eT eI)) snake), .va ((eT (eT eI)) words), .va ((eT (eT eI)) coil), .va ((eT eI) mask), .un, .un, .un, .un, .un, .un, .un, .un, .un, .un, .un, .un, .va ((eT eI) word), .un, .un, .un]) (c := (eT eI)) (e := (eT eI)) (l := coil) (k := fun (word : (List Int)) => ((word.zip mask).map fun (p : (Int × Int)) => ((if p.2 = 1 then (1 - p.1) else p.1) : Int))) (pi_T (e := (eT eI)) (xs := coil) (pv_at (.s (.s (.s (.s (.s (.s (.s .z))))))))) c22.1 (fun word m24 => ⟨gt_nm, (pv_call (pc_cons (pv_r (pv_lcy (m1 := fun p => [.un, .fx 0, .va ((eL (eT (eT eI))) coils), .va (eI turn), .va (eI signs), .va ((eT (eT eI)) snake), .va ((eT (eT eI)) words), .va ((eT (eT eI)) coil), .va ((eT eI) mask), .un, .un, .un, .un, .un, .un, .un, .un, .un, .un, .un, .un, .va ((eT eI) word), .un, .va (eI p.1), .va (eI p.2)]) (c := (eP eI eI)) (e := eI) (l := (word.zip mask)) (k := fun (p : (Int × Int)) => ((if p.2 = 1 then (1 - p.1) else p.1) : Int)) (pi_zip (e := eI) (xs := word) (e' := eI) (ys := mask) (pv_at (.s (.s (.s (.s (.s (.s (.s (.s (.s (.s (.s (.s (.s (.s (.s (.s (.s (.s (.s (.s (.s .z)))))))))))))))))))))) (pv_at (.s (.s (.s (.s (.s (.s (.s (.s .z))))))))) (.tup _) (.tup _)) (sz_zip (c22.2 word m24)) (fun p m26 => ⟨(gt_tp (gts_cons gt_nm (gts_cons gt_nm gts_nil))), (pv_if eI (x := (1 - p.1)) (y := p.1) (pb_bin (pv_r (pv_at (.s (.s (.s (.s (.s (.s (.s (.s (.s (.s (.s (.s (.s (.s (.s (.s (.s (.s (.s (.s (.s (.s (.s (.s .z)))))))))))))))))))))))))) (pv_r pv_c) (sb_eq (a := p.2) (b := 1) qI (by decide))) (fun h27 => (pv_bin (pv_r pv_c) (pv_r (pv_at (.s (.s (.s (.s (.s (.s (.s (.s (.s (.s (.s (.s (.s (.s (.s (.s (.s (.s (.s (.s (.s (.s (.s .z))))))))))))))))))))))))) sb_sub)) (fun h28 => (pv_at (.s (.s (.s (.s (.s (.s (.s (.s (.s (.s (.s (.s (.s (.s (.s (.s (.s (.s (.s (.s (.s (.s (.s .z))))))))))))))))))))))))))⟩))) pc_nil) (sc_tupL (e := eI) (xs := ((word.zip mask).map fun (p : (Int × Int)) => ((if p.2 = 1 then (1 - p.1) else p.1) : Int)))))⟩))) pc_nil) (sc_tupL (e := (eT eI)) (xs := (coil.map fun (word : (List Int)) => ((word.zip mask).map fun (p : (Int × Int)) => ((if p.2 = 1 then (1 - p.1) else p.1) : Int))))))))) (fun coil_1 h29 => (ws_m [.un, .fx 0, .va ((eL (eT (eT eI))) coils), .va (eI turn), .va (eI signs), .va ((eT (eT eI)) snake), .va ((eT (eT eI)) words), .va ((eT (eT eI)) coil_1), .va ((eT eI) mask), .un, .un, .un, .un, .un, .un, .un, .un, .un, .un, .un, .un, .un, .un, .un, .un] rfl (ws_last (ws_seqJ (mOf := (fun s_1 : Unit => [.un, .fx 0, .va ((eL (eT (eT eI))) coils), .va (eI turn), .va (eI signs), .va ((eT (eT eI)) snake), .va ((eT (eT eI)) words), .va ((eT (eT eI)) coil_1), .va ((eT eI) mask), .un, .un, .un, .un, .un, .un, .un, .un, .un, .un, .un, .un, .un, .un, .un, .un])) (fun Q93 h94 => ws_for (m2 := fun s_1 one => [.un, .fx 0, .va ((eL (eT (eT eI))) coils), .va (eI turn), .va (eI signs), .va ((eT (eT eI)) snake), .va ((eT (eT eI)) words), .va ((eT (eT eI)) coil_1), .va ((eT eI) mask), .va ((eT (eT eI)) one), .un, .un, .un, .un, .un, .un, .un, .un, .un, .un, .un, .un, .un, .un, .un]) (c := (eT (eT eI))) (mOf := (fun s_1 : Unit => [.un, .fx 0, .va ((eL (eT (eT eI))) coils), .va (eI turn), .va (eI signs), .va ((eT (eT eI)) snake), .va ((eT (eT eI)) words), .va ((eT (eT eI)) coil_1), .va ((eT eI) mask), .un, .un, .un, .un, .un, .un, .un, .un, .un, .un, .un, .un, .un, .un, .un, .un])) (body := (B_law_L2 (fun b => b = true))) (s0 := ()) (wi_p (c := (eT (eT eI))) (l := [snake, words, coil_1, (v_law_doubledU words), (coil_1 ++ (cut coil_1 none (some 1)))]) (C := C_law_doubledU words ∧ szOk (coil_1.length + (cut coil_1 none (some 1)).length)) (fun c30 => (pxi_v (pi_T (e := (eT (eT eI))) (xs := [snake, words, coil_1, (v_law_doubledU words), (coil_1 ++ (cut coil_1 none (some 1)))]) (pv_as ((eT (eT (eT eI))) [snake, words, coil_1, (v_law_doubledU words), (coil_1 ++ (cut coil_1 none (some 1)))]) (pv_tup (pvs_cons (pv_at (.s (.s (.s (.s (.s .z)))))) (pvs_cons (pv_at (.s (.s (.s (.s (.s (.s .z))))))) (pvs_cons (pv_at (.s (.s (.s (.s (.s (.s (.s .z)))))))) (pvs_cons (pv_own (pvs_cons (pv_at (.s (.s (.s (.s (.s (.s .z))))))) pvs_nil) rfl (ok_law_doubledU words c30.1)) (pvs_cons (pv_bin (pv_r (pv_at (.s (.s (.s (.s (.s (.s (.s .z))))))))) (pv_r (pv_slT (pv_at (.s (.s (.s (.s (.s (.s (.s .z)))))))) po_none (po_some pv_c))) (sb_catT (e := (eT eI)) (xs := coil_1) (ys := (cut coil_1 none (some 1))) c30.2)) pvs_nil))))) (Nat.le_of_ble_eq_true rfl))))))) (.un (.kp (.kp (.kp (.kp (.kp (.kp (.kp (.kp (.un (.un (.un (.un (.un (.un (.un (.un (.un (.un (.un (.un (.un (.un (.un (.un .nil))))))))))))))))))))))))) (fun s_1 one Qn Qb h31 => by unfold B_law_L2 at h31; exact ⟨gt_nm, (ws_asg (c := (eP eI (eT eI))) (wx_tup (e := (eP eI (eT eI))) (fun p37 : (Int × (List Int) × Unit) => (p37.1, p37.2.1)) (wa_cons (e := eI) (wx_drawc (e := eI) (W := WRoll (one.length : Int)) (C := nOk (one.length : Int)) (At.get (.s .z)) (fun c33 => (pxs_cons (px_v (pv_call (pc_cons (pv_r (pv_at (.s (.s (.s (.s (.s (.s (.s (.s (.s .z))))))))))) pc_nil) (sc_lenT (e := (eT eI)) (xs := one)))) pxs_nil)) rfl (fun c33 => ok_law_rollU (one.length : Int) c33)) (fun x36 : Int => (wa_cons (e := (eT eI)) (wx_drawp (e := (eT eI)) (W := (W_law_wordU ((pix one 0).length : Int))) (C := inb one.length 0) (At.get (.s .z)) (fun c34 => (pxs_cons (px_v (pv_call (pc_cons (pv_r (pv_bin (pv_r (pv_at (.s (.s (.s (.s (.s (.s (.s (.s (.s .z))))))))))) (pv_r pv_c) (sb_ixT (e := (eT eI)) (xs := one) c34))) pc_nil) (sc_lenT (e := eI) (xs := (pix one 0))))) pxs_nil)) rfl (ok_law_wordU ((pix one 0).length : Int))) (fun x35 : (List Int) => wa_nil)))) (fun _ => rfl) (fun _ => Nat.le_of_ble_eq_true rfl)) (fun p_1 h38 => ⟨(gt_tp (gts_cons gt_nm (gts_cons gt_nm gts_nil))), (ws_m [.un, .fx 0, .va ((eL (eT (eT eI))) coils), .va (eI turn), .va (eI signs), .va ((eT (eT eI)) snake), .va ((eT (eT eI)) words), .va ((eT (eT eI)) coil_1), .va ((eT eI) mask), .va ((eT (eT eI)) one), .va (eI p_1.1), .va ((eT eI) p_1.2), .un, .un, .un, .un, .un, .un, .un, .un, .un, .un, .un, .un, .un] rfl (ws_set (κ := (fun x : (List D) => AK.v ((eL eA) x))) (wx_p (κ := (fun x : (List D) => AK.v ((eL eA) x))) (v := [((eT (eT eI)) one), ((eT (eT eI)) one.reverse), ((eT (eT eI)) (one ++ (cut one (some (-1)) none))), ((eT (eT eI)) ((cut one none (some p_1.1)) ++ (cut one (some (p_1.1 + 1)) none))), ((eT (eT eI)) (((cut one none (some p_1.1)) ++ [p_1.2]) ++ (cut one (some (p_1.1 + 1)) none))), ((eT (eT eI)) ((cut one (some p_1.1) none) ++ (cut one none (some p_1.1)))), ((eL (eT eI)) one)]) (C := szOk (one.length + (cut one (some (-1)) none).length) ∧ szOk ((cut one none (some p_1.1)).length + (cut one (some (p_1.1 + 1)) none).length) ∧ szOk ((cut one none (some p_1.1)).length + [p_1.2].length) ∧ szOk (((cut one none (some p_1.1)) ++ [p_1.2]).length + (cut one (some (p_1.1 + 1)) none).length) ∧ szOk ((cut one (some p_1.1) none).length + (cut one none (some p_1.1)).length)) (fun c39 => (px_v (pv_as ((eL eA) [((eT (eT eI)) one), ((eT (eT eI)) one.reverse), ((eT (eT eI)) (one ++ (cut one (some (-1)) none))), ((eT (eT eI)) ((cut one none (some p_1.1)) ++ (cut one (some (p_1.1 + 1)) none))), ((eT (eT eI)) (((cut one none (some p_1.1)) ++ [p_1.2]) ++ (cut one (some (p_1.1 + 1)) none))), ((eT (eT eI)) ((cut one (some p_1.1) none) ++ (cut one none (some p_1.1)))), ((eL (eT eI)) one)]) (pv_lst (pvs_cons (pv_at (.s (.s (.s (.s (.s (.s (.s (.s (.s .z)))))))))) (pvs_cons (pv_un (pv_r (pv_at (.s (.s (.s (.s (.s (.s (.s (.s (.s .z))))))))))) (su_revT (e := (eT eI)))) (pvs_cons (pv_bin (pv_r (pv_at (.s (.s (.s (.s (.s (.s (.s (.s (.s .z))))))))))) (pv_r (pv_slT (pv_at (.s (.s (.s (.s (.s (.s (.s (.s (.s .z)))))))))) (po_some (pv_un (pv_r pv_c) su_neg)) po_none)) (sb_catT (e := (eT eI)) (xs := one) (ys := (cut one (some (-1)) none)) c39.1)) (pvs_cons (pv_bin (pv_r (pv_slT (pv_at (.s (.s (.s (.s (.s (.s (.s (.s (.s .z)))))))))) po_none (po_some (pv_at (.s (.s (.s (.s (.s (.s (.s (.s (.s (.s .z)))))))))))))) (pv_r (pv_slT (pv_at (.s (.s (.s (.s (.s (.s (.s (.s (.s .z)))))))))) (po_some (pv_bin (pv_r (pv_at (.s (.s (.s (.s (.s (.s (.s (.s (.s (.s .z)))))))))))) (pv_r pv_c) sb_add)) po_none)) (sb_catT (e := (eT eI)) (xs := (cut one none (some p_1.1))) (ys := (cut one (some (p_1.1 + 1)) none)) c39.2.1)) (pvs_cons (pv_bin (pv_r (pv_bin (pv_r (pv_slT (pv_at (.s (.s (.s (.s (.s (.s (.s (.s (.s .z)))))))))) po_none (po_some (pv_at (.s (.s (.s (.s (.s (.s (.s (.s (.s (.s .z)))))))))))))) (pv_r (pv_as ((eT (eT eI)) [p_1.2]) (pv_tup (pvs_cons (pv_at (.s (.s (.s (.s (.s (.s (.s (.s (.s (.s (.s .z)))))))))))) pvs_nil) (Nat.le_of_ble_eq_true rfl)))) (sb_catT (e := (eT eI)) (xs := (cut one none (some p_1.1))) (ys := [p_1.2]) c39.2.2.1))) (pv_r (pv_slT (pv_at (.s (.s (.s (.s (.s (.s (.s (.s (.s .z)))))))))) (po_some (pv_bin (pv_r (pv_at (.s (.s (.s (.s (.s (.s (.s (.s (.s (.s .z)))))))))))) (pv_r pv_c) sb_add)) po_none)) (sb_catT (e := (eT eI)) (xs := ((cut one none (some p_1.1)) ++ [p_1.2])) (ys := (cut one (some (p_1.1 + 1)) none)) c39.2.2.2.1)) (pvs_cons (pv_bin (pv_r (pv_slT (pv_at (.s (.s (.s (.s (.s (.s (.s (.s (.s .z)))))))))) (po_some (pv_at (.s (.s (.s (.s (.s (.s (.s (.s (.s (.s .z)))))))))))) po_none)) (pv_r (pv_slT (pv_at (.s (.s (.s (.s (.s (.s (.s (.s (.s .z)))))))))) po_none (po_some (pv_at (.s (.s (.s (.s (.s (.s (.s (.s (.s (.s .z)))))))))))))) (sb_catT (e := (eT eI)) (xs := (cut one (some p_1.1) none)) (ys := (cut one none (some p_1.1))) c39.2.2.2.2)) (pvs_cons (pv_call (pc_cons (pv_r (pv_at (.s (.s (.s (.s (.s (.s (.s (.s (.s .z))))))))))) pc_nil) (sc_listT (e := (eT eI)) (xs := one))) pvs_nil))))))) (Nat.le_of_ble_eq_true rfl)))))) (fun values h40 => (ws_m [.un, .fx 0, .va ((eL (eT (eT eI))) coils), .va (eI turn), .va (eI signs), .va ((eT (eT eI)) snake), .va ((eT (eT eI)) words), .va ((eT (eT eI)) coil_1), .va ((eT eI) mask), .va ((eT (eT eI)) one), .va (eI p_1.1), .va ((eT eI) p_1.2), .va ((eL eA) values), .un, .un, .un, .un, .un, .un, .un, .un, .un, .un, .un, .un] rfl (ws_set (κ := (fun x : (List D) => AK.v ((eL eA) x))) (wx_p (κ := (fun x : (List D) => AK.v ((eL eA) x))) (v := [(eN ()), ((eL eI) p_1.2), ((eT eI) (cut p_1.2 none (some (-1)))), ((eT eI) (p_1.2 ++ ([0] : List Int))), ((eT eA) ([(eB true)] ++ ((cut p_1.2 (some 1) none).map eI))), (eI 5), ((eT eI) (([2] : List Int) ++ (cut p_1.2 (some 1) none)))]) (C := szOk (p_1.2.length + ([0] : List Int).length) ∧ szOk ([(eB true)].length + ((cut p_1.2 (some 1) none).map eI).length) ∧ szOk (([2] : List Int).length + (cut p_1.2 (some 1) none).length)) (fun c41 => (px_v (pv_as ((eL eA) [(eN ()), ((eL eI) p_1.2), ((eT eI) (cut p_1.2 none (some (-1)))), ((eT eI) (p_1.2 ++ ([0] : List Int))), ((eT eA) ([(eB true)] ++ ((cut p_1.2 (some 1) none).map eI))), (eI 5), ((eT eI) (([2] : List Int) ++ (cut p_1.2 (some 1) none)))]) (pv_lst (pvs_cons pv_c (pvs_cons (pv_call (pc_cons (pv_r (pv_at (.s (.s (.s (.s (.s (.s (.s (.s (.s (.s (.s .z))))))))))))) pc_nil) (sc_listT (e := eI) (xs := p_1.2))) (pvs_cons (pv_slT (pv_at (.s (.s (.s (.s (.s (.s (.s (.s (.s (.s (.s .z)))))))))))) po_none (po_some (pv_un (pv_r pv_c) su_neg))) (pvs_cons (pv_bin (pv_r (pv_at (.s (.s (.s (.s (.s (.s (.s (.s (.s (.s (.s .z))))))))))))) (pv_r (pv_as ((eT eI) ([0] : List Int)) (pv_tup (pvs_cons pv_c pvs_nil) (Nat.le_of_ble_eq_true rfl)))) (sb_catT (e := eI) (xs := p_1.2) (ys := ([0] : List Int)) c41.1)) (pvs_cons (pv_bin (pv_r (pv_as ((eT eA) [(eB true)]) (pv_tup (pvs_cons pv_c pvs_nil) (Nat.le_of_ble_eq_true rfl)))) (pv_r (pv_cast (congrArg D.tup (map_enc eI (cut p_1.2 (some 1) none))) (pv_slT (pv_at (.s (.s (.s (.s (.s (.s (.s (.s (.s (.s (.s .z)))))))))))) (po_some pv_c) po_none))) (sb_catT (e := eA) (xs := [(eB true)]) (ys := ((cut p_1.2 (some 1) none).map eI)) c41.2.1)) (pvs_cons pv_c (pvs_cons (pv_bin (pv_r (pv_as ((eT eI) ([2] : List Int)) (pv_tup (pvs_cons pv_c pvs_nil) (Nat.le_of_ble_eq_true rfl)))) (pv_r (pv_slT (pv_at (.s (.s (.s (.s (.s (.s (.s (.s (.s (.s (.s .z)))))))))))) (po_some pv_c) po_none)) (sb_catT (e := eI) (xs := ([2] : List Int)) (ys := (cut p_1.2 (some 1) none)) c41.2.2)) pvs_nil))))))) (Nat.le_of_ble_eq_true rfl)))))) (fun odds h42 => (ws_m [.un, .fx 0, .va ((eL (eT (eT eI))) coils), .va (eI turn), .va (eI signs), .va ((eT (eT eI)) snake), .va ((eT (eT eI)) words), .va ((eT (eT eI)) coil_1), .va ((eT eI) mask), .va ((eT (eT eI)) one), .va (eI p_1.1), .va ((eT eI) p_1.2), .va ((eL eA) values), .va ((eL eA) odds), .un, .un, .un, .un, .un, .un, .un, .un, .un, .un, .un] rfl (ws_set (κ := (fun x : (List D) => AK.v ((eL eA) x))) (wx_p (κ := (fun x : (List D) => AK.v ((eL eA) x))) (v := (values ++ (odds.map fun (odd : D) => ((eT eA) ((((cut one none (some p_1.1)).map (eT eI)) ++ [odd]) ++ ((cut one (some (p_1.1 + 1)) none).map (eT eI))))))) (C := szOk odds.length ∧ (∀ odd ∈ odds, szOk (((cut one none (some p_1.1)).map (eT eI)).length + [odd].length) ∧ szOk ((((cut one none (some p_1.1)).map (eT eI)) ++ [odd]).length + ((cut one (some (p_1.1 + 1)) none).map (eT eI)).length)) ∧ szOk (values.length + (odds.map fun (odd : D) => ((eT eA) ((((cut one none (some p_1.1)).map (eT eI)) ++ [odd]) ++ ((cut one (some (p_1.1 + 1)) none).map (eT eI))))).length)) (fun c43 => (px_v (pv_bin (pv_r (pv_at (.s (.s (.s (.s (.s (.s (.s (.s (.s (.s (.s (.s .z)))))))))))))) (pv_r (pv_lcy (m1 := fun odd => [.un, .fx 0, .va ((eL (eT (eT eI))) coils), .va (eI turn), .va (eI signs), .va ((eT (eT eI)) snake), .va ((eT (eT eI)) words), .va ((eT (eT eI)) coil_1), .va ((eT eI) mask), .va ((eT (eT eI)) one), .va (eI p_1.1), .va ((eT eI) p_1.2), .va ((eL eA) values), .va ((eL eA) odds), .un, .un, .un, .un, .un, .un, .un, .un, .va (eA odd), .un, .un]) (c := eA) (e := eA) (l := odds) (k := fun (odd : D) => ((eT eA) ((((cut one none (some p_1.1)).map (eT eI)) ++ [odd]) ++ ((cut one (some (p_1.1 + 1)) none).map (eT eI))))) (pi_L (e := eA) (xs := odds) (pv_at (.s (.s (.s (.s (.s (.s (.s (.s (.s (.s (.s (.s (.s .z))))))))))))))) c43.1 (fun odd m45 => ⟨gt_nm, (pv_bin (pv_r (pv_bin (pv_r (pv_cast (congrArg D.tup (map_enc (eT eI) (cut one none (some p_1.1)))) (pv_slT (pv_at (.s (.s (.s (.s (.s (.s (.s (.s (.s .z)))))))))) po_none (po_some (pv_at (.s (.s (.s (.s (.s (.s (.s (.s (.s (.s .z))))))))))))))) (pv_r (pv_as ((eT eA) [odd]) (pv_tup (pvs_cons (pv_at (.s (.s (.s (.s (.s (.s (.s (.s (.s (.s (.s (.s (.s (.s (.s (.s (.s (.s (.s (.s (.s (.s .z))))))))))))))))))))))) pvs_nil) (Nat.le_of_ble_eq_true rfl)))) (sb_catT (e := eA) (xs := ((cut one none (some p_1.1)).map (eT eI))) (ys := [odd]) (c43.2.1 odd m45).1))) (pv_r (pv_cast (congrArg D.tup (map_enc (eT eI) (cut one (some (p_1.1 + 1)) none))) (pv_slT (pv_at (.s (.s (.s (.s (.s (.s (.s (.s (.s .z)))))))))) (po_some (pv_bin (pv_r (pv_at (.s (.s (.s (.s (.s (.s (.s (.s (.s (.s .z)))))))))))) (pv_r pv_c) sb_add)) po_none))) (sb_catT (e := eA) (xs := (((cut one none (some p_1.1)).map (eT eI)) ++ [odd])) (ys := ((cut one (some (p_1.1 + 1)) none).map (eT eI))) (c43.2.1 odd m45).2))⟩))) (sb_catL (e := eA) (xs := values) (ys := (odds.map fun (odd : D) => ((eT eA) ((((cut one none (some p_1.1)).map (eT eI)) ++ [odd]) ++ ((cut one (some (p_1.1 + 1)) none).map (eT eI)))))) c43.2.2))))) (fun values_1 h46 => (ws_m [.un, .fx 0, .va ((eL (eT (eT eI))) coils), .va (eI turn), .va (eI signs), .va ((eT (eT eI)) snake), .va ((eT (eT eI)) words), .va ((eT (eT eI)) coil_1), .va ((eT eI) mask), .va ((eT (eT eI)) one), .va (eI p_1.1), .va ((eT eI) p_1.2), .va ((eL eA) values_1), .va ((eL eA) odds), .un, .un, .un, .un, .un, .un, .un, .un, .un, .un, .un] rfl (ws_last (ws_seqJ (mOf := (fun s_2 : Unit => [.un, .fx 0, .va ((eL (eT (eT eI))) coils), .va (eI turn), .va (eI signs), .va ((eT (eT eI)) snake), .va ((eT (eT eI)) words), .va ((eT (eT eI)) coil_1), .va ((eT eI) mask), .va ((eT (eT eI)) one), .va (eI p_1.1), .va ((eT eI) p_1.2), .va ((eL eA) values_1), .va ((eL eA) odds), .un, .un, .un, .un, .un, .un, .un, .un, .un, .un, .un])) (fun Q84 h85 => ws_for (m2 := fun s_2 value => [.un, .fx 0, .va ((eL (eT (eT eI))) coils), .va (eI turn), .va (eI signs), .va ((eT (eT eI)) snake), .va ((eT (eT eI)) words), .va ((eT (eT eI)) coil_1), .va ((eT eI) mask), .va ((eT (eT eI)) one), .va (eI p_1.1), .va ((eT eI) p_1.2), .va ((eL eA) values_1), .va ((eL eA) odds), .va (eA value), .un, .un, .un, .un, .un, .un, .un, .un, .un, .un]) (c := eA) (mOf := (fun s_2 : Unit => [.un, .fx 0, .va ((eL (eT (eT eI))) coils), .va (eI turn), .va (eI signs), .va ((eT (eT eI)) snake), .va ((eT (eT eI)) words), .va ((eT (eT eI)) coil_1), .va ((eT eI) mask), .va ((eT (eT eI)) one), .va (eI p_1.1), .va ((eT eI) p_1.2), .va ((eL eA) values_1), .va ((eL eA) odds), .un, .un, .un, .un, .un, .un, .un, .un, .un, .un, .un])) (body := (B_law_L1 (fun b => b = true))) (s0 := ()) (wi_L (e := eA) (wx_bin (e1 := (eL eA)) (e2 := (eL eA)) (e := (eL eA)) (C := fun (x74 : (List D)) (y75 : (List D)) => szOk (x74.length + y75.length)) (op := fun (x74 : (List D)) (y75 : (List D)) => (x74 ++ y75)) (wx_q (κ := (fun x : (List D) => AK.v ((eL eA) x))) (v := values_1) (px_v (pv_at (.s (.s (.s (.s (.s (.s (.s (.s (.s (.s (.s (.s .z))))))))))))))) (fun _ => (wx_lst (e := (eL eA)) (fun p73 : (D × D × D × D × D × Unit) => [p73.1, p73.2.1, p73.2.2.1, p73.2.2.2.1, p73.2.2.2.2.1]) (wa_cons (e := eA) (wx_q (κ := (fun x : D => AK.v (eA x))) (v := ((eT eI) ([] : List Int))) (px_v (pv_as ((eT eI) ([] : List Int)) (pv_tup pvs_nil (Nat.le_of_ble_eq_true rfl))))) (fun x72 : D => (wa_cons (e := eA) (wx_q (κ := (fun x : D => AK.v (eA x))) (v := (eN ())) (px_v pv_c)) (fun x71 : D => (wa_cons (e := eA) (wx_q (κ := (fun x : D => AK.v (eA x))) (v := ((eT eI) p_1.2)) (px_v (pv_at (.s (.s (.s (.s (.s (.s (.s (.s (.s (.s (.s .z)))))))))))))) (fun x70 : D => (wa_cons (e := eA) (wx_q (κ := (fun x : D => AK.v (eA x))) (v := ((eT (eT eI)) [p_1.2])) (px_v (pv_as ((eT (eT eI)) [p_1.2]) (pv_tup (pvs_cons (pv_at (.s (.s (.s (.s (.s (.s (.s (.s (.s (.s (.s .z)))))))))))) pvs_nil) (Nat.le_of_ble_eq_true rfl))))) (fun x69 : D => (wa_cons (e := eA) (wx_conv (g := fun x : (List (List Int)) => (eT (eT eI)) x) (wx_bin (e1 := (eT (eT eI))) (e2 := (eT (eT eI))) (e := (eT (eT eI))) (C := fun (x65 : (List (List Int))) (y66 : (List (List Int))) => szOk (x65.length + y66.length)) (op := fun (x65 : (List (List Int))) (y66 : (List (List Int))) => (x65 ++ y66)) (wx_q (κ := (fun x : (List (List Int)) => AK.v ((eT (eT eI)) x))) (v := one) (px_v (pv_at (.s (.s (.s (.s (.s (.s (.s (.s (.s .z)))))))))))) (fun _ => (wx_tup (e := (eT (eT eI))) (fun p64 : ((List Int) × Unit) => [p64.1]) (wa_cons (e := (eT eI)) (wx_own (e := (eT eI)) (C := fun p62 : ((List Int) × Int × Unit) => C_law_turnU p62.1 p62.2.1) (op := fun p62 : ((List Int) × Int × Unit) => (v_law_turnU p62.1 p62.2.1)) (wa_cons (e := (eT eI)) (wx_p (κ := (fun x : (List Int) => AK.v ((eT eI) x))) (v := (pix one (-1))) (C := inb one.length (-1)) (fun c53 => (px_v (pv_bin (pv_r (pv_at (.s (.s (.s (.s (.s (.s (.s (.s (.s .z))))))))))) (pv_r (pv_un (pv_r pv_c) su_neg)) (sb_ixT (e := (eT eI)) (xs := one) c53))))) (fun x61 : (List Int) => (wa_cons (e := eI) (wx_binq (e1 := eI) (e2 := eI) (e := eI) (op := fun (x57 : Int) (y58 : Int) => (x57 + y58)) (wx_q (κ := (fun x : Int => AK.v (eI x))) (v := 1) (px_v pv_c)) (fun _ => (wx_drawc (e := eI) (W := WRoll (p_1.2.length : Int)) (C := nOk (p_1.2.length : Int)) (At.get (.s .z)) (fun c56 => (pxs_cons (px_v (pv_call (pc_cons (pv_r (pv_at (.s (.s (.s (.s (.s (.s (.s (.s (.s (.s (.s .z))))))))))))) pc_nil) (sc_lenT (e := eI) (xs := p_1.2)))) pxs_nil)) rfl (fun c56 => ok_law_rollU (p_1.2.length : Int) c56))) (fun x57 y58 => sb_add)) (fun x60 : Int => wa_nil)))) (fun _ => rfl) (fun p62 c S => ok_law_turnU p62.1 p62.2.1 c S)) (fun x63 : (List Int) => wa_nil)) (fun _ => rfl) (fun _ => Nat.le_of_ble_eq_true rfl))) (fun x65 y66 c67 => sb_catT (e := (eT eI)) (xs := x65) (ys := y66) c67)) (fun _ => rfl)) (fun x68 : D => wa_nil)))))))))) (fun _ => rfl) (fun _ => Nat.le_of_ble_eq_true rfl))) (fun x74 y75 c76 => sb_catL (e := eA) (xs := x74) (ys := y75) c76))) (.un (.kp (.kp (.kp (.kp (.kp (.kp (.kp (.kp (.kp (.kp (.kp (.kp (.kp (.un (.un (.un (.un (.un (.un (.un (.un (.un (.un (.un .nil))))))))))))))))))))))))) (fun s_2 value Qn Qb h77 => by unfold B_law_L1 at h77; exact ⟨gt_nm, (ws_last (ws_ifseq (C := C_law_rightU value) (p := ¬((v_law_rightU value) = true)) (fun c78 => (pb_not (pb_tru (pv_own (pvs_cons (pv_at (.s (.s (.s (.s (.s (.s (.s (.s (.s (.s (.s (.s (.s (.s .z))))))))))))))) pvs_nil) rfl (ok_law_rightU value c78))))) (fun h79 h81 => (ws_ret (e := eB) (wx_q (κ := (fun x : Bool => AK.v (eB x))) (v := false) (px_v pv_c)) rfl h81)) (fun h80 h82 => (ws_nxl (ws_st (mOf := (fun s_2 : Unit => [.un, .fx 0, .va ((eL (eT (eT eI))) coils), .va (eI turn), .va (eI signs), .va ((eT (eT eI)) snake), .va ((eT (eT eI)) words), .va ((eT (eT eI)) coil_1), .va ((eT eI) mask), .va ((eT (eT eI)) one), .va (eI p_1.1), .va ((eT eI) p_1.2), .va ((eL eA) values_1), .va ((eL eA) odds), .un, .un, .un, .un, .un, .un, .un, .un, .un, .un, .un])) (s := ()) (.un (.kp (.kp (.kp (.kp (.kp (.kp (.kp (.kp (.kp (.kp (.kp (.kp (.kp (.un (.un (.un (.un (.un (.un (.un (.un (.un (.un (.un .nil))))))))))))))))))))))))) rfl h82))) h77))⟩) h85) (fun s_3 h86 => (ws_st (mOf := (fun s_1 : Unit => [.un, .fx 0, .va ((eL (eT (eT eI))) coils), .va (eI turn), .va (eI signs), .va ((eT (eT eI)) snake), .va ((eT (eT eI)) words), .va ((eT (eT eI)) coil_1), .va ((eT eI) mask), .un, .un, .un, .un, .un, .un, .un, .un, .un, .un, .un, .un, .un, .un, .un, .un])) (s := ()) (.un (.kp (.kp (.kp (.kp (.kp (.kp (.kp (.kp (.un (.un (.un (.un (.un (.un (.un (.un (.un (.un (.un (.un (.un (.un (.un (.un .nil))))))))))))))))))))))))) rfl h86)) h46)))) h42))) h40))) h38))⟩) h31)⟩) h94) (fun s_4 h95 => (ws_st (mOf := (fun s : Unit => [.un, .fx 0, .va ((eL (eT (eT eI))) coils), .un, .un, .un, .un, .un, .un, .un, .un, .un, .un, .un, .un, .un, .un, .un, .un, .un, .un, .un, .un, .un, .un])) (s := ()) (.un (.kp (.kp (.un (.un (.un (.un (.un (.un (.un (.un (.un (.un (.un (.un (.un (.un (.un (.un (.un (.un (.un (.un (.un (.un .nil))))))))))))))))))))))))) rfl h95)) h29)))) h21))) h19))) h15))) h10)⟩) h105) (fun s_5 h106 => (ws_set (κ := (fun x : (List (List Int)) => AK.l (x.map (eT eI)))) (wx_lstn (e := fun x : (List (List Int)) => x.map (eT eI)) (fun p109 : ((List Int) × Unit) => [p109.1]) (wa_cons (e := (eT eI)) (wx_drawq (e := (eT eI)) (W := (W_law_wordU 4)) (At.get (.s .z)) (pxs_cons (px_v pv_c) pxs_nil) rfl (ok_law_wordU 4)) (fun x108 : (List Int) => wa_nil)) (fun _ => rfl) (fun _ => Nat.le_of_ble_eq_true rfl)) (fun four h110 => (ws_m [.un, .fx 0, .va ((eL (eT (eT eI))) coils), .un, .un, .un, .un, .un, .un, .un, .un, .un, .un, .un, .un, .mu (.lst (four.map (eT eI))), .un, .un, .un, .un, .un, .un, .un, .un, .un] rfl (ws_seqJ (mOf := (fun four_1 : ((List (List Int))) => [.un, .fx 0, .va ((eL (eT (eT eI))) coils), .un, .un, .un, .un, .un, .un, .un, .un, .un, .un, .un, .un, .mu (.lst (four_1.map (eT eI))), .un, .un, .un, .un, .un, .un, .un, .un, .un])) (fun Q115 h116 => ws_for (m2 := fun four_1 step => [.un, .fx 0, .va ((eL (eT (eT eI))) coils), .un, .un, .un, .un, .un, .un, .un, .un, .un, .un, .un, .un, .mu (.lst (four_1.map (eT eI))), .va (eI step), .un, .un, .un, .un, .un, .un, .un, .un]) (c := eI) (mOf := (fun four_1 : ((List (List Int))) => [.un, .fx 0, .va ((eL (eT (eT eI))) coils), .un, .un, .un, .un, .un, .un, .un, .un, .un, .un, .un, .un, .mu (.lst (four_1.map (eT eI))), .un, .un, .un, .un, .un, .un, .un, .un, .un])) (body := B_law_L4) (s0 := four) (wi_p (c := eI) (l := (rng 0 7)) (C := cR 0 7) (fun c111 => (pxi_v (pi_rng1 pv_c c111.b)))) (.un (.kp (.kp (.un (.un (.un (.un (.un (.un (.un (.un (.un (.un (.un (.un (.kp (.un (.un (.un (.un (.un (.un (.un (.un (.un .nil))))))))))))))))))))))))) (fun four_1 step Qn Qb h112 => by unfold B_law_L4 at h112; exact ⟨gt_nm, (ws_last (ws_appp (C := inb four_1.length (-1) ∧ C_law_turnU (pix four_1 (-1)) (1 + (step.fmod 4))) (e := (eT eI)) (xs := four_1) (x := (v_law_turnU (pix four_1 (-1)) (1 + (step.fmod 4)))) (fun c113 => (ph_x (px_v (pv_own (pvs_cons (pv_bin (pr_atl (.s (.s (.s (.s (.s (.s (.s (.s (.s (.s (.s (.s (.s (.s (.s .z)))))))))))))))) (pv_r (pv_un (pv_r pv_c) su_neg)) (sb_ixL (e := (eT eI)) (xs := four_1) c113.1)) (pvs_cons (pv_bin (pv_r pv_c) (pv_r (pv_bin (pv_r (pv_call (pc_cons (pv_r (pv_at (.s (.s (.s (.s (.s (.s (.s (.s (.s (.s (.s (.s (.s (.s (.s (.s .z)))))))))))))))))) pc_nil) sc_int)) (pv_r pv_c) (sb_mod (by decide)))) sb_add) pvs_nil)) rfl (ok_law_turnU (pix four_1 (-1)) (1 + (step.fmod 4)) c113.2))))) rfl rfl (fun four_2 h114 => (ws_m [.un, .fx 0, .va ((eL (eT (eT eI))) coils), .un, .un, .un, .un, .un, .un, .un, .un, .un, .un, .un, .un, .mu (.lst (four_2.map (eT eI))), .va (eI step), .un, .un, .un, .un, .un, .un, .un, .un] rfl (ws_st (mOf := (fun four_1 : ((List (List Int))) => [.un, .fx 0, .va ((eL (eT (eT eI))) coils), .un, .un, .un, .un, .un, .un, .un, .un, .un, .un, .un, .un, .mu (.lst (four_1.map (eT eI))), .un, .un, .un, .un, .un, .un, .un, .un, .un])) (s := four_2) (.un (.kp (.kp (.un (.un (.un (.un (.un (.un (.un (.un (.un (.un (.un (.un (.kp (.un (.un (.un (.un (.un (.un (.un (.un (.un .nil))))))))))))))))))))))))) rfl h114))) h112))⟩) h116) (fun four_3 h117 => (ws_set (κ := (fun x : (List (List Int)) => AK.v ((eT (eT eI)) x))) (wx_p (κ := (fun x : (List (List Int)) => AK.v ((eT (eT eI)) x))) (v := (v_law_doubledU (v_law_reflectedU 4))) (C := C_law_reflectedU 4 ∧ C_law_doubledU (v_law_reflectedU 4)) (fun c118 => (px_v (pv_own (pvs_cons (pv_call (pc_cons (pv_r (pv_own (pvs_cons pv_c pvs_nil) rfl (ok_law_reflectedU 4 c118.1))) pc_nil) (sc_tupL (e := (eT eI)) (xs := (v_law_reflectedU 4)))) pvs_nil) rfl (ok_law_doubledU (v_law_reflectedU 4) c118.2))))) (fun around h119 => (ws_m [.un, .fx 0, .va ((eL (eT (eT eI))) coils), .un, .un, .un, .un, .un, .un, .un, .un, .un, .un, .un, .un, .mu (.lst (four_3.map (eT eI))), .un, .va ((eT (eT eI)) around), .un, .un, .un, .un, .un, .un, .un] rfl (ws_set (κ := (fun x : (List (List Int)) => AK.v ((eT (eT eI)) x))) (wx_p (κ := (fun x : (List (List Int)) => AK.v ((eT (eT eI)) x))) (v := (around ++ [((pix (v_law_reflectedU 4) 0) ++ (pix (v_law_reflectedU 4) (-1)))])) (C := C_law_reflectedU 4 ∧ inb (v_law_reflectedU 4).length 0 ∧ inb (v_law_reflectedU 4).length (-1) ∧ szOk ((pix (v_law_reflectedU 4) 0).length + (pix (v_law_reflectedU 4) (-1)).length) ∧ szOk (around.length + [((pix (v_law_reflectedU 4) 0) ++ (pix (v_law_reflectedU 4) (-1)))].length)) (fun c120 => (px_v (pv_bin (pv_r (pv_at (.s (.s (.s (.s (.s (.s (.s (.s (.s (.s (.s (.s (.s (.s (.s (.s (.s .z))))))))))))))))))) (pv_r (pv_as ((eT (eT eI)) [((pix (v_law_reflectedU 4) 0) ++ (pix (v_law_reflectedU 4) (-1)))]) (pv_tup (pvs_cons (pv_bin (pv_r (pv_bin (pv_r (pv_own (pvs_cons pv_c pvs_nil) rfl (ok_law_reflectedU 4 c120.1))) (pv_r pv_c) (sb_ixL (e := (eT eI)) (xs := (v_law_reflectedU 4)) c120.2.1))) (pv_r (pv_bin (pv_r (pv_own (pvs_cons pv_c pvs_nil) rfl (ok_law_reflectedU 4 c120.1))) (pv_r (pv_un (pv_r pv_c) su_neg)) (sb_ixL (e := (eT eI)) (xs := (v_law_reflectedU 4)) c120.2.2.1))) (sb_catT (e := eI) (xs := (pix (v_law_reflectedU 4) 0)) (ys := (pix (v_law_reflectedU 4) (-1))) c120.2.2.2.1)) pvs_nil) (Nat.le_of_ble_eq_true rfl)))) (sb_catT (e := (eT eI)) (xs := around) (ys := [((pix (v_law_reflectedU 4) 0) ++ (pix (v_law_reflectedU 4) (-1)))]) c120.2.2.2.2))))) (fun around_1 h121 => (ws_m [.un, .fx 0, .va ((eL (eT (eT eI))) coils), .un, .un, .un, .un, .un, .un, .un, .un, .un, .un, .un, .un, .mu (.lst (four_3.map (eT eI))), .un, .va ((eT (eT eI)) around_1), .un, .un, .un, .un, .un, .un, .un] rfl (ws_seqJ (mOf := (fun s_6 : Unit => [.un, .fx 0, .va ((eL (eT (eT eI))) coils), .un, .un, .un, .un, .un, .un, .un, .un, .un, .un, .un, .un, .mu (.lst (four_3.map (eT eI))), .un, .va ((eT (eT eI)) around_1), .un, .un, .un, .un, .un, .un, .un])) (fun Q130 h131 => ws_for (m2 := fun s_6 one_1 => [.un, .fx 0, .va ((eL (eT (eT eI))) coils), .un, .un, .un, .un, .un, .un, .va ((eT (eT eI)) one_1), .un, .un, .un, .un, .un, .mu (.lst (four_3.map (eT eI))), .un, .va ((eT (eT eI)) around_1), .un, .un, .un, .un, .un, .un, .un]) (c := (eT (eT eI))) (mOf := (fun s_6 : Unit => [.un, .fx 0, .va ((eL (eT (eT eI))) coils), .un, .un, .un, .un, .un, .un, .un, .un, .un, .un, .un, .un, .mu (.lst (four_3.map (eT eI))), .un, .va ((eT (eT eI)) around_1), .un, .un, .un, .un, .un, .un, .un])) (body := (B_law_L5 (fun b => b = true))) (s0 := ()) (wi_p (c := (eT (eT eI))) (l := [four_3, around_1, around_1.reverse, ((cut around_1 (some 5) none) ++ (cut around_1 none (some 5))), (cut around_1 none (some (-1))), ((cut four_3 (some 3) none) ++ (cut four_3 none (some 3)))]) (C := szOk ((cut around_1 (some 5) none).length + (cut around_1 none (some 5)).length) ∧ szOk ((cut four_3 (some 3) none).length + (cut four_3 none (some 3)).length)) (fun c122 => (pxi_v (pi_T (e := (eT (eT eI))) (xs := [four_3, around_1, around_1.reverse, ((cut around_1 (some 5) none) ++ (cut around_1 none (some 5))), (cut around_1 none (some (-1))), ((cut four_3 (some 3) none) ++ (cut four_3 none (some 3)))]) (pv_as ((eT (eT (eT eI))) [four_3, around_1, around_1.reverse, ((cut around_1 (some 5) none) ++ (cut around_1 none (some 5))), (cut around_1 none (some (-1))), ((cut four_3 (some 3) none) ++ (cut four_3 none (some 3)))]) (pv_tup (pvs_cons (pv_call (pc_cons (pr_atl (.s (.s (.s (.s (.s (.s (.s (.s (.s (.s (.s (.s (.s (.s (.s .z)))))))))))))))) pc_nil) (sc_tupL (e := (eT eI)) (xs := four_3))) (pvs_cons (pv_at (.s (.s (.s (.s (.s (.s (.s (.s (.s (.s (.s (.s (.s (.s (.s (.s (.s .z)))))))))))))))))) (pvs_cons (pv_un (pv_r (pv_at (.s (.s (.s (.s (.s (.s (.s (.s (.s (.s (.s (.s (.s (.s (.s (.s (.s .z))))))))))))))))))) (su_revT (e := (eT eI)))) (pvs_cons (pv_bin (pv_r (pv_slT (pv_at (.s (.s (.s (.s (.s (.s (.s (.s (.s (.s (.s (.s (.s (.s (.s (.s (.s .z)))))))))))))))))) (po_some pv_c) po_none)) (pv_r (pv_slT (pv_at (.s (.s (.s (.s (.s (.s (.s (.s (.s (.s (.s (.s (.s (.s (.s (.s (.s .z)))))))))))))))))) po_none (po_some pv_c))) (sb_catT (e := (eT eI)) (xs := (cut around_1 (some 5) none)) (ys := (cut around_1 none (some 5))) c122.1)) (pvs_cons (pv_slT (pv_at (.s (.s (.s (.s (.s (.s (.s (.s (.s (.s (.s (.s (.s (.s (.s (.s (.s .z)))))))))))))))))) po_none (po_some (pv_un (pv_r pv_c) su_neg))) (pvs_cons (pv_call (pc_cons (pv_r (pv_bin (pv_r (pv_slL (pr_atl (.s (.s (.s (.s (.s (.s (.s (.s (.s (.s (.s (.s (.s (.s (.s .z)))))))))))))))) (po_some pv_c) po_none)) (pv_r (pv_slL (pr_atl (.s (.s (.s (.s (.s (.s (.s (.s (.s (.s (.s (.s (.s (.s (.s .z)))))))))))))))) po_none (po_some pv_c))) (sb_catL (e := (eT eI)) (xs := (cut four_3 (some 3) none)) (ys := (cut four_3 none (some 3))) c122.2))) pc_nil) (sc_tupL (e := (eT eI)) (xs := ((cut four_3 (some 3) none) ++ (cut four_3 none (some 3)))))) pvs_nil)))))) (Nat.le_of_ble_eq_true rfl))))))) (.un (.kp (.kp (.un (.un (.un (.un (.un (.un (.un (.un (.un (.un (.un (.un (.kp (.un (.kp (.un (.un (.un (.un (.un (.un (.un .nil))))))))))))))))))))))))) (fun s_6 one_1 Qn Qb h123 => by unfold B_law_L5 at h123; exact ⟨gt_nm, (ws_last (ws_ifseq (C := C_law_rightU ((eT (eT eI)) one_1)) (p := ¬((v_law_rightU ((eT (eT eI)) one_1)) = true)) (fun c124 => (pb_not (pb_tru (pv_own (pvs_cons (pv_at (.s (.s (.s (.s (.s (.s (.s (.s (.s .z)))))))))) pvs_nil) rfl (ok_law_rightU ((eT (eT eI)) one_1) c124))))) (fun h125 h127 => (ws_ret (e := eB) (wx_q (κ := (fun x : Bool => AK.v (eB x))) (v := false) (px_v pv_c)) rfl h127)) (fun h126 h128 => (ws_nxl (ws_st (mOf := (fun s_6 : Unit => [.un, .fx 0, .va ((eL (eT (eT eI))) coils), .un, .un, .un, .un, .un, .un, .un, .un, .un, .un, .un, .un, .mu (.lst (four_3.map (eT eI))), .un, .va ((eT (eT eI)) around_1), .un, .un, .un, .un, .un, .un, .un])) (s := ()) (.un (.kp (.kp (.un (.un (.un (.un (.un (.un (.un (.un (.un (.un (.un (.un (.kp (.un (.kp (.un (.un (.un (.un (.un (.un (.un .nil))))))))))))))))))))))))) rfl h128))) h123))⟩) h131) (fun s_7 h132 => (ws_ifseqW (wt_test (wx_binq (e1 := eI) (e2 := eI) (e := eB) (op := fun (x133 : Int) (y134 : Int) => (decide (x133 > y134))) (wx_drawq (e := eI) (W := WRoll 3) (At.get (.s .z)) (pxs_cons (px_v pv_c) pxs_nil) rfl (ok_law_rollU 3 (by decide))) (fun _ => (wx_q (κ := (fun x : Int => AK.v (eI x))) (v := 0) (px_v pv_c))) (fun x133 y134 => sb_gt))) (fun h138 => (ws_ret (e := eB) (wx_q (κ := (fun x : Bool => AK.v (eB x))) (v := true) (px_v pv_c)) rfl h138)) (fun h139 => (ws_nxl (ws_set (κ := (fun x : (List (List Int)) => AK.v ((eT (eT eI)) x))) (wx_p (κ := (fun x : (List (List Int)) => AK.v ((eT (eT eI)) x))) (v := (v_law_doubledU (v_law_reflectedU 8))) (C := C_law_reflectedU 8 ∧ C_law_doubledU (v_law_reflectedU 8)) (fun c141 => (px_v (pv_own (pvs_cons (pv_call (pc_cons (pv_r (pv_own (pvs_cons pv_c pvs_nil) rfl (ok_law_reflectedU 8 c141.1))) pc_nil) (sc_tupL (e := (eT eI)) (xs := (v_law_reflectedU 8)))) pvs_nil) rfl (ok_law_doubledU (v_law_reflectedU 8) c141.2))))) (fun line h142 => (ws_m [.un, .fx 0, .va ((eL (eT (eT eI))) coils), .un, .un, .un, .un, .un, .un, .un, .un, .un, .un, .un, .un, .mu (.lst (four_3.map (eT eI))), .un, .va ((eT (eT eI)) around_1), .va ((eT (eT eI)) line), .un, .un, .un, .un, .un, .un] rfl (ws_set (κ := (fun x : (List (List Int)) => AK.v ((eT (eT eI)) x))) (wx_p (κ := (fun x : (List (List Int)) => AK.v ((eT (eT eI)) x))) (v := ((cut line none (some 300)) ++ [(v_law_turnU (pix line 299) (pix (v_law_placesU (pix line 298) (pix line 299)) 0))])) (C := inb line.length 299 ∧ inb line.length 298 ∧ C_law_placesU (pix line 298) (pix line 299) ∧ inb (v_law_placesU (pix line 298) (pix line 299)).length 0 ∧ C_law_turnU (pix line 299) (pix (v_law_placesU (pix line 298) (pix line 299)) 0) ∧ szOk ((cut line none (some 300)).length + [(v_law_turnU (pix line 299) (pix (v_law_placesU (pix line 298) (pix line 299)) 0))].length)) (fun c143 => (px_v (pv_bin (pv_r (pv_slT (pv_at (.s (.s (.s (.s (.s (.s (.s (.s (.s (.s (.s (.s (.s (.s (.s (.s (.s (.s .z))))))))))))))))))) po_none (po_some pv_c))) (pv_r (pv_as ((eT (eT eI)) [(v_law_turnU (pix line 299) (pix (v_law_placesU (pix line 298) (pix line 299)) 0))]) (pv_tup (pvs_cons (pv_own (pvs_cons (pv_bin (pv_r (pv_at (.s (.s (.s (.s (.s (.s (.s (.s (.s (.s (.s (.s (.s (.s (.s (.s (.s (.s .z)))))))))))))))))))) (pv_r pv_c) (sb_ixT (e := (eT eI)) (xs := line) c143.1)) (pvs_cons (pv_bin (pv_r (pv_own (pvs_cons (pv_bin (pv_r (pv_at (.s (.s (.s (.s (.s (.s (.s (.s (.s (.s (.s (.s (.s (.s (.s (.s (.s (.s .z)))))))))))))))))))) (pv_r pv_c) (sb_ixT (e := (eT eI)) (xs := line) c143.2.1)) (pvs_cons (pv_bin (pv_r (pv_at (.s (.s (.s (.s (.s (.s (.s (.s (.s (.s (.s (.s (.s (.s (.s (.s (.s (.s .z)))))))))))))))))))) (pv_r pv_c) (sb_ixT (e := (eT eI)) (xs := line) c143.1)) pvs_nil)) rfl (ok_law_placesU (pix line 298) (pix line 299) c143.2.2.1))) (pv_r pv_c) (sb_ixL (e := eI) (xs := (v_law_placesU (pix line 298) (pix line 299))) c143.2.2.2.1)) pvs_nil)) rfl (ok_law_turnU (pix line 299) (pix (v_law_placesU (pix line 298) (pix line 299)) 0) c143.2.2.2.2.1)) pvs_nil) (Nat.le_of_ble_eq_true rfl)))) (sb_catT (e := (eT eI)) (xs := (cut line none (some 300))) (ys := [(v_law_turnU (pix line 299) (pix (v_law_placesU (pix line 298) (pix line 299)) 0))]) c143.2.2.2.2.2))))) (fun near h144 => (ws_m [.un, .fx 0, .va ((eL (eT (eT eI))) coils), .un, .un, .un, .un, .un, .un, .un, .un, .un, .un, .un, .un, .mu (.lst (four_3.map (eT eI))), .un, .va ((eT (eT eI)) around_1), .va ((eT (eT eI)) line), .va ((eT (eT eI)) near), .un, .un, .un, .un, .un] rfl (ws_set (κ := (fun x : (List (List Int)) => AK.l (x.map (eT eI)))) (wx_p (κ := (fun x : (List (List Int)) => AK.l (x.map (eT eI)))) (v := [(rep 16 ([0] : List Int))]) (C := okRp 16 ([0] : List Int).length) (fun c145 => (px_n (pn_lst (pvs_cons (pv_call (pc_cons (pv_r (pv_bin (pv_r (pv_as ((eL eI) ([0] : List Int)) (pv_lst (pvs_cons pv_c pvs_nil) (Nat.le_of_ble_eq_true rfl)))) (pv_r pv_c) (sb_repL (e := eI) (xs := ([0] : List Int)) c145))) pc_nil) (sc_tupL (e := eI) (xs := (rep 16 ([0] : List Int))))) pvs_nil) (Nat.le_of_ble_eq_true rfl))))) (fun far h146 => (ws_m [.un, .fx 0, .va ((eL (eT (eT eI))) coils), .un, .un, .un, .un, .un, .un, .un, .un, .un, .un, .un, .un, .mu (.lst (four_3.map (eT eI))), .un, .va ((eT (eT eI)) around_1), .va ((eT (eT eI)) line), .va ((eT (eT eI)) near), .mu (.lst (far.map (eT eI))), .un, .un, .un, .un] rfl (ws_seqJ (mOf := (fun far_1 : ((List (List Int))) => [.un, .fx 0, .va ((eL (eT (eT eI))) coils), .un, .un, .un, .un, .un, .un, .un, .un, .un, .un, .un, .un, .mu (.lst (four_3.map (eT eI))), .un, .va ((eT (eT eI)) around_1), .va ((eT (eT eI)) line), .va ((eT (eT eI)) near), .mu (.lst (far_1.map (eT eI))), .un, .un, .un, .un])) (fun Q151 h152 => ws_for (m2 := fun far_1 step_1 => [.un, .fx 0, .va ((eL (eT (eT eI))) coils), .un, .un, .un, .un, .un, .un, .un, .un, .un, .un, .un, .un, .mu (.lst (four_3.map (eT eI))), .va (eI step_1), .va ((eT (eT eI)) around_1), .va ((eT (eT eI)) line), .va ((eT (eT eI)) near), .mu (.lst (far_1.map (eT eI))), .un, .un, .un, .un]) (c := eI) (mOf := (fun far_1 : ((List (List Int))) => [.un, .fx 0, .va ((eL (eT (eT eI))) coils), .un, .un, .un, .un, .un, .un, .un, .un, .un, .un, .un, .un, .mu (.lst (four_3.map (eT eI))), .un, .va ((eT (eT eI)) around_1), .va ((eT (eT eI)) line), .va ((eT (eT eI)) near), .mu (.lst (far_1.map (eT eI))), .un, .un, .un, .un])) (body := B_law_L6) (s0 := far) (wi_p (c := eI) (l := (rng 0 4999)) (C := cR 0 4999) (fun c147 => (pxi_v (pi_rng1 pv_c c147.b)))) (.un (.kp (.kp (.un (.un (.un (.un (.un (.un (.un (.un (.un (.un (.un (.un (.kp (.un (.kp (.kp (.kp (.kp (.un (.un (.un (.un .nil))))))))))))))))))))))))) (fun far_1 step_1 Qn Qb h148 => by unfold B_law_L6 at h148; exact ⟨gt_nm, (ws_last (ws_appp (C := inb far_1.length (-1) ∧ C_law_turnU (pix far_1 (-1)) (1 + (step_1.fdiv 400))) (e := (eT eI)) (xs := far_1) (x := (v_law_turnU (pix far_1 (-1)) (1 + (step_1.fdiv 400)))) (fun c149 => (ph_x (px_v (pv_own (pvs_cons (pv_bin (pr_atl (.s (.s (.s (.s (.s (.s (.s (.s (.s (.s (.s (.s (.s (.s (.s (.s (.s (.s (.s (.s .z))))))))))))))))))))) (pv_r (pv_un (pv_r pv_c) su_neg)) (sb_ixL (e := (eT eI)) (xs := far_1) c149.1)) (pvs_cons (pv_bin (pv_r pv_c) (pv_r (pv_bin (pv_r (pv_at (.s (.s (.s (.s (.s (.s (.s (.s (.s (.s (.s (.s (.s (.s (.s (.s .z)))))))))))))))))) (pv_r pv_c) (sb_fdiv (okDiv_of (by decide) (by decide))))) sb_add) pvs_nil)) rfl (ok_law_turnU (pix far_1 (-1)) (1 + (step_1.fdiv 400)) c149.2))))) rfl rfl (fun far_2 h150 => (ws_m [.un, .fx 0, .va ((eL (eT (eT eI))) coils), .un, .un, .un, .un, .un, .un, .un, .un, .un, .un, .un, .un, .mu (.lst (four_3.map (eT eI))), .va (eI step_1), .va ((eT (eT eI)) around_1), .va ((eT (eT eI)) line), .va ((eT (eT eI)) near), .mu (.lst (far_2.map (eT eI))), .un, .un, .un, .un] rfl (ws_st (mOf := (fun far_1 : ((List (List Int))) => [.un, .fx 0, .va ((eL (eT (eT eI))) coils), .un, .un, .un, .un, .un, .un, .un, .un, .un, .un, .un, .un, .mu (.lst (four_3.map (eT eI))), .un, .va ((eT (eT eI)) around_1), .va ((eT (eT eI)) line), .va ((eT (eT eI)) near), .mu (.lst (far_1.map (eT eI))), .un, .un, .un, .un])) (s := far_2) (.un (.kp (.kp (.un (.un (.un (.un (.un (.un (.un (.un (.un (.un (.un (.un (.kp (.un (.kp (.kp (.kp (.kp (.un (.un (.un (.un .nil))))))))))))))))))))))))) rfl h150))) h148))⟩) h152) (fun far_3 h153 => (ws_last (ws_ret (e := eB) (wx_p (κ := (fun x : Bool => AK.v (eB x))) (v := (decide (([line, line.reverse, near, far_3, (line ++ (cut line none (some 1)))].map fun (value_1 : (List (List Int))) => (v_is_snake ((eT (eT eI)) value_1))) = [true, true, false, false, false]))) (C := szOk (line.length + (cut line none (some 1)).length) ∧ ∀ value_1 ∈ [line, line.reverse, near, far_3, (line ++ (cut line none (some 1)))], C_is_snake ((eT (eT eI)) value_1)) (fun c154 => (px_v (pv_bin (pv_r (pv_lcy (m1 := fun value_1 => [.un, .fx 0, .va ((eL (eT (eT eI))) coils), .un, .un, .un, .un, .un, .un, .un, .un, .un, .un, .un, .va ((eT (eT eI)) value_1), .mu (.lst (four_3.map (eT eI))), .un, .va ((eT (eT eI)) around_1), .va ((eT (eT eI)) line), .va ((eT (eT eI)) near), .mu (.lst (far_3.map (eT eI))), .un, .un, .un, .un]) (c := (eT (eT eI))) (e := eB) (l := [line, line.reverse, near, far_3, (line ++ (cut line none (some 1)))]) (k := fun (value_1 : (List (List Int))) => (v_is_snake ((eT (eT eI)) value_1))) (pi_T (e := (eT (eT eI))) (xs := [line, line.reverse, near, far_3, (line ++ (cut line none (some 1)))]) (pv_as ((eT (eT (eT eI))) [line, line.reverse, near, far_3, (line ++ (cut line none (some 1)))]) (pv_tup (pvs_cons (pv_at (.s (.s (.s (.s (.s (.s (.s (.s (.s (.s (.s (.s (.s (.s (.s (.s (.s (.s .z))))))))))))))))))) (pvs_cons (pv_un (pv_r (pv_at (.s (.s (.s (.s (.s (.s (.s (.s (.s (.s (.s (.s (.s (.s (.s (.s (.s (.s .z)))))))))))))))))))) (su_revT (e := (eT eI)))) (pvs_cons (pv_at (.s (.s (.s (.s (.s (.s (.s (.s (.s (.s (.s (.s (.s (.s (.s (.s (.s (.s (.s .z)))))))))))))))))))) (pvs_cons (pv_call (pc_cons (pr_atl (.s (.s (.s (.s (.s (.s (.s (.s (.s (.s (.s (.s (.s (.s (.s (.s (.s (.s (.s (.s .z))))))))))))))))))))) pc_nil) (sc_tupL (e := (eT eI)) (xs := far_3))) (pvs_cons (pv_bin (pv_r (pv_at (.s (.s (.s (.s (.s (.s (.s (.s (.s (.s (.s (.s (.s (.s (.s (.s (.s (.s .z)))))))))))))))))))) (pv_r (pv_slT (pv_at (.s (.s (.s (.s (.s (.s (.s (.s (.s (.s (.s (.s (.s (.s (.s (.s (.s (.s .z))))))))))))))))))) po_none (po_some pv_c))) (sb_catT (e := (eT eI)) (xs := line) (ys := (cut line none (some 1))) c154.1)) pvs_nil))))) (Nat.le_of_ble_eq_true rfl)))) (by simp only [List.length_cons, List.length_nil]; decide) (fun value_1 m156 => ⟨gt_nm, (pv_own (pvs_cons (pv_at (.s (.s (.s (.s (.s (.s (.s (.s (.s (.s (.s (.s (.s (.s .z))))))))))))))) pvs_nil) rfl (ok_is_snake ((eT (eT eI)) value_1) (c154.2 value_1 m156)))⟩))) (pv_r (pv_as ((eL eB) [true, true, false, false, false]) (pv_lst (pvs_cons pv_c (pvs_cons pv_c (pvs_cons pv_c (pvs_cons pv_c (pvs_cons pv_c pvs_nil))))) (Nat.le_of_ble_eq_true rfl)))) (sb_eq (a := ([line, line.reverse, near, far_3, (line ++ (cut line none (some 1)))].map fun (value_1 : (List (List Int))) => (v_is_snake ((eT (eT eI)) value_1)))) (b := [true, true, false, false, false]) (qL qB) (by decide)))))) rfl h153))) h146))) h144))) h142))) h139))) h132)) h121))) h119))) h117)) h110))) h106)) h8))) h5))) h)

end Sg

namespace Sg
open PySem PySem.Spec PyProof.Rows L2
/-! ### plain values -/
theorem pln_tyD {d : D} (h : d.pln = true) : (tyD d).isSome = true := by
  cases d <;> simp_all [D.pln, tyD]
theorem plnL_mem : ∀ {ds : List D}, D.plnL ds = true → ∀ d ∈ ds, d.pln = true
  | [], _, d, h => by cases h
  | x :: ds, hp, d, h => by
    simp only [D.plnL, Bool.and_eq_true] at hp
    rcases List.mem_cons.mp h with rfl | h
    · exact hp.1
    · exact plnL_mem hp.2 d h
theorem plnL_ofM : ∀ {ds : List D}, (∀ d ∈ ds, d.pln = true) → D.plnL ds = true
  | [], _ => rfl
  | x :: ds, hp => by
    simp only [D.plnL, Bool.and_eq_true]
    exact ⟨hp x (List.mem_cons_self ..), plnL_ofM fun d hd => hp d (List.mem_cons_of_mem _ hd)⟩
theorem pln_dIt {v : D} (h : v.pln = true) : ∀ d ∈ dIt v, d.pln = true := by
  cases v <;> simp only [dIt, List.not_mem_nil, false_implies, implies_true]
  · exact plnL_mem h
  · exact plnL_mem h
theorem depL_memM : ∀ {ds : List D}, ∀ d ∈ ds, d.dep ≤ D.depL ds
  | [], d, h => by cases h
  | x :: ds, d, h => by
    simp only [D.depL]
    rcases List.mem_cons.mp h with rfl | h
    · omega
    · have := depL_memM d h; omega
theorem depL_leM : ∀ {ds : List D} {n : Nat}, (∀ d ∈ ds, d.dep ≤ n) → D.depL ds ≤ n
  | [], _, _ => Nat.zero_le _
  | x :: ds, n, h => by
    simp only [D.depL]
    have h1 := h x (List.mem_cons_self ..)
    have h2 := depL_leM fun d hd => h d (List.mem_cons_of_mem _ hd)
    omega
theorem dep_dIt {v : D} {n : Nat} (h : v.dep ≤ n) : ∀ d ∈ dIt v, d.dep ≤ n := by
  cases v <;> simp only [dIt, List.not_mem_nil, false_implies, implies_true]
  all_goals
    intro d hd
    have := depL_memM d hd
    simp only [D.dep] at h
    omega
/-- values that the law hands in -/
structure Pl (v : D) : Prop where
  p : v.pln = true
  d : v.dep ≤ 10
  n : szOk (dIt v).length
  w : ∀ w ∈ dIt v, szOk (dIt w).length
theorem eqk_filter {v : D} (h : v.pln = true) (hd : v.dep ≤ 10) (p : D → Bool) : D.eqk (eL eA ((dIt v).filter p)) = true := by
  have h1 : D.plnL (((dIt v).filter p).map eA) = true := plnL_ofM fun d hd => by
    obtain ⟨x, hx, rfl⟩ := List.mem_map.mp hd
    exact pln_dIt h x (List.mem_filter.mp hx).1
  have h2 : D.depL (((dIt v).filter p).map eA) ≤ 10 := depL_leM fun d hq => by
    obtain ⟨x, hx, rfl⟩ := List.mem_map.mp hq
    exact dep_dIt hd x (List.mem_filter.mp hx).1
  show (D.plnL (((dIt v).filter p).map eA) && decide (D.depL (((dIt v).filter p).map eA) + 1 ≤ 60)) = true
  rw [h1, Bool.true_and, decide_eq_true_eq]
  omega
theorem eqv_nilM {α : Type} (e : α → D) (xs : List α) : D.eqv (eL e xs) (eL eI ([] : List Int)) = decide (xs = []) := by
  cases xs <;> simp [eL, D.eqv, D.eqvL]
/-! ### words -/
def isW (w : List Int) : Prop := (1 ≤ w.length ∧ w.length ≤ 16) ∧ ∀ x ∈ w, x = 0 ∨ x = 1
def gw (d : D) : Prop := ∃ w : List Int, d = eT eI w ∧ isW w
theorem tof_iff {v : D} {a b : Int} : tof v a b = true ↔ ∃ ds, v = .tup ds ∧ a ≤ ds.length ∧ (ds.length : Int) ≤ b := by
  cases v <;> simp [tof]
theorem fw_iff {v : D} : fw v 0 1 = true ↔ v = .int 0 ∨ v = .int 1 := by
  cases v <;> simp [fw]
  omega
theorem all_bits : ∀ {ds : List D}, (∀ d ∈ ds, d = .int 0 ∨ d = .int 1) → ∃ w : List Int, ds = w.map eI ∧ ∀ x ∈ w, x = 0 ∨ x = 1
  | [], _ => ⟨[], rfl, by simp⟩
  | d :: ds, h => by
    obtain ⟨w, e, hw⟩ := all_bits fun x hx => h x (List.mem_cons_of_mem _ hx)
    rcases h d (List.mem_cons_self ..) with rfl | rfl
    · exact ⟨0 :: w, by rw [e]; rfl, by simpa using hw⟩
    · exact ⟨1 :: w, by rw [e]; rfl, by simpa using hw⟩
theorem gw_iff {d : D} : gw d ↔ ∃ ds, d = .tup ds ∧ (1 ≤ ds.length ∧ ds.length ≤ 16) ∧ ∀ x ∈ ds, x = .int 0 ∨ x = .int 1 := by
  constructor
  · rintro ⟨w, rfl, h, hb⟩
    refine ⟨w.map eI, rfl, by simpa using h, fun x hx => ?_⟩
    obtain ⟨b, hb', rfl⟩ := List.mem_map.mp hx
    rcases hb b hb' with rfl | rfl
    · exact .inl rfl
    · exact .inr rfl
  · rintro ⟨ds, rfl, h, hb⟩
    obtain ⟨w, rfl, hw⟩ := all_bits hb
    exact ⟨w, rfl, by simpa using h, hw⟩
theorem fits_word_iff {d : D} : v_fits_word d = true ↔ gw d := by
  rw [gw_iff]
  simp only [v_fits_word, Bool.and_eq_true, tof_iff, all_id, List.mem_map]
  constructor
  · rintro ⟨⟨ds, rfl, h1, h2⟩, h⟩
    refine ⟨ds, rfl, by omega, fun x hx => fw_iff.mp (h _ ⟨x, hx, rfl⟩)⟩
  · rintro ⟨ds, rfl, h1, h2⟩
    refine ⟨⟨ds, rfl, by omega, by omega⟩, ?_⟩
    rintro _ ⟨x, hx, rfl⟩
    exact fw_iff.mpr (h2 x hx)
theorem C_fits_word_ok {d : D} (h : d.pln = true) (hs : szOk (dIt d).length) : C_fits_word d := by
  refine ⟨pln_tyD h, fun q => ?_⟩
  obtain ⟨ds, rfl, _⟩ := tof_iff.mp q
  exact ⟨rfl, hs, fun x hx => pln_tyD (pln_dIt h x hx)⟩
theorem as_word (w : List Int) : asT asI (eT eI w) = w := by
  simp only [asT, eT, dIt, List.map_map]
  exact (List.map_congr_left (fun _ _ => rfl)).trans (List.map_id w)
theorem as_words (ws : List (List Int)) : asT (asT asI) (eT (eT eI) ws) = ws := by
  simp only [asT, eT, dIt, List.map_map]
  refine (List.map_congr_left (g := id) fun w _ => ?_).trans (List.map_id ws)
  exact as_word w
theorem all_words : ∀ {ds : List D}, (∀ d ∈ ds, gw d) → ∃ ws : List (List Int), ds = ws.map (eT eI) ∧ ∀ w ∈ ws, isW w
  | [], _ => ⟨[], rfl, by simp⟩
  | d :: ds, h => by
    obtain ⟨ws, e, hw⟩ := all_words fun x hx => h x (List.mem_cons_of_mem _ hx)
    obtain ⟨w, rfl, h1⟩ := h d (List.mem_cons_self ..)
    exact ⟨w :: ws, by rw [e]; rfl, by simpa using ⟨h1, hw⟩⟩
end Sg

namespace Sg
open PySem PySem.Spec PyProof.Rows L2
theorem places_eq : v_law_placesU = v_unlike_in := rfl
theorem C_unlike_ok {a b : List Int} (h : a.length = b.length) (ha : a.length ≤ 1000) : C_unlike_in a b := by
  refine ⟨by constructor <;> omega, fun x hx => ?_⟩
  have := mem_rng.mp hx
  constructor <;> constructor <;> omega
theorem C_places_ok {a b : List Int} (h : a.length = b.length) (ha : a.length ≤ 1000) : C_law_placesU a b := C_unlike_ok h ha
theorem cut_1d {α : Type} (xs : List α) : cut xs (some 1) none = xs.drop 1 := by
  show List.take (HT.sIx xs.length xs.length none - HT.sIx xs.length 0 (some ((1 : Nat) : Int))) (List.drop (HT.sIx xs.length 0 (some ((1 : Nat) : Int))) xs) = _
  rw [HT.sIx_nat]
  show List.take (xs.length - min 1 xs.length) (List.drop (min 1 xs.length) xs) = _
  cases xs with
  | nil => rfl
  | cons x r =>
    have : min 1 (x :: r).length = 1 := by simp
    rw [this, List.take_of_length_le (by simp)]
theorem pix_map0 {α β : Type} [Inhabited α] [Inhabited β] {f : α → β} {xs : List α} (h : xs ≠ []) : pix (xs.map f) 0 = f (pix xs 0) := by
  cases xs with
  | nil => exact absurd rfl h
  | cons x r => rw [List.map_cons, pix_0, pix_0]
structure okL (ws : List (List Int)) : Prop where
  n : 1 ≤ ws.length ∧ ws.length ≤ 5000
  w : ∀ w ∈ ws, isW w
  l : ∀ w ∈ ws, w.length = (pix ws 0).length
  s : ∀ p ∈ ws.zip (ws.drop 1), (v_unlike_in p.1 p.2).length = 1
theorem zip_mem {α : Type} {xs : List α} {p : α × α} (h : p ∈ xs.zip (xs.drop 1)) : p.1 ∈ xs ∧ p.2 ∈ xs := by
  obtain ⟨h1, h2⟩ := List.of_mem_zip (a := p.1) (b := p.2) h
  exact ⟨h1, List.mem_of_mem_drop h2⟩
theorem dIt_words (ws : List (List Int)) : dIt (eT (eT eI) ws) = ws.map (eT eI) := rfl
theorem dIt_word (w : List Int) : (dIt (eT eI w)).length = w.length := by simp [eT, dIt]
/-- the three tests of a list of words -/
def tests (ws : List (List Int)) : Bool := (ws.all fun w => decide (w.length = (pix ws 0).length)) && (ws.zip (ws.drop 1)).all fun p => decide ((v_unlike_in p.1 p.2).length = 1)
theorem tests_iff {ws : List (List Int)} (h1 : 1 ≤ ws.length ∧ ws.length ≤ 5000) (hw : ∀ w ∈ ws, isW w) : tests ws = true ↔ okL ws := by
  simp only [tests, Bool.and_eq_true, List.all_eq_true, decide_eq_true_eq]
  exact ⟨fun h => ⟨h1, hw, h.1, h.2⟩, fun h => ⟨h.l, h.s⟩⟩
theorem ne_of_len {α : Type} {xs : List α} (h : 1 ≤ xs.length) : xs ≠ [] := by rintro rfl; simp at h
theorem fits_words {ws : List (List Int)} (h1 : 1 ≤ ws.length ∧ ws.length ≤ 5000) (hw : ∀ w ∈ ws, isW w) : v_fits_list (eT (eT eI) ws) = tests ws := by
  have hne := ne_of_len h1.1
  have e1 : tof (eT (eT eI) ws) 1 5000 = true := tof_iff.mpr ⟨_, rfl, by simp; omega, by simp; omega⟩
  have e2 : ((dIt (eT (eT eI) ws)).map fun (word : D) => (v_fits_word word)).all id = true := by
    rw [all_id, dIt_words]
    intro b hb
    obtain ⟨d, hd, rfl⟩ := List.mem_map.mp hb
    obtain ⟨w, hw', rfl⟩ := List.mem_map.mp hd
    exact fits_word_iff.mpr ⟨w, rfl, hw w hw'⟩
  have e3 : ((((dIt (eT (eT eI) ws)).map fun (word_1 : D) => (decide (((dIt word_1).length : Int) = ((dIt (pix (dIt (eT (eT eI) ws)) 0)).length : Int)))).all id) = true) ↔ (ws.all fun w => decide (w.length = (pix ws 0).length)) = true := by
    rw [all_id, dIt_words, pix_map0 hne]
    simp only [List.map_map, List.mem_map, Function.comp, dIt_word, List.all_eq_true, decide_eq_true_eq, forall_exists_index, and_imp, forall_apply_eq_imp_iff₂]
    constructor
    · intro h x hx; have := h x hx; omega
    · intro h x hx; have := h x hx; omega
  unfold v_fits_list
  rw [if_neg (by rw [e1, e2]; simp), as_words, cut_1d]
  by_cases q : (ws.all fun w => decide (w.length = (pix ws 0).length)) = true
  · rw [if_neg (by rw [e3]; simpa using q), tests, q, Bool.true_and, List.all_map]
    congr 1; funext p
    simp only [Function.comp, id]
    exact decide_eq_decide.mpr (by omega)
  · rw [if_pos (by rw [e3]; simpa using q), tests, Bool.eq_false_iff.mpr q, Bool.false_and]
theorem fits_list_iff {v : D} : v_fits_list v = true ↔ ∃ ws, v = eT (eT eI) ws ∧ okL ws := by
  constructor
  · intro h
    have h0 := h
    unfold v_fits_list at h
    split at h
    · cases h
    rename_i h1
    have h2 := not_or.mp h1
    obtain ⟨ds, rfl, a1, a2⟩ := tof_iff.mp (Classical.not_not.mp h2.1)
    have h3 := (all_id _).mp (Classical.not_not.mp h2.2)
    obtain ⟨ws, rfl, hw⟩ := all_words (ds := ds) fun d hd => fits_word_iff.mp (h3 _ (List.mem_map.mpr ⟨d, hd, rfl⟩))
    have hn : 1 ≤ ws.length ∧ ws.length ≤ 5000 := by simp at a1 a2; omega
    rw [show D.tup (ws.map (eT eI)) = eT (eT eI) ws from rfl] at h0 ⊢
    rw [fits_words hn hw] at h0
    exact ⟨ws, rfl, (tests_iff hn hw).mp h0⟩
  · rintro ⟨ws, rfl, h⟩
    rw [fits_words h.n h.w]
    exact (tests_iff h.n h.w).mpr h
theorem C_fits_list_ok {v : D} (h : Pl v) : C_fits_list v := by
  have hw : ∀ w ∈ dIt v, C_fits_word w := fun w hw => C_fits_word_ok (pln_dIt h.p w hw) (h.w w hw)
  refine ⟨pln_tyD h.p, fun q => ?_, fun q => ?_⟩
  · obtain ⟨ds, rfl, _⟩ := tof_iff.mp (Classical.not_not.mp q)
    exact ⟨rfl, h.n, hw⟩
  · have h2 := not_or.mp q
    obtain ⟨ds, rfl, a1, a2⟩ := tof_iff.mp (Classical.not_not.mp h2.1)
    have h3 := (all_id _).mp (Classical.not_not.mp h2.2)
    obtain ⟨ws, rfl, hW⟩ := all_words (ds := ds) fun d hd => fits_word_iff.mp (h3 _ (List.mem_map.mpr ⟨d, hd, rfl⟩))
    have hn : 1 ≤ ws.length ∧ ws.length ≤ 5000 := by simp at a1 a2; omega
    have hne := ne_of_len hn.1
    refine ⟨rfl, h.n, ?_, fun q2 => ?_⟩
    · intro w hw
      have hw' : w ∈ ws.map (eT eI) := hw
      obtain ⟨x, hx, rfl⟩ := List.mem_map.mp hw'
      refine ⟨rfl, ⟨by simp [dIt] <;> omega, by simp [dIt] <;> omega⟩, ?_⟩
      show isSq (pix (ws.map (eT eI)) 0) = true
      rw [pix_map0 hne]; rfl
    · have q3 := (all_id _).mp (Classical.not_not.mp q2)
      have hl : ∀ w ∈ ws, w.length = (pix ws 0).length := fun w hw => by
        have := q3 _ (List.mem_map.mpr ⟨eT eI w, List.mem_map.mpr ⟨w, hw, rfl⟩, rfl⟩)
        rw [decide_eq_true_eq] at this
        have e : pix (dIt (D.tup (ws.map (eT eI)))) 0 = eT eI (pix ws 0) := pix_map0 hne
        rw [e, dIt_word, dIt_word] at this
        omega
      rw [show D.tup (ws.map (eT eI)) = eT (eT eI) ws from rfl, as_words, cut_1d]
      refine ⟨rfl, by omega, fun p hp => ?_⟩
      obtain ⟨p1, p2⟩ := zip_mem hp
      exact C_unlike_ok ((hl _ p1).trans (hl _ p2).symm) (by have := (hW _ p1).1; omega)
end Sg

namespace Sg
open PySem PySem.Spec PyProof.Rows L2
theorem isT_tup {d : D} : isT "tuple" d = true ↔ ∃ ds, d = .tup ds := by
  cases d <;> simp [isT, tyD, isSub]
theorem sign_ok {d : D} : ¬((isT "bool" d = true) ∨ ((¬(isT "int" d = true)) ∨ (¬ asI d ∈ ([0, 1] : List Int)))) ↔ d = .int 0 ∨ d = .int 1 := by
  cases d <;> simp [isT, tyD, isSub, asI]
  omega
theorem forC_all {α ρ : Type} {body : Unit → α → Ctl Unit ρ} {b : α → Bool} {r : ρ} (h : ∀ x, body () x = if b x = true then .go () else .ret r) : ∀ l : List α, forC body l () = if l.all b = true then .go () else .ret r
  | [] => by simp [forC]
  | x :: l => by
    rw [forC, h x]
    by_cases q : b x = true
    · rw [if_pos q, List.all_cons, q, Bool.true_and]; exact forC_all h l
    · rw [if_neg q, List.all_cons, Bool.eq_false_iff.mpr q, Bool.false_and]; simp
/-- a word passes the law's test -/
def lw1 (v w : D) : Bool := (v_law_is_listU_L1 v () w) matches .go ()
theorem L1_iff (v w : D) : v_law_is_listU_L1 v () w = (if lw1 v w = true then .go () else .ret false) ∧ (lw1 v w = true ↔ gw w ∧ (dIt w).length = (dIt (pix (dIt v) 0)).length) := by
  unfold lw1 v_law_is_listU_L1
  rw [eqv_nilM]
  by_cases q1 : isT "tuple" w = true
  · obtain ⟨ds, rfl⟩ := isT_tup.mp q1
    have dl : dIt (D.tup ds) = ds := rfl
    by_cases q2 : 1 ≤ ds.length ∧ ds.length ≤ 16
    · by_cases q3 : ds.length = (dIt (pix (dIt v) 0)).length
      · rw [if_neg (by rw [dl, q1]; intro h; rcases h with h | h | h <;> first | exact h rfl | omega)]
        by_cases q4 : ∀ x ∈ ds, x = D.int 0 ∨ x = D.int 1
        · have e : (dIt (D.tup ds)).filter (fun (sign : D) => decide (((isT "bool" sign) = true) ∨ ((¬((isT "int" sign) = true)) ∨ (¬ (asI sign) ∈ ([0, 1] : List Int))))) = [] := by
            rw [List.filter_eq_nil_iff]
            intro x hx
            rw [decide_eq_true_eq]
            exact sign_ok.mpr (q4 x hx)
          rw [e]
          simp only [decide_true, Bool.not_true, Bool.false_eq_true, if_false, if_true, true_iff, true_and]
          exact ⟨gw_iff.mpr ⟨ds, rfl, q2, q4⟩, q3⟩
        · have e : (dIt (D.tup ds)).filter (fun (sign : D) => decide (((isT "bool" sign) = true) ∨ ((¬((isT "int" sign) = true)) ∨ (¬ (asI sign) ∈ ([0, 1] : List Int))))) ≠ [] := by
            intro h
            rw [List.filter_eq_nil_iff] at h
            refine q4 fun x hx => sign_ok.mp ?_
            have := h x hx
            rw [decide_eq_true_eq] at this
            exact this
          rw [decide_eq_false e]
          simp only [Bool.not_false, if_true, Bool.false_eq_true, if_false, false_iff, true_and]
          rintro ⟨g, _⟩
          obtain ⟨es, he, _, h⟩ := gw_iff.mp g
          cases he; exact q4 h
      · rw [if_pos (by rw [dl]; omega)]
        simp only [Bool.false_eq_true, if_false, false_iff, true_and]
        rintro ⟨_, h⟩; exact q3 h
    · rw [if_pos (by rw [dl]; omega)]
      simp only [Bool.false_eq_true, if_false, false_iff, true_and]
      rintro ⟨g, _⟩
      obtain ⟨es, he, h, _⟩ := gw_iff.mp g
      cases he; exact q2 h
  · rw [if_pos (.inl q1)]
    simp only [Bool.false_eq_true, if_false, false_iff, true_and]
    rintro ⟨g, _⟩
    obtain ⟨es, he, _⟩ := gw_iff.mp g
    exact q1 (isT_tup.mpr ⟨es, he⟩)
theorem forC_list (v : D) : forC (v_law_is_listU_L1 v) (dIt v) () = if (dIt v).all (lw1 v) = true then .go () else .ret false := forC_all (fun x => (L1_iff v x).1) _
theorem law_is_list_words {ws : List (List Int)} (h1 : 1 ≤ ws.length ∧ ws.length ≤ 5000) (hw : ∀ w ∈ ws, isW w) : v_law_is_listU (eT (eT eI) ws) = tests ws := by
  have hne := ne_of_len h1.1
  unfold v_law_is_listU
  have e0 : isT "tuple" (eT (eT eI) ws) = true := isT_tup.mpr ⟨_, rfl⟩
  rw [if_neg (by rw [e0]; simp [dIt]; omega), forC_list, as_words, cut_1d]
  have e : (dIt (eT (eT eI) ws)).all (lw1 (eT (eT eI) ws)) = ws.all fun w => decide (w.length = (pix ws 0).length) := by
    rw [dIt_words, List.all_map]
    rw [Bool.eq_iff_iff]
    simp only [List.all_eq_true, Function.comp, decide_eq_true_eq, (L1_iff _ _).2, dIt_words, pix_map0 hne, dIt_word]
    exact ⟨fun h x hx => (h x hx).2, fun h x hx => ⟨⟨x, rfl, hw x hx⟩, h x hx⟩⟩
  rw [e]
  by_cases q : (ws.all fun w => decide (w.length = (pix ws 0).length)) = true
  · rw [if_pos q, tests, q, Bool.true_and]
    simp only [Ctl.after]
    rw [Bool.eq_iff_iff]
    simp only [decide_eq_true_eq, List.map_eq_nil_iff, List.filter_eq_nil_iff, List.all_eq_true, places_eq]
    constructor
    · intro h x hx; have h2 : ¬ ((v_unlike_in x.1 x.2).length : Int) ≠ 1 := fun hn => h x hx (decide_eq_true hn)
      omega
    · intro h x hx; have h2 := h x hx; exact fun hn => (of_decide_eq_true hn) (by omega)
  · rw [if_neg q, tests, Bool.eq_false_iff.mpr q, Bool.false_and]; rfl
theorem law_is_list_iff {v : D} : v_law_is_listU v = true ↔ ∃ ws, v = eT (eT eI) ws ∧ okL ws := by
  constructor
  · intro h
    have h0 := h
    unfold v_law_is_listU at h
    split at h
    · cases h
    rename_i h1
    have h2 := not_or.mp h1
    obtain ⟨ds, rfl⟩ := isT_tup.mp (Classical.not_not.mp h2.1)
    have h3 := Classical.not_not.mp h2.2
    rw [forC_list] at h
    by_cases q : (dIt (D.tup ds)).all (lw1 (D.tup ds)) = true
    · rw [List.all_eq_true] at q
      obtain ⟨ws, rfl, hw⟩ := all_words (ds := ds) fun d hd => ((L1_iff _ _).2.mp (q d hd)).1
      have hn : 1 ≤ ws.length ∧ ws.length ≤ 5000 := by simp [dIt] at h3; omega
      rw [show D.tup (ws.map (eT eI)) = eT (eT eI) ws from rfl] at h0 ⊢
      rw [law_is_list_words hn hw] at h0
      exact ⟨ws, rfl, (tests_iff hn hw).mp h0⟩
    · rw [if_neg q] at h; cases h
  · rintro ⟨ws, rfl, h⟩
    rw [law_is_list_words h.n h.w]
    exact (tests_iff h.n h.w).mpr h
theorem list_same (v : D) : v_law_is_listU v = v_fits_list v := by
  rw [Bool.eq_iff_iff, law_is_list_iff, fits_list_iff]
theorem C_L1_ok {v w : D} (h : Pl v) (hw : w ∈ dIt v) (hf : isSq (pix (dIt v) 0) = true ∨ isT "tuple" w = false) : C_law_is_listU_L1 v () w := by
  have wp := pln_dIt h.p w hw
  have hn : 0 < (dIt v).length := List.length_pos_of_mem hw
  refine ⟨pln_tyD wp, fun q => ?_, fun q => ?_⟩
  · obtain ⟨ds, rfl⟩ := isT_tup.mp (Classical.not_not.mp q)
    refine ⟨rfl, fun _ => ⟨⟨by omega, by omega⟩, ?_⟩⟩
    rcases hf with hf | hf
    · exact hf
    · rw [Classical.not_not.mp q] at hf; cases hf
  · have q1 := Classical.not_not.mp (not_or.mp q).1
    obtain ⟨ds, rfl⟩ := isT_tup.mp q1
    refine ⟨rfl, h.w _ hw, fun s hs => ⟨pln_tyD (pln_dIt wp s hs), fun g1 g2 => ?_⟩, eqk_filter wp (dep_dIt h.d _ hw) _, by decide⟩
    have g2 := Classical.not_not.mp g2
    cases s <;> simp_all [isT, tyD, isSub, asI]
theorem forCP_mem {α ρ : Type} {body : Unit → α → Ctl Unit ρ} {P : Unit → α → Prop} : ∀ l : List α, (∀ x ∈ l, P () x) → forCP body P l ()
  | [], _ => trivial
  | x :: l, h => by
    refine ⟨h x (List.mem_cons_self ..), ?_⟩
    cases body () x with
    | go s => exact forCP_mem l fun y hy => h y (List.mem_cons_of_mem _ hy)
    | brk s => trivial
    | ret r => trivial
theorem C_law_is_list_ok {v : D} (h : Pl v) : C_law_is_listU v := by
  refine ⟨pln_tyD h.p, fun q => ?_, fun q => ?_⟩
  · obtain ⟨ds, rfl⟩ := isT_tup.mp (Classical.not_not.mp q); rfl
  · have q2 := not_or.mp q
    obtain ⟨ds, rfl⟩ := isT_tup.mp (Classical.not_not.mp q2.1)
    have h3 := Classical.not_not.mp q2.2
    refine ⟨rfl, ?_, ?_⟩
    · cases ds with
      | nil => trivial
      | cons d0 r =>
        by_cases q4 : isT "tuple" d0 = true
        · refine forCP_mem _ fun x hx => C_L1_ok h hx (.inl ?_)
          obtain ⟨es, rfl⟩ := isT_tup.mp q4
          show isSq (pix (D.tup es :: r) 0) = true
          rw [pix_0]; rfl
        · refine ⟨C_L1_ok h (List.mem_cons_self ..) (.inr (Bool.eq_false_iff.mpr q4)), ?_⟩
          have e : v_law_is_listU_L1 (D.tup (d0 :: r)) () d0 = .ret false := by
            unfold v_law_is_listU_L1; rw [if_pos (.inl q4)]
          rw [e]; trivial
    · rw [forC_list]
      by_cases q5 : (dIt (D.tup ds)).all (lw1 (D.tup ds)) = true
      · rw [if_pos q5]
        rw [List.all_eq_true] at q5
        obtain ⟨ws, rfl, hw⟩ := all_words (ds := ds) fun d hd => ((L1_iff _ _).2.mp (q5 d hd)).1
        have hn : 1 ≤ ws.length ∧ ws.length ≤ 5000 := by simp [dIt] at h3; omega
        have hne := ne_of_len hn.1
        have hl : ∀ w ∈ ws, w.length = (pix ws 0).length := fun w hw => by
          have := ((L1_iff _ _).2.mp (q5 (eT eI w) (List.mem_map.mpr ⟨w, hw, rfl⟩))).2
          have e : pix (dIt (D.tup (ws.map (eT eI)))) 0 = eT eI (pix ws 0) := pix_map0 hne
          rw [e, dIt_word, dIt_word] at this
          exact this
        show _ = _ ∧ _
        rw [show D.tup (ws.map (eT eI)) = eT (eT eI) ws from rfl, as_words, cut_1d]
        refine ⟨rfl, by omega, fun p hp => ?_⟩
        obtain ⟨p1, p2⟩ := zip_mem hp
        exact C_places_ok ((hl _ p1).trans (hl _ p2).symm) (by have := (hw _ p1).1; omega)
      · rw [if_neg q5]; trivial
end Sg

namespace Sg
open PySem PySem.Spec PyProof.Rows L2
/-! ### unlike places, turned words -/
def hd : List Int → List Int → Nat
  | x :: a, y :: b => (if x = y then 0 else 1) + hd a b
  | _, _ => 0
theorem rng0_map {α : Type} (n : Nat) (f : Int → α) : (rng 0 (n : Int)).map f = (List.range n).map fun (i : Nat) => f (i : Int) := by
  simp only [rng, List.map_map, Int.sub_zero, Int.toNat_natCast]
  exact List.map_congr_left fun x _ => by simp only [Function.comp, Int.zero_add]
theorem pairs_zip : ∀ {a b : List Int}, a.length = b.length → (rng 0 (a.length : Int)).map (fun at' => (pix a at', pix b at')) = a.zip b := fun {a b} h => by
  rw [rng0_map]
  apply List.ext_getElem
  · simp [h]
  · intro j h1 h2
    have ha : j < a.length := by simpa using h1
    simp only [List.getElem_map, List.getElem_range, List.getElem_zip]
    rw [pix_nat ha, pix_nat (by omega : j < b.length)]
theorem hd_zip : ∀ a b : List Int, hd a b = ((a.zip b).filter fun p => decide (p.1 ≠ p.2)).length
  | [], _ => by simp [hd]
  | _ :: _, [] => by simp [hd]
  | x :: a, y :: b => by
    rw [hd, hd_zip a b, List.zip_cons_cons, List.filter_cons]
    by_cases q : x = y
    · simp [q]
    · simp [q]; omega
theorem far_hd {a b : List Int} (h : a.length = b.length) : (v_unlike_in a b).length = hd a b := by
  rw [hd_zip, ← pairs_zip h, List.filter_map, List.length_map, v_unlike_in, List.length_map]
  rfl
theorem hd_0 : ∀ {a b : List Int}, a.length = b.length → (hd a b = 0 ↔ a = b)
  | [], [], _ => by simp [hd]
  | [], y :: b, h => by simp at h
  | x :: a, [], h => by simp at h
  | x :: a, y :: b, h => by
    have ih := hd_0 (a := a) (b := b) (by simpa using h)
    rw [hd]
    by_cases q : x = y
    · rw [if_pos q, Nat.zero_add, ih, q]; simp
    · rw [if_neg q]; simp [q]
theorem hd_sym : ∀ a b : List Int, hd a b = hd b a
  | [], [] => rfl
  | [], _ :: _ => rfl
  | _ :: _, [] => rfl
  | x :: a, y :: b => by
    rw [hd, hd, hd_sym a b]
    by_cases q : x = y
    · rw [if_pos q, if_pos q.symm]
    · rw [if_neg q, if_neg (Ne.symm q)]
def flips : List Int → List (List Int)
  | [] => []
  | x :: r => ((1 - x) :: r) :: (flips r).map (x :: ·)
theorem flips_len : ∀ w : List Int, (flips w).length = w.length
  | [] => rfl
  | x :: r => by simp [flips, flips_len r]
theorem flips_mlen : ∀ (w : List Int), ∀ o ∈ flips w, o.length = w.length
  | [], o, h => by cases h
  | x :: r, o, h => by
    rcases List.mem_cons.mp h with rfl | h
    · simp
    · obtain ⟨p, hp, rfl⟩ := List.mem_map.mp h
      simp [flips_mlen r p hp]
theorem mem_flips : ∀ {w o : List Int}, (∀ x ∈ w, x = 0 ∨ x = 1) → (∀ x ∈ o, x = 0 ∨ x = 1) → w.length = o.length → (o ∈ flips w ↔ hd w o = 1)
  | [], [], _, _, _ => by simp [flips, hd]
  | [], y :: b, _, _, h => by simp at h
  | x :: a, [], _, _, h => by simp at h
  | x :: a, y :: b, hw, ho, h => by
    have hl : a.length = b.length := by simpa using h
    have ih := mem_flips (w := a) (o := b) (fun z hz => hw z (List.mem_cons_of_mem _ hz)) (fun z hz => ho z (List.mem_cons_of_mem _ hz)) hl
    have hx := hw x (List.mem_cons_self ..)
    have hy := ho y (List.mem_cons_self ..)
    rw [flips, hd, List.mem_cons, List.mem_map]
    by_cases q : x = y
    · rw [if_pos q, Nat.zero_add, ← ih]
      constructor
      · rintro (h1 | ⟨p, hp, h1⟩)
        · simp only [List.cons.injEq] at h1; omega
        · simp only [List.cons.injEq] at h1; rw [← h1.2]; exact hp
      · intro h1; exact .inr ⟨b, h1, by rw [q]⟩
    · rw [if_neg q]
      have e0 := hd_0 hl
      constructor
      · rintro (h1 | ⟨p, hp, h1⟩)
        · simp only [List.cons.injEq] at h1
          have := e0.mpr h1.2.symm; omega
        · simp only [List.cons.injEq] at h1; exact absurd h1.1 q
      · intro h1
        refine .inl ?_
        have h2 := e0.mp (by omega)
        rw [h2]; congr 1; omega
theorem flips_get : ∀ (w : List Int) (j : Nat), j < w.length → (flips w)[j]? = some (w.take j ++ [1 - w.getD j 0] ++ w.drop (j + 1))
  | [], j, h => by simp at h
  | x :: r, 0, h => by simp [flips]
  | x :: r, j + 1, h => by
    rw [flips, List.getElem?_cons_succ, List.getElem?_map, flips_get r j (by simpa using h)]
    simp
theorem cut_pre {α : Type} (xs : List α) (b : Nat) : cut xs none (some (b : Int)) = xs.take b := by
  show List.take (HT.sIx xs.length xs.length (some (b : Int)) - 0) (List.drop 0 xs) = _
  rw [HT.sIx_nat, Nat.sub_zero, List.drop_zero]
  by_cases h2 : b ≤ xs.length
  · rw [Nat.min_eq_left h2]
  · rw [Nat.min_eq_right (Nat.le_of_lt (Nat.lt_of_not_le h2)), List.take_of_length_le (Nat.le_refl _), List.take_of_length_le (by omega)]
theorem cut_suf {α : Type} (xs : List α) (a : Nat) : cut xs (some (a : Int)) none = xs.drop a := by
  show List.take (xs.length - HT.sIx xs.length 0 (some (a : Int))) (List.drop (HT.sIx xs.length 0 (some (a : Int))) xs) = _
  rw [HT.sIx_nat]
  by_cases h2 : a ≤ xs.length
  · rw [Nat.min_eq_left h2, List.take_of_length_le (by simp)]
  · rw [Nat.min_eq_right (Nat.le_of_lt (Nat.lt_of_not_le h2))]
    simp; omega
theorem turned_at_eq {w : List Int} {j : Nat} (h : j < w.length) : v_turned_at w (1 + (j : Int)) = w.take j ++ [1 - w.getD j 0] ++ w.drop (j + 1) := by
  unfold v_turned_at
  rw [show (1 + (j : Int)) - 1 = (j : Int) by omega, cut_pre, pix_nat h, show (1 + (j : Int)) = ((j + 1 : Nat) : Int) by omega, cut_suf]
  rw [List.getD_eq_getElem?_getD, List.getElem?_eq_getElem h]; rfl
theorem near_eq (w : List Int) : v_near_in w = flips w := by
  unfold v_near_in
  apply List.ext_getElem?
  intro j
  by_cases h : j < w.length
  · rw [flips_get w j h, List.getElem?_map]
    have hr : (rng 1 ((w.length : Int) + 1))[j]? = some (1 + (j : Int)) := by
      simp only [rng, List.getElem?_map]
      rw [List.getElem?_range (by omega)]; rfl
    rw [hr, Option.map_some, turned_at_eq h]
  · rw [List.getElem?_eq_none (by simp; omega), List.getElem?_eq_none (by rw [flips_len]; omega)]
theorem C_near_ok {w : List Int} (h : w.length ≤ 1000) : C_near_in w := by
  refine ⟨by constructor <;> omega, fun place hp => ?_⟩
  have := mem_rng.mp hp
  refine ⟨by constructor <;> omega, ?_, ?_⟩
  · have : (cut w none (some (place - 1))).length ≤ w.length := by unfold cut; simp; omega
    simp; omega
  · have h1 : (cut w none (some (place - 1))).length ≤ w.length := by unfold cut; simp; omega
    have h2 : (cut w (some place) none).length ≤ w.length := by unfold cut; simp; omega
    simp; omega
end Sg

namespace Sg
open PySem PySem.Spec PyProof.Rows L2
section
variable {κ ν : Type} [DecidableEq κ]
theorem dget_none {k : κ} : ∀ {kvs : List (κ × ν)}, dget kvs k = none ↔ k ∉ kvs.map Prod.fst
  | [] => by simp [dget]
  | p :: r => by
    rw [dget, List.map_cons, List.mem_cons]
    by_cases q : p.1 = k
    · rw [if_pos q]; simp [q]
    · rw [if_neg q, dget_none (kvs := r)]
      constructor
      · rintro h (h1 | h1)
        · exact q h1.symm
        · exact h h1
      · intro h h1; exact h (.inr h1)
theorem dputR_len (k : κ) (v : ν) : ∀ kvs : List (κ × ν), (dputR kvs k v).length = kvs.length
  | [] => rfl
  | p :: r => by simp [dputR, dputR_len k v r]
theorem dput_lenE (kvs : List (κ × ν)) (k : κ) (v : ν) : (dput kvs k v).length = kvs.length + if (dget kvs k).isSome then 0 else 1 := by
  unfold dput
  split
  · rw [dputR_len]; rfl
  · simp
theorem dmany_le : ∀ (ps kvs : List (κ × ν)), (dmany kvs ps).length ≤ kvs.length + ps.length
  | [], kvs => by simp [dmany]
  | p :: ps, kvs => by
    have h := dmany_le ps (dput kvs p.1 p.2)
    have h2 := dput_lenE kvs p.1 p.2
    show (dmany (dput kvs p.1 p.2) ps).length ≤ _
    simp only [List.length_cons]
    split at h2 <;> omega
theorem dmany_new : ∀ (ps kvs : List (κ × ν)), (kvs.map Prod.fst ++ ps.map Prod.fst).Nodup → dmany kvs ps = kvs ++ ps
  | [], kvs, _ => by simp [dmany]
  | p :: ps, kvs, h => by
    show dmany (dput kvs p.1 p.2) ps = _
    have hk : dget kvs p.1 = none := dget_none.mpr fun hm => by
      rw [List.map_cons] at h
      exact (List.nodup_append.mp h).2.2 _ hm _ (List.mem_cons_self ..) rfl
    have e : dput kvs p.1 p.2 = kvs ++ [p] := by simp [dput, hk]
    rw [e, dmany_new ps (kvs ++ [p]) (by simpa using h)]
    simp
theorem dmany_dup : ∀ (ps kvs : List (κ × ν)), (kvs.map Prod.fst).Nodup → ¬ (kvs.map Prod.fst ++ ps.map Prod.fst).Nodup → (dmany kvs ps).length < kvs.length + ps.length
  | [], kvs, h1, h => absurd (by simpa using h1) h
  | p :: ps, kvs, h1, h => by
    show (dmany (dput kvs p.1 p.2) ps).length < _
    have h2 := dput_lenE kvs p.1 p.2
    by_cases hk : dget kvs p.1 = none
    · have e : dput kvs p.1 p.2 = kvs ++ [p] := by simp [dput, hk]
      have hm := dget_none.mp hk
      have h3 := dmany_dup ps (kvs ++ [p]) (by
        rw [List.map_append, List.nodup_append]
        refine ⟨h1, by simp, fun a ha b hb hab => ?_⟩
        simp at hb; subst hab; subst hb; exact hm ha) (by simpa using h)
      rw [e]
      simp at h3 ⊢; omega
    · have hs : (dget kvs p.1).isSome = true := by
        cases q : dget kvs p.1 with
        | none => exact absurd q hk
        | some _ => rfl
      have h3 := dmany_le ps (dput kvs p.1 p.2)
      rw [hs] at h2
      simp at h2 ⊢; omega
end
section
variable {α : Type}
theorem numbr_get : ∀ (ws : List α) (k j : Nat), (numbr k ws)[j]? = ws[j]?.map fun w => (((k + j : Nat) : Int), w)
  | [], k, j => by simp [numbr]
  | x :: r, k, 0 => by simp [numbr]
  | x :: r, k, j + 1 => by
    rw [numbr, List.getElem?_cons_succ, List.getElem?_cons_succ, numbr_get r (k + 1) j]
    rw [show k + 1 + j = k + (j + 1) by omega]
theorem mem_numbr0 {ws : List α} {p : Int × α} : p ∈ numbr 0 ws ↔ ∃ j : Nat, p.1 = j ∧ ws[j]? = some p.2 := by
  rw [List.mem_iff_getElem?]
  constructor
  · rintro ⟨j, h⟩
    rw [numbr_get] at h
    obtain ⟨w, hw, rfl⟩ := Option.map_eq_some_iff.mp h
    exact ⟨j, by simp, hw⟩
  · rintro ⟨j, h1, h2⟩
    refine ⟨j, ?_⟩
    rw [numbr_get, h2, Option.map_some, Nat.zero_add, ← h1]
theorem numbr_fst (ws : List α) : ∀ k : Nat, (numbr k ws).map Prod.snd = ws := by
  induction ws with
  | nil => intro k; rfl
  | cons x r ih => intro k; simp [numbr, ih]
end
/-! ### the table -/
abbrev tabl (ws : List (List Int)) : List (List Int × Int) := dmany [] ((numbr 0 ws).map fun (p : (Int × (List Int))) => (p.2, p.1))
theorem keys_eq (ws : List (List Int)) : (((numbr 0 ws).map fun (p : (Int × (List Int))) => (p.2, p.1))).map Prod.fst = ws := by
  rw [List.map_map]; exact numbr_fst ws 0
theorem tabl_lt {ws : List (List Int)} : (tabl ws).length < ws.length ↔ ¬ ws.Nodup := by
  constructor
  · intro h hn
    have e := dmany_new ((numbr 0 ws).map fun (p : (Int × (List Int))) => (p.2, p.1)) [] (by rw [keys_eq]; simpa using hn)
    rw [tabl, e] at h
    simp [numbr_len] at h
  · intro h
    have e := dmany_dup ((numbr 0 ws).map fun (p : (Int × (List Int))) => (p.2, p.1)) [] (by simp) (by rw [keys_eq]; simpa using h)
    simpa [numbr_len] using e
theorem dget_iff {κ ν : Type} [DecidableEq κ] {k : κ} {v : ν} : ∀ {kvs : List (κ × ν)}, (kvs.map Prod.fst).Nodup → (dget kvs k = some v ↔ (k, v) ∈ kvs)
  | [], _ => by simp [dget]
  | p :: r, h => by
    rw [List.map_cons, List.nodup_cons] at h
    rw [dget, List.mem_cons]
    by_cases q : p.1 = k
    · rw [if_pos q]
      constructor
      · intro e; cases e; rw [← q]; exact .inl rfl
      · rintro (e | e)
        · rw [← e]
        · exact absurd (by rw [q]; exact List.mem_map.mpr ⟨_, e, rfl⟩) h.1
    · rw [if_neg q, dget_iff h.2]
      constructor
      · exact .inr
      · rintro (e | e)
        · rw [← e] at q; exact absurd rfl q
        · exact e
theorem tabl_get {ws : List (List Int)} (h : ws.Nodup) {w : List Int} {i : Int} : dget (tabl ws) w = some i ↔ ∃ j : Nat, i = j ∧ ws[j]? = some w := by
  have e := dmany_new ((numbr 0 ws).map fun (p : (Int × (List Int))) => (p.2, p.1)) [] (by rw [keys_eq]; simpa using h)
  rw [tabl, e, List.nil_append, dget_iff (by rw [keys_eq]; exact h), List.mem_map]
  constructor
  · rintro ⟨p, hp, e⟩
    cases e
    exact mem_numbr0.mp hp
  · rintro ⟨j, rfl, hj⟩
    exact ⟨((j : Int), w), mem_numbr0.mpr ⟨j, rfl, hj⟩, rfl⟩
end Sg

namespace Sg
open PySem PySem.Spec PyProof.Rows L2
/-! ### the pairs by the table -/
abbrev touS (ws : List (List Int)) (p : Int × List Int) : List (Int × Int) := ((v_near_in p.2).filter fun (other : (List Int)) => decide (((dget (tabl ws) other).getD (-1)) > p.1)).map fun (other : (List Int)) => (p.1, ((dget (tabl ws) other).getD default))
abbrev touF (ws : List (List Int)) : List (Int × Int) := (numbr 0 ws).flatMap (touS ws)
theorem foldl_appE {α β : Type} (f : α → List β) : ∀ (l : List α) (acc : List β), l.foldl (fun a x => a ++ f x) acc = acc ++ l.flatMap f
  | [], acc => by simp
  | x :: l, acc => by rw [List.foldl_cons, foldl_appE f l]; simp [List.append_assoc]
theorem v_touches (ws : List (List Int)) : v_touches_in ws = if ws.Nodup then some (touF ws) else none := by
  unfold v_touches_in
  simp only [lt_eq]
  have e : v_touches_in_L1 (tabl ws) = fun a x => a ++ touS ws x := by
    funext a x; rfl
  rw [e, foldl_appE, List.nil_append]
  by_cases h : ws.Nodup
  · rw [if_pos h, if_neg]
    have := (not_congr (tabl_lt (ws := ws))).mpr (not_not_intro h)
    show ¬(((tabl ws).length : Int) < (ws.length : Int))
    omega
  · rw [if_neg h, if_pos]
    have := tabl_lt.mpr h
    show (((tabl ws).length : Int) < (ws.length : Int))
    omega
structure okW (ws : List (List Int)) : Prop where
  n : ws.length ≤ 5000
  w : ∀ w ∈ ws, isW w
  l : ∀ w ∈ ws, w.length = (pix ws 0).length
theorem okL.ok {ws : List (List Int)} (h : okL ws) : okW ws := ⟨h.n.2, h.w, h.l⟩
/-- a pair of words that touch -/
def tch (ws : List (List Int)) (q : Int × Int) : Prop := ∃ (a k : Nat) (u v : List Int), q = ((a : Int), (k : Int)) ∧ a < k ∧ ws[a]? = some u ∧ ws[k]? = some v ∧ hd u v = 1
theorem mem_tou {ws : List (List Int)} (h : okW ws) (hn : ws.Nodup) {q : Int × Int} : q ∈ touF ws ↔ tch ws q := by
  simp only [touF, touS, List.mem_flatMap, List.mem_map, List.mem_filter, decide_eq_true_eq, near_eq]
  constructor
  · rintro ⟨p, hp, o, ⟨ho, hg⟩, rfl⟩
    obtain ⟨a, ha, hu⟩ := mem_numbr0.mp hp
    cases hd' : dget (tabl ws) o with
    | none => rw [hd'] at hg; simp at hg; omega
    | some i =>
      obtain ⟨k, rfl, hk⟩ := (tabl_get hn).mp hd'
      rw [hd'] at hg; simp at hg
      refine ⟨a, k, p.2, o, by rw [ha]; rfl, by omega, hu, hk, ?_⟩
      have m1 := List.mem_of_getElem? hu
      have m2 := List.mem_of_getElem? hk
      exact (mem_flips (h.w _ m1).2 (h.w _ m2).2 ((h.l _ m1).trans (h.l _ m2).symm)).mp ho
  · rintro ⟨a, k, u, v, rfl, hak, hu, hk, hh⟩
    have m1 := List.mem_of_getElem? hu
    have m2 := List.mem_of_getElem? hk
    have hg : dget (tabl ws) v = some (k : Int) := (tabl_get hn).mpr ⟨k, rfl, hk⟩
    refine ⟨((a : Int), u), mem_numbr0.mpr ⟨a, rfl, hu⟩, v, ⟨(mem_flips (h.w _ m1).2 (h.w _ m2).2 ((h.l _ m1).trans (h.l _ m2).symm)).mpr hh, ?_⟩, ?_⟩
    · rw [hg]; simp; omega
    · rw [hg]; rfl
theorem C_touches_ok {ws : List (List Int)} (h : okW ws) : C_touches_in ws := by
  refine ⟨by have := h.n; omega, ?_⟩
  simp only [lt_eq]
  intro _
  have key : ∀ (l : List (Int × List Int)) (s : List (Int × Int)), (∀ p ∈ l, p ∈ numbr 0 ws) → s.length + 16 * l.length ≤ 80000 → forP (v_touches_in_L1 (tabl ws)) (C_touches_in_L1 (tabl ws)) l s := fun l => by
    induction l with
    | nil => intros; trivial
    | cons p l ih =>
      intro s hm hs
      obtain ⟨a, ha, hu⟩ := mem_numbr0.mp (hm p (List.mem_cons_self ..))
      have hw := h.w _ (List.mem_of_getElem? hu)
      have hfl : (v_near_in p.2).length ≤ 16 := by rw [near_eq, flips_len]; exact hw.1.2
      have hf : (touS ws p).length ≤ 16 := by
        simp only [touS, List.length_map]
        exact Nat.le_trans (List.length_filter_le ..) hfl
      simp only [List.length_cons] at hs
      refine ⟨⟨C_near_ok (by have := hw.1; omega), by omega, ?_, ?_⟩, ?_⟩
      · intro o ho hg
        cases hd' : dget (tabl ws) o with
        | none => rw [hd'] at hg; simp at hg; omega
        | some i => rfl
      · show szOk (s.length + (touS ws p).length); omega
      · refine ih _ (fun q hq => hm q (List.mem_cons_of_mem _ hq)) ?_
        show (s ++ touS ws p).length + _ ≤ _
        rw [List.length_append]; omega
  refine key _ _ (fun p hp => hp) ?_
  rw [numbr_len]; have := h.n; simp; omega
/-! ### the pairs by places -/
theorem rng_cons {a b : Int} (h : a < b) : rng a b = a :: rng (a + 1) b := by
  simp only [rng]
  rw [show (b - a).toNat = (b - (a + 1)).toNat + 1 by omega, List.range_succ_eq_map, List.map_cons, List.map_map]
  simp only [Int.natCast_zero, Int.add_zero, List.cons.injEq, true_and]
  exact List.map_congr_left fun x _ => by simp only [Function.comp]; omega
theorem rng_nil {a b : Int} (h : b ≤ a) : rng a b = [] := by
  simp only [rng]
  rw [show (b - a).toNat = 0 by omega]; rfl
theorem forC_app {α β ρ : Type} {body : List β → α → Ctl (List β) ρ} {bad : α → Bool} {f : α → List β} {r : ρ} : ∀ (l : List α) (s : List β), (∀ s, ∀ x ∈ l, body s x = if bad x = true then .ret r else .go (s ++ f x)) → forC body l s = if l.any bad = true then .ret r else .go (s ++ l.flatMap f)
  | [], s, _ => by simp [forC]
  | x :: l, s, h => by
    rw [forC, h s x (List.mem_cons_self ..), List.any_cons]
    by_cases q : bad x = true
    · rw [if_pos q, q, Bool.true_or, if_pos rfl]
    · rw [if_neg q, Bool.eq_false_iff.mpr q, Bool.false_or]
      show forC body l (s ++ f x) = _
      rw [forC_app l _ fun s y hy => h s y (List.mem_cons_of_mem _ hy), List.flatMap_cons, List.append_assoc]
abbrev farI (ws : List (List Int)) (a k : Int) : Int := ((v_law_placesU (pix ws a) (pix ws k)).length : Int)
abbrev parA (ws : List (List Int)) (a k : Int) : List (Int × Int) := if farI ws a k = 1 then [(a, k)] else []
abbrev parS (ws : List (List Int)) (a : Int) : List (Int × Int) := (rng (a + 1) (ws.length : Int)).flatMap (parA ws a)
abbrev parF (ws : List (List Int)) : List (Int × Int) := (rng 0 (ws.length : Int)).flatMap (parS ws)
abbrev badS (ws : List (List Int)) (a : Int) : Bool := (rng (a + 1) (ws.length : Int)).any fun k => decide (farI ws a k = 0)
theorem inner_eq (ws : List (List Int)) (a : Int) (l : List Int) (s : List (Int × Int)) : forC (v_law_touchingU_L1 ws a) l s = if (l.any fun k => decide (farI ws a k = 0)) = true then .ret none else .go (s ++ l.flatMap (parA ws a)) :=
  forC_app l s fun s x _ => by
    simp only [v_law_touchingU_L1, lt_eq, decide_eq_true_eq]
theorem v_touching (ws : List (List Int)) : v_law_touchingU ws = if ((rng 0 (ws.length : Int)).any (badS ws)) = true then none else some (parF ws) := by
  unfold v_law_touchingU
  simp only [lt_eq]
  rw [forC_app (bad := badS ws) (f := parS ws) (r := none)]
  · by_cases q : ((rng 0 (ws.length : Int)).any (badS ws)) = true
    · rw [if_pos q, if_pos q]; rfl
    · rw [if_neg q, if_neg q]; rfl
  · intro s x _
    rw [v_law_touchingU_L2, inner_eq]
    by_cases q : badS ws x = true
    · rw [if_pos q]; rfl
    · rw [if_neg q]; rfl
def T : Nat → Nat
  | 0 => 0
  | n + 1 => T n + n
theorem T_eq : ∀ n, 2 * T n + n = n * n
  | 0 => rfl
  | n + 1 => by
    have := T_eq n
    have e : (n + 1) * (n + 1) = n * n + n + n + 1 := by rw [Nat.add_mul, Nat.mul_add]; omega
    rw [T, e]; omega
theorem T_le {n : Nat} (h : n ≤ 5000) : T n ≤ 12500000 := by
  have h1 := T_eq n
  have h2 : n * n ≤ 5000 * 5000 := Nat.mul_le_mul h h
  omega
theorem pix_mem {α : Type} [Inhabited α] {xs : List α} {i : Int} (h0 : 0 ≤ i) (h : i < xs.length) : pix xs i ∈ xs := by
  have e : i = ((i.toNat : Nat) : Int) := by omega
  have h2 : i.toNat < xs.length := by omega
  rw [e, pix_nat h2]; exact List.getElem_mem h2
theorem C_touching_ok {ws : List (List Int)} (h : okW ws) : C_law_touchingU ws := by
  have hn := h.n
  have hT := T_le hn
  have inner : ∀ (a : Int), 0 ≤ a → a < ws.length → ∀ (l : List Int) (s : List (Int × Int)), (∀ x ∈ l, 0 ≤ x ∧ x < ws.length) → s.length + l.length ≤ 12500000 → forCP (v_law_touchingU_L1 ws a) (C_law_touchingU_L1 ws a) l s := fun a h1 h2 l => by
    induction l with
    | nil => intros; trivial
    | cons x l ih =>
      intro s hm hs
      have hx := hm x (List.mem_cons_self ..)
      have m1 := pix_mem h1 h2
      have m2 := pix_mem hx.1 hx.2
      simp only [List.length_cons] at hs
      have hp : (parA ws a x).length ≤ 1 := by unfold parA; split <;> simp
      refine ⟨⟨⟨by omega, h2⟩, ⟨by omega, hx.2⟩, C_places_ok ((h.l _ m1).trans (h.l _ m2).symm) (by have := (h.w _ m1).1; omega), ?_⟩, ?_⟩
      · simp only [lt_eq]
        intro _
        show szOk (s.length + (parA ws a x).length); omega
      · have e : v_law_touchingU_L1 ws a s x = if decide (farI ws a x = 0) = true then .ret none else .go (s ++ parA ws a x) := by
          simp only [v_law_touchingU_L1, lt_eq, decide_eq_true_eq]
        rw [e]
        by_cases q : decide (farI ws a x = 0) = true
        · rw [if_pos q]; trivial
        · rw [if_neg q]
          exact ih _ (fun y hy => hm y (List.mem_cons_of_mem _ hy)) (by rw [List.length_append]; omega)
  have outer : ∀ (m : Nat) (a : Int) (s : List (Int × Int)), 0 ≤ a → (ws.length : Int) - a = m → s.length + T m ≤ 12500000 → forCP (v_law_touchingU_L2 ws) (C_law_touchingU_L2 ws) (rng a (ws.length : Int)) s := fun m => by
    induction m with
    | zero => intro a s _ h2 _; rw [rng_nil (by omega)]; trivial
    | succ m ih =>
      intro a s h1 h2 h3
      rw [rng_cons (by omega)]
      rw [T] at h3
      have hl : (rng (a + 1) (ws.length : Int)).length = m := by rw [len_rng]; omega
      refine ⟨⟨by constructor <;> omega, inner a h1 (by omega) _ _ (fun x hx => by have := mem_rng.mp hx; omega) (by rw [hl]; omega)⟩, ?_⟩
      rw [v_law_touchingU_L2, inner_eq]
      by_cases q : badS ws a = true
      · rw [if_pos q]; trivial
      · rw [if_neg q]
        refine ih (a + 1) _ (by omega) (by omega) ?_
        have hf : ∀ l : List Int, (l.flatMap (parA ws a)).length ≤ l.length := fun l => by
          induction l with
          | nil => simp
          | cons x l ih2 =>
            rw [List.flatMap_cons, List.length_append, List.length_cons]
            have hp : (parA ws a x).length ≤ 1 := by unfold parA; split <;> simp
            omega
        have := hf (rng (a + 1) (ws.length : Int))
        rw [List.length_append]; omega
  unfold C_law_touchingU
  simp only [lt_eq]
  exact ⟨by constructor <;> omega, outer ws.length 0 [] (by omega) (by omega) (by simpa using hT)⟩
end Sg

namespace Sg
open PySem PySem.Spec PyProof.Rows L2
theorem farI_get {ws : List (List Int)} (h : okW ws) {a k : Nat} {u v : List Int} (ha : ws[a]? = some u) (hk : ws[k]? = some v) : farI ws a k = hd u v := by
  have la := (List.getElem?_eq_some_iff.mp ha).1
  have lk := (List.getElem?_eq_some_iff.mp hk).1
  have ea : pix ws (a : Int) = u := by rw [pix_nat la]; exact (List.getElem?_eq_some_iff.mp ha).2
  have ek : pix ws (k : Int) = v := by rw [pix_nat lk]; exact (List.getElem?_eq_some_iff.mp hk).2
  have m1 := List.mem_of_getElem? ha
  have m2 := List.mem_of_getElem? hk
  rw [farI, ea, ek, places_eq, far_hd ((h.l _ m1).trans (h.l _ m2).symm)]
theorem int_nat {i : Int} (h : 0 ≤ i) : ∃ n : Nat, i = n := ⟨i.toNat, by omega⟩
theorem any_bad {ws : List (List Int)} (h : okW ws) : ((rng 0 (ws.length : Int)).any (badS ws)) = true ↔ ¬ ws.Nodup := by
  rw [List.Nodup, List.pairwise_iff_getElem]
  simp only [List.any_eq_true, badS, mem_rng, decide_eq_true_eq]
  constructor
  · rintro ⟨a, ⟨a0, a1⟩, k, ⟨k0, k1⟩, hf⟩ hn
    obtain ⟨a, rfl⟩ := int_nat a0
    obtain ⟨k, rfl⟩ := int_nat (i := k) (by omega)
    have la : a < ws.length := by omega
    have lk : k < ws.length := by omega
    rw [farI_get h (List.getElem?_eq_getElem la) (List.getElem?_eq_getElem lk)] at hf
    have m1 := List.getElem_mem la
    have m2 := List.getElem_mem lk
    exact hn a k la lk (by omega) ((hd_0 ((h.l _ m1).trans (h.l _ m2).symm)).mp (by omega))
  · intro hn
    apply Classical.byContradiction
    intro hc
    refine hn fun a k la lk hak he => hc ⟨a, ⟨by omega, by omega⟩, k, ⟨by omega, by omega⟩, ?_⟩
    rw [farI_get h (List.getElem?_eq_getElem la) (List.getElem?_eq_getElem lk), he, (hd_0 rfl).mpr rfl]; rfl
theorem mem_par {ws : List (List Int)} (h : okW ws) {q : Int × Int} : q ∈ parF ws ↔ tch ws q := by
  simp only [parF, parS, parA, List.mem_flatMap, mem_rng]
  constructor
  · rintro ⟨a, ⟨a0, a1⟩, k, ⟨k0, k1⟩, hf⟩
    obtain ⟨a, rfl⟩ := int_nat a0
    obtain ⟨k, rfl⟩ := int_nat (i := k) (by omega)
    have la : a < ws.length := by omega
    have lk : k < ws.length := by omega
    rw [farI_get h (List.getElem?_eq_getElem la) (List.getElem?_eq_getElem lk)] at hf
    split at hf
    · rename_i e
      exact ⟨a, k, _, _, by simpa using hf, by omega, List.getElem?_eq_getElem la, List.getElem?_eq_getElem lk, by omega⟩
    · cases hf
  · rintro ⟨a, k, u, v, rfl, hak, hu, hv, hh⟩
    have la := (List.getElem?_eq_some_iff.mp hu).1
    have lk := (List.getElem?_eq_some_iff.mp hv).1
    refine ⟨a, ⟨by omega, by omega⟩, k, ⟨by omega, by omega⟩, ?_⟩
    rw [farI_get h hu hv, if_pos (by omega)]
    exact List.mem_cons_self ..
theorem near_one {ws : List (List Int)} (h : okL ws) {a : Nat} (ha : a + 1 < ws.length) : tch ws ((a : Int), ((a + 1 : Nat) : Int)) := by
  have e1 : ws[a]? = some ws[a] := List.getElem?_eq_getElem (by omega)
  have e2 : ws[a + 1]? = some ws[a + 1] := List.getElem?_eq_getElem ha
  refine ⟨a, a + 1, _, _, rfl, by omega, e1, e2, ?_⟩
  have hm : (ws[a], ws[a + 1]) ∈ ws.zip (ws.drop 1) := by
    rw [List.mem_iff_getElem?]
    refine ⟨a, ?_⟩
    rw [List.getElem?_zip_eq_some]
    exact ⟨e1, by rw [List.getElem?_drop, Nat.add_comm 1 a]; exact e2⟩
  have := h.s _ hm
  rw [far_hd ((h.l _ (List.getElem_mem _)).trans (h.l _ (List.getElem_mem _)).symm)] at this
  exact this
abbrev lineP (n : Int) : List (Int × Int) := (rng 0 n).map fun (at' : Int) => (at', (at' + 1))
theorem par_line {ws : List (List Int)} (h : okL ws) : parF ws = lineP ((ws.length : Int) - 1) ↔ ∀ q ∈ parF ws, q.2 = q.1 + 1 := by
  constructor
  · intro e q hq
    rw [e] at hq
    obtain ⟨x, _, rfl⟩ := List.mem_map.mp hq
    rfl
  · intro hall
    have inner : ∀ a : Nat, a < ws.length → parS ws a = if (a : Int) + 1 < ws.length then [((a : Int), (a : Int) + 1)] else [] := fun a ha => by
      by_cases q : (a : Int) + 1 < ws.length
      · rw [if_pos q]
        show (rng ((a : Int) + 1) (ws.length : Int)).flatMap (parA ws a) = _
        rw [rng_cons q, List.flatMap_cons]
        have h1 : parA ws a ((a : Int) + 1) = [((a : Int), (a : Int) + 1)] := by
          obtain ⟨a', k', u, v, e, _, hu, hv, hh⟩ := near_one h (a := a) (by omega)
          have e1 : a' = a := by have := congrArg Prod.fst e; simp at this; omega
          have e2 : k' = a + 1 := by have := congrArg Prod.snd e; simp at this; omega
          subst e1; subst e2
          have hf := farI_get h.ok hu hv
          rw [show ((a' + 1 : Nat) : Int) = (a' : Int) + 1 by omega] at hf
          rw [parA, if_pos (by omega)]
        rw [h1]
        have h2 : (rng ((a : Int) + 1 + 1) (ws.length : Int)).flatMap (parA ws a) = [] := by
          rw [List.flatMap_eq_nil_iff]
          intro k hk
          have hk' := mem_rng.mp hk
          unfold parA
          split
          · rename_i e
            have hm : ((a : Int), k) ∈ parF ws := List.mem_flatMap.mpr ⟨a, mem_rng.mpr ⟨by omega, by omega⟩, List.mem_flatMap.mpr ⟨k, mem_rng.mpr ⟨by omega, hk'.2⟩, by rw [parA, if_pos e]; exact List.mem_cons_self ..⟩⟩
            have := hall _ hm
            simp at this; omega
          · rfl
        rw [h2]; rfl
      · rw [if_neg q]
        show (rng ((a : Int) + 1) (ws.length : Int)).flatMap (parA ws a) = _
        rw [rng_nil (by omega)]; rfl
    have outer : ∀ (m a : Nat), ws.length = a + m → (rng (a : Int) (ws.length : Int)).flatMap (parS ws) = (rng (a : Int) ((ws.length : Int) - 1)).map fun (at' : Int) => (at', (at' + 1)) := fun m => by
      induction m with
      | zero => intro a ha; rw [rng_nil (by omega), rng_nil (by omega)]; rfl
      | succ m ih =>
        intro a ha
        rw [rng_cons (by omega), List.flatMap_cons, inner a (by omega)]
        have := ih (a + 1) (by omega)
        rw [show ((a + 1 : Nat) : Int) = (a : Int) + 1 by omega] at this
        rw [this]
        by_cases q : (a : Int) + 1 < ws.length
        · rw [if_pos q, rng_cons (by omega : (a : Int) < (ws.length : Int) - 1)]; rfl
        · rw [if_neg q, rng_nil (by omega), rng_nil (by omega)]; rfl
    exact outer ws.length 0 (by omega)
end Sg

namespace Sg
open PySem PySem.Spec PyProof.Rows L2
theorem touF_len {ws : List (List Int)} (h : okW ws) : (touF ws).length ≤ 80000 := by
  have key : ∀ (l : List (Int × List Int)), (∀ p ∈ l, p ∈ numbr 0 ws) → (l.flatMap (touS ws)).length ≤ 16 * l.length := fun l => by
    induction l with
    | nil => intro _; simp
    | cons p l ih =>
      intro hm
      obtain ⟨a, ha, hu⟩ := mem_numbr0.mp (hm p (List.mem_cons_self ..))
      have hw := h.w _ (List.mem_of_getElem? hu)
      have hfl : (v_near_in p.2).length ≤ 16 := by rw [near_eq, flips_len]; exact hw.1.2
      have hf : (touS ws p).length ≤ 16 := by
        simp only [touS, List.length_map]
        exact Nat.le_trans (List.length_filter_le ..) hfl
      have := ih fun q hq => hm q (List.mem_cons_of_mem _ hq)
      rw [List.flatMap_cons, List.length_append, List.length_cons]; omega
  have h1 := key _ fun p hp => hp
  rw [numbr_len] at h1
  have h2 : (touF ws).length ≤ 16 * ws.length := h1
  have := h.n; omega
theorem parF_len {ws : List (List Int)} (h : okW ws) : (parF ws).length ≤ 12500000 := by
  have hf : ∀ (a : Int) (l : List Int), (l.flatMap (parA ws a)).length ≤ l.length := fun a l => by
    induction l with
    | nil => simp
    | cons x l ih2 =>
      rw [List.flatMap_cons, List.length_append, List.length_cons]
      have hp : (parA ws a x).length ≤ 1 := by unfold parA; split <;> simp
      omega
  have outer : ∀ (m : Nat) (a : Int), (ws.length : Int) - a = m → ((rng a (ws.length : Int)).flatMap (parS ws)).length ≤ T m := fun m => by
    induction m with
    | zero => intro a h2; rw [rng_nil (by omega)]; simp
    | succ m ih =>
      intro a h2
      rw [rng_cons (by omega), List.flatMap_cons, List.length_append, T]
      have h3 : (parS ws a).length ≤ _ := hf a (rng (a + 1) (ws.length : Int))
      have hl : (rng (a + 1) (ws.length : Int)).length = m := by rw [len_rng]; omega
      have := ih (a + 1) (by omega)
      rw [hl] at h3
      omega
  exact Nat.le_trans (outer ws.length 0 (by omega)) (T_le h.n)
theorem eqk_pairs (ps : List (Int × Int)) : D.eqk (eL (eP eI eI) ps) = true := by
  have h1 : D.plnL (ps.map (eP eI eI)) = true := plnL_ofM fun d hd => by
    obtain ⟨x, hx, rfl⟩ := List.mem_map.mp hd; rfl
  have h2 : D.depL (ps.map (eP eI eI)) ≤ 10 := depL_leM fun d hq => by
    obtain ⟨x, hx, rfl⟩ := List.mem_map.mp hq
    simp [eP, eI, D.dep, D.depL]
  show (D.plnL (ps.map (eP eI eI)) && decide (D.depL (ps.map (eP eI eI)) + 1 ≤ 60)) = true
  rw [h1, Bool.true_and, decide_eq_true_eq]
  omega
theorem same_bb {a b c d : Bool} (h : (a, b) = (c, d)) : sameP (eP eB eB (a, b)) (eP eB eB (c, d)) := by
  cases h
  exact ⟨rfl, by cases a <;> cases b <;> rfl, by simp [eP, eB, D.dep, D.depL]⟩
theorem pix_lst {α : Type} [Inhabited α] {xs : List α} (h : 1 ≤ xs.length) : xs[xs.length - 1]? = some (pix xs (-1)) := by
  obtain ⟨pre, x, rfl⟩ : ∃ pre x, xs = pre ++ [x] := ⟨xs.dropLast, xs.getLast (ne_of_len h), (List.dropLast_concat_getLast _).symm⟩
  rw [pix_last]; simp
theorem pix_mapL {α β : Type} [Inhabited α] [Inhabited β] {f : α → β} {xs : List α} (h : 1 ≤ xs.length) : pix (xs.map f) (-1) = f (pix xs (-1)) := by
  obtain ⟨pre, x, rfl⟩ : ∃ pre x, xs = pre ++ [x] := ⟨xs.dropLast, xs.getLast (ne_of_len h), (List.dropLast_concat_getLast _).symm⟩
  rw [List.map_append, List.map_cons, List.map_nil, pix_last, pix_last]
theorem pix_fst {α : Type} [Inhabited α] {xs : List α} (h : 1 ≤ xs.length) : xs[0]? = some (pix xs 0) := by
  cases xs with
  | nil => simp at h
  | cons x r => rw [pix_0]; rfl
theorem v_touching2 {ws : List (List Int)} (h : okW ws) : v_law_touchingU ws = if ws.Nodup then some (parF ws) else none := by
  rw [v_touching]
  by_cases q : ws.Nodup
  · rw [if_pos q, if_neg]
    exact fun hc => (any_bad h).mp hc q
  · rw [if_neg q, if_pos ((any_bad h).mpr q)]
/-- snakes, coils, in plain words -/
def snk (ws : List (List Int)) : Prop := ws.Nodup ∧ ∀ q, tch ws q → q.2 = q.1 + 1
theorem snake_words {ws : List (List Int)} (h : okL ws) : v_is_snake (eT (eT eI) ws) = true ↔ snk ws := by
  have hl := fits_list_iff.mpr ⟨ws, rfl, h⟩
  unfold v_is_snake v_fits_snake
  rw [if_neg (by rw [hl]; simp), lt_eq, as_words, v_touches]
  by_cases q : ws.Nodup
  · rw [if_pos q, Option.getD_some]
    simp only [Option.isSome_some, Bool.true_and, all_id, List.mem_map]
    constructor
    · intro hh
      refine ⟨q, fun p hp => ?_⟩
      exact of_decide_eq_true (hh _ ⟨p, (mem_tou h.ok q).mpr hp, rfl⟩)
    · rintro ⟨_, hh⟩ _ ⟨p, hp, rfl⟩
      exact decide_eq_true (hh p ((mem_tou h.ok q).mp hp))
  · rw [if_neg q]
    simp only [Option.isSome_none, Bool.false_and, Bool.false_eq_true, false_iff]
    exact fun hh => q hh.1
theorem snake_law {ws : List (List Int)} (h : okL ws) : (v_law_judgedU (eT (eT eI) ws)).1 = true ↔ snk ws := by
  have hl := law_is_list_iff.mpr ⟨ws, rfl, h⟩
  unfold v_law_judgedU
  rw [if_neg (by rw [hl]; simp)]
  simp only [lt_eq]
  rw [as_words, v_touching2 h.ok]
  by_cases q : ws.Nodup
  · rw [if_pos q]
    simp only [Option.isNone_some, Bool.false_eq_true, if_false, Option.getD_some, decide_eq_true_eq]
    rw [show ((dIt (eT (eT eI) ws)).length : Int) = ws.length by rw [dIt_words, List.length_map], par_line h]
    constructor
    · intro hh; exact ⟨q, fun p hp => hh p ((mem_par h.ok).mpr hp)⟩
    · rintro ⟨_, hh⟩ p hp; exact hh p ((mem_par h.ok).mp hp)
  · rw [if_neg q]
    simp only [Option.isNone_none, if_true, Bool.false_eq_true, false_iff]
    exact fun hh => q hh.1
def coi (ws : List (List Int)) : Prop := (3 ≤ ws.length ∧ tch ws (0, (ws.length : Int) - 1)) ∧ ws.Nodup ∧ ∀ q, tch ws q → q.2 = q.1 + 1 ∨ q = (0, (ws.length : Int) - 1)
theorem ends_tch {ws : List (List Int)} (h : okL ws) (h3 : 3 ≤ ws.length) : hd (pix ws 0) (pix ws (-1)) = 1 ↔ tch ws (0, (ws.length : Int) - 1) := by
  have e0 := pix_fst (xs := ws) (by omega)
  have e1 := pix_lst (xs := ws) (by omega)
  constructor
  · intro hh
    exact ⟨0, ws.length - 1, _, _, by congr 1; omega, by omega, e0, e1, hh⟩
  · rintro ⟨a, k, u, v, e, hak, hu, hv, hh⟩
    have g1 : (0 : Int) = a := congrArg Prod.fst e
    have g2 : (ws.length : Int) - 1 = k := congrArg Prod.snd e
    have g3 : a = 0 := by omega
    have g4 : k = ws.length - 1 := by omega
    subst g3; subst g4
    rw [e0] at hu; rw [e1] at hv; cases hu; cases hv; exact hh
theorem coil_words {ws : List (List Int)} (h : okL ws) : v_is_coil (eT (eT eI) ws) = true ↔ coi ws := by
  have hl := fits_list_iff.mpr ⟨ws, rfl, h⟩
  have hn := h.n
  have hlen : ((dIt (eT (eT eI) ws)).length : Int) = ws.length := by rw [dIt_words, List.length_map]
  unfold v_is_coil v_fits_coil
  rw [hlen, dIt_words, pix_map0 (ne_of_len hn.1), pix_mapL hn.1, as_word, as_word, as_words]
  have m0 := List.mem_of_getElem? (pix_fst (xs := ws) hn.1)
  have m1 := List.mem_of_getElem? (pix_lst (xs := ws) hn.1)
  rw [far_hd ((h.l _ m0).trans (h.l _ m1).symm)]
  by_cases g : 3 ≤ ws.length ∧ tch ws (0, (ws.length : Int) - 1)
  · have hh := (ends_tch h g.1).mpr g.2
    rw [if_neg (by rw [hl, hh]; have := g.1; intro hc; rcases hc with hc | hc | hc <;> first | exact hc rfl | omega)]
    simp only [lt_eq]
    rw [v_touches]
    by_cases q : ws.Nodup
    · rw [if_pos q]
      simp only [Option.isNone_some, Bool.false_eq_true, if_false, Option.getD_some, all_id, List.mem_map]
      constructor
      · intro hc
        refine ⟨g, q, fun p hp => ?_⟩
        have := hc _ ⟨p, (mem_tou h.ok q).mpr hp, rfl⟩
        rw [Bool.or_eq_true, decide_eq_true_eq, decide_eq_true_eq] at this
        exact this
      · rintro ⟨_, _, hc⟩ _ ⟨p, hp, rfl⟩
        rw [Bool.or_eq_true, decide_eq_true_eq, decide_eq_true_eq]
        exact hc p ((mem_tou h.ok q).mp hp)
    · rw [if_neg q]
      simp only [Option.isNone_none, if_true, Bool.false_eq_true, false_iff]
      exact fun hh => q hh.2.1
  · rw [if_pos]
    · simp only [Bool.false_eq_true, false_iff]
      exact fun hc => g hc.1
    · by_cases h3 : 3 ≤ ws.length
      · refine .inr (.inr fun hc => g ⟨h3, (ends_tch h h3).mp (by omega)⟩)
      · exact .inr (.inl (by omega))
theorem coil_law {ws : List (List Int)} (h : okL ws) : (v_law_judgedU (eT (eT eI) ws)).2 = true ↔ coi ws := by
  have hl := law_is_list_iff.mpr ⟨ws, rfl, h⟩
  have hn := h.n
  unfold v_law_judgedU
  rw [if_neg (by rw [hl]; simp)]
  simp only [lt_eq]
  rw [as_words, v_touching2 h.ok, eqv_nilM]
  by_cases q : ws.Nodup
  · rw [if_pos q]
    simp only [Option.isNone_some, Bool.false_eq_true, if_false, Option.getD_some]
    rw [show ((dIt (eT (eT eI) ws)).length : Int) = ws.length by rw [dIt_words, List.length_map]]
    rw [Bool.and_eq_true, Bool.and_eq_true, decide_eq_true_eq, decide_eq_true_eq, decide_eq_true_eq, List.filter_eq_nil_iff, mem_par h.ok]
    constructor
    · rintro ⟨h1, h2, h3⟩
      refine ⟨⟨by omega, h2⟩, q, fun p hp => ?_⟩
      have := h3 p ((mem_par h.ok).mpr hp)
      have h4 := Classical.not_not.mp fun hc => this (decide_eq_true hc)
      rcases List.mem_append.mp h4 with h5 | h5
      · obtain ⟨x, _, rfl⟩ := List.mem_map.mp h5; exact .inl rfl
      · exact .inr (by simpa using h5)
    · rintro ⟨⟨h1, h2⟩, _, h3⟩
      refine ⟨by omega, h2, fun p hp hc => ?_⟩
      have ht := (mem_par h.ok).mp hp
      refine of_decide_eq_true hc (List.mem_append.mpr ?_)
      rcases h3 p ht with h4 | h4
      · obtain ⟨a, k, u, v, e, hak, hu, hv, _⟩ := ht
        have lk := (List.getElem?_eq_some_iff.mp hv).1
        subst e
        refine .inl (List.mem_map.mpr ⟨(a : Int), mem_rng.mpr ⟨by omega, by omega⟩, ?_⟩)
        simp only at h4
        rw [h4]
      · exact .inr (by rw [h4]; simp)
  · rw [if_neg q]
    simp only [Option.isNone_none, if_true, Bool.false_eq_true, false_iff]
    exact fun hh => q hh.2.1
theorem judged_eq (v : D) : (v_is_snake v, v_is_coil v) = v_law_judgedU v := by
  by_cases q : v_fits_list v = true
  · obtain ⟨ws, rfl, h⟩ := fits_list_iff.mp q
    refine Prod.ext (Bool.eq_iff_iff.mpr ?_) (Bool.eq_iff_iff.mpr ?_)
    · rw [snake_words h, snake_law h]
    · rw [coil_words h, coil_law h]
  · have e1 : v_is_snake v = false := by unfold v_is_snake v_fits_snake; rw [if_pos q]
    have e2 : v_is_coil v = false := by unfold v_is_coil v_fits_coil; rw [if_pos (.inl q)]
    have e3 : v_law_judgedU v = (false, false) := by unfold v_law_judgedU; rw [list_same, if_pos q]
    rw [e1, e2, e3]
end Sg

namespace Sg
open PySem PySem.Spec PyProof.Rows L2
theorem C_snake_ok {v : D} (h : Pl v) : C_is_snake v := by
  refine ⟨C_fits_list_ok h, fun q => ?_⟩
  obtain ⟨ws, rfl, hl⟩ := fits_list_iff.mp (Classical.not_not.mp q)
  rw [as_words]
  refine ⟨rfl, C_touches_ok hl.ok, ?_⟩
  simp only [lt_eq]
  intro hs
  refine ⟨hs, ?_⟩
  rw [v_touches] at hs ⊢
  by_cases q : ws.Nodup
  · rw [if_pos q, Option.getD_some]; have := touF_len hl.ok; omega
  · rw [if_neg q] at hs; cases hs
theorem C_coil_ok {v : D} (h : Pl v) : C_is_coil v := by
  refine ⟨C_fits_list_ok h, fun q => ?_, fun q => ?_⟩
  · obtain ⟨ws, rfl, hl⟩ := fits_list_iff.mp (Classical.not_not.mp q)
    have hn := hl.n
    have m0 := List.mem_of_getElem? (pix_fst (xs := ws) hn.1)
    have m1 := List.mem_of_getElem? (pix_lst (xs := ws) hn.1)
    have hlen : (dIt (eT (eT eI) ws)).length = ws.length := by rw [dIt_words, List.length_map]
    refine ⟨rfl, fun _ => ?_⟩
    rw [hlen, dIt_words, pix_map0 (ne_of_len hn.1), pix_mapL hn.1, as_word, as_word]
    exact ⟨⟨by omega, by omega⟩, rfl, ⟨by omega, by omega⟩, rfl, C_unlike_ok ((hl.l _ m0).trans (hl.l _ m1).symm) (by have := (hl.w _ m0).1; omega)⟩
  · have q1 := Classical.not_not.mp (not_or.mp q).1
    obtain ⟨ws, rfl, hl⟩ := fits_list_iff.mp q1
    rw [as_words]
    refine ⟨rfl, C_touches_ok hl.ok, ?_⟩
    simp only [lt_eq]
    intro hs
    rw [v_touches] at hs ⊢
    by_cases q : ws.Nodup
    · rw [if_pos q]
      exact ⟨rfl, by have := touF_len hl.ok; simp only [Option.getD_some]; omega, fun _ _ _ => rfl⟩
    · rw [if_neg q] at hs; exact absurd rfl hs
theorem C_judged_ok {v : D} (h : Pl v) : C_law_judgedU v := by
  refine ⟨C_law_is_list_ok h, fun q => ?_⟩
  obtain ⟨ws, rfl, hl⟩ := law_is_list_iff.mp (Classical.not_not.mp q)
  have hn := hl.n
  have hlen : (dIt (eT (eT eI) ws)).length = ws.length := by rw [dIt_words, List.length_map]
  rw [as_words]
  refine ⟨rfl, C_touching_ok hl.ok, rfl, ?_⟩
  simp only [lt_eq]
  rw [hlen, v_touching2 hl.ok]
  by_cases q : ws.Nodup
  · rw [if_pos q]
    intro _
    refine ⟨by constructor <;> omega, rfl, fun _ _ => ⟨?_, ?_, eqk_pairs _, by decide⟩⟩
    · have := parF_len hl.ok; simp only [Option.getD_some]; omega
    · intro p _
      simp only [List.length_map, List.length_range, List.length_cons, List.length_nil]; omega
  · rw [if_neg q]; intro hc; exact absurd rfl hc
theorem right_ok {v : D} (h : Pl v) : C_law_rightU v := by
  refine ⟨C_snake_ok h, C_coil_ok h, C_judged_ok h, ?_⟩
  have e := judged_eq v
  rw [← e]
  exact same_bb rfl
/-! ### values of the law -/
theorem Pl_tup {ds : List D} (hn : ds.length ≤ 100000) (h : ∀ d ∈ ds, d.pln = true ∧ d.dep ≤ 9 ∧ (dIt d).length ≤ 100000) : Pl (.tup ds) := by
  refine ⟨plnL_ofM fun d hd => (h d hd).1, ?_, by show szOk ds.length; omega, fun w hw => by have := (h w hw).2.2; omega⟩
  have := depL_leM fun d hd => (h d hd).2.1
  show D.depL ds + 1 ≤ 10
  omega
theorem Pl_lst {ds : List D} (hn : ds.length ≤ 100000) (h : ∀ d ∈ ds, d.pln = true ∧ d.dep ≤ 9 ∧ (dIt d).length ≤ 100000) : Pl (.lst ds) := by
  refine ⟨plnL_ofM fun d hd => (h d hd).1, ?_, by show szOk ds.length; omega, fun w hw => by have := (h w hw).2.2; omega⟩
  have := depL_leM fun d hd => (h d hd).2.1
  show D.depL ds + 1 ≤ 10
  omega
/-- a plain member -/
def pm (d : D) : Prop := d.pln = true ∧ d.dep ≤ 9 ∧ (dIt d).length ≤ 100000
theorem pm_word {w : List Int} (h : w.length ≤ 100000) : pm (eT eI w) := by
  refine ⟨plnL_ofM fun d hd => ?_, ?_, by rw [dIt_word]; exact h⟩
  · obtain ⟨x, _, rfl⟩ := List.mem_map.mp hd; rfl
  · have : D.depL (w.map eI) ≤ 0 := depL_leM fun d hd => by
      obtain ⟨x, _, rfl⟩ := List.mem_map.mp hd; exact Nat.le_refl _
    show D.depL (w.map eI) + 1 ≤ 9
    omega
theorem Pl_words {ws : List (List Int)} (hn : ws.length ≤ 100000) (h : ∀ w ∈ ws, w.length ≤ 100000) : Pl (eT (eT eI) ws) := by
  refine Pl_tup (by simpa using hn) fun d hd => ?_
  obtain ⟨w, hw, rfl⟩ := List.mem_map.mp hd
  exact pm_word (h w hw)
theorem Pl_lwords {ws : List (List Int)} (hn : ws.length ≤ 100000) (h : ∀ w ∈ ws, w.length ≤ 100000) : Pl (eL (eT eI) ws) := by
  refine Pl_lst (by simpa using hn) fun d hd => ?_
  obtain ⟨w, hw, rfl⟩ := List.mem_map.mp hd
  exact pm_word (h w hw)
theorem Pl_mem {ds : List D} (hn : ds.length ≤ 100000) (h : ∀ d ∈ ds, pm d) : Pl (eT eA ds) := by
  refine Pl_tup (by simpa using hn) fun d hd => ?_
  obtain ⟨w, hw, rfl⟩ := List.mem_map.mp hd
  exact h w hw
theorem Pl_word {w : List Int} (hn : w.length ≤ 100000) : Pl (eT eI w) := by
  refine Pl_tup (by simpa using hn) fun d hd => ?_
  obtain ⟨x, hw, rfl⟩ := List.mem_map.mp hd
  exact ⟨rfl, Nat.zero_le _, by simp [dIt]⟩
theorem Pl_non : Pl (eN ()) := ⟨rfl, by simp [eN, D.dep], by simp [eN, dIt], by simp [eN, dIt]⟩
end Sg

namespace Sg
open PySem PySem.Spec PyProof.Rows L2
/-! ### draws -/
theorem turn_len (w : List Int) (p : Int) : (v_law_turnU w p).length = w.length := by
  unfold v_law_turnU; rw [List.length_map, numbr_len]
theorem word_spec {n : Int} (hn : 0 ≤ n ∧ n ≤ 1000) {Q : List Int → Prop} (h : ∀ w : List Int, (w.length : Int) = n → Q w) : W_law_wordU n Q := by
  refine ⟨by constructor <;> omega, by rw [len_rng]; omega, ?_⟩
  refine wLc_mem (fun _ => True) _ _ (fun x _ Q hq r _ _ => hq r trivial) fun ys hl _ => h ys ?_
  rw [hl, len_rng]; omega
theorem forP_pot {σ α : Type} {body : σ → α → σ} {P : σ → α → Prop} (Iv : Nat → σ → Prop) : ∀ (l : List α) (s : σ), Iv l.length s → (∀ m s, ∀ x ∈ l, Iv (m + 1) s → P s x ∧ Iv m (body s x)) → forP body P l s
  | [], _, _, _ => trivial
  | x :: l, s, h0, h => by
    have h1 := h l.length s x (List.mem_cons_self ..) h0
    exact ⟨h1.1, forP_pot Iv l _ h1.2 fun m s y hy => h m s y (List.mem_cons_of_mem _ hy)⟩
theorem foldl_pot {σ α : Type} {body : σ → α → σ} (Iv : Nat → σ → Prop) : ∀ (l : List α) (s : σ), Iv l.length s → (∀ m s, ∀ x ∈ l, Iv (m + 1) s → Iv m (body s x)) → Iv 0 (l.foldl body s)
  | [], _, h0, _ => h0
  | x :: l, s, h0, h => foldl_pot Iv l _ (h l.length s x (List.mem_cons_self ..) h0) fun m s y hy => h m s y (List.mem_cons_of_mem _ hy)
/-- words of one length -/
structure Ww (k N : Nat) (ws : List (List Int)) : Prop where
  p : 1 ≤ ws.length
  n : ws.length ≤ N
  l : ∀ w ∈ ws, w.length = k
theorem Ww.snoc {k N : Nat} {ws : List (List Int)} (h : Ww k N ws) {w : List Int} (hw : w.length = k) : Ww k (N + 1) (ws ++ [w]) := by
  refine ⟨by simp, by have := h.n; simp; omega, fun x hx => ?_⟩
  rcases List.mem_append.mp hx with hx | hx
  · exact h.l x hx
  · rw [List.mem_singleton.mp hx]; exact hw
theorem Ww.last {k N : Nat} {ws : List (List Int)} (h : Ww k N ws) : (pix ws (-1)).length = k := h.l _ (List.mem_of_getElem? (pix_lst h.p))
theorem Ww.first {k N : Nat} {ws : List (List Int)} (h : Ww k N ws) : (pix ws 0).length = k := h.l _ (List.mem_of_getElem? (pix_fst h.p))
theorem Ww.mono {k N M : Nat} {ws : List (List Int)} (h : Ww k N ws) (hm : N ≤ M) : Ww k M ws := ⟨h.p, Nat.le_trans h.n hm, h.l⟩
theorem cut_mem {α : Type} {xs : List α} {a b : Option Int} {x : α} (h : x ∈ cut xs a b) : x ∈ xs := List.mem_of_mem_drop (List.mem_of_mem_take h)
theorem cut_lele {α : Type} (xs : List α) (a b : Option Int) : (cut xs a b).length ≤ xs.length := by
  unfold cut; simp; omega
theorem dput_le1 {kvs : List (List Int × Bool)} {k : List Int} {v : Bool} : (dput kvs k v).length ≤ kvs.length + 1 := by
  rw [dput_lenE]; split <;> omega
theorem C_barred_ok {k : Nat} (hk : k ≤ 16) {ws : List (List Int)} (h : Ww k 100 ws) : C_law_barredU ws := by
  refine ⟨by have := h.n; omega, ?_⟩
  simp only [lt_eq]
  refine forP_pot (fun m s => s.length + 16 * m ≤ 10000) _ _ ?_ ?_
  · have h1 := dmany_le (ws.map fun (word : List Int) => (word, true)) []
    have h2 := cut_lele ws none (some (-1))
    have := h.n
    simp at h1; omega
  · intro m s w hw hs
    have hwk := h.l w (cut_mem hw)
    have hr : (rng 1 ((w.length : Int) + 1)).length = k := by rw [len_rng]; omega
    refine ⟨⟨by constructor <;> omega, ?_⟩, ?_⟩
    · refine forP_pot (fun j s => s.length + j ≤ 20000) _ _ (by omega) fun j s p _ hs => ⟨⟨?_, by omega⟩, ?_⟩
      · show szOk w.length; omega
      · have := dput_le1 (kvs := s) (k := v_law_turnU w p) (v := true)
        simp only [v_law_barredU_L1, lt_eq]; omega
    · have := foldl_pot (body := v_law_barredU_L1 w) (fun j t => t.length + (16 - 16) ≤ s.length + (k - j) ∧ j ≤ k) (rng 1 ((w.length : Int) + 1)) s (by rw [hr]; omega) (fun j t p _ ht => by
        have := dput_le1 (kvs := t) (k := v_law_turnU w p) (v := true)
        simp only [v_law_barredU_L1, lt_eq]; omega)
      simp only [v_law_barredU_L2, lt_eq]; omega
theorem C_ways_ok {k : Nat} (hk : k ≤ 16) {ws : List (List Int)} (h : Ww k 100 ws) : C_law_waysU ws := by
  have hp := h.p
  have h0 := h.first
  have h1 := h.last
  refine ⟨C_barred_ok hk h, ?_⟩
  simp only [lt_eq]
  refine ⟨⟨by omega, by omega⟩, by constructor <;> omega, fun p _ => ⟨⟨by omega, by omega⟩, ?_⟩⟩
  show szOk (pix ws (-1)).length; omega
theorem snake_spec {n : Int} (hn : 1 ≤ n ∧ n ≤ 8) {Q : List (List Int) → Prop} (h : ∀ ws, Ww n.toNat 40 ws → Q ws) : W_law_snakeU n 14 Q := by
  simp only [W_law_snakeU, lw]
  refine word_spec (by omega) fun w hw => ⟨by omega, fun r h0 h1 => ⟨by omega, ?_⟩⟩
  refine wFor_idx (fun j s => Ww n.toNat (1 + j) s) _ 0 _ ⟨by simp, by simp, fun x hx => by rw [List.mem_singleton.mp hx]; omega⟩ ?_ fun s hs => h s (hs.mono (by rw [len_rng]; omega))
  intro j x hj s hs Qn Qb hq
  have hjl := (rng_get hj).2
  have hx := (rng_get hj).1
  have hs' := hs.mono (M := 100) (by omega)
  simp only [B_law_snakeU_L1, lw]
  refine ⟨C_ways_ok (by omega) hs', fun hd => ⟨⟨by have := hs.p; omega, by have := hs.p; omega⟩, ?_, fun q _ => ⟨?_, ?_, ?_⟩⟩, fun _ => ⟨?_, ?_⟩⟩
  · have hne := of_decide_eq_true hd
    have hlen : (v_law_waysU s).length ≤ 16 := by
      simp only [v_law_waysU, lt_eq]
      refine Nat.le_trans (List.length_filter_le ..) ?_
      have := hs.first
      rw [len_rng]; omega
    have := List.length_pos_iff.mpr hne
    omega
  · have := hs.last; show szOk (pix s (-1)).length; omega
  · have := hs'.n; simp; omega
  · exact hq _ (hs.snoc (by rw [turn_len]; exact hs.last))
  · have := hs'.n; simp; omega
  · rw [List.append_nil]; exact hq _ (hs.mono (by omega))
theorem list_spec {n : Int} (hn : 1 ≤ n ∧ n ≤ 8) {Q : List (List Int) → Prop} (h : ∀ ws, Ww n.toNat 8 ws → Q ws) : W_law_listU n 8 Q := by
  simp only [W_law_listU, lw]
  refine word_spec (by omega) fun w hw => ⟨by omega, fun r h0 h1 => ⟨by omega, ?_⟩⟩
  refine wFor_idx (fun j s => Ww n.toNat (1 + j) s) _ 0 _ ⟨by simp, by simp, fun x hx => by rw [List.mem_singleton.mp hx]; omega⟩ ?_ fun s hs => h s (hs.mono (by rw [len_rng]; omega))
  intro j x hj s hs Qn Qb hq
  have hjl := (rng_get hj).2
  have hx := (rng_get hj).1
  have hs' := hs.mono (M := 100) (by omega)
  simp only [B_law_listU_L1, lw]
  refine ⟨⟨by have := hs.p; omega, by have := hs.p; omega⟩, by omega, fun r _ _ => ⟨?_, ?_, ?_⟩⟩
  · have := hs.last; show szOk (pix s (-1)).length; omega
  · have := hs'.n; simp; omega
  · exact hq _ (hs.snoc (by rw [turn_len]; exact hs.last))
/-! ### doubled lists -/
theorem doubled_ok {k N : Nat} (hk : k ≤ 8) (hN : N ≤ 1000) {ws : List (List Int)} (h : Ww k N ws) : C_law_doubledU ws ∧ Ww (2 * k) (2 * N + 1) (v_law_doubledU ws) := by
  have hn := h.n
  have h0 := h.first
  have hz : (ws.zip (cut ws (some 1) none)).length ≤ ws.length := by rw [List.length_zip]; omega
  have hm : ∀ p ∈ ws.zip (cut ws (some 1) none), p.1.length = k ∧ p.2.length = k := fun p hp => by
    obtain ⟨h1, h2⟩ := List.of_mem_zip (a := p.1) (b := p.2) hp
    exact ⟨h.l _ h1, h.l _ (cut_mem h2)⟩
  have base : Ww (2 * k) 1 [(pix ws 0) ++ (pix ws 0)] := ⟨by simp, by simp, fun x hx => by rw [List.mem_singleton.mp hx, List.length_append]; omega⟩
  have step : ∀ M s, ∀ p ∈ ws.zip (cut ws (some 1) none), Ww (2 * k) M s → Ww (2 * k) (M + 2) (v_law_doubledU_L1 s p) := fun M s p hp hs => by
    have := hm p hp
    simp only [v_law_doubledU_L1, lt_eq]
    refine ⟨by simp, by have := hs.n; simp; omega, fun x hx => ?_⟩
    rcases List.mem_append.mp hx with hx | hx
    · exact hs.l x hx
    · simp at hx
      rcases hx with rfl | rfl <;> rw [List.length_append] <;> omega
  refine ⟨⟨⟨by have := h.p; omega, by have := h.p; omega⟩, by omega, ?_⟩, ?_⟩
  · simp only [lt_eq]
    refine forP_pot (fun m s => ∃ M, M + 2 * m ≤ 2 * N + 1 ∧ Ww (2 * k) M s) _ _ ⟨1, by omega, base⟩ ?_
    rintro m s p hp ⟨M, hM, hs⟩
    have := hm p hp
    have := hs.n
    refine ⟨⟨by omega, by omega, by simp; omega⟩, M + 2, by omega, step M s p hp hs⟩
  · simp only [v_law_doubledU, lt_eq]
    obtain ⟨M, hM, hs⟩ := foldl_pot (body := v_law_doubledU_L1) (fun m s => ∃ M, M + 2 * m ≤ 2 * N + 1 ∧ Ww (2 * k) M s) (ws.zip (cut ws (some 1) none)) [(pix ws 0) ++ (pix ws 0)] ⟨1, by omega, base⟩ (by
      rintro m s p hp ⟨M, hM, hs⟩
      exact ⟨M + 2, by omega, step M s p hp hs⟩)
    exact hs.mono (by omega)
end Sg

namespace Sg
open PySem PySem.Spec PyProof.Rows L2
theorem L1_ok {Qr : Bool → Prop} {v : D} (h : Pl v) (Qn Qb : Unit → Prop) (hq : Qn ()) : B_law_L1 Qr () v Qn Qb :=
  ⟨right_ok h, fun hc => absurd rfl hc, fun _ => hq⟩
theorem Pl_of {k N : Nat} (hk : k ≤ 100) (hN : N ≤ 1000) {ws : List (List Int)} (h : ∀ w ∈ ws, w.length = k) (hn : ws.length ≤ N) : Pl (eT (eT eI) ws) := Pl_words (by omega) fun w hw => by have := h w hw; omega
theorem L2_ok {Qr : Bool → Prop} {k : Nat} (hk : 1 ≤ k ∧ k ≤ 16) {one : List (List Int)} (h : Ww k 50 one) (Qn Qb : Unit → Prop) (hq : Qn ()) : B_law_L2 Qr () one Qn Qb := by
  have hp := h.p
  have hn := h.n
  have h0 := h.first
  have h1 := h.last
  simp only [B_law_L2, lw]
  refine ⟨⟨by omega, by omega⟩, fun r r0 r1 => ⟨⟨by omega, by omega⟩, word_spec (by omega) fun o ho => ?_⟩⟩
  have ho' : o.length = k := by omega
  have c1 : ∀ a b, (cut one a b).length ≤ 50 := fun a b => by have := cut_lele one a b; omega
  have c2 : ∀ a b, (cut o a b).length ≤ 16 := fun a b => by have := cut_lele o a b; omega
  have cm : ∀ a b, ∀ w ∈ cut one a b, w.length = k := fun a b w hw => h.l w (cut_mem hw)
  have hcc : ∀ a b c d, ∀ w ∈ cut one a b ++ cut one c d, w.length = k := fun a b c d w hw => by
    rcases List.mem_append.mp hw with hw | hw
    · exact cm _ _ w hw
    · exact cm _ _ w hw
  have hodd : ∀ d ∈ [(eN ()), ((eL eI) o), ((eT eI) (cut o none (some (-1)))), ((eT eI) (o ++ ([0] : List Int))), ((eT eA) ([(eB true)] ++ ((cut o (some 1) none).map eI))), (eI 5), ((eT eI) (([2] : List Int) ++ (cut o (some 1) none)))], pm d := fun d hd => by
    have w1 := c2 (some 1) none
    have w2 := c2 none (some (-1))
    simp only [List.mem_cons, List.not_mem_nil, or_false] at hd
    rcases hd with rfl | rfl | rfl | rfl | rfl | rfl | rfl
    · exact ⟨rfl, by simp [eN, D.dep], by simp [eN, dIt]⟩
    · have := pm_word (w := o) (by omega)
      exact ⟨this.1, this.2.1, this.2.2⟩
    · exact pm_word (by omega)
    · exact pm_word (by simp; omega)
    · refine ⟨plnL_ofM fun d hd => ?_, ?_, by simp [dIt]; omega⟩
      · obtain ⟨x, hx, rfl⟩ := List.mem_map.mp hd
        rcases List.mem_append.mp hx with hx | hx
        · rw [List.mem_singleton.mp hx]; rfl
        · obtain ⟨y, _, rfl⟩ := List.mem_map.mp hx; rfl
      · have : D.depL (([(eB true)] ++ ((cut o (some 1) none).map eI)).map eA) ≤ 0 := depL_leM fun d hd => by
          obtain ⟨x, hx, rfl⟩ := List.mem_map.mp hd
          rcases List.mem_append.mp hx with hx | hx
          · rw [List.mem_singleton.mp hx]; exact Nat.le_refl _
          · obtain ⟨y, _, rfl⟩ := List.mem_map.mp hx; exact Nat.le_refl _
        show D.depL _ + 1 ≤ 9
        omega
    · exact ⟨rfl, by simp [eI, D.dep], by simp [eI, dIt]⟩
    · exact pm_word (by simp; omega)
  have d1 := c1 (some (-1)) none
  have d2 := c1 none (some r)
  have d3 := c1 (some (r + 1)) none
  have d4 := c1 (some r) none
  have d5 := c2 (some 1) none
  refine ⟨⟨by omega, by omega, by simp; omega, by simp; omega, by omega⟩, ⟨by simp; omega, by simp; omega, by simp; omega⟩, ⟨by simp, fun odd _ => ⟨by simp; omega, by simp; omega⟩, by simp⟩, ⟨by omega, by omega⟩, ⟨by omega, by omega⟩, fun r2 _ _ => ⟨?_, by simp; omega, by simp, ?_⟩⟩
  · show szOk (pix one (-1)).length; omega
  refine wFor_unit _ (fun v hv Qn Qb hq => L1_ok ?_ Qn Qb hq) hq
  rcases List.mem_append.mp hv with hv | hv
  · rcases List.mem_append.mp hv with hv | hv
    · simp only [List.mem_cons, List.not_mem_nil, or_false] at hv
      rcases hv with rfl | rfl | rfl | rfl | rfl | rfl | rfl
      · exact Pl_of (k := k) (N := 50) (by omega) (by omega) h.l hn
      · exact Pl_of (k := k) (N := 50) (by omega) (by omega) (fun w hw => h.l w (List.mem_reverse.mp hw)) (by simpa using hn)
      · refine Pl_of (k := k) (N := 100) (by omega) (by omega) (fun w hw => ?_) (by simp; omega)
        rcases List.mem_append.mp hw with hw | hw
        · exact h.l w hw
        · exact cm _ _ w hw
      · exact Pl_of (k := k) (N := 100) (by omega) (by omega) (hcc _ _ _ _) (by simp; omega)
      · refine Pl_of (k := k) (N := 200) (by omega) (by omega) (fun w hw => ?_) (by simp; omega)
        rcases List.mem_append.mp hw with hw | hw
        · rcases List.mem_append.mp hw with hw | hw
          · exact cm _ _ w hw
          · rw [List.mem_singleton.mp hw]; exact ho'
        · exact cm _ _ w hw
      · exact Pl_of (k := k) (N := 100) (by omega) (by omega) (hcc _ _ _ _) (by simp; omega)
      · exact Pl_lwords (by omega) fun w hw => by have := h.l w hw; omega
    · obtain ⟨odd, ho, rfl⟩ := List.mem_map.mp hv
      refine Pl_mem (by simp; omega) fun d hd => ?_
      rcases List.mem_append.mp hd with hd | hd
      · rcases List.mem_append.mp hd with hd | hd
        · obtain ⟨w, hw, rfl⟩ := List.mem_map.mp hd
          exact pm_word (by have := cm _ _ w hw; omega)
        · rw [List.mem_singleton.mp hd]; exact hodd odd ho
      · obtain ⟨w, hw, rfl⟩ := List.mem_map.mp hd
        exact pm_word (by have := cm _ _ w hw; omega)
  · simp only [List.mem_cons, List.not_mem_nil, or_false] at hv
    rcases hv with rfl | rfl | rfl | rfl | rfl
    · exact Pl_word (by simp)
    · exact Pl_non
    · exact Pl_word (by show o.length ≤ _; omega)
    · exact Pl_words (by simp) fun w hw => by rw [List.mem_singleton.mp hw]; show o.length ≤ _; omega
    · refine Pl_of (k := k) (N := 200) (by omega) (by omega) (fun w hw => ?_) (by simp; omega)
      rcases List.mem_append.mp hw with hw | hw
      · exact h.l w hw
      · rw [List.mem_singleton.mp hw, turn_len]; exact h1
theorem L3_ok {Qr : Bool → Prop} (turn : Int) (Qn Qb : Unit → Prop) (hq : Qn ()) : B_law_L3 [[([0, 0] : List Int), ([0, 1] : List Int), ([1, 1] : List Int), ([1, 0] : List Int)], [([0, 0, 0] : List Int), ([0, 0, 1] : List Int), ([0, 1, 1] : List Int), ([1, 1, 1] : List Int), ([1, 1, 0] : List Int), ([1, 0, 0] : List Int)], [([0] : List Int), ([1] : List Int)]] Qr () turn Qn Qb := by
  simp only [B_law_L3, lw]
  intro r r0 r1
  refine snake_spec (by omega) fun snake hs => list_spec (by omega) fun words hw => ⟨⟨by simp, by simp⟩, fun coil hc => ?_⟩
  have hcoil : ∃ k, (1 ≤ k ∧ k ≤ 3) ∧ Ww k 6 coil := by
    simp only [List.mem_cons, List.not_mem_nil, or_false] at hc
    rcases hc with rfl | rfl | rfl
    · exact ⟨2, by omega, by simp, by simp, by simp⟩
    · exact ⟨3, by omega, by simp, by simp, by simp⟩
    · exact ⟨1, by omega, by simp, by simp, by simp⟩
  obtain ⟨k, hk, hcw⟩ := hcoil
  have c0 := hcw.first
  have cn := hcw.n
  have cp := hcw.p
  refine ⟨⟨by omega, by omega⟩, word_spec (by omega) fun mask hm => ?_⟩
  have hc1 : Ww k 6 (coil.map fun (word : (List Int)) => ((word.zip mask).map fun (p : (Int × Int)) => ((if p.2 = 1 then (1 - p.1) else p.1) : Int))) := by
    refine ⟨by simpa using cp, by simpa using cn, fun w hw => ?_⟩
    obtain ⟨x, hx, rfl⟩ := List.mem_map.mp hw
    have := hcw.l x hx
    rw [List.length_map, List.length_zip]; omega
  have hd := doubled_ok (k := (1 + r).toNat) (N := 8) (by omega) (by omega) hw
  refine ⟨⟨by omega, fun w hw => by have := hcw.l w hw; omega⟩, ⟨hd.1, ?_⟩, ?_⟩
  · have := cut_lele (coil.map fun (word : (List Int)) => ((word.zip mask).map fun (p : (Int × Int)) => ((if p.2 = 1 then (1 - p.1) else p.1) : Int))) none (some 1)
    have := hc1.n
    omega
  refine wFor_unit _ (fun one ho Qn Qb hq => ?_) hq
  simp only [List.mem_cons, List.not_mem_nil, or_false] at ho
  rcases ho with rfl | rfl | rfl | rfl | rfl
  · exact L2_ok (k := (1 + r).toNat) (by omega) (hs.mono (by omega)) Qn Qb hq
  · exact L2_ok (k := (1 + r).toNat) (by omega) (hw.mono (by omega)) Qn Qb hq
  · exact L2_ok (k := k) (by omega) (hc1.mono (by omega)) Qn Qb hq
  · exact L2_ok (k := 2 * (1 + r).toNat) (by omega) (hd.2.mono (by omega)) Qn Qb hq
  · refine L2_ok (k := k) (by omega) ?_ Qn Qb hq
    have := cut_lele (coil.map fun (word : (List Int)) => ((word.zip mask).map fun (p : (Int × Int)) => ((if p.2 = 1 then (1 - p.1) else p.1) : Int))) none (some 1)
    have hh := hc1.n
    have hp := hc1.p
    refine ⟨by rw [List.length_append]; omega, by rw [List.length_append]; omega, fun w hw => ?_⟩
    rcases List.mem_append.mp hw with hw | hw
    · exact hc1.l w hw
    · exact hc1.l w (cut_mem hw)
end Sg

namespace Sg
open PySem PySem.Spec PyProof.Rows L2
abbrev squareR : D := (eT (eP eI eI)) ([(0, 0), (0, 1), (1, 1), (1, 0)] : List (Int × Int))
abbrev coilR : D := (eT (eP3 eI eI eI)) ([(0, 0, 0), (1, 0, 0), (1, 0, 1), (0, 0, 1), (0, 1, 1), (0, 1, 0)] : List (Int × Int × Int))
theorem Pl_square : Pl squareR := ⟨by decide +kernel, by decide +kernel, by decide +kernel, by decide +kernel⟩
theorem Pl_coil : Pl coilR := ⟨by decide +kernel, by decide +kernel, by decide +kernel, by decide +kernel⟩
theorem rows_C : C_law_rows_rightU := by
  simp only [C_law_rows_rightU, lt_eq]
  exact ⟨C_snake_ok Pl_square, C_coil_ok Pl_coil⟩
theorem rows_v : v_law_rows_rightU = true := by decide +kernel
/-! ### the doubled line -/
abbrev refl8 : List (List Int) := v_law_reflectedU 8
abbrev lineW : List (List Int) := v_law_doubledU refl8
theorem line_tests : (tests lineW && lineW.all fun w => decide (w.length = 16) && w.all fun x => decide (x = 0 ∨ x = 1)) = true := by decide +kernel
theorem rev_tests : tests lineW.reverse = true := by decide +kernel
theorem line_len : lineW.length = 511 := by decide +kernel
theorem refl_len : refl8.length = 256 := by decide +kernel
theorem refl_nodup : refl8.Nodup := by decide +kernel
theorem refl_w : (refl8.all fun w => decide (w.length = 8)) = true := by decide +kernel
def dblAt (m : Nat) : List Int := (refl8[(m + 1) / 2]?.getD []) ++ (refl8[m / 2]?.getD [])
theorem line_at : lineW = (List.range 511).map dblAt := by decide +kernel
theorem near_eq2 : (cut lineW none (some 300)) ++ [(v_law_turnU (pix lineW 299) (pix (v_law_placesU (pix lineW 298) (pix lineW 299)) 0))] = (cut lineW none (some 300)) ++ [pix lineW 298] := by decide +kernel
end Sg

namespace Sg
open PySem PySem.Spec PyProof.Rows L2
theorem nodup_lt {α : Type} {xs : List α} (h : xs.Nodup) {i j : Nat} (li : i < xs.length) (lj : j < xs.length) (he : xs[i] = xs[j]) : i = j := by
  have hp := List.pairwise_iff_getElem.mp h
  rcases Nat.lt_trichotomy i j with q | q | q
  · exact absurd he (hp i j li lj q)
  · exact q
  · exact absurd he.symm (hp j i lj li q)
theorem hd_app : ∀ {a c : List Int} (b d : List Int), a.length = c.length → hd (a ++ b) (c ++ d) = hd a c + hd b d
  | [], [], b, d, _ => by simp [hd]
  | [], y :: c, b, d, h => by simp at h
  | x :: a, [], b, d, h => by simp at h
  | x :: a, y :: c, b, d, h => by
    rw [List.cons_append, List.cons_append, hd, hd, hd_app b d (by simpa using h)]; omega
abbrev gG (i : Nat) : List Int := refl8[i]?.getD []
theorem gG_len {i : Nat} (h : i < 256) : (gG i).length = 8 := by
  have hl : i < refl8.length := by rw [refl_len]; exact h
  have hw := List.all_eq_true.mp refl_w _ (List.getElem_mem hl)
  rw [gG, List.getElem?_eq_getElem hl]
  exact of_decide_eq_true hw
theorem gG_inj {i j : Nat} (hi : i < 256) (hj : j < 256) (h : gG i = gG j) : i = j := by
  have li : i < refl8.length := by rw [refl_len]; exact hi
  have lj : j < refl8.length := by rw [refl_len]; exact hj
  rw [gG, gG, List.getElem?_eq_getElem li, List.getElem?_eq_getElem lj] at h
  exact nodup_lt refl_nodup li lj h
theorem hd_g {i j : Nat} (hi : i < 256) (hj : j < 256) : hd (gG i) (gG j) = 0 ↔ i = j := by
  rw [hd_0 ((gG_len hi).trans (gG_len hj).symm)]
  exact ⟨gG_inj hi hj, fun h => by rw [h]⟩
theorem line_get {m : Nat} {w : List Int} (h : lineW[m]? = some w) : m < 511 ∧ w = dblAt m := by
  rw [line_at, List.getElem?_map] at h
  obtain ⟨x, hx, rfl⟩ := Option.map_eq_some_iff.mp h
  have hm : m < 511 := by
    have := (List.getElem?_eq_some_iff.mp hx).1
    simpa using this
  rw [List.getElem?_range hm] at hx
  cases hx
  exact ⟨hm, rfl⟩
theorem hd_dbl {m k : Nat} (hm : m < 511) (hk : k < 511) : hd (dblAt m) (dblAt k) = hd (gG ((m + 1) / 2)) (gG ((k + 1) / 2)) + hd (gG (m / 2)) (gG (k / 2)) :=
  hd_app _ _ ((gG_len (by omega)).trans (gG_len (by omega)).symm)
theorem line_snk : snk lineW := by
  constructor
  · rw [List.Nodup, List.pairwise_iff_getElem]
    intro i j hi hj hij he
    obtain ⟨li, ei⟩ := line_get (List.getElem?_eq_getElem hi)
    obtain ⟨lj, ej⟩ := line_get (List.getElem?_eq_getElem hj)
    have h := hd_dbl li lj
    rw [← ei, ← ej, he, (hd_0 rfl).mpr rfl] at h
    have h1 := (hd_g (i := (i + 1) / 2) (j := (j + 1) / 2) (by omega) (by omega)).mp (by omega)
    have h2 := (hd_g (i := i / 2) (j := j / 2) (by omega) (by omega)).mp (by omega)
    omega
  · rintro q ⟨a, k, u, v, rfl, hak, hu, hv, hh⟩
    obtain ⟨la, rfl⟩ := line_get hu
    obtain ⟨lk, rfl⟩ := line_get hv
    rw [hd_dbl la lk] at hh
    show (k : Int) = (a : Int) + 1
    by_cases q1 : hd (gG ((a + 1) / 2)) (gG ((k + 1) / 2)) = 0
    · have := (hd_g (by omega) (by omega)).mp q1; omega
    · have := (hd_g (i := a / 2) (j := k / 2) (by omega) (by omega)).mp (by omega); omega
theorem snk_rev {ws : List (List Int)} (h : snk ws) : snk ws.reverse := by
  refine ⟨List.pairwise_reverse.mpr (h.1.imp fun q => Ne.symm q), ?_⟩
  rintro q ⟨a, k, u, v, rfl, hak, hu, hv, hh⟩
  have lk : k < ws.length := by have := (List.getElem?_eq_some_iff.mp hv).1; simpa using this
  rw [List.getElem?_reverse (by omega)] at hu
  rw [List.getElem?_reverse lk] at hv
  have := h.2 (((ws.length - 1 - k : Nat) : Int), ((ws.length - 1 - a : Nat) : Int)) ⟨_, _, v, u, rfl, by omega, hv, hu, by rw [hd_sym]; exact hh⟩
  simp only at this
  show (k : Int) = (a : Int) + 1
  omega
theorem line_W : ∀ w ∈ lineW, isW w := fun w hw => by
  have h := (Bool.and_eq_true _ _).mp line_tests
  have h2 := List.all_eq_true.mp h.2 w hw
  rw [Bool.and_eq_true, decide_eq_true_eq, List.all_eq_true] at h2
  exact ⟨by omega, fun x hx => of_decide_eq_true (h2.2 x hx)⟩
theorem line_okL : okL lineW := (tests_iff (by rw [line_len]; omega) line_W).mp ((Bool.and_eq_true _ _).mp line_tests).1
theorem rev_okL : okL lineW.reverse := (tests_iff (by rw [List.length_reverse, line_len]; omega) fun w hw => line_W w (List.mem_reverse.mp hw)).mp rev_tests
theorem line_is : v_is_snake (eT (eT eI) lineW) = true := (snake_words line_okL).mpr line_snk
theorem rev_is : v_is_snake (eT (eT eI) lineW.reverse) = true := (snake_words rev_okL).mpr (snk_rev line_snk)
theorem not_snake {ws : List (List Int)} (h : ¬ ws.Nodup) : v_is_snake (eT (eT eI) ws) = false := by
  apply Bool.eq_false_iff.mpr
  intro hc
  by_cases q : v_fits_list (eT (eT eI) ws) = true
  · obtain ⟨ws', e, hl⟩ := fits_list_iff.mp q
    have e2 : ws = ws' := by rw [← as_words ws, e, as_words]
    subst e2
    exact h ((snake_words hl).mp hc).1
  · unfold v_is_snake v_fits_snake at hc
    rw [if_pos q] at hc; cases hc
theorem not_nodup {α : Type} {xs : List α} {i j : Nat} (hij : i < j) {x : α} (hi : xs[i]? = some x) (hj : xs[j]? = some x) : ¬ xs.Nodup := fun h => by
  obtain ⟨li, ei⟩ := List.getElem?_eq_some_iff.mp hi
  obtain ⟨lj, ej⟩ := List.getElem?_eq_some_iff.mp hj
  have := nodup_lt h li lj (ei.trans ej.symm)
  omega
theorem C_refl_ok {n : Nat} (hn : n ≤ 8) : C_law_reflectedU (n : Int) := by
  unfold C_law_reflectedU
  simp only [lt_eq]
  refine ⟨by constructor <;> omega, ?_⟩
  refine forP_pot (fun m s => s.length * 2 ^ m ≤ 256 ∧ ∀ w ∈ s, w.length + m ≤ 8) _ _ ?_ ?_
  · have hl : (rng 0 (n : Int)).length = n := by rw [len_rng]; omega
    rw [hl]
    refine ⟨?_, fun w hw => by rw [List.mem_singleton.mp hw]; simpa using hn⟩
    have := Nat.pow_le_pow_right (n := 2) (by omega) hn
    simpa using this
  · rintro m s x _ ⟨h1, h2⟩
    have hp : 1 ≤ 2 ^ m := Nat.one_le_two_pow
    have e : s.length * 2 ^ (m + 1) = 2 * (s.length * 2 ^ m) := by rw [Nat.pow_succ, ← Nat.mul_assoc, Nat.mul_comm]
    have hs : s.length ≤ 256 := by
      have : s.length * 1 ≤ s.length * 2 ^ m := Nat.mul_le_mul_left _ hp
      omega
    refine ⟨⟨by omega, fun w hw => by have := h2 w hw; simp; omega, by rw [List.length_reverse]; omega, fun w hw => by have := h2 w (List.mem_reverse.mp hw); simp; omega, by simp; omega⟩, ?_, ?_⟩
    · simp only [v_law_reflectedU_L1, lt_eq, List.length_append, List.length_map, List.length_reverse]
      rw [← Nat.two_mul, Nat.mul_assoc]; omega
    · intro w hw
      simp only [v_law_reflectedU_L1, lt_eq] at hw
      rcases List.mem_append.mp hw with hw | hw
      · obtain ⟨y, hy, rfl⟩ := List.mem_map.mp hw
        have := h2 y hy; simp; omega
      · obtain ⟨y, hy, rfl⟩ := List.mem_map.mp hw
        have := h2 y (List.mem_reverse.mp hy); simp; omega
theorem refl4_W : Ww 4 16 (v_law_reflectedU 4) := ⟨by decide +kernel, by decide +kernel, by decide +kernel⟩
theorem refl8_W : Ww 8 256 (v_law_reflectedU 8) := ⟨by rw [refl_len]; omega, by rw [refl_len]; omega, fun w hw => of_decide_eq_true (List.all_eq_true.mp refl_w w hw)⟩
theorem L5_ok {Qr : Bool → Prop} {one : List (List Int)} (h : Pl (eT (eT eI) one)) (Qn Qb : Unit → Prop) (hq : Qn ()) : B_law_L5 Qr () one Qn Qb :=
  ⟨right_ok h, fun hc => absurd rfl hc, fun _ => hq⟩
end Sg

namespace Sg
open PySem PySem.Spec PyProof.Rows L2
theorem flip2 : v_law_turnU (v_law_turnU (rep 16 [0]) (1 + (0 : Int).fdiv 400)) (1 + (1 : Int).fdiv 400) = rep 16 [0] := by decide +kernel
theorem rep16 : (rep 16 ([0] : List Int)).length = 16 := by decide +kernel
theorem Ww_cat {k N M : Nat} {a b : List (List Int)} (ha : Ww k N a) (hb : ∀ w ∈ b, w.length = k) (hn : b.length ≤ M) : Ww k (N + M) (a ++ b) := by
  refine ⟨by have := ha.p; simp; omega, by have := ha.n; simp; omega, fun w hw => ?_⟩
  rcases List.mem_append.mp hw with hw | hw
  · exact ha.l w hw
  · exact hb w hw
theorem Ww.pl {k N : Nat} {ws : List (List Int)} (h : Ww k N ws) (hk : k ≤ 100) (hN : N ≤ 10000) : Pl (eT (eT eI) ws) := Pl_words (by have := h.n; omega) fun w hw => by have := h.l w hw; omega
theorem W_law_ok : W_law (fun b => b = true) := by
  unfold W_law
  refine ⟨rows_C, fun h => absurd rows_v h, fun _ => ?_⟩
  simp only [lw]
  refine ⟨by constructor <;> omega, wFor_unit _ (fun x _ Qn Qb hq => L3_ok x Qn Qb hq) ?_⟩
  refine word_spec (by omega) fun w4 hw4 => ⟨by constructor <;> omega, ?_⟩
  refine wFor_idx (fun j s => Ww 4 (1 + j) s) _ 0 _ ⟨by simp, by simp, fun x hx => by rw [List.mem_singleton.mp hx]; omega⟩ ?_ fun four hf => ?_
  · intro j x hj s hs Qn Qb hq
    have hjl := (rng_get hj).2
    have hx := (rng_get hj).1
    have hp := hs.p
    have hn := hs.n
    have hl := hs.last
    simp only [B_law_L4, lt_eq]
    refine ⟨⟨by omega, ⟨by omega, by omega⟩, ?_⟩, hq _ (hs.snoc (by rw [turn_len]; exact hl))⟩
    show szOk (pix s (-1)).length; omega
  have hf8 : Ww 4 8 four := hf.mono (by rw [len_rng]; omega)
  have c4 := C_refl_ok (n := 4) (by omega)
  have hd := doubled_ok (by omega) (by omega) refl4_W
  have f0 := refl4_W.first
  have fl := refl4_W.last
  have fp := refl4_W.p
  have fn := refl4_W.n
  have har := hd.2
  have har1 := har.n
  have ha1 : Ww 8 34 (v_law_doubledU (v_law_reflectedU 4) ++ [pix (v_law_reflectedU 4) 0 ++ pix (v_law_reflectedU 4) (-1)]) := har.snoc (by rw [List.length_append]; omega)
  refine ⟨⟨c4, hd.1⟩, ⟨c4, ⟨by omega, by omega⟩, ⟨by omega, by omega⟩, by omega, by simp; omega⟩, ?_⟩
  generalize hA : v_law_doubledU (v_law_reflectedU 4) ++ [pix (v_law_reflectedU 4) 0 ++ pix (v_law_reflectedU 4) (-1)] = A at ha1 ⊢
  have hcA : ∀ a b, (cut A a b).length ≤ 34 := fun a b => Nat.le_trans (cut_lele A a b) ha1.n
  have hcF : ∀ a b, (cut four a b).length ≤ 8 := fun a b => Nat.le_trans (cut_lele four a b) hf8.n
  have hmA : ∀ a b, ∀ w ∈ cut A a b, w.length = 8 := fun a b w hw => ha1.l w (cut_mem hw)
  have hmF : ∀ a b, ∀ w ∈ cut four a b, w.length = 4 := fun a b w hw => hf8.l w (cut_mem hw)
  have a1 := hcA (some 5) none
  have a2 := hcA none (some 5)
  have a3 := hcA none (some (-1))
  have b1 := hcF (some 3) none
  have b2 := hcF none (some 3)
  refine ⟨⟨by omega, by omega⟩, wFor_unit _ (fun one ho Qn Qb hq => L5_ok ?_ Qn Qb hq) ?_⟩
  · have hn := ha1.n
    simp only [List.mem_cons, List.not_mem_nil, or_false] at ho
    rcases ho with rfl | rfl | rfl | rfl | rfl | rfl
    · exact hf8.pl (by omega) (by omega)
    · exact ha1.pl (by omega) (by omega)
    · exact Pl_words (by rw [List.length_reverse]; omega) fun w hw => by have := ha1.l w (List.mem_reverse.mp hw); omega
    · refine Pl_words (by rw [List.length_append]; omega) fun w hw => ?_
      rcases List.mem_append.mp hw with hw | hw
      · have := hmA _ _ w hw; omega
      · have := hmA _ _ w hw; omega
    · exact Pl_words (by omega) fun w hw => by have := hmA _ _ w hw; omega
    · refine Pl_words (by rw [List.length_append]; omega) fun w hw => ?_
      rcases List.mem_append.mp hw with hw | hw
      · have := hmF _ _ w hw; omega
      · have := hmF _ _ w hw; omega
  intro r r0 r1
  refine ⟨fun _ => by first | trivial | rfl, fun _ => ?_⟩
  have c8 := C_refl_ok (n := 8) (by omega)
  have hd8 := doubled_ok (by omega) (by omega) refl8_W
  have ll : (v_law_doubledU (v_law_reflectedU 8)).length = 511 := line_len
  have lW : ∀ w ∈ (v_law_doubledU (v_law_reflectedU 8)), w.length = 16 := fun w hw => by
    have h := (Bool.and_eq_true _ _).mp line_tests
    have h2 := List.all_eq_true.mp h.2 w hw
    rw [Bool.and_eq_true] at h2
    exact of_decide_eq_true h2.1
  have m298 : (pix (v_law_doubledU (v_law_reflectedU 8)) 298).length = 16 := lW _ (pix_mem (by omega) (by omega))
  have m299 : (pix (v_law_doubledU (v_law_reflectedU 8)) 299).length = 16 := lW _ (pix_mem (by omega) (by omega))
  have cl : ∀ a b, (cut (v_law_doubledU (v_law_reflectedU 8)) a b).length ≤ 511 := fun a b => by have := cut_lele (v_law_doubledU (v_law_reflectedU 8)) a b; omega
  have l300 := cl none (some 300)
  have l1 := cl none (some 1)
  refine ⟨⟨c8, hd8.1⟩, ⟨⟨by omega, by omega⟩, ⟨by omega, by omega⟩, C_places_ok (by omega) (by omega), by decide +kernel, ?_, by simp; omega⟩, ⟨by omega, by omega, by decide⟩, by constructor <;> omega, ?_⟩
  · show szOk (pix (v_law_doubledU (v_law_reflectedU 8)) 299).length; omega
  rw [show _ = (cut (v_law_doubledU (v_law_reflectedU 8)) none (some 300)) ++ [pix (v_law_doubledU (v_law_reflectedU 8)) 298] from near_eq2]
  have hz := rep16
  refine wFor_idx (fun j s => Ww 16 (1 + j) s ∧ s.length = 1 + j ∧ s[0]? = some (rep 16 [0]) ∧ (j = 1 → s = [rep 16 [0], v_law_turnU (rep 16 [0]) (1 + (0 : Int).fdiv 400)]) ∧ (2 ≤ j → s[2]? = some (rep 16 [0]))) _ 0 _ ⟨⟨by simp, by simp, fun x hx => by rw [List.mem_singleton.mp hx]; exact hz⟩, by simp, rfl, fun h => by omega, fun h => by omega⟩ ?_ fun far hf => ?_
  · rintro j x hj s ⟨hs, hsl, h0, h1, h2⟩ Qn Qb hq
    have hjl := (rng_get hj).2
    have hx := (rng_get hj).1
    have hp := hs.p
    have hn := hs.n
    have hl := hs.last
    simp only [B_law_L6, lt_eq]
    refine ⟨⟨by omega, ⟨by omega, by omega⟩, by show szOk (pix s (-1)).length; omega⟩, hq _ ⟨hs.snoc (by rw [turn_len]; exact hl), by rw [List.length_append]; simp; omega, by rw [List.getElem?_append_left (by omega)]; exact h0, fun hj1 => ?_, fun hj2 => ?_⟩⟩
    · have e0 : j = 0 := by omega
      subst e0
      have ex : x = 0 := by omega
      subst ex
      match s, hsl, h0 with
      | [y], _, h0 =>
        have : y = rep 16 [0] := by simpa using h0
        subst this; rfl
    · by_cases e1 : j = 1
      · have := h1 (by omega)
        subst this
        have ex : x = 1 := by omega
        subst ex
        show some (v_law_turnU (pix [rep 16 [0], v_law_turnU (rep 16 [0]) (1 + (0 : Int).fdiv 400)] (-1)) (1 + (1 : Int).fdiv 400)) = _
        rw [show pix [rep 16 [0], v_law_turnU (rep 16 [0]) (1 + (0 : Int).fdiv 400)] (-1) = v_law_turnU (rep 16 [0]) (1 + (0 : Int).fdiv 400) from pix_last [rep 16 [0]] _, flip2]
      · rw [List.getElem?_append_left (by omega)]
        exact h2 (by omega)
  · obtain ⟨hs, hsl, h0, h1, h2⟩ := hf
    have hlen : (rng 0 4999).length = 4999 := by rw [len_rng]; rfl
    rw [hlen] at hs h2
    have nline : ¬ ((v_law_doubledU (v_law_reflectedU 8)) ++ cut (v_law_doubledU (v_law_reflectedU 8)) none (some 1)).Nodup := by
      rw [show cut (v_law_doubledU (v_law_reflectedU 8)) none (some 1) = (v_law_doubledU (v_law_reflectedU 8)).take 1 from cut_pre (v_law_doubledU (v_law_reflectedU 8)) 1]
      have g0 : (v_law_doubledU (v_law_reflectedU 8))[0]? = some (pix (v_law_doubledU (v_law_reflectedU 8)) 0) := pix_fst (by omega)
      refine not_nodup (i := 0) (j := 511) (by omega) (x := pix (v_law_doubledU (v_law_reflectedU 8)) 0) (by rw [List.getElem?_append_left (by omega)]; exact g0) ?_
      rw [List.getElem?_append_right (by omega), ll]
      show ((v_law_doubledU (v_law_reflectedU 8)).take 1)[0]? = _
      rw [List.getElem?_take_of_lt (by omega)]; exact g0
    have nnear : ¬ (cut (v_law_doubledU (v_law_reflectedU 8)) none (some 300) ++ [pix (v_law_doubledU (v_law_reflectedU 8)) 298]).Nodup := by
      rw [show cut (v_law_doubledU (v_law_reflectedU 8)) none (some 300) = (v_law_doubledU (v_law_reflectedU 8)).take 300 from cut_pre (v_law_doubledU (v_law_reflectedU 8)) 300]
      have e298 : pix (v_law_doubledU (v_law_reflectedU 8)) 298 = (v_law_doubledU (v_law_reflectedU 8))[298]'(by omega) := pix_nat (xs := (v_law_doubledU (v_law_reflectedU 8))) (j := 298) (by omega)
      have l3 : ((v_law_doubledU (v_law_reflectedU 8)).take 300).length = 300 := by rw [List.length_take]; omega
      refine not_nodup (i := 298) (j := 300) (by omega) (x := pix (v_law_doubledU (v_law_reflectedU 8)) 298) ?_ ?_
      · rw [List.getElem?_append_left (by omega), List.getElem?_take_of_lt (by omega), e298]; exact List.getElem?_eq_getElem _
      · rw [List.getElem?_append_right (by omega), l3]; rfl
    have nfar : ¬ far.Nodup := not_nodup (i := 0) (j := 2) (by omega) h0 (h2 (by omega))
    refine ⟨⟨by omega, fun v hv => C_snake_ok ?_⟩, ?_⟩
    · simp only [List.mem_cons, List.not_mem_nil, or_false] at hv
      rcases hv with rfl | rfl | rfl | rfl | rfl
      · exact Pl_words (by omega) fun w hw => by have := lW w hw; omega
      · exact Pl_words (by rw [List.length_reverse]; omega) fun w hw => by have := lW w (List.mem_reverse.mp hw); omega
      · refine Pl_words (by simp; omega) fun w hw => ?_
        rcases List.mem_append.mp hw with hw | hw
        · have := lW w (cut_mem hw); omega
        · rw [List.mem_singleton.mp hw]; omega
      · exact hs.pl (by omega) (by omega)
      · refine Pl_words (by rw [List.length_append]; omega) fun w hw => ?_
        rcases List.mem_append.mp hw with hw | hw
        · have := lW w hw; omega
        · have := lW w (cut_mem hw); omega
    · simp only [List.map_cons, List.map_nil]
      rw [line_is, rev_is, not_snake nnear, not_snake nfar, not_snake nline]
      rfl
theorem law_true (ns : List Int) (hl : ns.length ≤ 63) : m_law [.v (.scr (ns.map D.int))] [] = .ok (.v (.bl true)) [] := law_of W_law_ok ns hl
end Sg

open PySem PySem.W PyProof.Rows
set_option maxHeartbeats 0 in
theorem PySem.Challenge.cw_signway_k22_whole_snakes_and_coils_holds : PySem.Challenge.rw_signway_k22_whole_snakes_and_coils.Holds := by
  w_on; o_law; k_head; (case hw => w_witness2)
  k_fill
  refine L2.walk_of (l := PySem.Challenge.rw_signway_k22_whole_snakes_and_coils) (n := 63) (k := 9) (x := "script") (CX := fun w => L2.CX Sg.Pw w) (sp := fun w => Sg.spL _ 63) rfl (by decide) rfl ⟨rfl, by decide, by decide⟩ (fun w h Y => PySem.W.kIn_of Y) ?F (fun _ _ a ns hl _ hS => ⟨a, ns, rfl, hS, hl, fun _ => rfl⟩) (fun _ _ _ _ _ h => Sg.noCX h)
  case F =>
    intro w mg fa h KX G hmg
    refine' Sg.all_mk Sg.law_true KX G hmg ?a0 ?l0 ?q0 ?k0 ?a1 ?l1 ?q1 ?k1 ?a2 ?l2 ?q2 ?k2 ?a3 ?l3 ?q3 ?k3 ?a4 ?l4 ?q4 ?k4 ?a5 ?l5 ?q5 ?k5 ?a6 ?l6 ?q6 ?k6 ?a7 ?l7 ?q7 ?k7 ?a8 ?l8 ?q8 ?k8 ?a9 ?l9 ?q9 ?k9 ?a10 ?l10 ?q10 ?k10 ?a11 ?l11 ?q11 ?k11 ?a12 ?l12 ?q12 ?k12 ?a13 ?l13 ?q13 ?k13 ?a14 ?l14 ?q14 ?k14 ?a15 ?l15 ?q15 ?k15 ?a16 ?l16 ?q16 ?k16 ?a17 ?l17 ?q17 ?k17 ?a18 ?l18 ?q18 ?k18 ?a19 ?l19 ?q19 ?k19 ?a20 ?l20 ?q20 ?k20 ?a21 ?l21 ?q21 ?k21 ?a22 ?l22 ?q22 ?k22 ?a23 ?l23 ?q23 ?k23 ?a24 ?l24 ?q24 ?k24 ?a25 ?l25 ?q25 ?k25 ?a26 ?l26 ?q26 ?k26 ?a27 ?l27 ?q27 ?k27 ?a28 ?l28 ?q28 ?k28 ?a29 ?l29 ?q29 ?k29 ?a30 ?l30 ?q30 ?k30 ?e_SIGNS ?e_WORDS ?z_len ?z_range ?z_isinstance ?z_abs ?z_sum ?z_min ?z_max ?z_all ?z_any ?z_sorted ?z_int ?z_str ?z_list ?z_tuple ?z_dict ?z_set ?z_zip ?z_enumerate ?z_bool ?z_type ?z_reversed ?z_super
    (case a0 => k_is)
    (case l0 => k_is)
    (case q0 => k_is)
    (case k0 => k_is)
    (case a1 => k_is)
    (case l1 => k_is)
    (case q1 => k_is)
    (case k1 => k_is)
    (case a2 => k_is)
    (case l2 => k_is)
    (case q2 => k_is)
    (case k2 => k_is)
    (case a3 => k_is)
    (case l3 => k_is)
    (case q3 => k_is)
    (case k3 => k_is)
    (case a4 => k_is)
    (case l4 => k_is)
    (case q4 => k_is)
    (case k4 => k_is)
    (case a5 => k_is)
    (case l5 => k_is)
    (case q5 => k_is)
    (case k5 => k_is)
    (case a6 => k_is)
    (case l6 => k_is)
    (case q6 => k_is)
    (case k6 => k_is)
    (case a7 => k_is)
    (case l7 => k_is)
    (case q7 => k_is)
    (case k7 => k_is)
    (case a8 => k_is)
    (case l8 => k_is)
    (case q8 => k_is)
    (case k8 => k_is)
    (case a9 => k_is)
    (case l9 => k_is)
    (case q9 => k_is)
    (case k9 => k_is)
    (case a10 => k_is)
    (case l10 => k_is)
    (case q10 => k_is)
    (case k10 => k_is)
    (case a11 => k_is)
    (case l11 => k_is)
    (case q11 => k_is)
    (case k11 => k_is)
    (case a12 => k_is)
    (case l12 => k_is)
    (case q12 => k_is)
    (case k12 => k_is)
    (case a13 => k_is)
    (case l13 => k_is)
    (case q13 => k_is)
    (case k13 => k_is)
    (case a14 => k_is)
    (case l14 => k_is)
    (case q14 => k_is)
    (case k14 => k_is)
    (case a15 => k_is)
    (case l15 => k_is)
    (case q15 => k_is)
    (case k15 => k_is)
    (case a16 => k_is)
    (case l16 => k_is)
    (case q16 => k_is)
    (case k16 => k_is)
    (case a17 => k_is)
    (case l17 => k_is)
    (case q17 => k_is)
    (case k17 => k_is)
    (case a18 => k_is)
    (case l18 => k_is)
    (case q18 => k_is)
    (case k18 => k_is)
    (case a19 => k_is)
    (case l19 => k_is)
    (case q19 => k_is)
    (case k19 => k_is)
    (case a20 => k_is)
    (case l20 => k_is)
    (case q20 => k_is)
    (case k20 => k_is)
    (case a21 => k_is)
    (case l21 => k_is)
    (case q21 => k_is)
    (case k21 => k_is)
    (case a22 => k_is)
    (case l22 => k_is)
    (case q22 => k_is)
    (case k22 => k_is)
    (case a23 => k_is)
    (case l23 => k_is)
    (case q23 => k_is)
    (case k23 => k_is)
    (case a24 => k_is)
    (case l24 => k_is)
    (case q24 => k_is)
    (case k24 => k_is)
    (case a25 => k_is)
    (case l25 => k_is)
    (case q25 => k_is)
    (case k25 => k_is)
    (case a26 => k_is)
    (case l26 => k_is)
    (case q26 => k_is)
    (case k26 => k_is)
    (case a27 => k_is)
    (case l27 => k_is)
    (case q27 => k_is)
    (case k27 => k_is)
    (case a28 => k_is)
    (case l28 => k_is)
    (case q28 => k_is)
    (case k28 => k_is)
    (case a29 => k_is)
    (case l29 => k_is)
    (case q29 => k_is)
    (case k29 => k_is)
    (case a30 => k_is)
    (case l30 => k_is)
    (case q30 => k_is)
    (case k30 => k_is)
    (case e_SIGNS => k_is)
    (case e_WORDS => k_is)
    (case z_len => k_is)
    (case z_range => k_is)
    (case z_isinstance => k_is)
    (case z_abs => k_is)
    (case z_sum => k_is)
    (case z_min => k_is)
    (case z_max => k_is)
    (case z_all => k_is)
    (case z_any => k_is)
    (case z_sorted => k_is)
    (case z_int => k_is)
    (case z_str => k_is)
    (case z_list => k_is)
    (case z_tuple => k_is)
    (case z_dict => k_is)
    (case z_set => k_is)
    (case z_zip => k_is)
    (case z_enumerate => k_is)
    (case z_bool => k_is)
    (case z_type => k_is)
    (case z_reversed => k_is)
    (case z_super => k_is)
