import PyProof.Rows.All
import Wide.All
import OpenK.AllK
import Wide.FinOn
import HandS.ForMost
import HandS.ForExc
import HandS.IsInst
import HandS.Style
import HandS.TupAny
import HandS.Flow
import HandS.Deep
import HandS.TupLe
import HandS.Wide
import PyProof.ListMulRoad
import PyProof.FactsAll.tuple_2
import HandS.TupMul
import HandS.RaiseMore
import KE.KTupSum
import HandS.SortInts
import KE.GoesEnum
import KE.GoesMore
import KE.GoesZip
import HandS.WordsExc
import HandS.SetFor
import HandS.Strs
import HandS.Conv
import PySem.Challenge.RW_signway_k03_whole_ways_one_by_one_and_nu
set_option Elab.async false
set_option linter.all false
set_option maxRecDepth 100000
set_option maxHeartbeats 4000000
/-! Q1: data, worlds, readings by mirrors -/
namespace Sg
open PySem PySem.Spec PyProof.Rows L2

/-- data that never change -/
inductive D where
  | non | bl (b : Bool) | int (i : Int) | str (x : Str) | tup (ds : List D) | lst (ds : List D) | adr (a : Addr) | ty (n : String) | dic (ks vs : List D) | set (ds : List D) | scr (ds : List D)
/-- what a name holds: data, or a thing of the store -/
inductive Y where
  | v (d : D) | ref (n : Nat)
/-- things of the store, which change -/
inductive O where
  | lst (ds : List D) | dic (ks vs : List D) | set (ds : List D) | ins (c : Addr) (fs : List (Str × Y)) | gone
abbrev Sto := List O
abbrev Ev := List (Option Y)
/-- an exception: its class's name, the ints that it bears (none: it has no own dict) -/
structure Xc where
  nm : Str
  fs : Option (List (Str × Int))
inductive Res (α : Type) where
  | ok (a : α) (S : Sto) | exc (x : Xc) (S : Sto) | bad
@[simp] def Res.bind {α β : Type} : Res α → (α → Sto → Res β) → Res β
  | .ok a S, f => f a S
  | .exc x S, _ => .exc x S
  | .bad, _ => .bad

mutual
inductive Rp (K : PySem.W.Frag) (F : Hp) : D → V → Prop
  | non : Rp K F .non .non
  | bl (b : Bool) : Rp K F (.bl b) (.bl b)
  | int (i : Int) : Rp K F (.int i) (.int i)
  | str (x : Str) : Rp K F (.str x) (.str x)
  | tup {a : Addr} {xs : List V} {ds : List D} : SqT K F a xs → RpL K F ds xs → Rp K F (.tup ds) (.ref a)
  | lst {a : Addr} {xs : List V} {ds : List D} : Rd F a (.lst xs) → RpL K F ds xs → Rp K F (.lst ds) (.ref a)
  | adr (a : Addr) : Rp K F (.adr a) (.ref a)
  | ty (n : String) : Rp K F (.ty n) (.ty n)
  | scr {a : Addr} {xs : List V} {ds : List D} : SqL K F a xs → RpL K F ds xs → Rp K F (.scr ds) (.ref a)
inductive RpL (K : PySem.W.Frag) (F : Hp) : List D → List V → Prop
  | nil : RpL K F [] []
  | cons {d : D} {ds : List D} {v : V} {vs : List V} : Rp K F d v → RpL K F ds vs → RpL K F (d :: ds) (v :: vs)
end
/-- the frozen heap grows -/
def Le (F F' : Hp) : Prop := ∀ a o, F a = some o → F' a = some o
theorem Le.refl (F : Hp) : Le F F := fun _ _ h => h
theorem Le.trans {F G E : Hp} (a : Le F G) (b : Le G E) : Le F E := fun x o h => b x o (a x o h)
theorem Le.rd {F F' : Hp} (l : Le F F') {a : Addr} {u : HO} (h : Rd F a u) : Rd F' a u := by
  rcases h with h | ⟨o, h⟩
  · exact .inl (l _ _ h)
  · exact .inr ⟨o, l _ _ h⟩
theorem Le.sqT {K : PySem.W.Frag} {F F' : Hp} (l : Le F F') {a : Addr} {xs : List V} (h : SqT K F a xs) : SqT K F' a xs := h.imp l.rd id
theorem Le.sqL {K : PySem.W.Frag} {F F' : Hp} (l : Le F F') {a : Addr} {xs : List V} (h : SqL K F a xs) : SqL K F' a xs := h.imp l.rd id
mutual
theorem Rp.mono {K : PySem.W.Frag} {F F' : Hp} (l : Le F F') : ∀ {d : D} {v : V}, Rp K F d v → Rp K F' d v
  | _, _, .non => .non
  | _, _, .bl b => .bl b
  | _, _, .int i => .int i
  | _, _, .str x => .str x
  | _, _, .tup h r => .tup (l.sqT h) (RpL.mono l r)
  | _, _, .lst h r => .lst (l.rd h) (RpL.mono l r)
  | _, _, .adr a => .adr a
  | _, _, .ty n => .ty n
  | _, _, .scr h r => .scr (h.imp l.rd id) (RpL.mono l r)
theorem RpL.mono {K : PySem.W.Frag} {F F' : Hp} (l : Le F F') : ∀ {ds : List D} {vs : List V}, RpL K F ds vs → RpL K F' ds vs
  | _, _, .nil => .nil
  | _, _, .cons h r => .cons (Rp.mono l h) (RpL.mono l r)
end
theorem RpL.length {K : PySem.W.Frag} {F : Hp} : ∀ {ds : List D} {vs : List V}, RpL K F ds vs → ds.length = vs.length
  | _, _, .nil => rfl
  | _, _, .cons _ r => congrArg (· + 1) (RpL.length r)
theorem RpL.get {K : PySem.W.Frag} {F : Hp} : ∀ {ds : List D} {vs : List V} {i : Nat} {d : D}, RpL K F ds vs → ds[i]? = some d → ∃ v, vs[i]? = some v ∧ Rp K F d v
  | _, _, _, _, .nil, e => by simp at e
  | _, _, 0, _, .cons h _, e => by simp at e; subst e; exact ⟨_, rfl, h⟩
  | _, _, i + 1, _, .cons _ r, e => by
    obtain ⟨v, h1, h2⟩ := RpL.get (i := i) r (by simpa using e)
    exact ⟨v, by simpa using h1, h2⟩
theorem RpL.get' {K : PySem.W.Frag} {F : Hp} : ∀ {ds : List D} {vs : List V} {i : Nat} {v : V}, RpL K F ds vs → vs[i]? = some v → ∃ d, ds[i]? = some d ∧ Rp K F d v
  | _, _, _, _, .nil, e => by simp at e
  | _, _, 0, _, .cons h _, e => by simp at e; subst e; exact ⟨_, rfl, h⟩
  | _, _, i + 1, _, .cons _ r, e => by
    obtain ⟨v, h1, h2⟩ := RpL.get' (i := i) r (by simpa using e)
    exact ⟨v, by simpa using h1, h2⟩
theorem RpL.append {K : PySem.W.Frag} {F : Hp} : ∀ {ds es : List D} {vs ws : List V}, RpL K F ds vs → RpL K F es ws → RpL K F (ds ++ es) (vs ++ ws)
  | _, _, _, _, .nil, s => s
  | _, _, _, _, .cons h r, s => .cons h (RpL.append r s)
theorem RpL.take {K : PySem.W.Frag} {F : Hp} : ∀ {ds : List D} {vs : List V} (n : Nat), RpL K F ds vs → RpL K F (ds.take n) (vs.take n)
  | _, _, 0, _ => .nil
  | _, _, _ + 1, .nil => .nil
  | _, _, n + 1, .cons h r => .cons h (RpL.take n r)
theorem RpL.drop {K : PySem.W.Frag} {F : Hp} : ∀ {ds : List D} {vs : List V} (n : Nat), RpL K F ds vs → RpL K F (ds.drop n) (vs.drop n)
  | _, _, 0, r => r
  | _, _, _ + 1, .nil => .nil
  | _, _, n + 1, .cons _ r => RpL.drop n r
theorem RpL.reverse {K : PySem.W.Frag} {F : Hp} : ∀ {ds : List D} {vs : List V}, RpL K F ds vs → RpL K F ds.reverse vs.reverse
  | _, _, .nil => .nil
  | _, _, .cons h r => by rw [List.reverse_cons, List.reverse_cons]; exact RpL.append (RpL.reverse r) (.cons h .nil)
theorem RpL.set {K : PySem.W.Frag} {F : Hp} {d : D} {v : V} (q : Rp K F d v) : ∀ {ds : List D} {vs : List V} (i : Nat), RpL K F ds vs → RpL K F (ds.set i d) (vs.set i v)
  | _, _, _, .nil => .nil
  | _, _, 0, .cons _ r => .cons q r
  | _, _, i + 1, .cons h r => .cons h (RpL.set q i r)
theorem RpL.eraseIdx {K : PySem.W.Frag} {F : Hp} : ∀ {ds : List D} {vs : List V} (i : Nat), RpL K F ds vs → RpL K F (ds.eraseIdx i) (vs.eraseIdx i)
  | _, _, _, .nil => .nil
  | _, _, 0, .cons _ r => r
  | _, _, i + 1, .cons h r => .cons h (RpL.eraseIdx i r)

/-- a world: the frozen heap, the store's addresses, what the context holds besides -/
structure Wd where
  F : Hp
  io : List Addr
  X : Hp
structure Wd.le (w w' : Wd) : Prop where
  F : Le w.F w'.F
  io : ∃ more, w'.io = w.io ++ more
  X : w'.X = w.X
theorem Wd.le.refl (w : Wd) : w.le w := ⟨.refl _, ⟨[], by simp⟩, rfl⟩
theorem Wd.le.trans {a b c : Wd} (x : a.le b) (y : b.le c) : a.le c := ⟨x.F.trans y.F, by
  obtain ⟨m, e⟩ := x.io
  obtain ⟨n, f⟩ := y.io
  exact ⟨m ++ n, by rw [f, e, List.append_assoc]⟩, y.X.trans x.X⟩
theorem Wd.le.get {a b : Wd} (x : a.le b) {n : Nat} {p : Addr} (h : a.io[n]? = some p) : b.io[n]? = some p := by
  obtain ⟨m, e⟩ := x.io
  rw [e, List.getElem?_append_left (List.getElem?_eq_some_iff.mp h).1]
  exact h
/-- a value of a name -/
def RY (K : PySem.W.Frag) (w : Wd) : Y → V → Prop
  | .v d, x => Rp K w.F d x
  | .ref n, x => ∃ a, w.io[n]? = some a ∧ x = .ref a
theorem RY.mono {K : PySem.W.Frag} {w w' : Wd} (l : w.le w') : ∀ {y : Y} {v : V}, RY K w y v → RY K w' y v
  | .v _, _, h => Rp.mono l.F h
  | .ref _, _, ⟨a, h, e⟩ => ⟨a, l.get h, e⟩
inductive RYs (K : PySem.W.Frag) (w : Wd) : List Y → List V → Prop
  | nil : RYs K w [] []
  | cons {y : Y} {ys : List Y} {v : V} {vs : List V} : RY K w y v → RYs K w ys vs → RYs K w (y :: ys) (v :: vs)
theorem RYs.mono {K : PySem.W.Frag} {w w' : Wd} (l : w.le w') : ∀ {ys : List Y} {vs : List V}, RYs K w ys vs → RYs K w' ys vs
  | _, _, .nil => .nil
  | _, _, .cons h r => .cons (RY.mono l h) (RYs.mono l r)
theorem RYs.length {K : PySem.W.Frag} {w : Wd} : ∀ {ys : List Y} {vs : List V}, RYs K w ys vs → ys.length = vs.length
  | _, _, .nil => rfl
  | _, _, .cons _ r => congrArg (· + 1) (RYs.length r)
theorem RYs.get {K : PySem.W.Frag} {w : Wd} : ∀ {ys : List Y} {vs : List V} {i : Nat} {y : Y}, RYs K w ys vs → ys[i]? = some y → ∃ v, vs[i]? = some v ∧ RY K w y v
  | _, _, _, _, .nil, e => by simp at e
  | _, _, 0, _, .cons h _, e => by simp at e; subst e; exact ⟨_, rfl, h⟩
  | _, _, i + 1, _, .cons _ r, e => by
    obtain ⟨v, h1, h2⟩ := RYs.get (i := i) r (by simpa using e)
    exact ⟨v, by simpa using h1, h2⟩
/-- the slots -/
structure EnvR (K : PySem.W.Frag) (w : Wd) (env : Ev) (σ : L2.St) : Prop where
  len : env.length = σ.length
  at_ : ∀ (i : Nat) (y : Y), env[i]? = some (some y) → ∃ v : V, σ[i]? = some (some v) ∧ RY K w y v
theorem EnvR.mono {K : PySem.W.Frag} {w w' : Wd} (l : w.le w') {env : Ev} {σ : L2.St} (h : EnvR K w env σ) : EnvR K w' env σ :=
  ⟨h.len, fun i y e => let ⟨v, a, b⟩ := h.at_ i y e; ⟨v, a, b.mono l⟩⟩
theorem EnvR.set {K : PySem.W.Frag} {w : Wd} {env : Ev} {σ : L2.St} (h : EnvR K w env σ) {y : Y} {v : V} (i : Nat) (r : RY K w y v) : EnvR K w (env.set i (some y)) (σ.set i (some v)) := by
  refine ⟨by simp [h.len], fun j z e => ?_⟩
  by_cases hj : i = j
  · subst hj
    by_cases hi : i < env.length
    · rw [List.getElem?_set_self hi] at e
      cases e
      exact ⟨v, List.getElem?_set_self (by rw [← h.len]; exact hi), r⟩
    · rw [List.getElem?_eq_none (by simpa using hi)] at e; cases e
  · rw [List.getElem?_set_ne hj] at e
    obtain ⟨u, a, b⟩ := h.at_ j z e
    exact ⟨u, by rw [List.getElem?_set_ne hj]; exact a, b⟩
/-- a thing of the store, as it stands -/
def ORep (K : PySem.W.Frag) (w : Wd) (H : Hp) (a : Addr) : O → Prop
  | .lst ds => ∃ xs, H a = some (.lst xs) ∧ RpL K w.F ds xs
  | .gone => True
  | _ => False
def notFrz : HO → Prop
  | .frz _ _ => False
  | _ => True
structure Sim (K : PySem.W.Frag) (w : Wd) (S : Sto) (H : Hp) : Prop where
  len : w.io.length = S.length
  fr : ∀ a o, w.F a = some o → H a = some o ∨ (notFrz o ∧ ∃ ob, H a = some (.frz ob o))
  ob : ∀ (n : Nat) (o : O) (a : Addr), S[n]? = some o → w.io[n]? = some a → o ≠ .gone → ORep K w H a o ∧ (∃ u, H a = some u) ∧ w.F a = none ∧ w.X a = none
  inj : ∀ (n m : Nat) (a : Addr), w.io[n]? = some a → w.io[m]? = some a → S[n]? ≠ some .gone → S[m]? ≠ some .gone → n = m
  ex : ∀ a o, w.X a = some o → H a = some o ∧ w.F a = none
section
variable {K : PySem.W.Frag} {w : Wd} {S : Sto} {H : Hp}
theorem Sim.rd (s : Sim K w S H) {a : Addr} {u : HO} (h : Rd w.F a u) : Rd H a u := by
  rcases h with h | ⟨o, h⟩
  · rcases s.fr a u h with q | ⟨_, ob, q⟩
    · exact .inl q
    · exact .inr ⟨ob, q⟩
  · rcases s.fr a _ h with q | ⟨n, _⟩
    · exact .inr ⟨o, q⟩
    · exact n.elim
theorem Sim.sqT (s : Sim K w S H) {a : Addr} {xs : List V} (h : SqT K w.F a xs) : SqT K H a xs := h.imp s.rd id
theorem Sim.sqL (s : Sim K w S H) {a : Addr} {xs : List V} (h : SqL K w.F a xs) : SqL K H a xs := h.imp s.rd id
theorem Sim.freshF (s : Sim K w S H) {p : Addr} (hp : H p = none) : w.F p = none := by
  cases q : w.F p with
  | none => rfl
  | some o =>
    rcases s.fr p o q with z | ⟨_, _, z⟩
    · rw [hp] at z; cases z
    · rw [hp] at z; cases z
theorem Sim.freshX (s : Sim K w S H) {p : Addr} (hp : H p = none) : w.X p = none := by
  cases q : w.X p with
  | none => rfl
  | some o =>
    have z := (s.ex p o q).1
    rw [hp] at z; cases z
theorem le_upd {F : Hp} {p : Addr} {o : HO} (h : F p = none) : Le F (upd F p o) := fun a u e => by
  rw [upd_ne (ne_of_none e h)]; exact e
theorem Sim.live (s : Sim K w S H) {p : Addr} (hp : H p = none) {n : Nat} (hn : w.io[n]? = some p) : S[n]? = some .gone := by
  have hl : n < S.length := by rw [← s.len]; exact (List.getElem?_eq_some_iff.mp hn).1
  have e : S[n]? = some S[n] := List.getElem?_eq_getElem hl
  by_cases g : S[n] = .gone
  · rw [e, g]
  · obtain ⟨_, ⟨u, z⟩, _⟩ := s.ob n _ p e hn g
    rw [hp] at z; cases z
/-- the heap has a new object that nobody tells of -/
theorem Sim.junk (s : Sim K w S H) {p : Addr} {o : HO} (hp : H p = none) : Sim K w S (upd H p o) := by
  refine ⟨s.len, fun a u e => ?_, fun n o' a e1 e2 g => ?_, s.inj, fun a u e => ?_⟩
  · have ne : a ≠ p := ne_of_none e (s.freshF hp)
    rw [upd_ne ne]; exact s.fr a u e
  · obtain ⟨r, ⟨u, z⟩, f, x⟩ := s.ob n o' a e1 e2 g
    have ne : a ≠ p := ne_of_none z hp
    refine ⟨?_, ⟨u, by rw [upd_ne ne]; exact z⟩, f, x⟩
    cases o' with
    | lst ds => obtain ⟨xs, h1, h2⟩ := r; exact ⟨xs, by rw [upd_ne ne]; exact h1, h2⟩
    | gone => trivial
    | _ => exact r.elim
  · have ne : a ≠ p := ne_of_none e (s.freshX hp)
    rw [upd_ne ne]; exact s.ex a u e
theorem ORep.le {w w' : Wd} (l : Le w.F w'.F) {a : Addr} {o : O} (h : ORep K w H a o) : ORep K w' H a o := by
  cases o with
  | lst ds => obtain ⟨xs, h1, h2⟩ := h; exact ⟨xs, h1, h2.mono l⟩
  | gone => trivial
  | _ => exact h.elim
/-- an object is frozen: it stands in H, nobody else tells of it -/
theorem Sim.froze (s : Sim K w S H) {p : Addr} {o : HO} (hp : H p = some o) (hF : w.F p = none) (hX : w.X p = none) (hs : ∀ n : Nat, w.io[n]? = some p → S[n]? = some .gone) : Sim K { w with F := upd w.F p o } S H := by
  have l : Le w.F (upd w.F p o) := le_upd hF
  refine ⟨s.len, fun a u e => ?_, fun n o' a e1 e2 g => ?_, s.inj, fun a u e => ?_⟩
  · by_cases ha : a = p
    · subst ha
      have e' : upd w.F a o a = some u := e
      rw [upd_same] at e'; cases e'; exact .inl hp
    · have e' : upd w.F p o a = some u := e
      rw [upd_ne ha] at e'; exact s.fr a u e'
  · obtain ⟨r, z, f, x⟩ := s.ob n o' a e1 e2 g
    have ne : a ≠ p := fun q => by
      subst q
      rw [hs n e2] at e1; cases e1; exact g rfl
    exact ⟨ORep.le l r, z, by show upd w.F p o a = none; rw [upd_ne ne]; exact f, x⟩
  · obtain ⟨h1, h2⟩ := s.ex a u e
    refine ⟨h1, ?_⟩
    have ne : a ≠ p := ne_of_none e hX
    show upd w.F p o a = none
    rw [upd_ne ne]; exact h2
theorem Wd.le.froze {w : Wd} {p : Addr} {o : HO} (hF : w.F p = none) : w.le { w with F := upd w.F p o } := ⟨le_upd hF, ⟨[], by simp⟩, rfl⟩
/-- a new frozen object -/
theorem Sim.newF (s : Sim K w S H) {p : Addr} {o : HO} (hp : H p = none) : Sim K { w with F := upd w.F p o } S (upd H p o) :=
  (s.junk hp).froze upd_same (s.freshF hp) (s.freshX hp) (fun n hn => s.live hp hn)
/-- a new thing of the store -/
theorem Sim.newO (s : Sim K w S H) {p : Addr} {o : HO} {t : O} (hp : H p = none) (ht : t ≠ .gone → ORep K w (upd H p o) p t) : Sim K { w with io := w.io ++ [p] } (S ++ [t]) (upd H p o) := by
  have j := s.junk (o := o) hp
  have hl := s.len
  refine ⟨by simp [hl], j.fr, fun n o' a e1 e2 g => ?_, fun n m a e1 e2 g1 g2 => ?_, j.ex⟩
  · by_cases hn : n < S.length
    · rw [List.getElem?_append_left hn] at e1
      have e2' : (w.io ++ [p])[n]? = some a := e2
      rw [List.getElem?_append_left (by omega)] at e2'
      obtain ⟨r, z, f, x⟩ := j.ob n o' a e1 e2' g
      refine ⟨?_, z, f, x⟩
      cases o' with
      | lst ds => exact r
      | gone => trivial
      | _ => exact r.elim
    · rw [List.getElem?_append_right (by omega)] at e1
      have hz : n - S.length = 0 := by
        by_cases q : n - S.length = 0
        · exact q
        · rw [List.getElem?_eq_none (by simp; omega)] at e1; cases e1
      rw [hz] at e1
      have e2' : (w.io ++ [p])[n]? = some a := e2
      rw [List.getElem?_append_right (by omega), hl, hz] at e2'
      simp at e1 e2'
      subst e1; subst e2'
      refine ⟨?_, ⟨o, upd_same⟩, s.freshF hp, s.freshX hp⟩
      have r := ht g
      cases t with
      | lst ds => exact r
      | gone => trivial
      | _ => exact r.elim
  · have gone : ∀ k : Nat, k < w.io.length → (w.io ++ [p])[k]? = some p → (S ++ [t])[k]? = some .gone := fun k hk e => by
      rw [List.getElem?_append_left hk] at e
      rw [List.getElem?_append_left (by omega)]
      exact s.live hp e
    have e1' : (w.io ++ [p])[n]? = some a := e1
    have e2' : (w.io ++ [p])[m]? = some a := e2
    have bn : n < w.io.length + 1 := by have := (List.getElem?_eq_some_iff.mp e1').1; simpa using this
    have bm : m < w.io.length + 1 := by have := (List.getElem?_eq_some_iff.mp e2').1; simpa using this
    have last : ∀ k : Nat, ¬ k < w.io.length → k < w.io.length + 1 → (w.io ++ [p])[k]? = some p := fun k h1 h2 => by
      have : k = w.io.length := by omega
      subst this; simp
    by_cases hn : n < w.io.length <;> by_cases hm : m < w.io.length
    · rw [List.getElem?_append_left hn] at e1'
      rw [List.getElem?_append_left hm] at e2'
      rw [List.getElem?_append_left (by omega)] at g1 g2
      exact s.inj n m a e1' e2' g1 g2
    · rw [last m hm bm] at e2'
      cases e2'
      exact absurd (gone n hn e1') g1
    · rw [last n hn bn] at e1'
      cases e1'
      exact absurd (gone m hm e2') g2
    · omega
theorem Wd.le.newO {w : Wd} {p : Addr} : w.le { w with io := w.io ++ [p] } := ⟨.refl _, ⟨[p], rfl⟩, rfl⟩
/-- a thing of the store changes -/
theorem Sim.setO (s : Sim K w S H) {n : Nat} {a : Addr} {o : HO} {t : O} (hn : w.io[n]? = some a) (hS : ∃ t0, S[n]? = some t0 ∧ t0 ≠ .gone) (ht : t ≠ .gone → ORep K w (upd H a o) a t) : Sim K w (S.set n t) (upd H a o) := by
  obtain ⟨t0, e0, g0⟩ := hS
  obtain ⟨_, ⟨u0, z0⟩, f0, x0⟩ := s.ob n t0 a e0 hn g0
  have hl : n < S.length := (List.getElem?_eq_some_iff.mp e0).1
  refine ⟨by simp [s.len], fun b u e => ?_, fun m o' b e1 e2 g => ?_, fun k m b e1 e2 g1 g2 => ?_, fun b u e => ?_⟩
  · have ne : b ≠ a := ne_of_none e f0
    rw [upd_ne ne]; exact s.fr b u e
  · by_cases hm : n = m
    · subst hm
      rw [List.getElem?_set_self hl] at e1
      cases e1
      rw [hn] at e2; cases e2
      exact ⟨ht g, ⟨o, upd_same⟩, f0, x0⟩
    · rw [List.getElem?_set_ne hm] at e1
      obtain ⟨r, ⟨u, z⟩, f, x⟩ := s.ob m o' b e1 e2 g
      have ne : b ≠ a := fun q => by
        subst q
        exact hm (s.inj n m b hn e2 (by rw [e0]; intro q; cases q; exact g0 rfl) (by rw [e1]; intro q; cases q; exact g rfl))
      refine ⟨?_, ⟨u, by rw [upd_ne ne]; exact z⟩, f, x⟩
      cases o' with
      | lst ds => obtain ⟨xs, h1, h2⟩ := r; exact ⟨xs, by rw [upd_ne ne]; exact h1, h2⟩
      | gone => trivial
      | _ => exact r.elim
  · have gs : ∀ i : Nat, (S.set n t)[i]? ≠ some .gone → w.io[i]? = some b → S[i]? ≠ some .gone := fun i g e q => by
      by_cases hi : n = i
      · subst hi; rw [e0] at q; cases q; exact g0 rfl
      · rw [List.getElem?_set_ne hi] at g; exact g q
    exact s.inj k m b e1 e2 (gs k g1 e1) (gs m g2 e2)
  · have ne : b ≠ a := ne_of_none e x0
    rw [upd_ne ne]; exact s.ex b u e
theorem Sim.goneO (s : Sim K w S H) (n : Nat) : Sim K w (S.set n .gone) H := by
  refine ⟨by simp [s.len], s.fr, fun m o' b e1 e2 g => ?_, fun k m b e1 e2 g1 g2 => ?_, s.ex⟩
  · by_cases hm : n = m
    · subst hm
      by_cases hl : n < S.length
      · rw [List.getElem?_set_self hl] at e1; cases e1; exact absurd rfl g
      · rw [List.getElem?_eq_none (by simpa using hl)] at e1; cases e1
    · rw [List.getElem?_set_ne hm] at e1
      exact s.ob m o' b e1 e2 g
  · have gs : ∀ i : Nat, (S.set n .gone)[i]? ≠ some .gone → S[i]? ≠ some .gone := fun i g q => by
      by_cases hi : n = i
      · subst hi
        have hl : n < S.length := (List.getElem?_eq_some_iff.mp q).1
        rw [List.getElem?_set_self hl] at g; exact g rfl
      · rw [List.getElem?_set_ne hi] at g; exact g q
    exact s.inj k m b e1 e2 (gs k g1) (gs m g2)
/-- the store's end is forgotten -/
theorem Sim.cut (s : Sim K w S H) (n : Nat) : Sim K { w with io := w.io.take n } (S.take n) H := by
  have back : ∀ {α : Type} {l : List α} {i : Nat} {x : α}, (l.take n)[i]? = some x → l[i]? = some x := fun {α l i x} h => by
    rw [List.getElem?_take] at h
    split at h
    · exact h
    · cases h
  refine ⟨by simp [s.len], s.fr, fun m o' b e1 e2 g => ?_, fun k m b e1 e2 g1 g2 => ?_, s.ex⟩
  · obtain ⟨r, z, f, x⟩ := s.ob m o' b (back e1) (back e2) g
    refine ⟨?_, z, f, x⟩
    cases o' with
    | lst ds => exact r
    | gone => trivial
    | _ => exact r.elim
  · have gs : ∀ i : Nat, (S.take n)[i]? ≠ some .gone → (w.io.take n)[i]? = some b → S[i]? ≠ some .gone := fun i g e q => by
      have hi : i < n := by
        by_cases h : i < n
        · exact h
        · rw [List.getElem?_take, if_neg h] at e; cases e
      rw [List.getElem?_take, if_pos hi] at g
      exact g q
    exact s.inj k m b (back e1) (back e2) (gs k g1 e1) (gs m g2 e2)
end

/-! ### readings -/
/-- an exception, as it stands -/
def XR (mg : Str → Option Value) (w : Wd) (x : Xc) (cls : Value) (d : Option Addr) : Prop :=
  mg x.nm = some cls ∧ match x.fs with
    | none => d = none
    | some fs => ∃ dx, d = some dx ∧ w.F dx = some (.xd (fs.map fun p => (p.1, V.int p.2)))
theorem XR.mono {mg : Str → Option Value} {w w' : Wd} (l : w.le w') {x : Xc} {cls : Value} {d : Option Addr} (h : XR mg w x cls d) : XR mg w' x cls d := by
  obtain ⟨h1, h2⟩ := h
  refine ⟨h1, ?_⟩
  cases e : x.fs with
  | none => rw [e] at h2; exact h2
  | some fs =>
    rw [e] at h2
    obtain ⟨dx, a, b⟩ := h2
    exact ⟨dx, a, l.F _ _ b⟩
/-- what is wanted behind a mirror's end -/
def rd {α β : Type} (K : PySem.W.Frag) (mg : Str → Option Value) (E : XK) (r : Res α) (w : Wd) (R : Wd → α → β → Prop) (Q : β → Hp → Prop) : Prop :=
  match r with
  | .ok a S' => ∀ w' v H', w.le w' → Sim K w' S' H' → R w' a v → Q v H'
  | .exc x S' => ∀ w' cls d H', w.le w' → Sim K w' S' H' → XR mg w' x cls d → E cls d H'
  | .bad => False
section
variable {α β γ δ : Type} {K : PySem.W.Frag} {mg : Str → Option Value} {E : XK} {w : Wd}
theorem rd_le {r : Res α} {R : Wd → α → β → Prop} {Q : β → Hp → Prop} {w' : Wd} (l : w.le w') (h : rd K mg E r w R Q) : rd K mg E r w' R Q := by
  cases r with
  | ok a S => exact fun w2 v H' l2 => h w2 v H' (l.trans l2)
  | exc x S => exact fun w2 c d H' l2 => h w2 c d H' (l.trans l2)
  | bad => exact h
theorem rd_bind {r : Res α} {g : α → Sto → Res γ} {R1 : Wd → α → β → Prop} {R2 : Wd → γ → δ → Prop} {Q1 : β → Hp → Prop} {Q : δ → Hp → Prop} (h : rd K mg E (r.bind g) w R2 Q)
    (k : ∀ a S' w' v H', w.le w' → Sim K w' S' H' → R1 w' a v → rd K mg E (g a S') w' R2 Q → Q1 v H') : rd K mg E r w R1 Q1 := by
  cases r with
  | ok a S => exact fun w' v H' l s q => k a S w' v H' l s q (rd_le l h)
  | exc x S => exact h
  | bad => exact h
theorem rd_ok {a : α} {S : Sto} {R : Wd → α → β → Prop} {Q : β → Hp → Prop} {v : β} {H : Hp} (h : rd K mg E (.ok a S) w R Q) (s : Sim K w S H) (r : R w a v) : Q v H := h w v H (.refl w) s r
theorem rd_okLe {a : α} {S : Sto} {R : Wd → α → β → Prop} {Q : β → Hp → Prop} {v : β} {H : Hp} {w' : Wd} (h : rd K mg E (.ok a S) w R Q) (l : w.le w') (s : Sim K w' S H) (r : R w' a v) : Q v H := h w' v H l s r
end
abbrev FE (α : Type) := Ev → Sto → Res α
/-- a mirror's reading -/
def tM {α β : Type} (K : PySem.W.Frag) (mg : Str → Option Value) (W : WX) (R : Wd → α → β → Prop) (f : FE α) : L2.St → Hp → (β → Hp → Prop) → Prop := fun σ H Q =>
  ∃ w env S, EnvR K w env σ ∧ Sim K w S H ∧ rd K mg (WE W σ) (f env S) w R Q
abbrev REq : Wd → Bool → Bool → Prop := fun _ a b => a = b
abbrev tE (X : Cx) (W : WX) (f : FE Y) : TE := tM X.K X.mg W (RY X.K) f
abbrev tT (X : Cx) (W : WX) (f : FE Bool) : TT := tM X.K X.mg W REq f
abbrev tA (X : Cx) (W : WX) (f : FE (List Y)) : TA := tM X.K X.mg W (RYs X.K) f
abbrev RE (X : Cx) (W : WX) (e : Expr) (f : FE Y) : Prop := PE X e (tE X W f)
abbrev RT (X : Cx) (W : WX) (e : Expr) (f : FE Bool) : Prop := PT X e (tT X W f)
abbrev RA (X : Cx) (W : WX) (es : List Expr) (f : FE (List Y)) : Prop := PA X es (tA X W f)
theorem weakPE {X : Cx} {e : Expr} {t t' : TE} (h : PE X e t) (i : ∀ σ H Q, t' σ H Q → t σ H Q) : PE X e t' := ⟨fun pins s σ H Q I q => h.run pins s σ H Q I (i σ H Q q)⟩
theorem weakPT {X : Cx} {e : Expr} {t t' : TT} (h : PT X e t) (i : ∀ σ H Q, t' σ H Q → t σ H Q) : PT X e t' := ⟨fun pins s σ H Q I q => h.run pins s σ H Q I (i σ H Q q)⟩
theorem weakPA {X : Cx} {e : List Expr} {t t' : TA} (h : PA X e t) (i : ∀ σ H Q, t' σ H Q → t σ H Q) : PA X e t' := ⟨fun pos pins s σ H Q I q => h.run pos pins s σ H Q I (i σ H Q q)⟩
theorem weakPS {X : Cx} {e : Stmt} {t t' : TS} (h : PS X e t) (i : ∀ D σ H, t' D σ H → t D σ H) : PS X e t' := ⟨fun pins s σ H D I q => h.run pins s σ H D I (i D σ H q)⟩
theorem weakPSs {X : Cx} {e : List Stmt} {t t' : TS} (h : PSs X e t) (i : ∀ D σ H, t' D σ H → t D σ H) : PSs X e t' := ⟨fun pins s σ H D I q => h.run pins s σ H D I (i D σ H q)⟩
theorem weakPW {X : Cx} {e : Expr} {t t' : TT} (h : PW X e t) (i : ∀ σ H Q, t' σ H Q → t σ H Q) : PW X e t' := ⟨fun wh pins s σ H Q I q => h.run wh pins s σ H Q I (i σ H Q q)⟩
theorem weakPI {X : Cx} {g e : Expr} {t t' : TI} (h : PI X g e t) (i : ∀ σ H Q, t' σ H Q → t σ H Q) : PI X g e t' := ⟨fun pins s σ H Q I q => h.run pins s σ H Q I (i σ H Q q)⟩
end Sg

/-! Q2: operators by their values -/
namespace Sg
open PySem PySem.Spec PyProof.Rows L2

/-! ### equality of data -/
mutual
def D.eqv : D → D → Bool
  | .non, .non => true
  | .bl a, .bl b => a == b
  | .bl a, .int j => (if a then 1 else 0) == j
  | .int i, .bl b => i == (if b then 1 else 0)
  | .int i, .int j => i == j
  | .str x, .str y => x == y
  | .lst xs, .lst ys => D.eqvL xs ys
  | .tup xs, .tup ys => D.eqvL xs ys
  | _, _ => false
def D.eqvL : List D → List D → Bool
  | [], [] => true
  | x :: xs, y :: ys => D.eqv x y && D.eqvL xs ys
  | _, _ => false
end
mutual
def D.py : D → PyData
  | .non => .none
  | .bl b => .bool b
  | .int i => .int i
  | .str x => .str x
  | .tup ds => .tuple (D.pyL ds)
  | .lst ds => .list (D.pyL ds)
  | _ => .dict []
def D.pyL : List D → List PyData
  | [] => []
  | d :: ds => D.py d :: D.pyL ds
end
mutual
/-- plain data -/
def D.pln : D → Bool
  | .non | .bl _ | .int _ => true
  | .str x => PyData.strOk x
  | .tup ds => D.plnL ds
  | .lst ds => D.plnL ds
  | _ => false
def D.plnL : List D → Bool
  | [] => true
  | d :: ds => D.pln d && D.plnL ds
end
mutual
def D.dep : D → Nat
  | .tup ds => D.depL ds + 1
  | .lst ds => D.depL ds + 1
  | _ => 0
def D.depL : List D → Nat
  | [] => 0
  | d :: ds => max (D.dep d) (D.depL ds)
end
/-- may be compared -/
def D.eqk (d : D) : Bool := d.pln && decide (d.dep ≤ 60)
mutual
theorem eqv_py : ∀ a b : D, a.pln = true → b.pln = true → D.eqv a b = PyData.eqv a.py b.py
  | .non, b, _, h => by cases b <;> simp_all [D.eqv, D.py, PyData.eqv, D.pln]
  | .bl _, b, _, h => by cases b <;> simp_all [D.eqv, D.py, PyData.eqv, D.pln]
  | .int _, b, _, h => by cases b <;> simp_all [D.eqv, D.py, PyData.eqv, D.pln]
  | .str _, b, _, h => by cases b <;> simp_all [D.eqv, D.py, PyData.eqv, D.pln]
  | .tup xs, b, g, h => by
    cases b with
    | tup ys =>
      have g' : D.plnL xs = true := by simpa [D.pln] using g
      have h' : D.plnL ys = true := by simpa [D.pln] using h
      simpa [D.eqv, D.py, PyData.eqv] using eqvL_py xs ys g' h'
    | _ => simp_all [D.eqv, D.py, PyData.eqv, D.pln]
  | .lst xs, b, g, h => by
    cases b with
    | lst ys =>
      have g' : D.plnL xs = true := by simpa [D.pln] using g
      have h' : D.plnL ys = true := by simpa [D.pln] using h
      simpa [D.eqv, D.py, PyData.eqv] using eqvL_py xs ys g' h'
    | _ => simp_all [D.eqv, D.py, PyData.eqv, D.pln]
  | .adr _, _, g, _ => by simp [D.pln] at g
  | .ty _, _, g, _ => by simp [D.pln] at g
  | .dic _ _, _, g, _ => by simp [D.pln] at g
  | .set _, _, g, _ => by simp [D.pln] at g
  | .scr _, _, g, _ => by simp [D.pln] at g
theorem eqvL_py : ∀ a b : List D, D.plnL a = true → D.plnL b = true → D.eqvL a b = PyData.eqvAll (D.pyL a) (D.pyL b)
  | [], [], _, _ => by simp [D.eqvL, D.pyL, PyData.eqvAll]
  | [], _ :: _, _, _ => by simp [D.eqvL, D.pyL, PyData.eqvAll]
  | _ :: _, [], _, _ => by simp [D.eqvL, D.pyL, PyData.eqvAll]
  | x :: xs, y :: ys, g, h => by
    have g' : D.pln x = true ∧ D.plnL xs = true := by simpa [D.plnL] using g
    have h' : D.pln y = true ∧ D.plnL ys = true := by simpa [D.plnL] using h
    simp [D.eqvL, D.pyL, PyData.eqvAll, eqv_py x y g'.1 h'.1, eqvL_py xs ys g'.2 h'.2]
end
mutual
theorem lay_py : ∀ a : D, a.pln = true → a.py.canLay0 = true
  | .non, _ => by simp [D.py, PyData.canLay0]
  | .bl _, _ => by simp [D.py, PyData.canLay0]
  | .int _, _ => by simp [D.py, PyData.canLay0]
  | .str x, h => by simpa [D.py, PyData.canLay0, D.pln] using h
  | .tup xs, h => by simpa [D.py, PyData.canLay0] using layL_py xs (by simpa [D.pln] using h)
  | .lst xs, h => by simpa [D.py, PyData.canLay0] using layL_py xs (by simpa [D.pln] using h)
  | .adr _, g => by simp [D.pln] at g
  | .ty _, g => by simp [D.pln] at g
  | .dic _ _, g => by simp [D.pln] at g
  | .set _, g => by simp [D.pln] at g
  | .scr _, g => by simp [D.pln] at g
theorem layL_py : ∀ a : List D, D.plnL a = true → PyData.canLayAll0 (D.pyL a) = true
  | [], _ => by simp [D.pyL, PyData.canLayAll0]
  | x :: xs, h => by
    have h' : D.pln x = true ∧ D.plnL xs = true := by simpa [D.plnL] using h
    simp [D.pyL, PyData.canLayAll0, lay_py x h'.1, layL_py xs h'.2]
end
mutual
theorem dep_py : ∀ a : D, a.pln = true → a.py.depth = a.dep
  | .non, _ => by simp [D.py, PyData.depth, D.dep]
  | .bl _, _ => by simp [D.py, PyData.depth, D.dep]
  | .int _, _ => by simp [D.py, PyData.depth, D.dep]
  | .str x, h => by simp [D.py, PyData.depth, D.dep]
  | .tup xs, h => by simp [D.py, PyData.depth, D.dep, depL_py xs (by simpa [D.pln] using h)]
  | .lst xs, h => by simp [D.py, PyData.depth, D.dep, depL_py xs (by simpa [D.pln] using h)]
  | .adr _, g => by simp [D.pln] at g
  | .ty _, g => by simp [D.pln] at g
  | .dic _ _, g => by simp [D.pln] at g
  | .set _, g => by simp [D.pln] at g
  | .scr _, g => by simp [D.pln] at g
theorem depL_py : ∀ a : List D, D.plnL a = true → PyData.depthAll (D.pyL a) = D.depL a
  | [], _ => by simp [D.pyL, PyData.depthAll, D.depL]
  | x :: xs, h => by
    have h' : D.pln x = true ∧ D.plnL xs = true := by simpa [D.plnL] using h
    simp [D.pyL, PyData.depthAll, D.depL, dep_py x h'.1, depL_py xs h'.2]
end
theorem eqk_pln {d : D} (h : d.eqk = true) : d.pln = true := (Bool.and_eq_true_iff.mp h).1
theorem eqk_shaped {d : D} (h : d.eqk = true) : SeqAt.shaped d.py = true := by
  have h1 := eqk_pln h
  have h2 : d.dep ≤ 60 := of_decide_eq_true (Bool.and_eq_true_iff.mp h).2
  unfold SeqAt.shaped
  rw [lay_py d h1, dep_py d h1, decide_eq_true (by omega)] <;> rfl
mutual
theorem dp_of {K : PySem.W.Frag} {w : Wd} {S : Sto} {H : Hp} (s : Sim K w S H) : ∀ {d : D} {v : V}, Rp K w.F d v → d.pln = true → Dp K H v d.py
  | _, _, .non, _ => by simp only [D.py]; exact .non
  | _, _, .bl b, _ => by simp only [D.py]; exact .bl b
  | _, _, .int i, _ => by simp only [D.py]; exact .int i
  | _, _, .str x, _ => by simp only [D.py]; exact .str x
  | _, _, .tup h r, p => by simp only [D.py]; exact .tup (s.sqT h) (dpL_of s r (by simpa [D.pln] using p))
  | _, _, .lst h r, p => by simp only [D.py]; exact .lst (.inl (s.rd h)) (dpL_of s r (by simpa [D.pln] using p))
  | _, _, .adr a, p => by simp [D.pln] at p
  | _, _, .ty n, p => by simp [D.pln] at p
  | _, _, .scr _ _, p => by simp [D.pln] at p
theorem dpL_of {K : PySem.W.Frag} {w : Wd} {S : Sto} {H : Hp} (s : Sim K w S H) : ∀ {ds : List D} {vs : List V}, RpL K w.F ds vs → D.plnL ds = true → DpAll K H vs (D.pyL ds)
  | _, _, .nil, _ => by simp only [D.pyL]; exact .nil
  | _, _, .cons h r, p => by
    have p' := (by simpa [D.plnL] using p : D.pln _ = true ∧ D.plnL _ = true)
    simp only [D.pyL]; exact .cons (dp_of s h p'.1) (dpL_of s r p'.2)
end

/-! ### what a name's thing is -/
def getD : Y → Sto → Option D
  | .v d, _ => some d
  | .ref n, S => match S[n]? with
    | some (.lst ds) => some (.lst ds)
    | _ => none
/-- a list's items -/
def getL : Y → Sto → Option (List D)
  | .v (.lst ds), _ => some ds
  | .ref n, S => match S[n]? with
    | some (.lst ds) => some ds
    | _ => none
  | _, _ => none
/-- a list's or a tuple's -/
def getS : Y → Sto → Option (List D)
  | .v (.lst ds), _ => some ds
  | .v (.tup ds), _ => some ds
  | .ref n, S => match S[n]? with
    | some (.lst ds) => some ds
    | _ => none
  | _, _ => none
@[simp] theorem getD_v (d : D) (S : Sto) : getD (.v d) S = some d := rfl
@[simp] theorem getL_v (ds : List D) (S : Sto) : getL (.v (.lst ds)) S = some ds := rfl
@[simp] theorem getS_l (ds : List D) (S : Sto) : getS (.v (.lst ds)) S = some ds := rfl
@[simp] theorem getS_t (ds : List D) (S : Sto) : getS (.v (.tup ds)) S = some ds := rfl
section
variable {K : PySem.W.Frag} {mg : Str → Option Value} {w : Wd} {S : Sto} {H : Hp} {E : XK}
theorem ref_lst (s : Sim K w S H) {n : Nat} {v : V} {ds : List D} (r : RY K w (.ref n) v) (e : S[n]? = some (.lst ds)) : ∃ a xs, v = .ref a ∧ w.io[n]? = some a ∧ H a = some (.lst xs) ∧ RpL K w.F ds xs := by
  obtain ⟨a, ha, rfl⟩ := r
  obtain ⟨⟨xs, h1, h2⟩, _⟩ := s.ob n _ a e ha (by intro z; cases z)
  exact ⟨a, xs, rfl, ha, h1, h2⟩
theorem getL_of (s : Sim K w S H) {y : Y} {v : V} {ds : List D} (r : RY K w y v) (e : getL y S = some ds) : ∃ a xs, v = .ref a ∧ Rd H a (.lst xs) ∧ RpL K w.F ds xs := by
  cases y with
  | ref n =>
    simp only [getL] at e
    split at e
    · rename_i ds' q2
      cases e
      obtain ⟨a, xs, h1, _, h2, h3⟩ := ref_lst s r q2
      exact ⟨a, xs, h1, .inl h2, h3⟩
    · cases e
  | v d =>
    cases d with
    | lst es =>
      cases e
      have r' : Rp K w.F (.lst ds) v := r
      cases r' with
      | lst h q => exact ⟨_, _, rfl, s.rd h, q⟩
    | _ => simp [getL] at e
theorem getS_of (s : Sim K w S H) {y : Y} {v : V} {ds : List D} (r : RY K w y v) (e : getS y S = some ds) : ∃ a xs, v = .ref a ∧ (Rd H a (.lst xs) ∨ SqT K H a xs) ∧ RpL K w.F ds xs := by
  cases y with
  | ref n =>
    simp only [getS] at e
    split at e
    · rename_i ds' q2
      cases e
      obtain ⟨a, xs, h1, _, h2, h3⟩ := ref_lst s r q2
      exact ⟨a, xs, h1, .inl (.inl h2), h3⟩
    · cases e
  | v d =>
    cases d with
    | lst es =>
      cases e
      have r' : Rp K w.F (.lst ds) v := r
      cases r' with
      | lst h q => exact ⟨_, _, rfl, .inl (s.rd h), q⟩
    | tup es =>
      cases e
      have r' : Rp K w.F (.tup ds) v := r
      cases r' with
      | tup h q => exact ⟨_, _, rfl, .inr (s.sqT h), q⟩
    | _ => simp [getS] at e
theorem getD_dp (s : Sim K w S H) {y : Y} {v : V} {d : D} (r : RY K w y v) (e : getD y S = some d) (p : d.pln = true) : Dp K H v d.py := by
  cases y with
  | ref n =>
    unfold getD at e
    dsimp only at e
    split at e
    · rename_i ds' q2
      cases e
      obtain ⟨a, xs, h1, _, h2, h3⟩ := ref_lst s r q2
      subst h1
      simp only [D.py]
      exact .lst (.inl (.inl h2)) (dpL_of s h3 (by simpa [D.pln] using p))
    · cases e
  | v d' =>
    cases e
    exact dp_of s r p

/-! ### new lists and tuples -/
/-- a new list: data (m = false), or a thing of the store -/
def newL (m : Bool) (ds : List D) (S : Sto) : Res Y := if m = true then .ok (.ref S.length) (S ++ [.lst ds]) else .ok (.v (.lst ds)) S
@[simp] theorem newL_f (ds : List D) (S : Sto) : newL false ds S = .ok (.v (.lst ds)) S := rfl
@[simp] theorem newL_t (ds : List D) (S : Sto) : newL true ds S = .ok (.ref S.length) (S ++ [.lst ds]) := rfl
theorem new_lst {m : Bool} {ds : List D} {Q : VK} (s : Sim K w S H) (h : rd K mg E (newL m ds S) w (RY K) Q) {p : Addr} {xs : List V} (hp : H p = none) (r : RpL K w.F ds xs) : Q (.ref p) (upd H p (.lst xs)) := by
  cases m with
  | false =>
    refine rd_okLe h (Wd.le.froze (s.freshF hp)) (s.newF hp) ?_
    exact Rp.lst (.inl upd_same) (r.mono (le_upd (s.freshF hp)))
  | true =>
    refine rd_okLe h Wd.le.newO (s.newO (t := .lst ds) hp fun _ => ⟨xs, upd_same, r⟩) ?_
    exact ⟨p, by rw [← s.len]; simp, rfl⟩
theorem new_tup {ds : List D} {Q : VK} (s : Sim K w S H) (h : rd K mg E (.ok (.v (.tup ds)) S) w (RY K) Q) {p : Addr} {xs : List V} (hp : H p = none) (r : RpL K w.F ds xs) : Q (.ref p) (upd H p (.tup xs)) := by
  refine rd_okLe h (Wd.le.froze (s.freshF hp)) (s.newF hp) ?_
  exact Rp.tup (.inl (.inl upd_same)) (r.mono (le_upd (s.freshF hp)))
end

/-! ### binary operators -/
def OpS (X : Cx) (sem : Y → Y → Sto → Res Y) (r : R2) : Prop :=
  ∀ (E : XK) (w : Wd) (S : Sto) (H : Hp) (x y : Y) (v u : V) (Q : VK), Sim X.K w S H → RY X.K w x v → RY X.K w y u → rd X.K X.mg E (sem x y S) w (RY X.K) Q → r v u H Q
def fBin (sem : Y → Y → Sto → Res Y) (f g : FE Y) : FE Y := fun env S => (f env S).bind fun x S1 => (g env S1).bind fun y S2 => sem x y S2
section
variable {X : Cx} {W : WX} {a b : Expr} {f g : FE Y} {pos : Pos}
theorem bin_read {sem : Y → Y → Sto → Res Y} {r : R2} (hs : OpS X sem r) (σ : L2.St) (H : Hp) (Q : VK) (h : tE X W (fBin sem f g) σ H Q) : tOp r (tE X W f) (tE X W g) σ H Q := by
  obtain ⟨w, env, S, he, s, h⟩ := h
  refine ⟨w, env, S, he, s, rd_bind h fun x S1 w1 v H1 l1 s1 r1 h1 => ⟨w1, env, S1, he.mono l1, s1, rd_bind h1 fun y S2 w2 u H2 l2 s2 r2 h2 => ?_⟩⟩
  exact hs _ w2 S2 H2 x y v u Q s2 (r1.mono l2) r2 h2
theorem re_bin {op : Operator} {sem : Y → Y → Sto → Res Y} {r : R2} (ho : OpR X (binaryOp op) r) (hs : OpS X sem r) (ha : RE X W a f) (hb : RE X W b g) : RE X W (.BinOp a op b pos) (fBin sem f g) :=
  weakPE (pe_op ho ha hb) fun σ H Q h => bin_read hs σ H Q h
theorem re_cmp {op : CmpOp} {sem : Y → Y → Sto → Res Y} {r : R2} (ho : OpR X (compareOp op) r) (hs : OpS X sem r) (hm : behindInMarks op b = false) (ha : RE X W a f) (hb : RE X W b g) : RE X W (.Compare a [op] [b] pos) (fBin sem f g) :=
  weakPE (pe_cmpR ho ha hb hm) fun σ H Q h => bin_read hs σ H Q h
def asB (r : Res Y) : Res Bool := r.bind fun y S => match y with
  | .v (.bl b) => .ok b S
  | _ => .bad
def fTest (f : FE Y) : FE Bool := fun env S => asB (f env S)
theorem test_read {t : TE} {f : FE Y} (hr : ∀ σ H Q, tE X W f σ H Q → t σ H Q) (σ : L2.St) (H : Hp) (Q : Bool → Hp → Prop) (h : tT X W (fTest f) σ H Q) : tTest t σ H Q := by
  obtain ⟨w, env, S, he, s, h⟩ := h
  refine hr _ _ _ ⟨w, env, S, he, s, rd_bind h fun x S1 w1 v H1 l1 s1 r1 h1 => ?_⟩
  cases x with
  | v d =>
    cases d with
    | bl k =>
      have r' : Rp X.K w1.F (.bl k) v := r1
      cases r'
      exact ⟨k, rfl, rd_ok (v := k) h1 s1 rfl⟩
    | _ => exact h1.elim
  | ref n => exact h1.elim
theorem rt_cmp {op : CmpOp} {sem : Y → Y → Sto → Res Y} {r : R2} (ho : OpR X (compareOp op) r) (hs : OpS X sem r) (hm : behindInMarks op b = false) (ha : RE X W a f) (hb : RE X W b g) : RT X W (.Compare a [op] [b] pos) (fTest (fBin sem f g)) :=
  weakPT (pt_cmpR ho ha hb hm) fun σ H Q h => test_read (fun σ H Q h => bin_read hs σ H Q h) σ H Q h
end

/-! ### ints and their kin -/
def okMul (i j : Int) : Bool := decide (i.natAbs < 18446744073709551616) || decide (j.natAbs < 18446744073709551616) || decide (i.natAbs.log2 + j.natAbs.log2 < 1000000)
def okDiv (j : Int) : Bool := decide (j ≠ 0 ∧ j.natAbs < 1073741824) || decide (0 < j ∧ j.natAbs.log2 < 9000)
def okLen (n : Nat) : Bool := decide (n ≤ 16777216)
def sAdd (m : Bool) : Y → Y → Sto → Res Y
  | .v (.int i), .v (.int j), S => .ok (.v (.int (i + j))) S
  | .v (.tup a), .v (.tup b), S => if okLen (a.length + b.length) = true then .ok (.v (.tup (a ++ b))) S else .bad
  | .v (.str a), .v (.str b), S => if okLen (a.length + b.length) = true then .ok (.v (.str (a ++ b))) S else .bad
  | x, y, S => match getL x S, getL y S with
    | some a, some b => if okLen (a.length + b.length) = true then newL m (a ++ b) S else .bad
    | _, _ => .bad
def sSub : Y → Y → Sto → Res Y
  | .v (.int i), .v (.int j), S => .ok (.v (.int (i - j))) S
  | _, _, _ => .bad
/-- k copies -/
def rep {α : Type} (k : Int) (a : List α) : List α := (List.replicate k.toNat a).flatten
def okRep (k : Int) (n : Nat) : Bool := decide (-(2 ^ 31) ≤ k ∧ k < 2 ^ 31) && okLen (n * k.toNat)
def sMul (m : Bool) : Y → Y → Sto → Res Y
  | .v (.int i), .v (.int j), S => if okMul i j = true then .ok (.v (.int (i * j))) S else .bad
  | .v (.tup a), .v (.int k), S => if okRep k a.length = true then .ok (.v (.tup (rep k a))) S else .bad
  | x, .v (.int k), S => match getL x S with
    | some a => if okRep k a.length = true then newL m (rep k a) S else .bad
    | none => .bad
  | _, _, _ => .bad
def sFdiv : Y → Y → Sto → Res Y
  | .v (.int i), .v (.int j), S => if okDiv j = true then .ok (.v (.int (i.fdiv j))) S else .bad
  | _, _, _ => .bad
def sMod : Y → Y → Sto → Res Y
  | .v (.int i), .v (.int j), S => if j = 0 then .bad else .ok (.v (.int (i.fmod j))) S
  | _, _, _ => .bad
def sPow : Y → Y → Sto → Res Y
  | .v (.int i), .v (.int j), S => if 0 ≤ j ∧ j ≤ 1000000 ∧ i.natAbs < 18446744073709551616 then .ok (.v (.int (i ^ j.toNat))) S else .bad
  | _, _, _ => .bad
def sLt : Y → Y → Sto → Res Y
  | .v (.int i), .v (.int j), S => .ok (.v (.bl (decide (i < j)))) S
  | _, _, _ => .bad
def sLe : Y → Y → Sto → Res Y
  | .v (.int i), .v (.int j), S => .ok (.v (.bl (decide (i ≤ j)))) S
  | _, _, _ => .bad
def sGt : Y → Y → Sto → Res Y
  | .v (.int i), .v (.int j), S => .ok (.v (.bl (decide (j < i)))) S
  | _, _, _ => .bad
def sGe : Y → Y → Sto → Res Y
  | .v (.int i), .v (.int j), S => .ok (.v (.bl (decide (j ≤ i)))) S
  | _, _, _ => .bad
def sEq : Y → Y → Sto → Res Y := fun x y S => match getD x S, getD y S with
  | some a, some b => if a.eqk = true ∧ b.eqk = true then .ok (.v (.bl (D.eqv a b))) S else .bad
  | _, _ => .bad
def sNe : Y → Y → Sto → Res Y := fun x y S => match getD x S, getD y S with
  | some a, some b => if a.eqk = true ∧ b.eqk = true then .ok (.v (.bl (!D.eqv a b))) S else .bad
  | _, _ => .bad
/-- is, of None, True, False -/
def sIs (n : Bool) : Y → Y → Sto → Res Y
  | .v .non, .v .non, S => .ok (.v (.bl (!n))) S
  | _, .v .non, S => .ok (.v (.bl n)) S
  | .v (.bl a), .v (.bl b), S => .ok (.v (.bl (xor n (a == b)))) S
  | _, .v (.bl _), S => .ok (.v (.bl n)) S
  | _, _, _ => .bad
def D.mem (x : D) (ds : List D) : Bool := ds.any fun z => D.eqv z x
def sIn (n : Bool) : Y → Y → Sto → Res Y := fun x y S => match getD x S, getS y S with
  | some a, some b => if a.eqk = true ∧ (D.tup b).eqk = true then .ok (.v (.bl (xor n (D.mem a b)))) S else .bad
  | _, _ => .bad

theorem any_py (x : D) (hx : x.pln = true) : ∀ ds : List D, D.plnL ds = true → ((D.pyL ds).any fun z => PyData.eqv z x.py) = D.mem x ds
  | [], _ => by simp [D.pyL, D.mem]
  | d :: ds, h => by
    have h' : D.pln d = true ∧ D.plnL ds = true := by simpa [D.plnL] using h
    have ih := any_py x hx ds h'.2
    simp only [D.pyL, List.any_cons, ih]
    simp [D.mem, eqv_py d x h'.1 hx]

section
variable {X : Cx}
theorem len_ok {n : Nat} (h : okLen n = true) : n ≤ sizeLine := by
  unfold okLen at h
  rw [sizeLine_eq]
  exact of_decide_eq_true h
/-- a list that may be locked -/
theorem lst_obj {pins : List (Addr × Obj)} {σ : L2.St} {H : Hp} {s : Shared} {a : Addr} {xs : List V} (I : Inv X pins σ H s) (h : Rd H a (.lst xs)) :
    xs.length ≤ sizeLine ∧ ∃ (its : List Value) (n : Nat), Vals xs its ∧ xs.length = its.length ∧ s.heap.get? a = some { cls := .type "list", data := .seq its.toArray n } := by
  obtain ⟨z, its, n, r, e⟩ := h.ok I.hok
  exact ⟨z, its, n, r, r.length, e⟩
def rCatR : R2 := fun x y H Q => ∃ l b xs zs, x = .ref l ∧ y = .ref b ∧ Rd H l (.lst xs) ∧ Rd H b (.lst zs) ∧ xs.length + zs.length ≤ sizeLine ∧ ∀ p, H p = none → Q (.ref p) (upd H p (.lst (xs ++ zs)))
theorem op_catR : OpR X (binaryOp .Add) rCatR := by
  intro pins s σ H x y v u Q I rx ry h
  obtain ⟨l, b, xs, zs, rfl, rfl, hH, hB, hz, q⟩ := h
  cases rx
  cases ry
  obtain ⟨z, its, n, r, hl, e⟩ := lst_obj I hH
  obtain ⟨z2, its2, n2, r2, hl2, e2⟩ := lst_obj I hB
  refine PySem.P.add_list e e2 ?_ (by rw [List.size_toArray, List.size_toArray]; omega)
  have ea : its.toArray ++ its2.toArray = (its ++ its2).toArray := by simp
  rw [ea]
  exact ⟨.ref _, _, I.lnew (t' := s.toks) (r.append r2) (by rw [List.length_append]; omega), rfl, q _ I.fresh⟩
def rAddX (K : PySem.W.Frag) : R2 := fun x y H Q => (rI0 (fun i j => .int (i + j)) x y H Q) ∨ (rCatA K x y H Q) ∨ ((∃ i j, x = .str i ∧ y = .str j ∧ i.length + j.length ≤ sizeLine ∧ Q (.str (i ++ j)) H)) ∨ rCatR x y H Q
theorem op_addX : OpR X (binaryOp .Add) (rAddX X.K) := op_add.or (op_catA.or (op_add_str.or op_catR))
theorem sAdd_ok (m : Bool) : OpS X (sAdd m) (rAddX X.K) := by
  intro E w S H x y v u Q s rx ry h
  have lists : ∀ {x y : Y}, RY X.K w x v → RY X.K w y u → rd X.K X.mg E (match getL x S, getL y S with
    | some a, some b => if okLen (a.length + b.length) = true then newL m (a ++ b) S else .bad
    | _, _ => .bad) w (RY X.K) Q → rCatR v u H Q := by
    intro x y rx ry h
    cases e1 : getL x S with
    | none => rw [e1] at h; exact h.elim
    | some a =>
      cases e2 : getL y S with
      | none => rw [e1, e2] at h; exact h.elim
      | some b =>
        rw [e1, e2] at h
        dsimp only at h
        split at h
        · rename_i hl
          obtain ⟨p, xs, rfl, h1, q1⟩ := getL_of s rx e1
          obtain ⟨p2, ys, rfl, h2, q2⟩ := getL_of s ry e2
          refine ⟨p, p2, xs, ys, rfl, rfl, h1, h2, ?_, fun q hq => new_lst s h hq (q1.append q2)⟩
          rw [← q1.length, ← q2.length]; exact len_ok hl
        · exact h.elim
  unfold sAdd at h
  split at h
  · cases rx; cases ry
    exact .inl ⟨_, _, rfl, rfl, rd_ok h s (.int _)⟩
  · rename_i a b
    split at h
    · rename_i hl
      refine .inr (.inl ?_)
      have rx' : Rp X.K w.F (.tup a) v := rx
      have ry' : Rp X.K w.F (.tup b) u := ry
      cases rx' with
      | tup h1 q1 =>
        cases ry' with
        | tup h2 q2 =>
          refine ⟨_, _, _, _, rfl, rfl, s.sqT h1, s.sqT h2, ?_, fun e => ?_, fun ne e => ?_, fun _ _ p hp => new_tup s h hp (q1.append q2)⟩
          · rw [← q1.length, ← q2.length]; exact len_ok hl
          · subst e
            cases q1
            exact rd_ok h s (Rp.tup h2 q2)
          · subst e
            cases q2
            refine rd_ok h s (Rp.tup h1 ?_)
            rw [List.append_nil]; exact q1
    · exact h.elim
  · rename_i a b
    split at h
    · rename_i hl
      cases rx; cases ry
      exact .inr (.inr (.inl ⟨_, _, rfl, rfl, len_ok hl, rd_ok h s (.str _)⟩))
    · exact h.elim
  · exact .inr (.inr (.inr (lists rx ry h)))
theorem sSub_ok : OpS X sSub (rI0 fun i j => .int (i - j)) := by
  intro E w S H x y v u Q s rx ry h
  unfold sSub at h
  split at h
  · cases rx; cases ry
    exact ⟨_, _, rfl, rfl, rd_ok h s (.int _)⟩
  · exact h.elim
theorem op_mulX : OpR X (binaryOp .Mult) (rI (fun i j => okMul i j = true) fun i j => .int (i * j)) := opI fun i j _ _ _ _ _ hc q => by
  unfold okMul at hc
  simp only [Bool.or_eq_true, decide_eq_true_eq] at hc
  rcases hc with (hc | hc) | hc
  · exact mul_int q (.of_left (intBits_le_64 (by omega) (by omega)))
  · exact mul_int q (.of_right (intBits_le_64 (by omega) (by omega)))
  · exact mul_int q (CMulW.ok hc)
theorem op_fdivX : OpR X (binaryOp .FloorDiv) (rI (fun _ j => okDiv j = true) fun i j => .int (i.fdiv j)) := by
  intro pins s σ H x y v u Q I rx ry h
  obtain ⟨i, j, rfl, rfl, hc, q⟩ := h
  unfold okDiv at hc
  simp only [Bool.or_eq_true, decide_eq_true_eq] at hc
  rcases hc with hc | hc
  · exact op_fdivN pins s σ H _ _ v u Q I rx ry ⟨i, j, rfl, rfl, hc, q⟩
  · refine op_fdivW pins s σ H _ _ v u Q I rx ry ⟨i, j, rfl, rfl, hc, ?_⟩
    have e : i.fdiv j = i / j := Int.fdiv_eq_ediv_of_nonneg _ (Int.le_of_lt hc.1)
    have q' : Q (.int (i.fdiv j)) H := q
    rw [e] at q'
    exact q'
theorem sFdiv_ok : OpS X sFdiv (rI (fun _ j => okDiv j = true) fun i j => .int (i.fdiv j)) := by
  intro E w S H x y v u Q s rx ry h
  unfold sFdiv at h
  split at h
  · split at h
    · rename_i hc
      cases rx; cases ry
      exact ⟨_, _, rfl, rfl, hc, rd_ok h s (.int _)⟩
    · exact h.elim
  · exact h.elim
theorem sMod_ok : OpS X sMod (rI (fun _ j => j ≠ 0) fun i j => .int (i.fmod j)) := by
  intro E w S H x y v u Q s rx ry h
  unfold sMod at h
  split at h
  · split at h
    · exact h.elim
    · rename_i hc
      cases rx; cases ry
      exact ⟨_, _, rfl, rfl, hc, rd_ok h s (.int _)⟩
  · exact h.elim
theorem sPow_ok : OpS X sPow (rI CPow fun i j => .int (i ^ j.toNat)) := by
  intro E w S H x y v u Q s rx ry h
  unfold sPow at h
  split at h
  · split at h
    · rename_i hc
      cases rx; cases ry
      exact ⟨_, _, rfl, rfl, ⟨hc.1, hc.2.1, by have := hc.2.2; omega⟩, rd_ok h s (.int _)⟩
    · exact h.elim
  · exact h.elim
theorem cmp_ok {g : Int → Int → Bool} {sem : Y → Y → Sto → Res Y} (hs : ∀ x y S, (∃ i j, x = .v (.int i) ∧ y = .v (.int j) ∧ sem x y S = .ok (.v (.bl (g i j))) S) ∨ sem x y S = .bad) : OpS X sem (rI0 fun i j => .bl (g i j)) := by
  intro E w S H x y v u Q s rx ry h
  rcases hs x y S with ⟨i, j, rfl, rfl, e⟩ | e
  · rw [e] at h
    cases rx; cases ry
    exact ⟨_, _, rfl, rfl, rd_ok h s (.bl _)⟩
  · rw [e] at h; exact h.elim
theorem sLt_ok : OpS X sLt (rI0 fun i j => .bl (decide (i < j))) := cmp_ok fun x y S => by unfold sLt; split <;> simp
theorem sLe_ok : OpS X sLe (rI0 fun i j => .bl (decide (i ≤ j))) := cmp_ok fun x y S => by unfold sLe; split <;> simp
theorem sGt_ok : OpS X sGt (rI0 fun i j => .bl (decide (j < i))) := cmp_ok fun x y S => by unfold sGt; split <;> simp
theorem sGe_ok : OpS X sGe (rI0 fun i j => .bl (decide (j ≤ i))) := cmp_ok fun x y S => by unfold sGe; split <;> simp
theorem sEq_ok : OpS X sEq (rEqD X.K) := by
  intro E w S H x y v u Q s rx ry h
  unfold sEq at h
  cases e1 : getD x S with
  | none => rw [e1] at h; exact h.elim
  | some a =>
    cases e2 : getD y S with
    | none => rw [e1, e2] at h; exact h.elim
    | some b =>
      rw [e1, e2] at h
      dsimp only at h
      split at h
      · rename_i hc
        refine ⟨_, _, getD_dp s rx e1 (eqk_pln hc.1), getD_dp s ry e2 (eqk_pln hc.2), eqk_shaped hc.1, eqk_shaped hc.2, ?_⟩
        rw [← eqv_py a b (eqk_pln hc.1) (eqk_pln hc.2)]
        exact rd_ok h s (.bl _)
      · exact h.elim
theorem sNe_ok : OpS X sNe (rNeD X.K) := by
  intro E w S H x y v u Q s rx ry h
  unfold sNe at h
  cases e1 : getD x S with
  | none => rw [e1] at h; exact h.elim
  | some a =>
    cases e2 : getD y S with
    | none => rw [e1, e2] at h; exact h.elim
    | some b =>
      rw [e1, e2] at h
      dsimp only at h
      split at h
      · rename_i hc
        refine ⟨_, _, getD_dp s rx e1 (eqk_pln hc.1), getD_dp s ry e2 (eqk_pln hc.2), eqk_shaped hc.1, eqk_shaped hc.2, ?_⟩
        rw [← eqv_py a b (eqk_pln hc.1) (eqk_pln hc.2)]
        exact rd_ok h s (.bl _)
      · exact h.elim
end
end Sg

/-! Q2b: tuple * int, in, is, minus, not -/
namespace L2
open PySem PySem.Spec PyProof.Rows HT
open PySem.AutoSeq1 (wpAny_loadPart')
theorem tuple_mulSame (l : Addr) (items : Array Value) (n : Nat) (dd : Option Addr) (sl : Array (Option Value)) (x : Int) (u : Tok) (c0 : (decide (x < -(2 ^ 63)) || decide (x ≥ 2 ^ 63)) = false) (c1 : (items.isEmpty || x == 1) = true) :
    Meets (Builtin.«tuple.__mul__» ⟨[.ref l, .int x u], []⟩) (fun _ R s => s.heap.get? l = some { cls := .type "tuple", dict := dd, data := .seq items n, slots := sl } ∧ R (.ok (.ret (Value.ref l))) s) :=
  .of_wp fun prog w A R s h => by
    obtain ⟨hp, g, d, tk, os⟩ := s
    obtain ⟨hl, h⟩ := h
    have f1 := AutoSeq1.idx_int
    wp_walk using wpAny_loadPart' hl
    repeat (first
      | (refine wpAny_ite_false (decide_eq_false (by rw [c0]; exact Bool.false_ne_true)) ?_; wp_walk using wpAny_loadPart' hl)
      | (refine wpAny_ite_true (decide_eq_true c1) ?_; wp_walk using wpAny_loadPart' hl))
    all_goals exact ⟨_, rfl, h⟩
theorem tuple_mulNone (l : Addr) (items : Array Value) (n : Nat) (dd : Option Addr) (sl : Array (Option Value)) (x : Int) (u : Tok) (c0 : (decide (x < -(2 ^ 63)) || decide (x ≥ 2 ^ 63)) = false) (c1 : (items.isEmpty || x == 1) = false) (c2 : (decide (x ≤ 0) || items.isEmpty) = true) :
    Meets (Builtin.«tuple.__mul__» ⟨[.ref l, .int x u], []⟩) (fun _ R s => s.heap.get? l = some { cls := .type "tuple", dict := dd, data := .seq items n, slots := sl } ∧
      R (.ok (.ret (Value.ref s.heap.objs.size))) { s with heap := s.heap.push { cls := Value.type "tuple", data := Data.seq #[] }, toks := s.toks }) :=
  .of_wp fun prog w A R s h => by
    obtain ⟨hp, g, d, tk, os⟩ := s
    obtain ⟨hl, h⟩ := h
    have f1 := AutoSeq1.idx_int
    wp_walk using wpAny_loadPart' hl
    repeat (first
      | (refine wpAny_ite_false (decide_eq_false (by rw [c0]; exact Bool.false_ne_true)) ?_; wp_walk using wpAny_loadPart' hl)
      | (refine wpAny_ite_false (decide_eq_false (by rw [c1]; exact Bool.false_ne_true)) ?_; wp_walk using wpAny_loadPart' hl)
      | (refine wpAny_ite_true (decide_eq_true c2) ?_; wp_walk using wpAny_loadPart' hl)
      | (refine wpAny_ite_false (decide_eq_false (by simp [sizeLine_eq])) ?_; wp_walk using wpAny_loadPart' hl))
    all_goals exact ⟨_, rfl, h⟩
def rRepA (K : PySem.W.Frag) : R2 := fun x y H Q => ∃ l k xs, x = .ref l ∧ y = .int k ∧ SqT K H l xs ∧ -(2 ^ 31) ≤ k ∧ k < 2 ^ 31 ∧ xs.length * k.toNat ≤ sizeLine ∧
  ((xs = [] ∨ k = 1) → Q (.ref l) H) ∧ (¬ (xs = [] ∨ k = 1) → ∀ p, H p = none → Q (.ref p) (upd H p (.tup (List.replicate k.toNat xs).flatten)))
theorem op_repA {X : Cx} : OpR X (binaryOp .Mult) (rRepA X.K) := by
  intro pins s σ H x y v u Q I rx ry h
  obtain ⟨l, k, xs, rfl, rfl, hT, h1, h2, hz, q1, q2⟩ := h
  cases rx
  obtain ⟨t, rfl⟩ := ry
  obtain ⟨its, r, ⟨⟨cls, dd, data, sl⟩, ho, hc, n, hd⟩, hs⟩ := I.tuple hT
  simp only at hc hd
  subst hc hd
  have hle : its.length = xs.length := r.length.symm
  have c0 : (decide (k < -(2 ^ 63)) || decide (k ≥ 2 ^ 63)) = false := by
    rw [decide_eq_false (by omega), decide_eq_false (by omega)] <;> rfl
  have road : ∀ {R : Value → Shared → Prop}, codeAny (model X.prog X.w) X.A (.builtin "tuple.__mul__" ⟨[.ref l, .int k t], []⟩) (fun r s' => ∃ v, r = .ok (.ret v) ∧ R v s') s → True := fun _ => trivial
  by_cases hq : xs = [] ∨ k = 1
  · have c1 : (its.toArray.isEmpty || k == 1) = true := by
      rcases hq with e | e
      · have : its = [] := List.eq_nil_of_length_eq_zero (by rw [hle, e] <;> rfl)
        subst this; simp
      · subst e; simp
    refine wpAny_binaryOp_repeat_ref (T := "tuple") (U := "int") (by decide) ⟨_, ho, rfl⟩ (fun s' => typeIs_int s' k t) noFill_tuple_mul F.fills_int_mul F.slot_int_rmul repeat_tuple F.slot_int_index.lookup
      (call_meets F.slot_int_rmul (typeIs_int s k t) F.entry_int_rmul (F.args_int_rmul_2 _ _) (int_rmul_tuple k t l its.toArray n dd sl)
        ⟨ho, rfl, ⟨_, ho, rfl⟩, call_meets F.slot_tuple_mul ⟨_, ho, rfl⟩ F.entry_tuple_mul (F.args_tuple_mul_2 _ _) (tuple_mulSame l its.toArray n dd sl k t c0 c1) ⟨ho, ?_⟩⟩)
    exact ⟨.ref l, H, I, rfl, q1 hq⟩
  · have hne : xs ≠ [] := fun e => hq (.inl e)
    have hk : k ≠ 1 := fun e => hq (.inr e)
    have hi : its.toArray.isEmpty = false := by
      cases its with
      | nil => exact absurd (List.eq_nil_of_length_eq_zero hle.symm) hne
      | cons a b => rfl
    have c1 : (its.toArray.isEmpty || k == 1) = false := by
      rw [hi, Bool.false_or]
      exact beq_eq_false_iff_ne.mpr hk
    by_cases hk0 : k ≤ 0
    · have c2 : (decide (k ≤ 0) || its.toArray.isEmpty) = true := by rw [decide_eq_true hk0] <;> rfl
      refine wpAny_binaryOp_repeat_ref (T := "tuple") (U := "int") (by decide) ⟨_, ho, rfl⟩ (fun s' => typeIs_int s' k t) noFill_tuple_mul F.fills_int_mul F.slot_int_rmul repeat_tuple F.slot_int_index.lookup
        (call_meets F.slot_int_rmul (typeIs_int s k t) F.entry_int_rmul (F.args_int_rmul_2 _ _) (int_rmul_tuple k t l its.toArray n dd sl)
          ⟨ho, rfl, ⟨_, ho, rfl⟩, call_meets F.slot_tuple_mul ⟨_, ho, rfl⟩ F.entry_tuple_mul (F.args_tuple_mul_2 _ _) (tuple_mulNone l its.toArray n dd sl k t c0 c1 c2) ⟨ho, ?_⟩⟩)
      have e0 : k.toNat = 0 := by omega
      have q3 := q2 hq _ I.fresh
      rw [e0] at q3
      refine ⟨.ref _, _, I.laid (t' := s.toks) (o := .tup []) (fun b ob q => Heap.get?_push_of_some _ q) (Nat.le_refl _) ?_, rfl, q3⟩
      exact ⟨Nat.zero_le _, [], .nil, ⟨_, Heap.get?_push_size _ rfl, rfl, _, rfl⟩⟩
    · have hsz0 : its.toArray.size = xs.length := by rw [List.size_toArray, hle]
      have flen : (List.replicate k.toNat its).flatten.length ≤ sizeLine := by
        rw [PyProof.Rows.lm_len_rep_flat, hle, Nat.mul_comm]
        exact hz
      have hm : ((its.toArray.size : Nat) : Int) * k ≤ 16777216 := by
        rw [sizeLine_eq] at hz
        have e : (k : Int) = ((k.toNat : Nat) : Int) := by omega
        rw [hsz0, e, ← Int.natCast_mul]
        omega
      have c2 : (decide (k ≤ 0) || its.toArray.isEmpty) = false := by
        rw [hi, Bool.or_false]
        exact decide_eq_false hk0
      have c4 : Builtin.Tuple.tupleTooMany (((its.toArray.size : Nat) : Int) * k) = false := by
        unfold Builtin.Tuple.tupleTooMany
        rw [sizeLine_eq]
        exact decide_eq_false (by omega)
      refine wpAny_binaryOp_repeat_ref (T := "tuple") (U := "int") (by decide) ⟨_, ho, rfl⟩ (fun s' => typeIs_int s' k t) noFill_tuple_mul F.fills_int_mul F.slot_int_rmul repeat_tuple F.slot_int_index.lookup
        (call_meets F.slot_int_rmul (typeIs_int s k t) F.entry_int_rmul (F.args_int_rmul_2 _ _) (int_rmul_tuple k t l its.toArray n dd sl)
          ⟨ho, rfl, ⟨_, ho, rfl⟩, call_meets F.slot_tuple_mul ⟨_, ho, rfl⟩ F.entry_tuple_mul (F.args_tuple_mul_2 _ _) (tuple_mulW l its.toArray n dd sl k t c0 c1 c2 (by omega) c4 (by rw [size_rep, List.size_toArray]; exact flen)) ⟨ho, ?_⟩⟩)
      rw [size_rep]
      refine ⟨.ref _, _, I.laid (t' := s.toks) (o := .tup (List.replicate k.toNat xs).flatten) (fun b ob q => Heap.get?_push_of_some _ q) (Nat.le_refl _) ?_, rfl, q2 hq _ I.fresh⟩
      refine ⟨?_, _, r.rep k.toNat, ⟨_, Heap.get?_push_size _ rfl, rfl, _, rfl⟩⟩
      rw [PyProof.Rows.lm_len_rep_flat, Nat.mul_comm]; exact hz
end L2
namespace Sg
open PySem PySem.Spec PyProof.Rows L2
/-- a list that may be locked, times an int -/
def rRepR : R2 := fun x y H Q => ∃ l k xs, x = .ref l ∧ y = .int k ∧ Rd H l (.lst xs) ∧ -(2 ^ 63) ≤ k ∧ k < 2 ^ 63 ∧ xs.length * k.toNat ≤ sizeLine ∧
  ∀ p, H p = none → Q (.ref p) (upd H p (.lst (List.replicate k.toNat xs).flatten))
theorem op_repR {X : Cx} : OpR X (binaryOp .Mult) rRepR := by
  intro pins s σ H x y v u Q I rx ry h
  obtain ⟨l, k, xs, rfl, rfl, hH, h1, h2, hz, q⟩ := h
  cases rx
  obtain ⟨t, rfl⟩ := ry
  obtain ⟨z, its, n, r, hl, e⟩ := lst_obj I hH
  have hlen : its.toArray.size * k.toNat ≤ sizeLine := by rw [List.size_toArray, ← hl]; exact hz
  have hcap : ¬ its.toArray.size * k.toNat > (2 ^ 63 - 1) / 8 := by
    have : (sizeLine : Nat) ≤ (2 ^ 63 - 1) / 8 := by decide
    omega
  have hfit : ¬ (!Builtin.List.listFitsIndex k) = true := by
    rw [fitsIndex_both h1 h2]
    exact Bool.false_ne_true
  have hlong : ¬ Builtin.List.listTooLong (its.toArray.size * k.toNat) = true := by
    rw [notLongL hlen]
    exact Bool.false_ne_true
  have hnew : List.foldl (fun x1 x2 => x1 ++ x2) #[] (List.replicate (if its.toArray.isEmpty = true then 0 else k.toNat) its.toArray) = (List.replicate k.toNat its).flatten.toArray := by
    rw [size_rep]
    cases its with
    | nil => simp
    | cons a r' => rw [if_neg (by simp)]
  refine wpAny_binaryOp_repeat_ref (T := "list") (U := "int") (by decide) ⟨_, e, rfl⟩ (fun s' => typeIs_int s' k t) noFill_list_mul F.fills_int_mul F.slot_int_rmul repeat_list F.slot_int_index.lookup
    (call_meets F.slot_int_rmul (typeIs_int s k t) F.entry_int_rmul (F.args_int_rmul_2 _ _) (int___rmul___int_list k t l its.toArray n)
      ⟨e, rfl, ⟨_, e, rfl⟩, call_meets F.slot_list_mul ⟨_, e, rfl⟩ F.entry_list_mul (F.args_list_mul_2 _ _) (AutoListH.list___mul___list_int_3 l its.toArray n k t hfit hcap hlong) ⟨e, ?_⟩⟩)
  rw [hnew]
  exact ⟨.ref _, _, I.lnew (t' := s.toks) (r.rep k.toNat) (by rw [PyProof.Rows.lm_len_rep_flat, Nat.mul_comm]; exact hz), rfl, q _ I.fresh⟩
theorem RpL.rep {K : PySem.W.Frag} {F : Hp} {ds : List D} {vs : List V} (h : RpL K F ds vs) : ∀ n : Nat, RpL K F (List.replicate n ds).flatten (List.replicate n vs).flatten
  | 0 => .nil
  | n + 1 => by
    rw [List.replicate_succ, List.replicate_succ, List.flatten_cons, List.flatten_cons]
    exact h.append (RpL.rep h n)
def rMulX (K : PySem.W.Frag) : R2 := fun x y H Q => rI (fun i j => okMul i j = true) (fun i j => .int (i * j)) x y H Q ∨ rRepA K x y H Q ∨ rRepR x y H Q
theorem op_mulA {X : Cx} : OpR X (binaryOp .Mult) (rMulX X.K) := op_mulX.or (op_repA.or op_repR)
theorem okRep_of {k : Int} {n : Nat} (h : okRep k n = true) : -(2 ^ 31) ≤ k ∧ k < 2 ^ 31 ∧ n * k.toNat ≤ sizeLine := by
  unfold okRep at h
  simp only [Bool.and_eq_true, decide_eq_true_eq] at h
  exact ⟨h.1.1, h.1.2, len_ok h.2⟩
theorem sMul_ok {X : Cx} (m : Bool) : OpS X (sMul m) (rMulX X.K) := by
  intro E w S H x y v u Q s rx ry h
  unfold sMul at h
  split at h
  · split at h
    · rename_i hc
      cases rx; cases ry
      exact .inl ⟨_, _, rfl, rfl, hc, rd_ok h s (.int _)⟩
    · exact h.elim
  · rename_i a k
    split at h
    · rename_i hc
      obtain ⟨k1, k2, k3⟩ := okRep_of hc
      cases ry
      have rx' : Rp X.K w.F (.tup a) v := rx
      cases rx' with
      | tup h1 q1 =>
        refine .inr (.inl ⟨_, _, _, rfl, rfl, s.sqT h1, k1, k2, by rw [← q1.length]; exact k3, fun e => ?_, fun _ p hp => new_tup s h hp (q1.rep k.toNat)⟩)
        refine rd_ok h s (Rp.tup h1 ?_)
        rcases e with e | e
        · subst e
          have e2 : a = [] := List.eq_nil_of_length_eq_zero q1.length
          subst e2
          have e3 : rep k ([] : List D) = [] := by unfold Sg.rep; simp
          rw [e3]; exact .nil
        · subst e
          have e3 : rep 1 a = a := by unfold Sg.rep; simp
          rw [e3]; exact q1
    · exact h.elim
  · rename_i k _ _
    split at h
    · rename_i a e1
      split at h
      · rename_i hc
        obtain ⟨k1, k2, k3⟩ := okRep_of hc
        obtain ⟨p, xs, rfl, h1, q1⟩ := getL_of s rx e1
        cases ry
        exact .inr (.inr ⟨_, _, _, rfl, rfl, h1, by omega, by omega, by rw [← q1.length]; exact k3, fun p hp => new_lst s h hp (q1.rep k.toNat)⟩)
      · exact h.elim
    · exact h.elim
  · exact h.elim

/-! ### in -/
def rInX (K : PySem.W.Frag) (n : Bool) : R2 := fun x y H Q => ∃ d ds, Dp K H x d ∧ (Dp K H y (.list ds) ∨ Dp K H y (.tuple ds)) ∧ SeqAt.shaped d = true ∧ SeqAt.shaped (.list ds) = true ∧ Q (.bl (xor n (ds.any fun z => PyData.eqv z d))) H
theorem shaped_tup {ds : List PyData} (h : SeqAt.shaped (.list ds) = true) : PyData.canLayAll0 ds = true := by
  have := SeqAt.canLay_of_shaped h
  simpa [PyData.canLay0] using this
theorem op_inX {X : Cx} (hu : X.A.units + 65 < cLine) : OpR X (compareOp .In) (rInX X.K false) := by
  intro pins s σ H x y v u Q I rx ry h
  obtain ⟨d, ds, hd, he, sd, se, q⟩ := h
  obtain ⟨as, r1⟩ := Dp.reads I d x v hd rx
  rw [Bool.false_xor] at q
  have room : X.A.units + 1 + min (PyData.depthAll ds) d.depth < cLine := by
    have := SeqAt.depth_of_shaped sd
    have h2 : min (PyData.depthAll ds) d.depth ≤ d.depth := Nat.min_le_right _ _
    omega
  rcases he with he | he
  · obtain ⟨bs, r2⟩ := Dp.reads I (.list ds) y u he ry
    exact SeqAt.in_list_reads r2 r1 (shaped_tup se) (SeqAt.canLay_of_shaped sd) room ⟨.bl _, H, I, rfl, q⟩
  · obtain ⟨bs, r2⟩ := Dp.reads I (.tuple ds) y u he ry
    exact SeqAt.in_tuple_reads r2 r1 (shaped_tup se) (SeqAt.canLay_of_shaped sd) room ⟨.bl _, H, I, rfl, q⟩
theorem op_notInX {X : Cx} (hu : X.A.units + 65 < cLine) : OpR X (compareOp .NotIn) (rInX X.K true) := by
  intro pins s σ H x y v u Q I rx ry h
  obtain ⟨d, ds, hd, he, sd, se, q⟩ := h
  obtain ⟨as, r1⟩ := Dp.reads I d x v hd rx
  rw [Bool.true_xor] at q
  have room : X.A.units + 1 + min (PyData.depthAll ds) d.depth < cLine := by
    have := SeqAt.depth_of_shaped sd
    have h2 : min (PyData.depthAll ds) d.depth ≤ d.depth := Nat.min_le_right _ _
    omega
  rcases he with he | he
  · obtain ⟨bs, r2⟩ := Dp.reads I (.list ds) y u he ry
    exact SeqAt.notIn_list_reads r2 r1 (shaped_tup se) (SeqAt.canLay_of_shaped sd) room ⟨.bl _, H, I, rfl, q⟩
  · obtain ⟨bs, r2⟩ := Dp.reads I (.tuple ds) y u he ry
    exact SeqAt.notIn_tuple_reads r2 r1 (shaped_tup se) (SeqAt.canLay_of_shaped sd) room ⟨.bl _, H, I, rfl, q⟩
theorem getS_dp {K : PySem.W.Frag} {w : Wd} {S : Sto} {H : Hp} (s : Sim K w S H) {y : Y} {v : V} {b : List D} (r : RY K w y v) (e : getS y S = some b) (p : D.plnL b = true) : Dp K H v (.list (D.pyL b)) ∨ Dp K H v (.tuple (D.pyL b)) := by
  obtain ⟨a, xs, rfl, h1, h2⟩ := getS_of s r e
  rcases h1 with h1 | h1
  · exact .inl (.lst (.inl h1) (dpL_of s h2 p))
  · exact .inr (.tup h1 (dpL_of s h2 p))
theorem sIn_ok {X : Cx} (n : Bool) : OpS X (sIn n) (rInX X.K n) := by
  intro E w S H x y v u Q s rx ry h
  unfold sIn at h
  cases e1 : getD x S with
  | none => rw [e1] at h; exact h.elim
  | some a =>
    cases e2 : getS y S with
    | none => rw [e1, e2] at h; exact h.elim
    | some b =>
      rw [e1, e2] at h
      dsimp only at h
      split at h
      · rename_i hc
        have pb : D.plnL b = true := by simpa [D.pln] using eqk_pln hc.2
        refine ⟨_, D.pyL b, getD_dp s rx e1 (eqk_pln hc.1), getS_dp s ry e2 pb, eqk_shaped hc.1, ?_, ?_⟩
        · have := eqk_shaped hc.2
          simpa [SeqAt.shaped, D.py, PyData.canLay0, PyData.depth] using this
        · rw [any_py a (eqk_pln hc.1) b pb]
          exact rd_ok h s (.bl _)
      · exact h.elim

/-! ### is -/
def rIsX (n : Bool) : R2 := fun x y H Q => (y = .non ∨ ∃ b, y = .bl b) ∧ Q (.bl (xor n (decide (x = y)))) H
theorem op_isX {X : Cx} : OpR X (compareOp .Is) (rIsX false) := by
  intro pins s σ H x y v u Q I rx ry h
  obtain ⟨hy, q⟩ := h
  rw [Bool.false_xor] at q
  rcases hy with rfl | ⟨b, rfl⟩
  · exact op_isN pins s σ H x _ v u Q I rx ry ⟨rfl, q⟩
  · cases (show u = Value.bool b from ry)
    by_cases e : x = .bl b
    · subst e
      cases (show v = Value.bool b from rx)
      exact wpAny_is_self rfl ⟨.bl true, H, I, rfl, by simpa using q⟩
    · have ne : v ≠ Value.bool b := fun z => e (rx.inj (z ▸ (rfl : RelV (.bl b) (Value.bool b))))
      refine wpAny_is_other ?_ ne ⟨.bl false, H, I, rfl, by simpa [e] using q⟩
      cases x <;> first | (cases rx; rfl) | (obtain ⟨t, rfl⟩ := rx; rfl)
theorem op_isNotX {X : Cx} : OpR X (compareOp .IsNot) (rIsX true) := by
  intro pins s σ H x y v u Q I rx ry h
  obtain ⟨hy, q⟩ := h
  rw [Bool.true_xor] at q
  rcases hy with rfl | ⟨b, rfl⟩
  · exact op_notN pins s σ H x _ v u Q I rx ry ⟨rfl, q⟩
  · cases (show u = Value.bool b from ry)
    by_cases e : x = .bl b
    · subst e
      cases (show v = Value.bool b from rx)
      exact wpAny_isNot_self rfl ⟨.bl false, H, I, rfl, by simpa using q⟩
    · have ne : v ≠ Value.bool b := fun z => e (rx.inj (z ▸ (rfl : RelV (.bl b) (Value.bool b))))
      refine wpAny_isNot_other ?_ ne ⟨.bl true, H, I, rfl, by simpa [e] using q⟩
      cases x <;> first | (cases rx; rfl) | (obtain ⟨t, rfl⟩ := rx; rfl)
theorem ry_non {K : PySem.W.Frag} {w : Wd} {x : Y} {v : V} (r : RY K w x v) : decide (v = .non) = (match x with | .v .non => true | _ => false) := by
  cases x with
  | ref n => obtain ⟨a, _, rfl⟩ := r; rfl
  | v d =>
    have r' : Rp K w.F d v := r
    cases r' <;> rfl
theorem sIs_ok {X : Cx} (n : Bool) : OpS X (sIs n) (rIsX n) := by
  intro E w S H x y v u Q s rx ry h
  unfold sIs at h
  split at h
  · cases rx; cases ry
    refine ⟨.inl rfl, ?_⟩
    have := rd_ok h s (.bl _)
    cases n <;> simpa using this
  · rename_i hx
    cases ry
    refine ⟨.inl rfl, ?_⟩
    have q := rd_ok h s (.bl _)
    have e : v ≠ .non := fun z => by
      subst z
      cases x with
      | ref m => obtain ⟨a, _, z⟩ := rx; cases z
      | v d =>
        have r' : Rp X.K w.F d .non := rx
        cases r'
        exact hx rfl
    rw [decide_eq_false e]
    cases n <;> simpa using q
  · cases rx; cases ry
    rename_i a b
    refine ⟨.inr ⟨_, rfl⟩, ?_⟩
    have q := rd_ok h s (.bl _)
    have e : decide (V.bl a = V.bl b) = (a == b) := dec_bl
    rw [e]; exact q
  · rename_i b hx
    cases ry
    refine ⟨.inr ⟨_, rfl⟩, ?_⟩
    have q := rd_ok h s (.bl _)
    have e : v ≠ .bl b := fun z => by
      subst z
      cases x with
      | ref m => obtain ⟨a, _, z⟩ := rx; cases z
      | v d =>
        have r' : Rp X.K w.F d (.bl b) := rx
        cases r'
        exact hx b rfl
    rw [decide_eq_false e]
    cases n <;> simpa using q
  · exact h.elim
end Sg

/-! Q3: expressions -/
namespace Sg
open PySem PySem.Spec PyProof.Rows L2

/-- the built-in names that must stand -/
def bls : List Str := ["len", "range", "isinstance", "abs", "sum", "min", "max", "all", "any", "sorted", "int", "str", "list", "tuple", "dict", "set", "zip", "enumerate", "bool", "type", "reversed", "super"]
structure Ok (X : Cx) (W : WX) (k : Nat) (vl wl : List (Nat × Str)) (gl : List Str) : Prop where
  tk : Takes X W
  hr : Room k X.A
  calm : X.calm = true
  nd : X.N.Nodup
  vis : ∀ (j i : Nat) (x : Str), vl[j]? = some (i, x) → X.N[i]? = some x ∧ Vis X.env.scope x ∧ (x == ("__debug__" : Str)) = false ∧ (x == ("__classdict__" : Str)) = false
  sto : ∀ (j i : Nat) (x : Str), wl[j]? = some (i, x) → X.N[i]? = some x ∧ Loc X.env.scope x ∧ (X.fn x = true ∨ X.env.scope.names.lookup x = some .local)
  glo : ∀ (j : Nat) (x : Str), gl[j]? = some x → Gl X x ∧ (x == ("__debug__" : Str)) = false ∧ x ≠ "__name__"
  blt : ∀ (j : Nat) (x : Str), bls[j]? = some x → X.mg x = none

/-! ### names, constants -/
def fVar (i : Nat) : FE Y := fun env S => match env[i]? with
  | some (some y) => .ok y S
  | _ => .bad
def fC (d : D) : FE Y := fun _ S => .ok (.v d) S
section
variable {X : Cx} {W : WX} {k : Nat} {vl wl : List (Nat × Str)} {gl : List Str} {a b c e : Expr} {es : List Expr} {f g h : FE Y} {fs : FE (List Y)} {pos p : Pos} {x : Str}
theorem re_var (C : Ok X W k vl wl gl) (j : Nat) {i : Nat} (hj : vl[j]? = some (i, x) := by rfl) : RE X W (.Name x pos) (fVar i) := by
  obtain ⟨h1, h2, h3, h4⟩ := C.vis j i x hj
  refine weakPE (pe_var h1 h2 h3 h4) fun σ H Q q => ?_
  obtain ⟨w, env, S, he, s, q⟩ := q
  unfold fVar at q
  split at q
  · rename_i y e
    obtain ⟨v, e1, r⟩ := he.at_ i y e
    exact ⟨v, e1, rd_ok q s r⟩
  · exact q.elim
theorem c_read {d : D} {v : V} (hd : ∀ (F : Hp), Rp X.K F d v) (σ : L2.St) (H : Hp) (Q : VK) (q : tE X W (fC d) σ H Q) : tC v σ H Q := by
  obtain ⟨w, env, S, he, s, q⟩ := q
  exact rd_ok q s (hd w.F)
theorem re_int {i : Int} {j : Nat} : RE X W (.Constant (.int i) j pos) (fC (.int i)) := weakPE pe_int (c_read fun _ => .int i)
theorem re_bl {i : Bool} {j : Nat} : RE X W (.Constant (.bool i) j pos) (fC (.bl i)) := weakPE pe_bl (c_read fun _ => .bl i)
theorem re_non {j : Nat} : RE X W (.Constant .none j pos) (fC .non) := weakPE pe_non (c_read fun _ => .non)
theorem re_str {i : Str} {j : Nat} : RE X W (.Constant (.str i) j pos) (fC (.str i)) := weakPE pe_str (c_read fun _ => .str i)
/-- a constant of the module -/
theorem re_glob (C : Ok X W k vl wl gl) (j : Nat) {d : D} {v : V} {u : Value} (hm : X.mg x = some u) (hv : RelV v u) (hd : ∀ (F : Hp), Rp X.K F d v) (hj : gl[j]? = some x := by rfl) : RE X W (.Name x pos) (fC d) :=
  weakPE (pe_glob (C.glo j x hj).1 hm hv (C.glo j x hj).2.1) (c_read hd)
/-- a built-in type's name as a value -/
theorem re_ty (C : Ok X W k vl wl gl) (j : Nat) {n : String} (i : Nat) (hi : bls[i]? = some x := by rfl) (hj : gl[j]? = some x := by rfl) (hv : bootBuiltins x = some (.type n) := by decide +kernel) : RE X W (.Name x pos) (fC (.ty n)) :=
  weakPE (pe_bltn (v := .ty n) (C.glo j x hj).1 (C.blt i x hi) hv rfl (C.glo j x hj).2.2 (C.glo j x hj).2.1) (c_read fun _ => .ty n)

/-! ### lists of arguments, displays -/
def fNil : FE (List Y) := fun _ S => .ok [] S
def fCons (f : FE Y) (g : FE (List Y)) : FE (List Y) := fun env S => (f env S).bind fun y S1 => (g env S1).bind fun ys S2 => .ok (y :: ys) S2
theorem ra_nil : RA X W [] fNil := weakPA pa_nil fun σ H Q q => by
  obtain ⟨w, env, S, he, s, q⟩ := q
  exact rd_ok q s .nil
theorem ra_cons (ha : RE X W e f) (hr : RA X W es fs) (hs : starEach (e :: es) X.env = (false, eval e X.env) :: starEach es X.env := by rfl) : RA X W (e :: es) (fCons f fs) := weakPA (pa_cons ha hr hs) fun σ H Q q => by
  obtain ⟨w, env, S, he, s, q⟩ := q
  refine ⟨w, env, S, he, s, rd_bind q fun y S1 w1 v H1 l1 s1 r1 q1 => ⟨w1, env, S1, he.mono l1, s1, rd_bind q1 fun ys S2 w2 vs H2 l2 s2 r2 q2 => ?_⟩⟩
  exact rd_ok q2 s2 (.cons (r1.mono l2) r2)
/-- data of values: things of the store that are kept within others are frozen -/
def thaw : List Y → Sto → Option (List D × Sto)
  | [], S => some ([], S)
  | .v d :: ys, S => match thaw ys S with
    | some (ds, S1) => some (d :: ds, S1)
    | none => none
  | .ref n :: ys, S => match S[n]? with
    | some (.lst es) => match thaw ys (S.set n .gone) with
      | some (ds, S1) => some (.lst es :: ds, S1)
      | none => none
    | _ => none
theorem thaw_ok {K : PySem.W.Frag} : ∀ {ys : List Y} {S S1 : Sto} {ds : List D} {w : Wd} {H : Hp} {vs : List V}, Sim K w S H → RYs K w ys vs → thaw ys S = some (ds, S1) → ∃ w', w.le w' ∧ Sim K w' S1 H ∧ RpL K w'.F ds vs
  | [], S, S1, ds, w, H, vs, s, r, e => by
    cases r
    unfold thaw at e
    cases e
    exact ⟨w, .refl w, s, .nil⟩
  | .v d :: ys, S, S1, ds, w, H, vs, s, r, e => by
    unfold thaw at e
    cases r with
    | cons r1 r2 =>
      split at e
      · rename_i ds' S' e2
        cases e
        obtain ⟨w', l, s', q⟩ := thaw_ok s r2 e2
        exact ⟨w', l, s', .cons (Rp.mono l.F r1) q⟩
      · cases e
  | .ref n :: ys, S, S1, ds, w, H, vs, s, r, e => by
    unfold thaw at e
    cases r with
    | cons r1 r2 =>
      split at e
      · rename_i es e0
        split at e
        · rename_i ds' S' e2
          cases e
          obtain ⟨a, ha, rfl⟩ := r1
          obtain ⟨⟨xs, h1, h2⟩, _, hF, hX⟩ := s.ob n _ a e0 ha (by intro z; cases z)
          have g := s.goneO n
          have hl : n < S.length := (List.getElem?_eq_some_iff.mp e0).1
          have s2 := g.froze (o := .lst xs) h1 hF hX (fun m hm => by
            by_cases q : n = m
            · subst q; exact List.getElem?_set_self hl
            · by_cases z : S[m]? = some .gone
              · rw [List.getElem?_set_ne q]; exact z
              · exact absurd (s.inj n m a ha hm (by rw [e0]; intro z; cases z) z) q)
          have l1 : w.le { w with F := upd w.F a (.lst xs) } := Wd.le.froze hF
          obtain ⟨w', l, s', q⟩ := thaw_ok s2 (r2.mono l1) e2
          refine ⟨w', l1.trans l, s', .cons (Rp.lst (.inl (l.F _ _ upd_same)) (h2.mono (l1.F.trans l.F))) q⟩
        · cases e
      · cases e
def fTup (f : FE (List Y)) : FE Y := fun env S => (f env S).bind fun ys S1 => match thaw ys S1 with
  | some (ds, S2) => if okLen ds.length = true then .ok (.v (.tup ds)) S2 else .bad
  | none => .bad
def fLst (m : Bool) (f : FE (List Y)) : FE Y := fun env S => (f env S).bind fun ys S1 => match thaw ys S1 with
  | some (ds, S2) => if okLen ds.length = true then newL m ds S2 else .bad
  | none => .bad
theorem re_tup {x1 : Nat} (ha : RA X W es fs) : RE X W (.Tuple es x1 pos) (fTup fs) := weakPE (pe_tup ha) fun σ H Q q => by
  obtain ⟨w, env, S, he, s, q⟩ := q
  refine ⟨w, env, S, he, s, rd_bind q fun ys S1 w1 vs H1 l1 s1 r1 q1 => ?_⟩
  split at q1
  · rename_i ds S2 e
    split at q1
    · rename_i hl
      obtain ⟨w2, l2, s2, r2⟩ := thaw_ok s1 r1 e
      exact ⟨by rw [← r2.length]; exact len_ok hl, fun p hp => new_tup s2 (rd_le l2 q1) hp r2⟩
    · exact q1.elim
  · exact q1.elim
theorem re_lst (m : Bool) (ha : RA X W es fs) : RE X W (.List es pos) (fLst m fs) := weakPE (pe_lst ha) fun σ H Q q => by
  obtain ⟨w, env, S, he, s, q⟩ := q
  refine ⟨w, env, S, he, s, rd_bind q fun ys S1 w1 vs H1 l1 s1 r1 q1 => ?_⟩
  split at q1
  · rename_i ds S2 e
    split at q1
    · rename_i hl
      obtain ⟨w2, l2, s2, r2⟩ := thaw_ok s1 r1 e
      exact ⟨by rw [← r2.length]; exact len_ok hl, fun p hp => new_lst s2 (rd_le l2 q1) hp r2⟩
    · exact q1.elim
  · exact q1.elim

/-! ### operators -/
theorem re_add (m : Bool) (ha : RE X W a f) (hb : RE X W b g) : RE X W (.BinOp a .Add b pos) (fBin (sAdd m) f g) := re_bin op_addX (sAdd_ok m) ha hb
theorem re_sub (ha : RE X W a f) (hb : RE X W b g) : RE X W (.BinOp a .Sub b pos) (fBin sSub f g) := re_bin op_sub sSub_ok ha hb
theorem re_mul (m : Bool) (ha : RE X W a f) (hb : RE X W b g) : RE X W (.BinOp a .Mult b pos) (fBin (sMul m) f g) := re_bin op_mulA (sMul_ok m) ha hb
theorem re_fdiv (ha : RE X W a f) (hb : RE X W b g) : RE X W (.BinOp a .FloorDiv b pos) (fBin sFdiv f g) := re_bin op_fdivX sFdiv_ok ha hb
theorem re_mod (ha : RE X W a f) (hb : RE X W b g) : RE X W (.BinOp a .Mod b pos) (fBin sMod f g) := re_bin op_modN sMod_ok ha hb
theorem re_pow (ha : RE X W a f) (hb : RE X W b g) : RE X W (.BinOp a .Pow b pos) (fBin sPow f g) := re_bin op_pow sPow_ok ha hb
def fUn (sem : Y → Sto → Res Y) (f : FE Y) : FE Y := fun env S => (f env S).bind sem
def sNeg : Y → Sto → Res Y
  | .v (.int i), S => .ok (.v (.int (-i))) S
  | _, _ => .bad
theorem re_neg (ha : RE X W a f) : RE X W (.UnaryOp .USub a pos) (fUn sNeg f) := weakPE (pe_un un_neg ha) fun σ H Q q => by
  obtain ⟨w, env, S, he, s, q⟩ := q
  refine ⟨w, env, S, he, s, rd_bind q fun y S1 w1 v H1 l1 s1 r1 q1 => ?_⟩
  unfold sNeg at q1
  split at q1
  · cases r1
    exact ⟨_, rfl, rd_ok q1 s1 (.int _)⟩
  · exact q1.elim

/-! ### comparisons -/
theorem re_eq (C : Ok X W k vl wl gl) (ha : RE X W a f) (hb : RE X W b g) : RE X W (.Compare a [.Eq] [b] pos) (fBin sEq f g) := re_cmp (op_eqD C.hr.units) sEq_ok (nomark _) ha hb
theorem re_ne (C : Ok X W k vl wl gl) (ha : RE X W a f) (hb : RE X W b g) : RE X W (.Compare a [.NotEq] [b] pos) (fBin sNe f g) := re_cmp (op_neD C.hr.units) sNe_ok (nomark _) ha hb
theorem re_lt (ha : RE X W a f) (hb : RE X W b g) : RE X W (.Compare a [.Lt] [b] pos) (fBin sLt f g) := re_cmp op_lt sLt_ok (nomark _) ha hb
theorem re_le (ha : RE X W a f) (hb : RE X W b g) : RE X W (.Compare a [.LtE] [b] pos) (fBin sLe f g) := re_cmp op_le sLe_ok (nomark _) ha hb
theorem re_gt (ha : RE X W a f) (hb : RE X W b g) : RE X W (.Compare a [.Gt] [b] pos) (fBin sGt f g) := re_cmp op_gt sGt_ok (nomark _) ha hb
theorem re_ge (ha : RE X W a f) (hb : RE X W b g) : RE X W (.Compare a [.GtE] [b] pos) (fBin sGe f g) := re_cmp op_ge sGe_ok (nomark _) ha hb
theorem re_is (ha : RE X W a f) (hb : RE X W b g) : RE X W (.Compare a [.Is] [b] pos) (fBin (sIs false) f g) := re_cmp op_isX (sIs_ok false) (nomark _) ha hb
theorem re_isn (ha : RE X W a f) (hb : RE X W b g) : RE X W (.Compare a [.IsNot] [b] pos) (fBin (sIs true) f g) := re_cmp op_isNotX (sIs_ok true) (nomark _) ha hb
theorem room65 {k : Nat} {A : Around} (r : Room k A) : A.units + 65 < cLine := by have := r.un; omega
theorem re_in (C : Ok X W k vl wl gl) (ha : RE X W a f) (hb : RE X W b g) (hm : behindInMarks .In b = false := by rfl) : RE X W (.Compare a [.In] [b] pos) (fBin (sIn false) f g) := re_cmp (op_inX (room65 C.hr)) (sIn_ok false) hm ha hb
theorem re_nin (C : Ok X W k vl wl gl) (ha : RE X W a f) (hb : RE X W b g) (hm : behindInMarks .NotIn b = false := by rfl) : RE X W (.Compare a [.NotIn] [b] pos) (fBin (sIn true) f g) := re_cmp (op_notInX (room65 C.hr)) (sIn_ok true) hm ha hb
theorem rt_eq (C : Ok X W k vl wl gl) (ha : RE X W a f) (hb : RE X W b g) : RT X W (.Compare a [.Eq] [b] pos) (fTest (fBin sEq f g)) := rt_cmp (op_eqD C.hr.units) sEq_ok (nomark _) ha hb
theorem rt_ne (C : Ok X W k vl wl gl) (ha : RE X W a f) (hb : RE X W b g) : RT X W (.Compare a [.NotEq] [b] pos) (fTest (fBin sNe f g)) := rt_cmp (op_neD C.hr.units) sNe_ok (nomark _) ha hb
theorem rt_lt (ha : RE X W a f) (hb : RE X W b g) : RT X W (.Compare a [.Lt] [b] pos) (fTest (fBin sLt f g)) := rt_cmp op_lt sLt_ok (nomark _) ha hb
theorem rt_le (ha : RE X W a f) (hb : RE X W b g) : RT X W (.Compare a [.LtE] [b] pos) (fTest (fBin sLe f g)) := rt_cmp op_le sLe_ok (nomark _) ha hb
theorem rt_gt (ha : RE X W a f) (hb : RE X W b g) : RT X W (.Compare a [.Gt] [b] pos) (fTest (fBin sGt f g)) := rt_cmp op_gt sGt_ok (nomark _) ha hb
theorem rt_ge (ha : RE X W a f) (hb : RE X W b g) : RT X W (.Compare a [.GtE] [b] pos) (fTest (fBin sGe f g)) := rt_cmp op_ge sGe_ok (nomark _) ha hb
theorem rt_is (ha : RE X W a f) (hb : RE X W b g) : RT X W (.Compare a [.Is] [b] pos) (fTest (fBin (sIs false) f g)) := rt_cmp op_isX (sIs_ok false) (nomark _) ha hb
theorem rt_isn (ha : RE X W a f) (hb : RE X W b g) : RT X W (.Compare a [.IsNot] [b] pos) (fTest (fBin (sIs true) f g)) := rt_cmp op_isNotX (sIs_ok true) (nomark _) ha hb
theorem rt_in (C : Ok X W k vl wl gl) (ha : RE X W a f) (hb : RE X W b g) (hm : behindInMarks .In b = false := by rfl) : RT X W (.Compare a [.In] [b] pos) (fTest (fBin (sIn false) f g)) := rt_cmp (op_inX (room65 C.hr)) (sIn_ok false) hm ha hb
theorem rt_nin (C : Ok X W k vl wl gl) (ha : RE X W a f) (hb : RE X W b g) (hm : behindInMarks .NotIn b = false := by rfl) : RT X W (.Compare a [.NotIn] [b] pos) (fTest (fBin (sIn true) f g)) := rt_cmp (op_notInX (room65 C.hr)) (sIn_ok true) hm ha hb
/-- a op b op' c -/
def fChain (s1 s2 : Y → Y → Sto → Res Y) (f g h : FE Y) : FE Y := fun env S => (f env S).bind fun x S1 => (g env S1).bind fun y S2 => (s1 x y S2).bind fun z S3 => match z with
  | .v (.bl true) => (h env S3).bind fun u S4 => s2 y u S4
  | .v (.bl false) => .ok (.v (.bl false)) S3
  | _ => .bad
theorem chain_read {s1 s2 : Y → Y → Sto → Res Y} {r r' : R2} (h1 : OpS X s1 r) (h2 : OpS X s2 r') (σ : L2.St) (H : Hp) (Q : VK) (q : tE X W (fChain s1 s2 f g h) σ H Q) : tChain r r' (tE X W f) (tE X W g) (tE X W h) σ H Q := by
  obtain ⟨w, env, S, he, s, q⟩ := q
  refine ⟨w, env, S, he, s, rd_bind q fun x S1 w1 v H1 l1 s1 r1 q1 => ⟨w1, env, S1, he.mono l1, s1, rd_bind q1 fun y S2 w2 u H2 l2 s2 r2 q2 => ?_⟩⟩
  refine h1 _ w2 S2 H2 x y v u _ s2 (r1.mono l2) r2 (rd_bind q2 fun z S3 w3 zv H3 l3 s3 r3 q3 => ?_)
  cases z with
  | ref n => exact q3.elim
  | v d =>
    cases d with
    | bl kb =>
      have r3' : Rp X.K w3.F (.bl kb) zv := r3
      cases r3'
      refine ⟨kb, rfl, ?_⟩
      cases kb with
      | true =>
        refine iteT ⟨w3, env, S3, (he.mono (l1.trans l2)).mono l3, s3, rd_bind q3 fun t S4 w4 tv H4 l4 s4 r4 q4 => ?_⟩
        exact h2 _ w4 S4 H4 y t u tv _ s4 (r2.mono (l3.trans l4)) r4 q4
      | false => exact iteF (rd_ok q3 s3 (.bl false))
    | _ => exact q3.elim
theorem re_chain {op op' : CmpOp} {s1 s2 : Y → Y → Sto → Res Y} {r r' : R2} (ho : OpR X (compareOp op) r) (ho' : OpR X (compareOp op') r') (h1 : OpS X s1 r) (h2 : OpS X s2 r') (ha : RE X W a f) (hb : RE X W b g) (hc : RE X W c h)
    (hm : lastMarks [op, op'] [b, c] = false := by rfl) : RE X W (.Compare a [op, op'] [b, c] pos) (fChain s1 s2 f g h) := weakPE (pe_chain ho ho' ha hb hc hm) fun σ H Q q => chain_read h1 h2 σ H Q q
theorem rt_chain {op op' : CmpOp} {s1 s2 : Y → Y → Sto → Res Y} {r r' : R2} (ho : OpR X (compareOp op) r) (ho' : OpR X (compareOp op') r') (h1 : OpS X s1 r) (h2 : OpS X s2 r') (ha : RE X W a f) (hb : RE X W b g) (hc : RE X W c h)
    (hm : lastMarks [op, op'] [b, c] = false := by rfl) : RT X W (.Compare a [op, op'] [b, c] pos) (fTest (fChain s1 s2 f g h)) := weakPT (pt_chain ho ho' ha hb hc hm) fun σ H Q q => test_read (fun σ H Q q => chain_read h1 h2 σ H Q q) σ H Q q
end
end Sg

/-! Q3b: logic, truth, subscripts, slices -/
namespace Sg
open PySem PySem.Spec PyProof.Rows L2
section
variable {X : Cx} {W : WX} {k : Nat} {vl wl : List (Nat × Str)} {gl : List Str} {a b c e : Expr} {es rest : List Expr} {f g h : FE Y} {t u : FE Bool} {fs : FE (List Y)} {pos p : Pos} {x : Str}

/-! ### truth -/
def truY : Y → Sto → Res Bool
  | .v .non, S => .ok false S
  | .v (.bl b), S => .ok b S
  | .v (.int i), S => .ok (i != 0) S
  | .v (.str x), S => if okLen x.length = true then .ok ((x.length : Int) != 0) S else .bad
  | y, S => match getS y S with
    | some ds => .ok (!ds.isEmpty) S
    | none => .bad
def fTru (f : FE Y) : FE Bool := fun env S => (f env S).bind truY
theorem RpL.isEmpty {K : PySem.W.Frag} {F : Hp} {ds : List D} {vs : List V} (h : RpL K F ds vs) : vs.isEmpty = ds.isEmpty := by
  cases h <;> rfl
theorem rt_tru (ha : RE X W a f) (he : ∀ whole, isTrue a X.env whole = (do let v ← whole; standAt a.pos; holding [v] (truthy v)) := by intro _; rfl) : RT X W a (fTru f) := weakPT (pt_truth ha he) fun σ H Q q => by
  obtain ⟨w, env, S, hE, s, q⟩ := q
  refine ⟨w, env, S, hE, s, rd_bind q fun y S1 w1 v H1 l1 s1 r1 q1 => ?_⟩
  unfold truY at q1
  split at q1
  · cases r1; exact ⟨false, rfl, rd_ok q1 s1 rfl⟩
  · cases r1; exact ⟨_, rfl, rd_ok q1 s1 rfl⟩
  · cases r1; exact ⟨_, rfl, rd_ok q1 s1 rfl⟩
  · split at q1
    · rename_i hl
      cases r1; exact ⟨_, ⟨len_ok hl, rfl⟩, rd_ok q1 s1 rfl⟩
    · exact q1.elim
  · split at q1
    · rename_i ds e1
      obtain ⟨p, xs, rfl, h1, h2⟩ := getS_of s1 r1 e1
      rcases h1 with h1 | h1
      · exact ⟨_, .inl ⟨xs, .inl h1, rfl⟩, rd_ok q1 s1 (by rw [h2.isEmpty])⟩
      · exact ⟨_, .inr (.inl ⟨xs, h1, rfl⟩), rd_ok q1 s1 (by rw [h2.isEmpty])⟩
    · exact q1.elim

/-! ### and, or, not, as tests -/
abbrev RW (X : Cx) (W : WX) (e : Expr) (f : FE Bool) : Prop := PW X e (tT X W f)
def fAnd (t u : FE Bool) : FE Bool := fun env S => (t env S).bind fun b S1 => if b = true then u env S1 else .ok false S1
def fOr (t u : FE Bool) : FE Bool := fun env S => (t env S).bind fun b S1 => if b = true then .ok true S1 else u env S1
def fNot (t : FE Bool) : FE Bool := fun env S => (t env S).bind fun b S1 => .ok (!b) S1
theorem rw_and1 (ha : RT X W a t) : RW X W (.BoolOp .And [a] pos) t := pw_and1 ha
theorem rw_or1 (ha : RT X W a t) : RW X W (.BoolOp .Or [a] pos) t := pw_or1 ha
theorem rw_and (ha : RT X W a t) (hb : RW X W (.BoolOp .And (b :: rest) pos) u) : RW X W (.BoolOp .And (a :: b :: rest) pos) (fAnd t u) := weakPW (pw_and ha hb) fun σ H Q q => by
  obtain ⟨w, env, S, hE, s, q⟩ := q
  refine ⟨w, env, S, hE, s, rd_bind q fun y S1 w1 v H1 l1 s1 r1 q1 => ?_⟩
  cases r1
  cases y with
  | true => exact iteT ⟨w1, env, S1, hE.mono l1, s1, q1⟩
  | false => exact iteF (rd_ok q1 s1 rfl)
theorem rw_or (ha : RT X W a t) (hb : RW X W (.BoolOp .Or (b :: rest) pos) u) : RW X W (.BoolOp .Or (a :: b :: rest) pos) (fOr t u) := weakPW (pw_or ha hb) fun σ H Q q => by
  obtain ⟨w, env, S, hE, s, q⟩ := q
  refine ⟨w, env, S, hE, s, rd_bind q fun y S1 w1 v H1 l1 s1 r1 q1 => ?_⟩
  cases r1
  cases y with
  | true => exact iteT (rd_ok q1 s1 rfl)
  | false => exact iteF ⟨w1, env, S1, hE.mono l1, s1, q1⟩
theorem rt_w (h : RW X W e t) : RT X W e t := h.pt
theorem rt_not (ha : RT X W a t) : RT X W (.UnaryOp .Not a pos) (fNot t) := weakPT (pt_not ha) fun σ H Q q => by
  obtain ⟨w, env, S, hE, s, q⟩ := q
  refine ⟨w, env, S, hE, s, rd_bind q fun y S1 w1 v H1 l1 s1 r1 q1 => ?_⟩
  cases r1
  exact rd_ok q1 s1 rfl
/-! as values: all but the last True or False -/
def fAndV (f g : FE Y) : FE Y := fun env S => (f env S).bind fun y S1 => match y with
  | .v (.bl true) => g env S1
  | .v (.bl false) => .ok (.v (.bl false)) S1
  | _ => .bad
def fOrV (f g : FE Y) : FE Y := fun env S => (f env S).bind fun y S1 => match y with
  | .v (.bl true) => .ok (.v (.bl true)) S1
  | .v (.bl false) => g env S1
  | _ => .bad
def fNotV (f : FE Y) : FE Y := fun env S => (f env S).bind fun y S1 => match y with
  | .v (.bl b) => .ok (.v (.bl (!b))) S1
  | _ => .bad
theorem bl_of {w : Wd} {d : D} {v : V} {kb : Bool} (r : RY X.K w (.v (.bl kb)) v) : v = .bl kb := by
  have r' : Rp X.K w.F (.bl kb) v := r
  cases r'; rfl
theorem re_one {op : BoolOp} (h : RE X W a f) : RE X W (.BoolOp op [a] pos) f := pe_one h
theorem re_and (ha : RE X W a f) (hb : RE X W (.BoolOp .And (b :: rest) pos) g) : RE X W (.BoolOp .And (a :: b :: rest) pos) (fAndV f g) := weakPE (pe_and ha hb) fun σ H Q q => by
  obtain ⟨w, env, S, hE, s, q⟩ := q
  refine ⟨w, env, S, hE, s, rd_bind q fun y S1 w1 v H1 l1 s1 r1 q1 => ?_⟩
  split at q1
  · cases bl_of (d := .non) r1
    exact ⟨true, rfl, iteT ⟨w1, env, S1, hE.mono l1, s1, q1⟩⟩
  · cases bl_of (d := .non) r1
    exact ⟨false, rfl, iteF (rd_ok q1 s1 (.bl false))⟩
  · exact q1.elim
theorem re_or (ha : RE X W a f) (hb : RE X W (.BoolOp .Or (b :: rest) pos) g) : RE X W (.BoolOp .Or (a :: b :: rest) pos) (fOrV f g) := weakPE (pe_or ha hb) fun σ H Q q => by
  obtain ⟨w, env, S, hE, s, q⟩ := q
  refine ⟨w, env, S, hE, s, rd_bind q fun y S1 w1 v H1 l1 s1 r1 q1 => ?_⟩
  split at q1
  · cases bl_of (d := .non) r1
    exact ⟨true, rfl, iteT (rd_ok q1 s1 (.bl true))⟩
  · cases bl_of (d := .non) r1
    exact ⟨false, rfl, iteF ⟨w1, env, S1, hE.mono l1, s1, q1⟩⟩
  · exact q1.elim
theorem re_not (ha : RE X W a f) : RE X W (.UnaryOp .Not a pos) (fNotV f) := weakPE (pe_not ha) fun σ H Q q => by
  obtain ⟨w, env, S, hE, s, q⟩ := q
  refine ⟨w, env, S, hE, s, rd_bind q fun y S1 w1 v H1 l1 s1 r1 q1 => ?_⟩
  split at q1
  · rename_i kb
    cases bl_of (d := .non) r1
    exact ⟨kb, rfl, rd_ok q1 s1 (.bl _)⟩
  · exact q1.elim
/-- a if t else b -/
def fIf (t : FE Bool) (f g : FE Y) : FE Y := fun env S => (t env S).bind fun b S1 => if b = true then f env S1 else g env S1
theorem re_if (ht : RT X W c t) (ha : RE X W a f) (hb : RE X W b g) : RE X W (.IfExp c a b pos) (fIf t f g) := weakPE (pe_ifExp ht ha hb) fun σ H Q q => by
  obtain ⟨w, env, S, hE, s, q⟩ := q
  refine ⟨w, env, S, hE, s, rd_bind q fun y S1 w1 v H1 l1 s1 r1 q1 => ?_⟩
  cases r1
  cases y with
  | true => exact iteT ⟨w1, env, S1, hE.mono l1, s1, q1⟩
  | false => exact iteF ⟨w1, env, S1, hE.mono l1, s1, q1⟩

/-! ### items -/
def sIx : Y → Y → Sto → Res Y
  | .v (.str z), .v (.int i), S => if okLen z.length = true then match atI z.cps.toList i with
    | some c => .ok (.v (.str ⟨#[c]⟩)) S
    | none => .bad
    else .bad
  | x, .v (.int i), S => match getS x S with
    | some ds => match atI ds i with
      | some d => .ok (.v d) S
      | none => .bad
    | none => .bad
  | _, _, _ => .bad
theorem RpL.atI {K : PySem.W.Frag} {F : Hp} {ds : List D} {vs : List V} (h : RpL K F ds vs) {i : Int} {d : D} (e : atI ds i = some d) : ∃ v, L2.atI vs i = some v ∧ Rp K F d v := by
  unfold L2.atI at e ⊢
  rw [← h.length]
  cases q : ixN ds.length i with
  | none => rw [q] at e; cases e
  | some j =>
    rw [q] at e
    exact h.get e
theorem sIx_ok : OpS X sIx (rIx X.K) := by
  intro E w S H x y v u Q s rx ry h
  unfold sIx at h
  split at h
  · split at h
    · rename_i hl
      split at h
      · rename_i c ec
        cases rx; cases ry
        exact .inr (.inr ⟨_, _, _, rfl, rfl, len_ok hl, ec, rd_ok h s (.str _)⟩)
      · exact h.elim
    · exact h.elim
  · split at h
    · rename_i ds e1
      split at h
      · rename_i d e2
        obtain ⟨p, xs, rfl, h1, h2⟩ := getS_of s rx e1
        cases ry
        obtain ⟨z, e3, r3⟩ := h2.atI e2
        rcases h1 with h1 | h1
        · exact .inl ⟨_, _, _, _, rfl, rfl, .inl h1, e3, rd_ok h s r3⟩
        · exact .inr (.inl ⟨_, _, _, _, rfl, rfl, h1, e3, rd_ok h s r3⟩)
      · exact h.elim
    · exact h.elim
  · exact h.elim
theorem re_ix (ha : RE X W a f) (hb : RE X W b g) (hs : PlainIx b := by intro _ _; rfl) : RE X W (.Subscript a b pos) (fBin sIx f g) := weakPE (pe_ix ix_seq ha hb hs) fun σ H Q q => bin_read sIx_ok σ H Q q

/-! ### slices -/
abbrev RO (X : Cx) (W : WX) (e : Option Expr) (f : FE (Option Int)) : Prop := PO X e (tM X.K X.mg W (fun _ a b => a = b) f)
def fNoP : FE (Option Int) := fun _ S => .ok none S
def fPart (f : FE Y) : FE (Option Int) := fun env S => (f env S).bind fun y S1 => match y with
  | .v (.int i) => .ok (some i) S1
  | _ => .bad
theorem weakPO {e : Option Expr} {t t' : TO} (h : PO X e t) (i : ∀ σ H Q, t' σ H Q → t σ H Q) : PO X e t' := ⟨fun pins s σ H Q I q => h.run pins s σ H Q I (i σ H Q q)⟩
theorem ro_none : RO X W none fNoP := weakPO po_none fun σ H Q q => by
  obtain ⟨w, env, S, hE, s, q⟩ := q
  exact rd_ok q s rfl
theorem ro_some (ha : RE X W a f) : RO X W (some a) (fPart f) := weakPO (po_some ha) fun σ H Q q => by
  obtain ⟨w, env, S, hE, s, q⟩ := q
  refine ⟨w, env, S, hE, s, rd_bind q fun y S1 w1 v H1 l1 s1 r1 q1 => ?_⟩
  split at q1
  · cases r1
    exact ⟨_, rfl, rd_ok q1 s1 rfl⟩
  · exact q1.elim
/-- the items of xs[lo:hi] -/
def cut {α : Type} (xs : List α) (lo hi : Option Int) : List α := (xs.drop (HT.sIx xs.length 0 lo)).take (HT.sIx xs.length xs.length hi - HT.sIx xs.length 0 lo)
def sSl (m : Bool) : Y → Option Int → Option Int → Sto → Res Y
  | .v (.tup ds), lo, hi, S => .ok (.v (.tup (cut ds lo hi))) S
  | x, lo, hi, S => match getL x S with
    | some ds => newL m (cut ds lo hi) S
    | none => .bad
def fSl (m : Bool) (f : FE Y) (lo hi : FE (Option Int)) : FE Y := fun env S => (f env S).bind fun y S1 => (lo env S1).bind fun l S2 => (hi env S2).bind fun u S3 => sSl m y l u S3
def rSlX (K : PySem.W.Frag) : V → Option Int → Option Int → Hp → VK → Prop := fun x lo hi H Q => rSlA K x lo hi H Q ∨ rSlL K x lo hi H Q
theorem sl_X : SlR X (rSlX X.K) := sl_tupA.or sl_list
theorem RpL.cut {K : PySem.W.Frag} {F : Hp} {ds : List D} {vs : List V} (h : RpL K F ds vs) (lo hi : Option Int) : RpL K F (Sg.cut ds lo hi) (cutV vs lo hi) := by
  unfold Sg.cut cutV
  rw [← h.length]
  exact (h.drop _).take _
theorem re_sl (m : Bool) {lo hi : Option Expr} {l r : FE (Option Int)} {p2 : Pos} (ha : RE X W a f) (hl : RO X W lo l) (hr : RO X W hi r) : RE X W (.Subscript a (.Slice lo hi none p2) pos) (fSl m f l r) := weakPE (pe_slice sl_X ha hl hr) fun σ H Q q => by
  obtain ⟨w, env, S, hE, s, q⟩ := q
  refine ⟨w, env, S, hE, s, rd_bind q fun y S1 w1 v H1 l1 s1 r1 q1 => ⟨w1, env, S1, hE.mono l1, s1, rd_bind q1 fun lo S2 w2 lo' H2 l2 s2 r2 q2 => ⟨w2, env, S2, (hE.mono l1).mono l2, s2, rd_bind q2 fun hi S3 w3 hi' H3 l3 s3 r3 q3 => ?_⟩⟩⟩
  subst r2; subst r3
  replace r1 := r1.mono (l2.trans l3)
  unfold sSl at q3
  split at q3
  · rename_i ds
    have r1' : Rp X.K w3.F (.tup ds) v := r1
    cases r1' with
    | tup h1 h2 =>
      refine .inl ⟨_, _, rfl, s3.sqT h1, fun hw => rd_ok q3 s3 ?_, fun _ p hp => new_tup s3 q3 hp (h2.cut lo hi)⟩
      have e : Sg.cut ds lo hi = ds := by
        unfold Sg.cut
        rw [h2.length, hw.1, hw.2, List.drop_zero, Nat.sub_zero, List.take_of_length_le (by rw [h2.length]; exact Nat.le_refl _)]
      rw [e]
      exact Rp.tup h1 h2
  · split at q3
    · rename_i ds e1
      obtain ⟨p, xs, rfl, h1, h2⟩ := getL_of s3 r1 e1
      exact .inr ⟨_, _, rfl, .inl h1, fun p hp => new_lst s3 q3 hp (h2.cut lo hi)⟩
    · exact q3.elim
end
end Sg

/-! Q3c: backwards -/
namespace HT
open PySem PySem.Spec PyProof.Rows L2
section
variable {prog : Program} {w : World} {A : Around} {E : Value → Shared → Prop} {s : Shared}
theorem sliceApplied_rev {sl : Addr} {vs : Value} {n : Nat} {Q : Int × Int × Nat → Shared → Prop} (hs : s.heap.IsSliceOf sl .none .none vs) (ps : IsPart vs (some (-1)))
    (h : Q ((n : Int) - 1, -1, n) s) : wpAny (model prog w) A (Builtin.Slice.sliceApplied (.ref sl) (pure (n : Int))) Q E s := by
  obtain ⟨os, hos, hcs, hds⟩ := id hs
  unfold Builtin.Slice.sliceApplied Builtin.Slice.sliceFields
  refine wpAny_bind (wpAny_bind (wpAny_field hos hds (x := .none) rfl (wpAny_bind (wpAny_field hos hds (x := .none) rfl (wpAny_bind (wpAny_field hos hds (x := vs) rfl (wpAny_pure ?_)))))))
  refine wpAny_bind (slicePart_ ps ?_)
  show wpAny _ _ (if ((-1 : Int) == 0) = true then _ else _) _ _ s
  rw [if_neg (by decide)]
  refine wpAny_bind (slicePart_none (wpAny_bind (slicePart_none (wpAny_bind (wpAny_pure ?_)))))
  show wpAny _ _ (pure ((n : Int) - 1, (-1 : Int), Builtin.Slice.slicePlaces ((n : Int) - 1) (-1) (-1))) _ _ s
  have e : Builtin.Slice.slicePlaces ((n : Int) - 1) (-1) (-1) = n := by
    unfold Builtin.Slice.slicePlaces
    have h1 : ¬ ((-1 : Int) > 0) := by decide
    simp only [h1, if_false, Int.neg_neg, Int.ediv_one]
    split <;> omega
  rw [e]
  exact wpAny_pure h
theorem pick_rev (xs : Array Value) : ((List.range xs.size).filterMap fun (m : Nat) => xs[((xs.size : Int) - 1 + (m : Int) * (-1)).toNat]?).toArray = xs.toList.reverse.toArray := by
  congr 1
  have e : ∀ (l : List Value), ((List.range l.length).filterMap fun (m : Nat) => l[((l.length : Int) - 1 + (m : Int) * (-1)).toNat]?) = l.reverse := by
    intro l
    apply List.ext_getElem?
    intro i
    have g : ∀ m ∈ List.range l.length, (l[((l.length : Int) - 1 + (m : Int) * (-1)).toNat]?) = some ((l[((l.length : Int) - 1 + (m : Int) * (-1)).toNat]?).getD .none) := by
      intro m hm
      have hm' : m < l.length := List.mem_range.mp hm
      have hlt : ((l.length : Int) - 1 + (m : Int) * (-1)).toNat < l.length := by omega
      rw [List.getElem?_eq_getElem hlt] <;> rfl
    have fm : ∀ (r : List Nat), (∀ m ∈ r, m ∈ List.range l.length) → (r.filterMap fun (m : Nat) => l[((l.length : Int) - 1 + (m : Int) * (-1)).toNat]?) = r.map fun (m : Nat) => (l[((l.length : Int) - 1 + (m : Int) * (-1)).toNat]?).getD .none := by
      intro r
      induction r with
      | nil => intro _; rfl
      | cons m r ih =>
        intro hr
        rw [List.filterMap_cons, List.map_cons, ih fun z hz => hr z (List.mem_cons_of_mem _ hz)]
        rw [g m (hr m List.mem_cons_self)]
        rfl
    have e2 := fm _ fun m hm => hm
    rw [e2, List.getElem?_map]
    by_cases hi : i < l.length
    · rw [List.getElem?_range hi, List.getElem?_reverse hi]
      have hlt : ((l.length : Int) - 1 + (i : Int) * (-1)).toNat = l.length - 1 - i := by omega
      show some ((l[((l.length : Int) - 1 + (i : Int) * (-1)).toNat]?).getD .none) = _
      rw [hlt, List.getElem?_eq_getElem (by omega)] <;> rfl
    · rw [List.getElem?_eq_none (by simpa using hi), List.getElem?_eq_none (by simpa using hi)] <;> rfl
  have := e xs.toList
  simpa using this
theorem getItem_tuple_rev {t sl : Addr} {items : Array Value} {vs : Value} {Q : Value → Shared → Prop} (ht : IsTup s.heap t items) (hs : s.heap.IsSliceOf sl .none .none vs) (ps : IsPart vs (some (-1)))
    (h : Q (.ref s.heap.objs.size) { s with heap := s.heap.push { cls := .type "tuple", data := .seq items.toList.reverse.toArray } })
    (hsz : items.size ≤ sizeLine) : wpAny (model prog w) A (getItem (.ref t) (.ref sl)) Q E s := by
  have htake : sizeOk (.seq items.toList.reverse.toArray) := by
    show items.toList.reverse.toArray.size ≤ sizeLine
    simpa using hsz
  obtain ⟨os, hos, hcs, hds⟩ := id hs
  have hTs : s.TypeIs (.ref sl) "slice" := ⟨os, hos, hcs⟩
  unfold getItem
  try with_reducible refine wpAny_holding ?_
  first | refine wpAny_bind (wpAny_pure ?_) | skip
  refine wpAny_bind (wpAny_sequenceKey ht.typeIs (by decide) ?_)
  refine wpAny_bind (wpAny_callSpecial?_slot (name := Str.ofString "__getitem__") ht.typeIs PyProof.Rows.slot_tuple_getitem
    (wpAny_call_entry PyProof.Rows.slot_tuple_getitem ht.typeIs entry_tuple_getitem ?_ (args_tuple_getitem _ _)))
  show wpAny _ _ (Builtin.Tuple.tupleItemsOf (.ref t) >>= _) _ _ s
  refine wpAny_bind (tupleItemsOf_ ht ?_)
  refine wpAny_bind (wpAny_typeOf hTs ?_)
  rw [if_pos (by decide)]
  refine wpAny_bind (sliceApplied_rev hs ps ?_)
  have hno : ¬ ((((items.size : Int) - 1) == 0 && (-1 : Int) == 1 && items.size == items.size) = true) := by
    intro q
    rw [Bool.and_eq_true, Bool.and_eq_true] at q
    exact absurd q.1.2 (by decide)
  show wpAny _ _ (if (((items.size : Int) - 1) == 0 && (-1 : Int) == 1 && items.size == items.size) = true then _ else _) _ _ s
  rw [if_neg hno, pick_rev]
  first
    | exact wpAny_bind (m := Builtin.Tuple.tupleExact _) (wpAny_newObj_type (wpAny_pure ⟨_, rfl, wpAny_pure h⟩) htake)
    | exact wpAny_bind (m := Builtin.Tuple.tupleExact _) (wpAny_newObj_type (wpAny_bind (wpAny_pure (wpAny_pure ⟨_, rfl, wpAny_pure h⟩))) htake)
    | exact wpAny_bind (wpAny_bind (m := Builtin.Tuple.tupleExact _) (wpAny_newObj_type (wpAny_pure (wpAny_pure ⟨_, rfl, wpAny_pure h⟩)) htake))
    | exact wpAny_bind (wpAny_bind (m := Builtin.Tuple.tupleExact _) (wpAny_newObj_type (wpAny_pure ⟨_, rfl, wpAny_pure h⟩) htake))
end
end HT
namespace Sg
open PySem PySem.Spec PyProof.Rows L2
def tRevX (K : PySem.W.Frag) (te : TE) : TE := fun σ H Q => te σ H fun x H1 => ∃ a xs, x = .ref a ∧ ((SqL K H1 a xs ∧ ∀ p, H1 p = none → Q (.ref p) (upd H1 p (.lst xs.reverse))) ∨ (SqT K H1 a xs ∧ ∀ p, H1 p = none → Q (.ref p) (upd H1 p (.tup xs.reverse))))
theorem pe_revX {X : Cx} {e : Expr} {te : TE} {k : Nat} {p1 p2 p3 pos : Pos} (he : PE X e te) : PE X (.Subscript e (.Slice none none (some (.UnaryOp .USub (.Constant (.int 1) k p1) p2)) p3) pos) (tRevX X.K te) := by
  refine ⟨fun pins s σ H Q I h => ?_⟩
  refine Subscript_ (thn (he.run pins s σ H _ I h) fun v s1 ⟨x, H1, I1, r1, q1⟩ => ?_)
  obtain ⟨a, xs, ex, q⟩ := q1
  subst ex
  cases r1
  have hst : PO X (some (.UnaryOp .USub (.Constant (.int 1) k p1) p2)) (tPart (tUn (rU fun i => .int (-i)) (tC (.int 1)))) := po_some (pe_un un_neg pe_int)
  refine wpAny_Slice (thn (po_none.run pins s1 σ H1 (fun o H2 => o = none ∧ H2 = H1) I1 ⟨rfl, rfl⟩) fun vl s2 ⟨l, H2, I2, pl, el, e2⟩ => ?_)
  subst el e2
  refine thn (po_none.run pins s2 σ H2 (fun o H3 => o = none ∧ H3 = H2) I2 ⟨rfl, rfl⟩) fun vu s3 ⟨u, H3, I3, pu, eu, e3⟩ => ?_
  subst eu e3
  refine thn (hst.run pins s3 σ H3 (fun o H4 => o = some (-1) ∧ H4 = H3) I3 ⟨1, rfl, -1, rfl, rfl, rfl⟩) fun vs s4 ⟨o, H4, I4, ps, eo, e4⟩ => ?_
  subst eo e4
  have I5 : Inv X pins σ H4 { s4 with heap := s4.heap.push { cls := .type "slice", data := .fields #[vl, vu, vs] } } := I4.kept (t' := s4.toks) fun b ob q => Heap.get?_push_of_some _ q
  show wpAny (model X.prog X.w) X.A (subscriptTail e (.Slice none none (some (.UnaryOp .USub (.Constant (.int 1) k p1) p2)) p3) (.ref a) (.ref s4.heap.objs.size)) (EP X pins σ Q) X.xe { s4 with heap := s4.heap.push { cls := .type "slice", data := .fields #[vl, vu, vs] } }
  rcases q with ⟨hx, q⟩ | ⟨hx, q⟩
  · obtain ⟨its, r, ht, hz⟩ := I5.list hx
    have hlen := r.length
    refine tail_any (ops := [.ref a, .ref s4.heap.objs.size]) ht.isList.typeIs (PySem.slot_list_getitem.lookup) ?_ (by with_unfolding_all rfl)
    refine wpAny_getItem_list_slice ht.isList (Heap.IsSliceOf.new _ vl vu vs) pl pu ps (by decide) ?_ (by rw [List.size_toArray]; omega)
    rw [PySem.W.krv_pick]
    refine ⟨.ref _, _, I5.laid (t' := s4.toks) (o := .lst xs.reverse) (fun b ob q => Heap.get?_push_of_some _ q) (Nat.le_refl _) ?_, rfl, q _ (I5.hok.fresh (Nat.le_refl _))⟩
    exact ⟨by rw [List.length_reverse]; exact hz, _, 0, r.reverse, Heap.get?_push_size _ rfl⟩
  · obtain ⟨its, r, ht, hz⟩ := I5.tuple hx
    have hlen := r.length
    refine tail_any (ops := [.ref a, .ref s4.heap.objs.size]) ht.typeIs (PyProof.Rows.slot_tuple_getitem.lookup) ?_ (by with_unfolding_all rfl)
    cases pl
    cases pu
    refine HT.getItem_tuple_rev ht (Heap.IsSliceOf.new _ .none .none vs) ps ?_ (by rw [List.size_toArray]; omega)
    refine ⟨.ref _, _, I5.laid (t' := s4.toks) (o := .tup xs.reverse) (fun b ob q => Heap.get?_push_of_some _ q) (Nat.le_refl _) ?_, rfl, q _ (I5.hok.fresh (Nat.le_refl _))⟩
    exact ⟨by rw [List.length_reverse]; exact hz, _, r.reverse, ⟨_, Heap.get?_push_size _ rfl, rfl, 0, rfl⟩⟩
def sRev (m : Bool) : Y → Sto → Res Y
  | .v (.tup ds), S => .ok (.v (.tup ds.reverse)) S
  | x, S => match getL x S with
    | some ds => newL m ds.reverse S
    | none => .bad
theorem re_rev (m : Bool) {X : Cx} {W : WX} {a : Expr} {f : FE Y} {k : Nat} {p1 p2 p3 pos : Pos} (ha : RE X W a f) : RE X W (.Subscript a (.Slice none none (some (.UnaryOp .USub (.Constant (.int 1) k p1) p2)) p3) pos) (fUn (sRev m) f) := weakPE (pe_revX ha) fun σ H Q q => by
  obtain ⟨w, env, S, hE, s, q⟩ := q
  refine ⟨w, env, S, hE, s, rd_bind q fun y S1 w1 v H1 l1 s1 r1 q1 => ?_⟩
  unfold sRev at q1
  split at q1
  · rename_i ds
    have r1' : Rp X.K w1.F (.tup ds) v := r1
    cases r1' with
    | tup h1 h2 => exact ⟨_, _, rfl, .inr ⟨s1.sqT h1, fun p hp => new_tup s1 q1 hp h2.reverse⟩⟩
  · split at q1
    · rename_i ds e1
      obtain ⟨p, xs, rfl, h1, h2⟩ := getL_of s1 r1 e1
      exact ⟨_, _, rfl, .inl ⟨.inl h1, fun p hp => new_lst s1 q1 hp h2.reverse⟩⟩
    · exact q1.elim
end Sg

/-! Q3d: calls of built-ins -/
namespace Sg
open PySem PySem.Spec PyProof.Rows L2
def fCall (sem : List Y → Sto → Res Y) (fs : FE (List Y)) : FE Y := fun env S => (fs env S).bind sem
def CallS (X : Cx) (sem : List Y → Sto → Res Y) (r : List V → Hp → VK → Prop) : Prop :=
  ∀ (E : XK) (w : Wd) (S : Sto) (H : Hp) (ys : List Y) (vs : List V) (Q : VK), Sim X.K w S H → RYs X.K w ys vs → rd X.K X.mg E (sem ys S) w (RY X.K) Q → r vs H Q
section
variable {X : Cx} {W : WX} {k : Nat} {vl wl : List (Nat × Str)} {gl : List Str} {e : Expr} {es : List Expr} {fs : FE (List Y)} {pos p : Pos} {x : Str}
theorem call_read {sem : List Y → Sto → Res Y} {r : List V → Hp → VK → Prop} (hs : CallS X sem r) (σ : L2.St) (H : Hp) (Q : VK) (q : tE X W (fCall sem fs) σ H Q) : tCB r (tA X W fs) σ H Q := by
  obtain ⟨w, env, S, hE, s, q⟩ := q
  refine ⟨w, env, S, hE, s, rd_bind q fun ys S1 w1 vs H1 l1 s1 r1 q1 => ?_⟩
  exact hs _ w1 S1 H1 ys vs Q s1 r1 q1
theorem re_callB (C : Ok X W k vl wl gl) {id : String} {sem : List Y → Sto → Res Y} {r : List V → Hp → VK → Prop} (hc : CallR X (.builtin id) r) (hs : CallS X sem r) (hv : bootBuiltins x = some (.builtin id)) (i j : Nat) (hi : bls[i]? = some x) (hj : gl[j]? = some x) (ha : RA X W (e :: es) fs)
    (he : starEach (e :: es) X.env = (false, eval e X.env) :: starEach es X.env) (hpl : (backTo pos (starEach es X.env)).any (·.1) = false) : RE X W (.Call (.Name x p) (e :: es) [] pos) (fCall sem fs) :=
  weakPE (pe_callB hc (C.glo j x hj).1 (C.blt i x hi) hv ha (C.glo j x hj).2.2 (C.glo j x hj).2.1 he hpl) fun σ H Q q => call_read hs σ H Q q
theorem re_callT (C : Ok X W k vl wl gl) {T : String} {sem : List Y → Sto → Res Y} {r : List V → Hp → VK → Prop} (hc : CallR X (.type T) r) (hs : CallS X sem r) (hv : bootBuiltins x = some (.type T)) (i j : Nat) (hi : bls[i]? = some x) (hj : gl[j]? = some x) (ha : RA X W (e :: es) fs)
    (he : starEach (e :: es) X.env = (false, eval e X.env) :: starEach es X.env) (hpl : (backTo pos (starEach es X.env)).any (·.1) = false) : RE X W (.Call (.Name x p) (e :: es) [] pos) (fCall sem fs) :=
  weakPE (pe_callTy hc (C.glo j x hj).1 (C.blt i x hi) hv ha (C.glo j x hj).2.2 (C.glo j x hj).2.1 he hpl) fun σ H Q q => call_read hs σ H Q q
end

/-! ### len -/
def sLen : List Y → Sto → Res Y
  | [.v (.str z)], S => if okLen z.length = true then .ok (.v (.int z.length)) S else .bad
  | [y], S => match getS y S with
    | some ds => .ok (.v (.int ds.length)) S
    | none => .bad
  | _, _ => .bad
theorem RYs.one {K : PySem.W.Frag} {w : Wd} {y : Y} {vs : List V} (r : RYs K w [y] vs) : ∃ v, vs = [v] ∧ RY K w y v := by
  cases r with
  | cons h t => cases t; exact ⟨_, rfl, h⟩
theorem RYs.two {K : PySem.W.Frag} {w : Wd} {y z : Y} {vs : List V} (r : RYs K w [y, z] vs) : ∃ v u, vs = [v, u] ∧ RY K w y v ∧ RY K w z u := by
  cases r with
  | cons h t =>
    obtain ⟨u, rfl, h2⟩ := t.one
    exact ⟨_, _, rfl, h, h2⟩
theorem sLen_ok {X : Cx} : CallS X sLen (fun xs H Q => ∃ x n, xs = [x] ∧ LenV X.K x H n ∧ Q (.int n) H) := by
  intro E w S H ys vs Q s r h
  unfold sLen at h
  split at h
  · obtain ⟨v, rfl, r1⟩ := r.one
    split at h
    · rename_i hl
      cases r1
      exact ⟨_, _, rfl, ⟨len_ok hl, rfl⟩, rd_ok h s (.int _)⟩
    · exact h.elim
  · obtain ⟨v, rfl, r1⟩ := r.one
    split at h
    · rename_i ds e1
      obtain ⟨p, xs, rfl, h1, h2⟩ := getS_of s r1 e1
      refine ⟨_, xs.length, rfl, ?_, ?_⟩
      · rcases h1 with h1 | h1
        · exact .inl ⟨xs, .inl h1, rfl⟩
        · exact .inr ⟨xs, h1, rfl⟩
      · rw [← h2.length]; exact rd_ok h s (.int _)
    · exact h.elim
  · exact h.elim

/-! ### isinstance -/
def tyD : D → Option String
  | .non => some "NoneType"
  | .bl _ => some "bool"
  | .int _ => some "int"
  | .str _ => some "str"
  | .tup _ => some "tuple"
  | .lst _ => some "list"
  | _ => none
def tyY : Y → Sto → Option String
  | .v d, _ => tyD d
  | .ref n, S => match S[n]? with
    | some (.lst _) => some "list"
    | _ => none
def tyOk (T : String) : Bool := T == "bool" || T == "int" || T == "str" || T == "tuple" || T == "list" || T == "dict"
def isSub (t T : String) : Bool := t == T || (t == "bool" && T == "int")
def sIsi : List Y → Sto → Res Y
  | [y, .v (.ty T)], S => match tyY y S with
    | some t => if tyOk T = true then .ok (.v (.bl (isSub t T))) S else .bad
    | none => .bad
  | _, _ => .bad
def tyNames : List String := ["NoneType", "bool", "int", "str", "tuple", "list"]
def tyTops : List String := ["bool", "int", "str", "tuple", "list", "dict"]
theorem kit_tab : tyNames.all (fun t => tyTops.all fun T => decide (kitB t T = some (isSub t T))) = true := by decide +kernel
theorem kit_at {t T : String} (h1 : t ∈ tyNames) (h2 : T ∈ tyTops) : kitB t T = some (isSub t T) :=
  of_decide_eq_true (List.all_eq_true.mp (List.all_eq_true.mp kit_tab t h1) T h2)
theorem tyOk_mem {T : String} (h : tyOk T = true) : T ∈ tyTops := by
  unfold tyOk at h
  simp only [Bool.or_eq_true, beq_iff_eq] at h
  rcases h with ((((h | h) | h) | h) | h) | h <;> subst h <;> decide
theorem tyY_of {K : PySem.W.Frag} {w : Wd} {S : Sto} {H : Hp} (s : Sim K w S H) {y : Y} {v : V} {t : String} (r : RY K w y v) (e : tyY y S = some t) : TyX K H v (.type t) ∧ t ∈ tyNames := by
  have lst : ∀ {a : Addr} {xs : List V}, Rd H a (.lst xs) → TyX K H (.ref a) (.type "list") := fun h => by
    rcases h with h | ⟨o, h⟩
    · exact .base (.lst h)
    · exact .base (.frz h)
  cases y with
  | ref n =>
    simp only [tyY] at e
    split at e
    · rename_i ds e0
      cases e
      obtain ⟨a, xs, rfl, _, h2, _⟩ := ref_lst s r e0
      exact ⟨lst (.inl h2), by decide⟩
    · cases e
  | v d =>
    have r' : Rp K w.F d v := r
    cases r' with
    | non => cases e; exact ⟨.base .non, by decide⟩
    | bl b => cases e; exact ⟨.base (.bl b), by decide⟩
    | int i => cases e; exact ⟨.base (.int i), by decide⟩
    | str x => cases e; exact ⟨.base (.str x), by decide⟩
    | tup h q =>
      cases e
      refine ⟨?_, by decide⟩
      rcases s.sqT h with (h | ⟨o, h⟩) | ⟨o, its, n, hk, hc, _⟩
      · exact .base (.tup h)
      · exact .fTuple h
      · exact .kTuple hk hc
    | lst h q => cases e; exact ⟨lst (s.rd h), by decide⟩
    | adr a => cases e
    | ty n => cases e
    | scr h q => cases e
theorem sIsi_ok {X : Cx} : CallS X sIsi (rIsi X.K) := by
  intro E w S H ys vs Q s r h
  unfold sIsi at h
  split at h
  · obtain ⟨v, u, rfl, r1, r2⟩ := r.two
    split at h
    · rename_i t e1
      split at h
      · rename_i hT
        obtain ⟨ty, tm⟩ := tyY_of s r1 e1
        cases r2
        exact ⟨_, _, _, _, _, rfl, .ty _, ty, kit_ty (kit_at tm (tyOk_mem hT)), rd_ok h s (.bl _)⟩
      · exact h.elim
    · exact h.elim
  · exact h.elim

/-! ### ints -/
def intsD : List D → Option (List Int)
  | [] => some []
  | .int i :: ds => match intsD ds with
    | some ns => some (i :: ns)
    | none => none
  | _ => none
@[simp] theorem intsD_nil : intsD [] = some [] := rfl
@[simp] theorem intsD_map (ns : List Int) : intsD (ns.map D.int) = some ns := by
  induction ns with
  | nil => rfl
  | cons i r ih => simp [intsD, ih]
theorem intsD_eq : ∀ {ds : List D} {ns : List Int}, intsD ds = some ns → ds = ns.map D.int
  | [], _, e => by cases e; rfl
  | .int i :: ds, ns, e => by
    simp only [intsD] at e
    split at e
    · rename_i r e1
      cases e
      rw [intsD_eq e1] <;> rfl
    · cases e
  | .non :: _, _, e => by simp [intsD] at e
  | .bl _ :: _, _, e => by simp [intsD] at e
  | .str _ :: _, _, e => by simp [intsD] at e
  | .tup _ :: _, _, e => by simp [intsD] at e
  | .lst _ :: _, _, e => by simp [intsD] at e
  | .adr _ :: _, _, e => by simp [intsD] at e
  | .ty _ :: _, _, e => by simp [intsD] at e
  | .dic _ _ :: _, _, e => by simp [intsD] at e
  | .set _ :: _, _, e => by simp [intsD] at e
theorem RpL.ints {K : PySem.W.Frag} {F : Hp} : ∀ {ns : List Int} {vs : List V}, RpL K F (ns.map D.int) vs → vs = ns.map V.int
  | [], _, .nil => rfl
  | _ :: _, _, .cons h r => by cases h; rw [RpL.ints r] <;> rfl
theorem RpL.ofInts {K : PySem.W.Frag} {F : Hp} : ∀ (ns : List Int), RpL K F (ns.map D.int) (ns.map V.int)
  | [] => .nil
  | i :: r => .cons (.int i) (RpL.ofInts r)
def sAbs : List Y → Sto → Res Y
  | [.v (.int i)], S => .ok (.v (.int (if i < 0 then -i else i))) S
  | _, _ => .bad
theorem sAbs_ok {X : Cx} : CallS X sAbs (fun xs H Q => ∃ i, xs = [.int i] ∧ Q (.int (if i < 0 then -i else i)) H) := by
  intro E w S H ys vs Q s r h
  unfold sAbs at h
  split at h
  · obtain ⟨v, rfl, r1⟩ := r.one
    cases r1
    exact ⟨_, rfl, rd_ok h s (.int _)⟩
  · exact h.elim
def sInt : List Y → Sto → Res Y
  | [.v (.int i)], S => .ok (.v (.int i)) S
  | [.v (.bl b)], S => .ok (.v (.int (if b = true then 1 else 0))) S
  | _, _ => .bad
theorem sInt_ok {X : Cx} : CallS X sInt (fun xs H Q => (∃ i, xs = [.int i] ∧ Q (.int i) H) ∨ ∃ k, xs = [.bl k] ∧ Q (.int (if k then 1 else 0)) H) := by
  intro E w S H ys vs Q s r h
  unfold sInt at h
  split at h
  · obtain ⟨v, rfl, r1⟩ := r.one
    cases r1
    exact .inl ⟨_, rfl, rd_ok h s (.int _)⟩
  · obtain ⟨v, rfl, r1⟩ := r.one
    cases r1
    exact .inr ⟨_, rfl, rd_ok h s (.int _)⟩
  · exact h.elim
def sStr : List Y → Sto → Res Y
  | [.v (.str z)], S => .ok (.v (.str z)) S
  | [.v (.int i)], S => if i.natAbs.log2 < 1920 then .ok (.v (.str (toString i : String))) S else .bad
  | _, _ => .bad
theorem sStr_ok {X : Cx} : CallS X sStr (fun xs H Q => (∃ i, xs = [.int i] ∧ i.natAbs.log2 < 1920 ∧ Q (.str (toString i : String)) H) ∨ ∃ a, xs = [.str a] ∧ Q (.str a) H) := by
  intro E w S H ys vs Q s r h
  unfold sStr at h
  split at h
  · obtain ⟨v, rfl, r1⟩ := r.one
    cases r1
    exact .inr ⟨_, rfl, rd_ok h s (.str _)⟩
  · obtain ⟨v, rfl, r1⟩ := r.one
    split at h
    · rename_i hl
      cases r1
      exact .inl ⟨_, rfl, hl, rd_ok h s (.str _)⟩
    · exact h.elim
  · exact h.elim
def sMax2 : List Y → Sto → Res Y
  | [.v (.int i), .v (.int j)], S => .ok (.v (.int (if j > i then j else i))) S
  | _, _ => .bad
theorem sMax2_ok {X : Cx} : CallS X sMax2 (fun xs H Q => ∃ i j, xs = [.int i, .int j] ∧ Q (.int (if j > i then j else i)) H) := by
  intro E w S H ys vs Q s r h
  unfold sMax2 at h
  split at h
  · obtain ⟨v, u, rfl, r1, r2⟩ := r.two
    cases r1; cases r2
    exact ⟨_, _, rfl, rd_ok h s (.int _)⟩
  · exact h.elim
def sMin2 : List Y → Sto → Res Y
  | [.v (.int i), .v (.int j)], S => .ok (.v (.int (if j < i then j else i))) S
  | _, _ => .bad
theorem sMin2_ok {X : Cx} : CallS X sMin2 (fun xs H Q => ∃ i j, xs = [.int i, .int j] ∧ Q (.int (if j < i then j else i)) H) := by
  intro E w S H ys vs Q s r h
  unfold sMin2 at h
  split at h
  · obtain ⟨v, u, rfl, r1, r2⟩ := r.two
    cases r1; cases r2
    exact ⟨_, _, rfl, rd_ok h s (.int _)⟩
  · exact h.elim
/-- the greatest, the least of some -/
def maxI : List Int → Int
  | [] => 0
  | [i] => i
  | i :: r => max i (maxI r)
def minI : List Int → Int
  | [] => 0
  | [i] => i
  | i :: r => min i (minI r)
theorem maxI_mem : ∀ {ns : List Int}, ns ≠ [] → maxI ns ∈ ns ∧ ∀ y ∈ ns, y ≤ maxI ns
  | [], h => absurd rfl h
  | [i], _ => by simp [maxI]
  | i :: j :: r, _ => by
    obtain ⟨h1, h2⟩ := maxI_mem (ns := j :: r) (by simp)
    have e : maxI (i :: j :: r) = max i (maxI (j :: r)) := rfl
    rw [e]
    refine ⟨?_, fun y hy => ?_⟩
    · by_cases q : i ≤ maxI (j :: r)
      · rw [show max i (maxI (j :: r)) = maxI (j :: r) by omega]
        exact List.mem_cons_of_mem _ h1
      · rw [show max i (maxI (j :: r)) = i by omega]
        exact List.mem_cons_self
    · rcases List.mem_cons.mp hy with rfl | hy
      · omega
      · have := h2 y hy; omega
theorem minI_mem : ∀ {ns : List Int}, ns ≠ [] → minI ns ∈ ns ∧ ∀ y ∈ ns, minI ns ≤ y
  | [], h => absurd rfl h
  | [i], _ => by simp [minI]
  | i :: j :: r, _ => by
    obtain ⟨h1, h2⟩ := minI_mem (ns := j :: r) (by simp)
    have e : minI (i :: j :: r) = min i (minI (j :: r)) := rfl
    rw [e]
    refine ⟨?_, fun y hy => ?_⟩
    · by_cases q : i ≤ minI (j :: r)
      · rw [show min i (minI (j :: r)) = i by omega]
        exact List.mem_cons_self
      · rw [show min i (minI (j :: r)) = minI (j :: r) by omega]
        exact List.mem_cons_of_mem _ h1
    · rcases List.mem_cons.mp hy with rfl | hy
      · omega
      · have := h2 y hy; omega
def sMax1 : List Y → Sto → Res Y
  | [y], S => match getL y S with
    | some ds => match intsD ds with
      | some ns => if ns = [] then .bad else .ok (.v (.int (maxI ns))) S
      | none => .bad
    | none => .bad
  | _, _ => .bad
def sMin1 : List Y → Sto → Res Y
  | [y], S => match getL y S with
    | some ds => match intsD ds with
      | some ns => if ns = [] then .bad else .ok (.v (.int (minI ns))) S
      | none => .bad
    | none => .bad
  | _, _ => .bad
theorem getL_ints {K : PySem.W.Frag} {w : Wd} {S : Sto} {H : Hp} (s : Sim K w S H) {y : Y} {v : V} {ds : List D} {ns : List Int} (r : RY K w y v) (e1 : getL y S = some ds) (e2 : intsD ds = some ns) : ∃ a, v = .ref a ∧ Rd H a (.lst (ns.map V.int)) := by
  obtain ⟨a, xs, rfl, h1, h2⟩ := getL_of s r e1
  rw [intsD_eq e2] at h2
  rw [h2.ints] at h1
  exact ⟨a, rfl, h1⟩
theorem sMax1_ok {X : Cx} : CallS X sMax1 (rMax X.K) := by
  intro E w S H ys vs Q s r h
  unfold sMax1 at h
  split at h
  · obtain ⟨v, rfl, r1⟩ := r.one
    split at h
    · rename_i ds e1
      split at h
      · rename_i ns e2
        split at h
        · exact h.elim
        · rename_i hne
          obtain ⟨a, rfl, h1⟩ := getL_ints s r1 e1 e2
          refine ⟨a, ns, rfl, .inl h1, List.length_pos_iff.mpr hne, fun m hm hle => ?_⟩
          obtain ⟨g1, g2⟩ := maxI_mem hne
          have : m = maxI ns := Int.le_antisymm (g2 m hm) (hle _ g1)
          subst this
          exact rd_ok h s (.int _)
      · exact h.elim
    · exact h.elim
  · exact h.elim
theorem sMin1_ok {X : Cx} : CallS X sMin1 (rMin X.K) := by
  intro E w S H ys vs Q s r h
  unfold sMin1 at h
  split at h
  · obtain ⟨v, rfl, r1⟩ := r.one
    split at h
    · rename_i ds e1
      split at h
      · rename_i ns e2
        split at h
        · exact h.elim
        · rename_i hne
          obtain ⟨a, rfl, h1⟩ := getL_ints s r1 e1 e2
          refine ⟨a, ns, rfl, .inl h1, List.length_pos_iff.mpr hne, fun m hm hle => ?_⟩
          obtain ⟨g1, g2⟩ := minI_mem hne
          have : m = minI ns := Int.le_antisymm (hle _ g1) (g2 m hm)
          subst this
          exact rd_ok h s (.int _)
      · exact h.elim
    · exact h.elim
  · exact h.elim
/-- sum of a list or a tuple of ints -/
def sSum : List Y → Sto → Res Y
  | [y], S => match getS y S with
    | some ds => match intsD ds with
      | some ns => .ok (.v (.int ns.sum)) S
      | none => .bad
    | none => .bad
  | _, _ => .bad
def rSumX (K : PySem.W.Frag) : List V → Hp → VK → Prop := fun vs H Q => ∃ (a : Addr) (ns : List Int), vs = [V.ref a] ∧ (SqL K H a (ns.map V.int) ∨ SqT K H a (ns.map V.int)) ∧ Q (.int ns.sum) H
theorem cr_sumX {X : Cx} (hc : X.calm = true) : CallR X (.builtin "sum") (rSumX X.K) := by
  intro pins s σ H vs us Q I r h
  obtain ⟨a, ns, rfl, hs, q⟩ := h
  rcases hs with hs | hs
  · exact cr_sum hc pins s σ H _ us Q I r ⟨a, ns, rfl, hs, q⟩
  · obtain ⟨its, rv, hl, _⟩ := I.tuple hs
    rw [Vals.ref1 r]
    have hi := rv.ints
    obtain ⟨xs, hx⟩ := hi.allInts.items
    have hn : numsOf its.toArray.toList = ns := by rw [show its.toArray.toList = its from rfl, hi.numsOf]
    have hl' : s.heap.IsTuple a its.toArray := hl
    rw [hx] at hl' hn
    rw [nums_intItems] at hn
    refine PySem.W.ktm_sumG (I.ok.hd hc) hl' fun h' tk t' hk => ⟨.int _, H, I.kept hk, ⟨t', rfl⟩, ?_⟩
    rw [preSum_eq, List.take_of_length_le (by simp), hn]
    exact q
theorem sSum_ok {X : Cx} : CallS X sSum (rSumX X.K) := by
  intro E w S H ys vs Q s r h
  unfold sSum at h
  split at h
  · obtain ⟨v, rfl, r1⟩ := r.one
    split at h
    · rename_i ds e1
      split at h
      · rename_i ns e2
        obtain ⟨a, xs, rfl, h1, h2⟩ := getS_of s r1 e1
        rw [intsD_eq e2] at h2
        rw [h2.ints] at h1
        refine ⟨a, ns, rfl, h1.imp .inl id, rd_ok h s (.int _)⟩
      · exact h.elim
    · exact h.elim
  · exact h.elim
def blsD : List D → Option (List Bool)
  | [] => some []
  | .bl i :: ds => match blsD ds with
    | some ns => some (i :: ns)
    | none => none
  | _ => none
@[simp] theorem blsD_nil : blsD [] = some [] := rfl
@[simp] theorem blsD_map (ns : List Bool) : blsD (ns.map D.bl) = some ns := by
  induction ns with
  | nil => rfl
  | cons i r ih => simp [blsD, ih]
theorem blsD_vs {K : PySem.W.Frag} {F : Hp} : ∀ {ds : List D} {ns : List Bool} {vs : List V}, blsD ds = some ns → RpL K F ds vs → vs = ns.map V.bl
  | [], _, _, e, .nil => by cases e; rfl
  | d :: ds, ns, _, e, .cons h r => by
    cases d with
    | bl b =>
      simp only [blsD] at e
      split at e
      · rename_i r' e1
        cases e
        cases h
        rw [blsD_vs e1 r] <;> rfl
      · cases e
    | _ => simp [blsD] at e
def sAll : List Y → Sto → Res Y
  | [y], S => match getL y S with
    | some ds => match blsD ds with
      | some ns => .ok (.v (.bl (ns.all id))) S
      | none => .bad
    | none => .bad
  | _, _ => .bad
def sAny : List Y → Sto → Res Y
  | [y], S => match getL y S with
    | some ds => match blsD ds with
      | some ns => .ok (.v (.bl (ns.any id))) S
      | none => .bad
    | none => .bad
  | _, _ => .bad
theorem sAll_ok {X : Cx} : CallS X sAll (rAll X.K) := by
  intro E w S H ys vs Q s r h
  unfold sAll at h
  split at h
  · obtain ⟨v, rfl, r1⟩ := r.one
    split at h
    · rename_i ds e1
      split at h
      · rename_i ns e2
        obtain ⟨a, xs, rfl, h1, h2⟩ := getL_of s r1 e1
        rw [blsD_vs e2 h2] at h1
        exact ⟨a, ns, rfl, .inl h1, rd_ok h s (.bl _)⟩
      · exact h.elim
    · exact h.elim
  · exact h.elim
theorem sAny_ok {X : Cx} : CallS X sAny (rAny X.K) := by
  intro E w S H ys vs Q s r h
  unfold sAny at h
  split at h
  · obtain ⟨v, rfl, r1⟩ := r.one
    split at h
    · rename_i ds e1
      split at h
      · rename_i ns e2
        obtain ⟨a, xs, rfl, h1, h2⟩ := getL_of s r1 e1
        rw [blsD_vs e2 h2] at h1
        exact ⟨a, ns, rfl, .inl h1, rd_ok h s (.bl _)⟩
      · exact h.elim
    · exact h.elim
  · exact h.elim
/-- list(x), tuple(x) -/
def sList (m : Bool) : List Y → Sto → Res Y
  | [.v (.scr ds)], S => newL m ds S
  | [y], S => match getS y S with
    | some ds => newL m ds S
    | none => .bad
  | _, _ => .bad
theorem sList_ok {X : Cx} (m : Bool) : CallS X (sList m) (fun xs H Q => ∃ p ys, xs = [.ref p] ∧ (SqL X.K H p ys ∨ SqT X.K H p ys) ∧ ∀ l, H l = none → Q (.ref l) (upd H l (.lst ys))) := by
  intro E w S H ys vs Q s r h
  unfold sList at h
  split at h
  · obtain ⟨v, rfl, r1⟩ := r.one
    cases r1 with
    | scr h1 h2 => exact ⟨_, _, rfl, .inl (s.sqL h1), fun l hl => new_lst s h hl h2⟩
  · obtain ⟨v, rfl, r1⟩ := r.one
    split at h
    · rename_i ds e1
      obtain ⟨a, xs, rfl, h1, h2⟩ := getS_of s r1 e1
      exact ⟨a, xs, rfl, h1.imp .inl id, fun l hl => new_lst s h hl h2⟩
    · exact h.elim
  · exact h.elim
def sTuple : List Y → Sto → Res Y
  | [y], S => match getS y S with
    | some ds => .ok (.v (.tup ds)) S
    | none => .bad
  | _, _ => .bad
theorem sTuple_ok {X : Cx} : CallS X sTuple (fun xs H Q => ∃ p ys, xs = [.ref p] ∧ ((SqL X.K H p ys ∧ ∀ l, H l = none → Q (.ref l) (upd H l (.tup ys))) ∨ (SqT X.K H p ys ∧ Q (.ref p) H))) := by
  intro E w S H ys vs Q s r h
  unfold sTuple at h
  split at h
  · rename_i y
    obtain ⟨v, rfl, r1⟩ := r.one
    split at h
    · rename_i ds e1
      by_cases hy : y = Y.v (.tup ds)
      · subst hy
        have r' : Rp X.K w.F (.tup ds) v := r1
        cases r' with
        | tup h1 h2 => exact ⟨_, _, rfl, .inr ⟨s.sqT h1, rd_ok h s (Rp.tup h1 h2)⟩⟩
      · have e2 : getL y S = some ds := by
          cases y with
          | ref n => exact e1
          | v d =>
            cases d with
            | tup es => cases e1; exact absurd rfl hy
            | lst es => exact e1
            | _ => cases e1
        obtain ⟨a, xs, rfl, h1, h2⟩ := getL_of s r1 e2
        exact ⟨a, xs, rfl, .inl ⟨.inl h1, fun l hl => new_tup s h hl h2⟩⟩
    · exact h.elim
  · exact h.elim
/-- sorted ints: by insertion -/
def insI (i : Int) : List Int → List Int
  | [] => [i]
  | j :: r => if i ≤ j then i :: j :: r else j :: insI i r
def sortI : List Int → List Int
  | [] => []
  | i :: r => insI i (sortI r)
theorem insI_perm (i : Int) : ∀ r : List Int, (insI i r).Perm (i :: r)
  | [] => .refl _
  | j :: r => by
    unfold insI
    split
    · exact .refl _
    · exact ((insI_perm i r).cons j).trans (.swap i j r)
theorem sortI_perm : ∀ r : List Int, (sortI r).Perm r
  | [] => .refl _
  | i :: r => (insI_perm i (sortI r)).trans ((sortI_perm r).cons i)
theorem insI_pw (i : Int) : ∀ {r : List Int}, r.Pairwise (· ≤ ·) → (insI i r).Pairwise (· ≤ ·)
  | [], _ => List.pairwise_singleton _ _
  | j :: r, h => by
    obtain ⟨h1, h2⟩ := List.pairwise_cons.mp h
    unfold insI
    split
    · rename_i hij
      refine List.pairwise_cons.mpr ⟨fun z hz => ?_, h⟩
      rcases List.mem_cons.mp hz with rfl | hz
      · exact hij
      · exact Int.le_trans hij (h1 z hz)
    · rename_i hij
      refine List.pairwise_cons.mpr ⟨fun z hz => ?_, insI_pw i h2⟩
      rcases List.mem_cons.mp ((insI_perm i r).mem_iff.mp hz) with rfl | hz
      · omega
      · exact h1 z hz
theorem sortI_pw : ∀ r : List Int, (sortI r).Pairwise (· ≤ ·)
  | [] => .nil
  | i :: r => insI_pw i (sortI_pw r)
theorem sort_uniq : ∀ {a b : List Int}, a.Perm b → a.Pairwise (· ≤ ·) → b.Pairwise (· ≤ ·) → a = b := fun h ha hb => h.eq_of_pairwise (fun _ _ _ _ x y => Int.le_antisymm x y) ha hb
def sSortedI (m : Bool) : List Y → Sto → Res Y
  | [y], S => match getL y S with
    | some ds => match intsD ds with
      | some ns => newL m ((sortI ns).map D.int) S
      | none => .bad
    | none => .bad
  | _, _ => .bad
theorem sSortedI_ok {X : Cx} (m : Bool) : CallS X (sSortedI m) (rSortedI X.K) := by
  intro E w S H ys vs Q s r h
  unfold sSortedI at h
  split at h
  · obtain ⟨v, rfl, r1⟩ := r.one
    split at h
    · rename_i ds e1
      split at h
      · rename_i ns e2
        obtain ⟨a, rfl, h1⟩ := getL_ints s r1 e1 e2
        refine ⟨a, ns, rfl, .inl h1, fun ns' p hp hs hn => ?_⟩
        have : ns' = sortI ns := sort_uniq (hp.trans (sortI_perm ns).symm) hs (sortI_pw ns)
        subst this
        exact new_lst s h hn (.ofInts _)
      · exact h.elim
    · exact h.elim
  · exact h.elim

section
variable {X : Cx} {W : WX} {k : Nat} {vl wl : List (Nat × Str)} {gl : List Str} {e : Expr} {es : List Expr} {fs : FE (List Y)} {pos p : Pos}
abbrev HE (X : Cx) (e : Expr) (es : List Expr) : Prop := starEach (e :: es) X.env = (false, eval e X.env) :: starEach es X.env
abbrev HP (X : Cx) (es : List Expr) (pos : Pos) : Prop := (backTo pos (starEach es X.env)).any (·.1) = false
theorem re_len (C : Ok X W k vl wl gl) (j : Nat) (ha : RA X W (e :: es) fs) (hj : gl[j]? = some "len" := by rfl) (he : HE X e es := by rfl) (hp : HP X es pos := by rfl) : RE X W (.Call (.Name "len" p) (e :: es) [] pos) (fCall sLen fs) :=
  re_callB C call_len sLen_ok (by decide +kernel) 0 j rfl hj ha he hp
theorem re_isi (C : Ok X W k vl wl gl) (j : Nat) (ha : RA X W (e :: es) fs) (hj : gl[j]? = some "isinstance" := by rfl) (he : HE X e es := by rfl) (hp : HP X es pos := by rfl) : RE X W (.Call (.Name "isinstance" p) (e :: es) [] pos) (fCall sIsi fs) :=
  re_callB C call_isi sIsi_ok (by decide +kernel) 2 j rfl hj ha he hp
theorem re_abs (C : Ok X W k vl wl gl) (j : Nat) (ha : RA X W (e :: es) fs) (hj : gl[j]? = some "abs" := by rfl) (he : HE X e es := by rfl) (hp : HP X es pos := by rfl) : RE X W (.Call (.Name "abs" p) (e :: es) [] pos) (fCall sAbs fs) :=
  re_callB C call_abs sAbs_ok (by decide +kernel) 3 j rfl hj ha he hp
theorem re_sum (C : Ok X W k vl wl gl) (j : Nat) (ha : RA X W (e :: es) fs) (hj : gl[j]? = some "sum" := by rfl) (he : HE X e es := by rfl) (hp : HP X es pos := by rfl) : RE X W (.Call (.Name "sum" p) (e :: es) [] pos) (fCall sSum fs) :=
  re_callB C (cr_sumX C.calm) sSum_ok (by decide +kernel) 4 j rfl hj ha he hp
theorem re_min2 (C : Ok X W k vl wl gl) (j : Nat) (ha : RA X W (e :: es) fs) (hj : gl[j]? = some "min" := by rfl) (he : HE X e es := by rfl) (hp : HP X es pos := by rfl) : RE X W (.Call (.Name "min" p) (e :: es) [] pos) (fCall sMin2 fs) :=
  re_callB C (call_min2 C.calm) sMin2_ok (by decide +kernel) 5 j rfl hj ha he hp
theorem re_max2 (C : Ok X W k vl wl gl) (j : Nat) (ha : RA X W (e :: es) fs) (hj : gl[j]? = some "max" := by rfl) (he : HE X e es := by rfl) (hp : HP X es pos := by rfl) : RE X W (.Call (.Name "max" p) (e :: es) [] pos) (fCall sMax2 fs) :=
  re_callB C (call_max2 C.calm) sMax2_ok (by decide +kernel) 6 j rfl hj ha he hp
theorem re_min1 (C : Ok X W k vl wl gl) (j : Nat) (ha : RA X W (e :: es) fs) (hj : gl[j]? = some "min" := by rfl) (he : HE X e es := by rfl) (hp : HP X es pos := by rfl) : RE X W (.Call (.Name "min" p) (e :: es) [] pos) (fCall sMin1 fs) :=
  re_callB C (cr_min C.calm) sMin1_ok (by decide +kernel) 5 j rfl hj ha he hp
theorem re_max1 (C : Ok X W k vl wl gl) (j : Nat) (ha : RA X W (e :: es) fs) (hj : gl[j]? = some "max" := by rfl) (he : HE X e es := by rfl) (hp : HP X es pos := by rfl) : RE X W (.Call (.Name "max" p) (e :: es) [] pos) (fCall sMax1 fs) :=
  re_callB C (cr_max C.calm) sMax1_ok (by decide +kernel) 6 j rfl hj ha he hp
theorem re_all (C : Ok X W k vl wl gl) (j : Nat) (ha : RA X W (e :: es) fs) (hj : gl[j]? = some "all" := by rfl) (he : HE X e es := by rfl) (hp : HP X es pos := by rfl) : RE X W (.Call (.Name "all" p) (e :: es) [] pos) (fCall sAll fs) :=
  re_callB C (cr_all C.calm) sAll_ok (by decide +kernel) 7 j rfl hj ha he hp
theorem re_any (C : Ok X W k vl wl gl) (j : Nat) (ha : RA X W (e :: es) fs) (hj : gl[j]? = some "any" := by rfl) (he : HE X e es := by rfl) (hp : HP X es pos := by rfl) : RE X W (.Call (.Name "any" p) (e :: es) [] pos) (fCall sAny fs) :=
  re_callB C (cr_any C.calm) sAny_ok (by decide +kernel) 8 j rfl hj ha he hp
theorem re_sortedI (m : Bool) (C : Ok X W k vl wl gl) (j : Nat) (ha : RA X W (e :: es) fs) (hj : gl[j]? = some "sorted" := by rfl) (he : HE X e es := by rfl) (hp : HP X es pos := by rfl) : RE X W (.Call (.Name "sorted" p) (e :: es) [] pos) (fCall (sSortedI m) fs) :=
  re_callB C cr_sortedI (sSortedI_ok m) (by decide +kernel) 9 j rfl hj ha he hp
theorem re_intc (C : Ok X W k vl wl gl) (j : Nat) (ha : RA X W (e :: es) fs) (hj : gl[j]? = some "int" := by rfl) (he : HE X e es := by rfl) (hp : HP X es pos := by rfl) : RE X W (.Call (.Name "int" p) (e :: es) [] pos) (fCall sInt fs) :=
  re_callT C call_int1 sInt_ok (by decide +kernel) 10 j rfl hj ha he hp
theorem re_strc (C : Ok X W k vl wl gl) (j : Nat) (ha : RA X W (e :: es) fs) (hj : gl[j]? = some "str" := by rfl) (he : HE X e es := by rfl) (hp : HP X es pos := by rfl) : RE X W (.Call (.Name "str" p) (e :: es) [] pos) (fCall sStr fs) :=
  re_callT C (call_str_int.or SkE.call_str_str) sStr_ok (by decide +kernel) 11 j rfl hj ha he hp
theorem re_listc (m : Bool) (C : Ok X W k vl wl gl) (j : Nat) (ha : RA X W (e :: es) fs) (hj : gl[j]? = some "list" := by rfl) (he : HE X e es := by rfl) (hp : HP X es pos := by rfl) : RE X W (.Call (.Name "list" p) (e :: es) [] pos) (fCall (sList m) fs) :=
  re_callT C call_list_of (sList_ok m) (by decide +kernel) 12 j rfl hj ha he hp
theorem re_tupc (C : Ok X W k vl wl gl) (j : Nat) (ha : RA X W (e :: es) fs) (hj : gl[j]? = some "tuple" := by rfl) (he : HE X e es := by rfl) (hp : HP X es pos := by rfl) : RE X W (.Call (.Name "tuple" p) (e :: es) [] pos) (fCall sTuple fs) :=
  re_callT C call_tuple_of sTuple_ok (by decide +kernel) 13 j rfl hj ha he hp

/-! ### calls of the text's own defs -/
/-- a def's promise by its mirror -/
def spM (K : PySem.W.Frag) (mg : Str → Option Value) (n : Nat) (m : List Y → Sto → Res Y) : Sp := fun vs H Q E => vs.length = n ∧ ∃ w S ys, Sim K w S H ∧ RYs K w ys vs ∧ rd K mg E (m ys S) w (RY K) Q
/-- the def x, of n parameters, is mirrored by m, j calls deep at most -/
structure Def (P : Program) (w : World) (K : PySem.W.Frag) (mg : Str → Option Value) (base : Heap) (x : Str) (n j : Nat) (m : List Y → Sto → Res Y) : Prop where
  ex : ∃ (f : Addr) (fd : FuncData) (ps : List Str), mg x = some (.ref f) ∧ PySem.W.keepIn K (.ref f) = true ∧ ps.length = n ∧ FnOk P w K mg base (L2.CX P w) j f fd ps (spM K mg n m) ∧ Binds K fd ps []
theorem Def.mono {P : Program} {w : World} {K : PySem.W.Frag} {mg : Str → Option Value} {base : Heap} {x : Str} {n j k : Nat} {m : List Y → Sto → Res Y} (d : Def P w K mg base x n j m) (h : j ≤ k) : Def P w K mg base x n k m := by
  obtain ⟨f, fd, ps, a, b, c, d, e⟩ := d.ex
  exact ⟨f, fd, ps, a, b, c, d.mono h, e⟩
theorem re_call (C : Ok X W k vl wl gl) {x : Str} {n j : Nat} {m : List Y → Sto → Res Y} (d : Def X.prog X.w X.K X.mg X.base x n j m) (i : Nat) (ha : RA X W (e :: es) fs) (hn : (e :: es).length = n := by rfl) (hk : j ≤ k := by omega) (hj : gl[i]? = some x := by rfl) (he : HE X e es := by rfl) (hp : HP X es pos := by rfl) :
    RE X W (.Call (.Name x p) (e :: es) [] pos) (fCall (fun ys S => if ys.length = n then m ys S else .bad) fs) := by
  obtain ⟨f, fd, ps, h1, h2, h3, h4, h5⟩ := d.ex
  refine weakPE (pe_callS h4 (C.hr.mono hk) (C.glo i x hj).1 h1 h2 h5 (fun σ => passAt C.tk σ) ha (C.glo i x hj).2.1 he hp) fun σ H Q q => ?_
  obtain ⟨w, env, S, hE, s, q⟩ := q
  refine ⟨w, env, S, hE, s, rd_bind q fun ys S1 w1 vs H1 l1 s1 r1 q1 => ?_⟩
  split at q1
  · rename_i hl
    exact ⟨by rw [← r1.length]; exact hl, w1, S1, ys, s1, r1, q1⟩
  · exact q1.elim
end
end Sg

/-! Q4a: what is walked: lists and tuples alike, in pairs, by threes, counted -/
namespace Sg
open PySem PySem.Spec PyProof.Rows L2
/-- a list (false) or a tuple (true) -/
def SQ (K : PySem.W.Frag) (H : Hp) : Bool → Addr → List V → Prop
  | false, a, xs => SqL K H a xs
  | true, a, xs => SqT K H a xs
def SIt : Bool → Heap → Addr → Addr → Nat → Prop
  | false, h, it, a, i => h.IsListIter it a i
  | true, h, it, a, i => h.IsTupleIter it a i
def SSq : Bool → Heap → Addr → Array Value → Prop
  | false, h, a, xs => h.IsList a xs
  | true, h, a, xs => h.IsTuple a xs
def SOb : Bool → Addr → Obj
  | false, a => { cls := .type "list_iterator", data := .fields #[.ref a, .int 0 0] }
  | true, a => { cls := .type "tuple_iterator", data := .fields #[.ref a, .int 0 0] }
section
variable {X : Cx} {pins : List (Addr × Obj)} {σ : L2.St} {H : Hp} {s : Shared} {t : Bool} {a it : Addr} {xs : List V}
theorem Inv.sq (I : Inv X pins σ H s) (h : SQ X.K H t a xs) : ∃ its : List Value, Vals xs its ∧ SSq t s.heap a its.toArray ∧ xs.length ≤ sizeLine := by
  cases t with
  | false => obtain ⟨its, r, p, z⟩ := I.list h; exact ⟨its, r, p.isList, z⟩
  | true => obtain ⟨its, r, p, z⟩ := I.tuple h; exact ⟨its, r, p, z⟩
theorem Inv.sq_inj {ys : List V} (I : Inv X pins σ H s) (h : SQ X.K H t a xs) (h' : SQ X.K H t a ys) : xs = ys := by
  cases t with
  | false => exact I.list_inj h h'
  | true => exact I.tuple_inj h h'
theorem SSq.there {h : Heap} {its : Array Value} (x : SSq t h a its) : ∃ o c, h.get? a = some o ∧ o.cls = .type c ∧ (c = "list" ∨ c = "tuple") := by
  cases t with
  | false => obtain ⟨o, e, c, _⟩ := x; exact ⟨o, _, e, c, .inl rfl⟩
  | true => obtain ⟨o, e, c, _⟩ := x; exact ⟨o, _, e, c, .inr rfl⟩
theorem SIt.there {h : Heap} {i : Nat} (x : SIt t h it a i) : ∃ o c, h.get? it = some o ∧ o.cls = .type c ∧ (c = "list_iterator" ∨ c = "tuple_iterator") ∧ ∀ v, o.data ≠ .cell v := by
  cases t with
  | false => obtain ⟨o, e, c, d⟩ := x; exact ⟨o, _, e, c, .inl rfl, fun v z => by rw [d] at z; cases z⟩
  | true => obtain ⟨o, e, c, d⟩ := x; exact ⟨o, _, e, c, .inr rfl, fun v z => by rw [d] at z; cases z⟩
theorem SIt.at {h h' : Heap} {i : Nat} (x : SIt t h it a i) (k : ∀ o, h.get? it = some o → h'.get? it = some o) : SIt t h' it a i := by
  cases t with
  | false => exact Heap.IsListIter.at x k
  | true => exact Heap.IsTupleIter.at x k
theorem SSq.at {h h' : Heap} {its : Array Value} (x : SSq t h a its) (k : ∀ o, h.get? a = some o → h'.get? a = some o) : SSq t h' a its := by
  cases t with
  | false => exact Heap.IsList.at x k
  | true => exact Heap.IsTuple.at x k
theorem apart_si {h : Heap} {i : Nat} {its : Array Value} (x : SSq t h a its) {t' : Bool} {b : Addr} (y : SIt t' h it b i) : a ≠ it := fun e => by
  subst e
  obtain ⟨o, c, e1, c1, q⟩ := x.there
  obtain ⟨o', c', e2, c2, q', _⟩ := y.there
  rw [e1] at e2; cases e2
  rw [c1] at c2; cases c2
  rcases q with q | q <;> rcases q' with q' | q' <;> rw [q] at q' <;> exact absurd q' (by decide)
theorem draws_sq {prog : Program} {w : World} {A : Around} (hh : A.handled = none) (it a : Addr) (hne : a ≠ it) (items : Array Value) :
    Draws prog w A it [it, a] items.size (fun i v => items[i]? = some v) (fun i h => SIt t h it a i ∧ SSq t h a items) := by
  cases t with
  | false => exact Draws.list hh it a hne items
  | true => exact Draws.tuple hh it a hne items
theorem begins_sq (a : Addr) (items : Array Value) : Begins (.ref a) (SOb t a) fun h => SSq t h a items := by
  cases t with
  | false => exact begins_list a items
  | true => exact begins_tuple a items
theorem SIt.new {h : Heap} (e : h.get? it = some (SOb t a)) : SIt t h it a 0 := by
  cases t with
  | false => exact ⟨_, e, rfl, rfl⟩
  | true => exact ⟨_, e, rfl, rfl⟩
end

/-! ### plain walks -/
def ItS (K : PySem.W.Frag) : Bool → Addr → It
  | false, a => Itl K a
  | true, a => Itt K a
def iSeq (K : PySem.W.Frag) (tl : TE) : TI := fun σ H R => tl σ H fun x H1 => ∃ t a, x = .ref a ∧ (∃ xs, SQ K H1 t a xs) ∧ R (ItS K t a) H1
theorem pi_seq {X : Cx} {tg l : Expr} {tl : TE} (hl : PE X l tl) : PI X tg l (iSeq X.K tl) := by
  refine ⟨fun pins s σ H R I h => ?_⟩
  refine thn (hl.run pins s σ H _ I h) fun v s1 ⟨x, H1, I1, r1, q1⟩ => ?_
  obtain ⟨t, a, e, ⟨xs, hq⟩, q⟩ := q1
  subst e
  cases r1
  cases t with
  | false =>
    obtain ⟨its, rv, p, hz⟩ := I1.list hq
    refine wpAny_pyIter_list p.isList ?_
    refine ⟨s1.heap.objs.size, [s1.heap.objs.size], _, _, H1, rfl, I1.kept (t' := s1.toks) fun b o e => Heap.get?_push_of_some _ e, turn_list a _, ⟨_, Heap.get?_push_size _ rfl, rfl, rfl⟩, fun b hb => ?_, q⟩
    have e : b = s1.heap.objs.size := by simpa using hb
    subst e
    exact I1.fpOk (Nat.le_refl _) (I1.hok.fresh (Nat.le_refl _))
  | true =>
    obtain ⟨its, rv, p, hz⟩ := I1.tuple hq
    refine wpAny_pyIter_tuple (show s1.heap.IsTuple a its.toArray from p) ?_
    refine ⟨s1.heap.objs.size, [s1.heap.objs.size], _, _, H1, rfl, I1.kept (t' := s1.toks) fun b o e => Heap.get?_push_of_some _ e, turn_tuple a _, ⟨_, Heap.get?_push_size _ rfl, rfl, rfl⟩, fun b hb => ?_, q⟩
    have e : b = s1.heap.objs.size := by simpa using hb
    subst e
    exact I1.fpOk (Nat.le_refl _) (I1.hok.fresh (Nat.le_refl _))

/-! ### enumerate -/
def ItE (K : PySem.W.Frag) (t : Bool) (a : Addr) : It :=
  ⟨fun i H => ∃ (xs : List V) (x : V), SQ K H t a xs ∧ xs[i]? = some x, fun i H v H' => ∃ T x, v = .ref T ∧ H T = none ∧ H' = upd H T (.tup [.int (i : Nat), x]) ∧ ∀ xs, SQ K H t a xs → xs[i]? = some x, fun i H => ∃ xs : List V, SQ K H t a xs ∧ xs.length = i⟩
theorem turn_enumX {P : Program} {w : World} {K : PySem.W.Frag} {elts : List Expr} {kk : Nat} {tpos : Pos} {t : Bool} (a e it : Addr) :
    Turn P w K (.Tuple elts kk tpos) (ItE K t a) [e, it] e (fun i h => (∃ old, IsEnum h e it ((i : Nat) : Int) old) ∧ SIt t h it a i ∧ e ≠ it) where
  mem := by simp
  obj := fun i h st b hb => by
    obtain ⟨⟨old, he⟩, hi, _⟩ := st
    obtain ⟨o, _, ho, _, _, hd⟩ := hi.there
    have e' : b = e ∨ b = it := by simpa using hb
    rcases e' with z | z
    · rw [z]; exact ⟨_, he, fun v q => nomatch q⟩
    · rw [z]; exact ⟨o, ho, hd⟩
  keep := fun i h h' st k => let ⟨⟨old, he⟩, hi, hne⟩ := st; ⟨⟨old, k e (by simp) _ he⟩, hi.at fun o q => k it (by simp) o q, hne⟩
  item := by
    intro X hP hw hK hc i pins s σ H E I hf st hg
    subst hP hw hK
    obtain ⟨⟨old, he⟩, hit, hne⟩ := st
    obtain ⟨xs, x, hq, hx⟩ := hg
    obtain ⟨its, rv, p, hz⟩ := Inv.sq I hq
    obtain ⟨u, hu, ru⟩ := rv.get hx
    have hel : e < s.heap.objs.size := Heap.lt_size he
    have hil : it < s.heap.objs.size := by obtain ⟨_, _, q, _⟩ := hit.there; exact Heap.lt_size q
    have hai : a ≠ it := apart_si p hit
    have hea : e ≠ a := fun z => by
      subst z
      obtain ⟨o, c, e1, c1, q⟩ := p.there
      rw [he] at e1; cases e1
      cases c1
      rcases q with q | q <;> exact absurd q (by decide)
    have D := draws_sq (prog := X.prog) (w := X.w) (A := X.A.in1) (t := t) (I.ok.hd hc) it a hai its.toArray
    refine wpAny_pyNext_enum_itemD D he ⟨hit, p⟩ (by have := (List.getElem?_eq_some_iff.mp hu).1; simpa using this) hne (by simp [hne, hea]) fun x' h' tk hP ho hst hT hsz hk => ?_
    have ex : x' = u := by
      have q : its[i]? = some x' := by simpa using hP
      rw [hu] at q; exact (Option.some.inj q).symm
    subst ex
    refine ⟨_, rfl, wpAny_letOwnedTupleGo_enum (s := { s with heap := h', toks := tk + 1 }) ho fun h'' he' sb => ?_⟩
    have hT2 : h''.get? s.heap.objs.size = some { cls := .type "tuple", data := .seq #[.int i tk, x'] } := (sb.2 _ (Nat.ne_of_gt hel)).trans hT
    have new : ObjOk X.prog X.w (upd H s.heap.objs.size (.tup [.int (i : Nat), x])) h'' s.heap.objs.size (.tup [.int (i : Nat), x]) :=
      ⟨by show 2 ≤ sizeLine; decide, [.int i tk, x'], .cons ⟨_, rfl⟩ (.cons ru .nil), ⟨_, hT2, rfl, _, rfl⟩⟩
    have I1 : Inv X pins σ (upd H s.heap.objs.size (.tup [.int (i : Nat), x])) { s with heap := h'', toks := tk + 1 } :=
      I.turnedNew (ch := [e, it]) (fun b ob hb q => (sb.2 b (fun z => hb (by simp [z]))).trans (hk b ob (fun z => hb (by simp [z])) (fun z => hb (by simp [z])) q)) hf (Nat.le_refl _) new
    refine ⟨.ref s.heap.objs.size, _, I1, rfl, ⟨_, x, rfl, I.hok.fresh (Nat.le_refl _), rfl, fun ys hy => by rw [Inv.sq_inj I hy hq]; exact hx⟩, ⟨⟨x', ?_⟩, hst.1.at fun o q => (sb.2 it (Ne.symm hne)).trans q, hne⟩, fun b hb => ?_⟩
    · have e1 : ((i + 1 : Nat) : Int) = (i : Int) + 1 := by omega
      rw [e1]; exact he'
    · have hb' : b < s.heap.objs.size := by
        have e' : b = e ∨ b = it := by simpa using hb
        rcases e' with z | z
        · rw [z]; exact hel
        · rw [z]; exact hil
      rw [upd_ne (Nat.ne_of_lt hb')]
      exact (hf b hb).1
  done := by
    intro X hP hw hK hc i pins s σ H E I hf st hg
    subst hP hw hK
    obtain ⟨⟨old, he⟩, hit, hne⟩ := st
    obtain ⟨xs, hq, hx⟩ := hg
    obtain ⟨its, rv, p, hz⟩ := Inv.sq I hq
    obtain ⟨f0, f1, f2, f3, f4, f5⟩ := hf it (by simp)
    have hl := rv.length
    have hai : a ≠ it := apart_si p hit
    have D := draws_sq (prog := X.prog) (w := X.w) (A := X.A.in1) (t := t) (I.ok.hd hc) it a hai its.toArray
    have hi : i = its.toArray.size := by rw [List.size_toArray]; omega
    subst hi
    exact wpAny_pyNext_enum_endD D he ⟨hit, p⟩ fun h' eb => ⟨rfl, I.turned (t' := s.toks) (fun b o hb q => eb b o hb q) f0 f1 f3 f4 f5⟩
  self := fun A i s Q E st h => let ⟨⟨_, he⟩, _⟩ := st; wpAny_pyIter_enum he h
theorem meets_enum1 {v : Value} {o : Obj} {H : Heap → Prop} (B : Begins v o H) :
    Meets (Builtin.«enumerate.__new__» ⟨[.type "enumerate", v], []⟩) (fun _ R s => H s.heap ∧
      R (.ok (.ret (.ref (s.heap.push o).objs.size))) { s with heap := (s.heap.push o).push { cls := .type "enumerate", data := .fields #[.none, .bool false, .ref s.heap.objs.size, rawInt 0, .none, .none] } }) :=
  .of_wp fun prog w A R s h => by
    obtain ⟨hp, g, d, tk, os⟩ := s; obtain ⟨h1, h⟩ := h
    have hsub := sub_enumerate
    have q1 : ∀ {A' : Around} {E : Value → Shared → Prop} {Q : Value → Shared → Prop}, Q (.ref hp.objs.size) ⟨hp.push o, g, d, tk, os⟩ → wpAny (model prog w) A' (pyIter v) Q E ⟨hp, g, d, tk, os⟩ :=
      fun q => B.iter prog w _ _ ⟨hp, g, d, tk, os⟩ _ h1 q
    wp_walk using q1
    refine wpAny_stack_any fun st => wpAny_pure ?_
    split
    · rename_i c _ _ _ _ _
      cases (c == Value.type "enumerate")
      · wp_walk using q1
        exact ⟨_, rfl, h⟩
      · wp_walk using q1
        exact ⟨_, rfl, h⟩
    · wp_walk using q1
      exact ⟨_, rfl, h⟩
theorem call_enum1 {prog : Program} {w : World} {A : Around} {E : Value → Shared → Prop} {s : Shared} {v : Value} {o : Obj} {H : Heap → Prop} {Q : Value → Shared → Prop} (B : Begins v o H) (hH : H s.heap)
    (h : ∀ h', IsEnum h' (s.heap.objs.size + 1) s.heap.objs.size 0 .none → h'.get? s.heap.objs.size = some o → h'.objs.size = s.heap.objs.size + 2 →
      (∀ b o, s.heap.get? b = some o → h'.get? b = some o) → Q (.ref (s.heap.objs.size + 1)) { s with heap := h' }) :
    wpAny (model prog w) A (call (.type "enumerate") [v]) Q E s := by
  refine callType_new F.called_enumerate (by decide) (F.typeCall_enumerate_1 _) (F.newCall_enumerate_1 _) (fun obj => F.args_object_init_2 obj _) F.entry_enumerate_new
    (meets_enum1 B) ⟨hH, ?_⟩
  have hz : (s.heap.push o).objs.size = s.heap.objs.size + 1 := Heap.size_push ..
  show _ ∧ _
  rw [hz]
  have he : IsEnum ((s.heap.push o).push { cls := .type "enumerate", data := .fields #[.none, .bool false, .ref s.heap.objs.size, rawInt 0, .none, .none] }) (s.heap.objs.size + 1) s.heap.objs.size 0 .none := by
    have := Heap.get?_push_size (s.heap.push o) (o := { cls := .type "enumerate", data := .fields #[.none, .bool false, .ref s.heap.objs.size, rawInt 0, .none, .none] }) rfl
    rw [hz] at this; exact this
  exact ⟨⟨_, he, rfl⟩, h _ he (Heap.get?_push_of_some _ (Heap.get?_push_size _ B.free)) (by rw [Heap.size_push, hz]) fun b o x => Heap.get?_push_of_some _ (Heap.get?_push_of_some _ x)⟩
def iEnumX (K : PySem.W.Frag) (ta : TA) : TI := fun σ H R => ta σ H fun vs H1 => ∃ t a xs, vs = [.ref a] ∧ SQ K H1 t a xs ∧ R (ItE K t a) H1
theorem pi_enumX {X : Cx} {e : Expr} {ta : TA} {p pos tpos : Pos} {elts : List Expr} {kk : Nat} (hg : Gl X "enumerate") (hm : X.mg "enumerate" = none) (ha : PA X [e] ta) (hs : starEach [e] X.env = [(false, eval e X.env)]) :
    PI X (.Tuple elts kk tpos) (.Call (.Name "enumerate" p) [e] [] pos) (iEnumX X.K ta) := by
  refine ⟨fun pins s σ H R I h => ?_⟩
  refine Call_ (ld_blt I hg hm boot_enumerate (PyProof.Rows.callWith_type1 (thn (ha.run pos pins s σ H _ I h) fun us s1 ⟨vs, H1, I1, r1, q1⟩ => ?_) hs rfl))
  obtain ⟨t, a, xs, ex, hq, q⟩ := q1
  subst ex
  cases r1 with
  | cons r rr =>
    cases rr
    cases r
    obtain ⟨its, rv, p', hz⟩ := Inv.sq I1 hq
    refine call_enum1 (begins_sq (t := t) a its.toArray) p' fun h' he hit hsz hk => wpAny_pyIter_enum he ?_
    have I2 : Inv X pins σ H1 { s1 with heap := h' } := I1.kept (t' := s1.toks) hk
    refine ⟨s1.heap.objs.size + 1, [s1.heap.objs.size + 1, s1.heap.objs.size], _, _, H1, rfl, I2, turn_enumX (t := t) a (s1.heap.objs.size + 1) s1.heap.objs.size, ⟨⟨.none, he⟩, SIt.new hit, Nat.succ_ne_self _⟩, fun b hb => ?_, q⟩
    have e' : b = s1.heap.objs.size + 1 ∨ b = s1.heap.objs.size := by simpa using hb
    have hle : s1.heap.objs.size ≤ b := by
      rcases e' with z | z
      · rw [z]; exact Nat.le_add_right _ _
      · rw [z]; exact Nat.le_refl _
    exact I1.fpOk hle (I1.hok.fresh hle)

/-! ### zip of two -/
def ItZ (K : PySem.W.Frag) (t1 t2 : Bool) (a b : Addr) : It :=
  ⟨fun i H => ∃ (xs ys : List V) (x y : V), SQ K H t1 a xs ∧ SQ K H t2 b ys ∧ xs[i]? = some x ∧ ys[i]? = some y,
    fun i H v H' => ∃ T x y, v = .ref T ∧ H T = none ∧ H' = upd H T (.tup [x, y]) ∧ (∀ xs, SQ K H t1 a xs → xs[i]? = some x) ∧ ∀ ys, SQ K H t2 b ys → ys[i]? = some y,
    fun i H => ∃ xs ys : List V, SQ K H t1 a xs ∧ SQ K H t2 b ys ∧ i ≤ xs.length ∧ i ≤ ys.length ∧ (i = xs.length ∨ i = ys.length)⟩
/-- the cells of a zip of two lie apart, and stay -/
structure ZS2 (z TI TO i1 i2 : Addr) : Prop where
  TIz : TI ≠ z
  TOz : TO ≠ z
  TITO : TI ≠ TO
  TIi1 : TI ≠ i1
  TIi2 : TI ≠ i2
  zi1 : z ≠ i1
  zi2 : z ≠ i2
  Ti1 : TO ≠ i1
  Ti2 : TO ≠ i2
  i12 : i1 ≠ i2
theorem not_sq {h : Heap} {t : Bool} {a b : Addr} {its : Array Value} {o : Obj} {c : String} (p : SSq t h a its) (e : h.get? b = some o) (hc : o.cls = .type c) (h1 : c ≠ "list") (h2 : c ≠ "tuple") : b ≠ a := fun z => by
  subst z
  obtain ⟨o', c', e', k, q⟩ := p.there
  rw [e] at e'; cases e'
  rw [hc] at k; cases k
  rcases q with q | q
  · exact h1 q
  · exact h2 q
theorem turn_zipX {P : Program} {w : World} {K : PySem.W.Frag} {elts : List Expr} {kk : Nat} {tpos : Pos} {t1 t2 : Bool} {a b z TI TO i1 i2 : Addr} (Z : ZS2 z TI TO i1 i2) :
    Turn P w K (.Tuple elts kk tpos) (ItZ K t1 t2 a b) [z, TI, TO, i1, i2] z (fun i h => IsZip h z TI TO .none ∧ IsTupOf2 h TI (.ref i1) (.ref i2) ∧ (∃ x y, IsTupOf2 h TO x y) ∧ SIt t1 h i1 a i ∧ SIt t2 h i2 b i) where
  mem := by simp
  obj := fun i h st c hc => by
    obtain ⟨hz, hTI, ⟨x, y, hTO⟩, s1, s2⟩ := st
    obtain ⟨o1, _, e1, _, _, d1⟩ := s1.there
    obtain ⟨o2, _, e2, _, _, d2⟩ := s2.there
    have e' : c = z ∨ c = TI ∨ c = TO ∨ c = i1 ∨ c = i2 := by simpa using hc
    rcases e' with q | q | q | q | q
    · rw [q]; exact ⟨_, hz, fun v q => nomatch q⟩
    · rw [q]; exact ⟨_, hTI, fun v q => nomatch q⟩
    · rw [q]; exact ⟨_, hTO, fun v q => nomatch q⟩
    · rw [q]; exact ⟨o1, e1, d1⟩
    · rw [q]; exact ⟨o2, e2, d2⟩
  keep := fun i h h' st k => by
    obtain ⟨hz, hTI, ⟨x, y, hTO⟩, h1, h2⟩ := st
    exact ⟨k z (by simp) _ hz, k TI (by simp) _ hTI, ⟨x, y, k TO (by simp) _ hTO⟩, h1.at fun o q => k i1 (by simp) o q, h2.at fun o q => k i2 (by simp) o q⟩
  item := by
    intro X hP hw hK hc i pins s σ H E I hf st hg
    subst hP hw hK
    obtain ⟨hz, hTI, ⟨x0, y0, hTO⟩, h1, h2⟩ := st
    obtain ⟨xs, ys, x, y, hqx, hqy, hx, hy⟩ := hg
    obtain ⟨its, rv, p, _⟩ := Inv.sq I hqx
    obtain ⟨its2, rv2, p2, _⟩ := Inv.sq I hqy
    obtain ⟨u, hu, ru⟩ := rv.get hx
    obtain ⟨u2, hu2, ru2⟩ := rv2.get hy
    have hzl : z < s.heap.objs.size := Heap.lt_size hz
    have tk1 : ∀ {c xs' t'}, c ∈ [z, TI, TO, i1, i2] → SQ X.K H t' a xs' → True := fun _ _ => trivial
    have nK : ∀ c ∈ [z, TI, TO, i1, i2], ∀ (t' : Bool) (d : Addr) (zs : List V) (is : Array Value), SQ X.K H t' d zs → SSq t' s.heap d is → c ≠ d := fun c hcm t' d zs is hq hs hcd => by
      subst hcd
      obtain ⟨f0, _, _, f3, _⟩ := hf c hcm
      have tracked : ∀ {u : HO}, Rd H c u → False := fun r => by
        rcases r with r | ⟨o, r⟩ <;> (rw [f0] at r; cases r)
      have written : ∀ {o : Obj}, X.K.lookup c = some o → False := fun {o} r => by
        have hb : X.base.get? c = some o := I.mod.kin c o r
        rcases f3 with q | q
        · exact I.ok.noex c o hb q
        · exact absurd (Heap.lt_size hb) (Nat.not_lt.mpr (Nat.le_trans I.ok.bsz q))
      cases t' with
      | false =>
        rcases hq with r | ⟨o, its, n, r, _⟩
        · exact tracked r
        · exact written r
      | true =>
        rcases hq with r | ⟨o, its, n, r, _⟩
        · exact tracked r
        · exact written r
    have n1 : ∀ c ∈ [z, TI, TO, i1, i2], c ≠ a := fun c hcm => nK c hcm _ a xs _ hqx p
    have n2 : ∀ c ∈ [z, TI, TO, i1, i2], c ≠ b := fun c hcm => nK c hcm _ b ys _ hqy p2
    have D1 := draws_sq (prog := X.prog) (w := X.w) (A := X.A.in1) (t := t1) (I.ok.hd hc) i1 a (n1 i1 (by simp)).symm its.toArray
    have D2 := draws_sq (prog := X.prog) (w := X.w) (A := X.A.in1) (t := t2) (I.ok.hd hc) i2 b (n2 i2 (by simp)).symm its2.toArray
    have S : ZipSep2 z TI TO i1 i2 [i1, a] [i2, b] := { TIz := Z.TIz, TOz := Z.TOz, TITO := Z.TITO, TIi1 := Z.TIi1, mem1 := by simp, zf1 := by simp [Z.zi1, n1 z], Tf1 := by simp [Z.Ti1, n1 TO], TIi2 := Z.TIi2, mem2 := by simp, zf2 := by simp [Z.zi2, n2 z], Tf2 := by simp [Z.Ti2, n2 TO], sep1_2 := by simp [Z.i12, n2 i1], sep2_1 := by simp [Z.i12.symm, n1 i2] }
    refine wpAny_pyNext_zipD2_item S D1 D2 hz hTI hTO ⟨h1, p⟩ ⟨h2, p2⟩ (by have := (List.getElem?_eq_some_iff.mp hu).1; simpa using this) (by have := (List.getElem?_eq_some_iff.mp hu2).1; simpa using this) fun x1 x2 h' tk y1 y2 z' TO' h1' h2' hT hsz hk => ?_
    have ex1 : x1 = u := by
      have q : its[i]? = some x1 := by simpa using y1
      rw [hu] at q; exact (Option.some.inj q).symm
    have ex2 : x2 = u2 := by
      have q : its2[i]? = some x2 := by simpa using y2
      rw [hu2] at q; exact (Option.some.inj q).symm
    subst ex1 ex2
    refine ⟨_, rfl, wpAny_letOwnedTupleGo_zip (s := { s with heap := h', toks := tk }) z' fun h'' z'' sb => ?_⟩
    have hT2 : h''.get? s.heap.objs.size = some { cls := .type "tuple", data := .seq #[x1, x2] } := (sb.2 _ (Nat.ne_of_gt hzl)).trans hT
    have new : ObjOk X.prog X.w (upd H s.heap.objs.size (.tup [x, y])) h'' s.heap.objs.size (.tup [x, y]) :=
      ⟨by show 2 ≤ sizeLine; decide, [x1, x2], .cons ru (.cons ru2 .nil), ⟨_, hT2, rfl, _, rfl⟩⟩
    have I1 : Inv X pins σ (upd H s.heap.objs.size (.tup [x, y])) { s with heap := h'', toks := tk } :=
      I.turnedNew (t' := tk) (ch := [z, TI, TO, i1, i2]) (fun c o hb q => (sb.2 c (fun q' => hb (by simp [q']))).trans (hk c o (fun q' => hb (by simp [q'])) (fun q' => hb (by simp [q'])) (fun q' => hb (by simp [q'])) (fun q' => hb (by simp [q'])) q)) hf (Nat.le_refl _) new
    refine ⟨.ref s.heap.objs.size, _, I1, rfl, ⟨_, x, y, rfl, I.hok.fresh (Nat.le_refl _), rfl, fun l hl => by rw [Inv.sq_inj I hl hqx]; exact hx, fun l hl => by rw [Inv.sq_inj I hl hqy]; exact hy⟩, ⟨z'', ?_, ⟨x1, x2, ?_⟩, ?_, ?_⟩, fun c hcm => ?_⟩
    · exact (sb.2 _ Z.TIz).trans (hk _ _ Z.TIz Z.TITO Z.TIi1 Z.TIi2 hTI)
    · exact (sb.2 _ Z.TOz).trans TO'
    · exact h1'.1.at fun o q => (sb.2 _ Z.zi1.symm).trans q
    · exact h2'.1.at fun o q => (sb.2 _ Z.zi2.symm).trans q
    · have hlt : c < s.heap.objs.size := by
        have e' : c = z ∨ c = TI ∨ c = TO ∨ c = i1 ∨ c = i2 := by simpa using hcm
        rcases e' with q | q | q | q | q
        · rw [q]; exact hzl
        · rw [q]; exact Heap.lt_size hTI
        · rw [q]; exact Heap.lt_size hTO
        · rw [q]; obtain ⟨_, _, e1, _⟩ := h1.there; exact Heap.lt_size e1
        · rw [q]; obtain ⟨_, _, e2, _⟩ := h2.there; exact Heap.lt_size e2
      rw [upd_ne (Nat.ne_of_lt hlt)]
      exact (hf c hcm).1
  done := by
    intro X hP hw hK hc i pins s σ H E I hf st hg
    subst hP hw hK
    obtain ⟨hz, hTI, ⟨x0, y0, hTO⟩, h1, h2⟩ := st
    obtain ⟨xs, ys, hqx, hqy, hle1, hle2, hend⟩ := hg
    obtain ⟨its, rv, p, _⟩ := Inv.sq I hqx
    obtain ⟨its2, rv2, p2, _⟩ := Inv.sq I hqy
    have l1 := rv.length
    have l2 := rv2.length
    have nK : ∀ c ∈ [z, TI, TO, i1, i2], ∀ (t' : Bool) (d : Addr) (zs : List V), SQ X.K H t' d zs → c ≠ d := fun c hcm t' d zs hq hcd => by
      subst hcd
      obtain ⟨f0, _, _, f3, _⟩ := hf c hcm
      have tracked : ∀ {u : HO}, Rd H c u → False := fun r => by
        rcases r with r | ⟨o, r⟩ <;> (rw [f0] at r; cases r)
      have written : ∀ {o : Obj}, X.K.lookup c = some o → False := fun {o} r => by
        have hb : X.base.get? c = some o := I.mod.kin c o r
        rcases f3 with q | q
        · exact I.ok.noex c o hb q
        · exact absurd (Heap.lt_size hb) (Nat.not_lt.mpr (Nat.le_trans I.ok.bsz q))
      cases t' with
      | false =>
        rcases hq with r | ⟨o, its, n, r, _⟩
        · exact tracked r
        · exact written r
      | true =>
        rcases hq with r | ⟨o, its, n, r, _⟩
        · exact tracked r
        · exact written r
    have n1 : ∀ c ∈ [z, TI, TO, i1, i2], c ≠ a := fun c hcm => nK c hcm _ a xs hqx
    have n2 : ∀ c ∈ [z, TI, TO, i1, i2], c ≠ b := fun c hcm => nK c hcm _ b ys hqy
    have D1 := draws_sq (prog := X.prog) (w := X.w) (A := X.A.in1) (t := t1) (I.ok.hd hc) i1 a (n1 i1 (by simp)).symm its.toArray
    have D2 := draws_sq (prog := X.prog) (w := X.w) (A := X.A.in1) (t := t2) (I.ok.hd hc) i2 b (n2 i2 (by simp)).symm its2.toArray
    have S : ZipSep2 z TI TO i1 i2 [i1, a] [i2, b] := { TIz := Z.TIz, TOz := Z.TOz, TITO := Z.TITO, TIi1 := Z.TIi1, mem1 := by simp, zf1 := by simp [Z.zi1, n1 z], Tf1 := by simp [Z.Ti1, n1 TO], TIi2 := Z.TIi2, mem2 := by simp, zf2 := by simp [Z.zi2, n2 z], Tf2 := by simp [Z.Ti2, n2 TO], sep1_2 := by simp [Z.i12, n2 i1], sep2_1 := by simp [Z.i12.symm, n1 i2] }
    exact wpAny_pyNext_zipD2_end S D1 D2 hz hTI hTO ⟨h1, p⟩ ⟨h2, p2⟩ (by simp; omega) (by simp; omega) (by simp; omega) fun h' tk hk => ⟨rfl, I.turnedL (t' := tk) (ch := [z, TI, TO, i1, i2]) (fun c o hb q =>
      hk c o (fun q' => hb (by simp [q'])) (fun q' => hb (by simp [q'])) (fun q' => hb (by simp [q'])) (fun q' => hb (by simp [q'])) q) hf⟩
  self := fun A i s Q E st h => wpAny_pyIter_zip st.1 h
def iZipX (K : PySem.W.Frag) (ta : TA) : TI := fun σ H R => ta σ H fun vs H1 => ∃ t1 t2 a b xs ys, vs = [.ref a, .ref b] ∧ SQ K H1 t1 a xs ∧ SQ K H1 t2 b ys ∧ R (ItZ K t1 t2 a b) H1
theorem pi_zipX {X : Cx} {e e2 : Expr} {ta : TA} {p pos tpos : Pos} {elts : List Expr} {kk : Nat} (hg : Gl X "zip") (hm : X.mg "zip" = none) (ha : PA X [e, e2] ta)
    (hs : starEach [e, e2] X.env = (false, eval e X.env) :: starEach [e2] X.env) (hpl : (backTo pos (starEach [e2] X.env)).any (·.1) = false) :
    PI X (.Tuple elts kk tpos) (.Call (.Name "zip" p) [e, e2] [] pos) (iZipX X.K ta) := by
  refine ⟨fun pins s σ H R I h => ?_⟩
  refine Call_ (ld_blt I hg hm PyProof.Rows.boot_zip (PyProof.Rows.callWith_type1 (thn (ha.run pos pins s σ H _ I h) fun us s1 ⟨vs, H1, I1, r1, q1⟩ => ?_) hs hpl))
  obtain ⟨t1, t2, a, b, xs, ys, ex, hqx, hqy, q⟩ := q1
  subst ex
  obtain ⟨u1, u2, rfl, r1', r2'⟩ := vals2 r1
  cases r1'
  cases r2'
  obtain ⟨its, rv, p1, _⟩ := Inv.sq I1 hqx
  obtain ⟨its2, rv2, p2, _⟩ := Inv.sq I1 hqy
  refine zip_begins2 (begins_sq (t := t1) a its.toArray) (begins_sq (t := t2) b its2.toArray) p1 p2 fun h' hz hTI hTO h1 h2 hsz hk => wpAny_pyIter_zip hz ?_
  have I2 : Inv X pins σ H1 { s1 with heap := h' } := I1.kept (t' := s1.toks) hk
  have Z : ZS2 (s1.heap.objs.size + 4) (s1.heap.objs.size + 2) (s1.heap.objs.size + 3) s1.heap.objs.size (s1.heap.objs.size + 1) := by
    generalize s1.heap.objs.size = n
    constructor <;> (intro z; have z' : (_ : Nat) = _ := z; omega)
  refine ⟨s1.heap.objs.size + 4, [s1.heap.objs.size + 4, s1.heap.objs.size + 2, s1.heap.objs.size + 3, s1.heap.objs.size, s1.heap.objs.size + 1], _, _, H1, rfl, I2, turn_zipX (t1 := t1) (t2 := t2) Z, ⟨hz, hTI, ⟨_, _, hTO⟩, SIt.new h1, SIt.new h2⟩, fun c hcm => ?_, q⟩
  have e' : c = s1.heap.objs.size + 4 ∨ c = s1.heap.objs.size + 2 ∨ c = s1.heap.objs.size + 3 ∨ c = s1.heap.objs.size ∨ c = s1.heap.objs.size + 1 := by simpa using hcm
  have hle : s1.heap.objs.size ≤ c := by
    rcases e' with z | z | z | z | z
    · rw [z]; exact Nat.le_add_right _ _
    · rw [z]; exact Nat.le_add_right _ _
    · rw [z]; exact Nat.le_add_right _ _
    · rw [z]; exact Nat.le_refl _
    · rw [z]; exact Nat.le_add_right _ _
  exact I1.fpOk hle (I1.hok.fresh hle)
end Sg

/-! Q4b: iterables, targets, comprehensions, statements -/
namespace Sg
open PySem PySem.Spec PyProof.Rows L2

/-! ### iterables -/
def Good (K : PySem.W.Frag) (F : Hp) (J : It) (ds : List D) : Prop := ∀ (w : Wd) (S : Sto) (H : Hp) (i : Nat), Le F w.F → Sim K w S H →
  (i = ds.length → J.stop i H) ∧ (∀ d, ds[i]? = some d → J.go i H ∧ ∀ x H', J.yld i H x H' → ∃ F', Le w.F F' ∧ Sim K { w with F := F' } S H' ∧ Rp K F' d x)
theorem Good.le {K : PySem.W.Frag} {F F' : Hp} {J : It} {ds : List D} (g : Good K F J ds) (l : Le F F') : Good K F' J ds := fun w S H i l' s => g w S H i (l.trans l') s
abbrev RG (w : Wd) : Prop := True
abbrev RI (X : Cx) (W : WX) (tg e : Expr) (f : FE (List D)) : Prop := PI X tg e (tM X.K X.mg W (fun w ds J => Good X.K w.F J ds) f)
section
variable {X : Cx} {W : WX} {k : Nat} {vl wl : List (Nat × Str)} {gl : List Str} {tg a b c e : Expr} {es : List Expr} {f g h : FE Y} {fs : FE (List Y)} {pos p : Pos} {x : Str}
def itS : Y → Sto → Res (List D)
  | .v (.lst ds), S => .ok ds S
  | .v (.tup ds), S => .ok ds S
  | _, _ => .bad
def fItS (f : FE Y) : FE (List D) := fun env S => (f env S).bind itS
theorem Sim.sq {K : PySem.W.Frag} {w : Wd} {S : Sto} {H : Hp} (s : Sim K w S H) {t : Bool} {a : Addr} {xs : List V} (h : SQ K w.F t a xs) : SQ K H t a xs := by
  cases t with
  | false => exact s.sqL h
  | true => exact s.sqT h
theorem Le.sq {K : PySem.W.Frag} {F F' : Hp} (l : Le F F') {t : Bool} {a : Addr} {xs : List V} (h : SQ K F t a xs) : SQ K F' t a xs := by
  cases t with
  | false => exact l.sqL h
  | true => exact l.sqT h
theorem itS_of {K : PySem.W.Frag} {w : Wd} {S S' : Sto} {y : Y} {v : V} {ds : List D} (r : RY K w y v) (e : itS y S = .ok ds S') : S' = S ∧ ∃ t a xs, v = .ref a ∧ SQ K w.F t a xs ∧ RpL K w.F ds xs := by
  unfold itS at e
  split at e
  · rename_i es
    cases e
    have r' : Rp K w.F (.lst ds) v := r
    cases r' with
    | lst h q => exact ⟨rfl, false, _, _, rfl, .inl h, q⟩
  · rename_i es
    cases e
    have r' : Rp K w.F (.tup ds) v := r
    cases r' with
    | tup h q => exact ⟨rfl, true, _, _, rfl, h, q⟩
  · cases e
theorem itS_cases (y : Y) (S : Sto) : (∃ ds, itS y S = .ok ds S) ∨ itS y S = .bad := by
  unfold itS
  split
  · exact .inl ⟨_, rfl⟩
  · exact .inl ⟨_, rfl⟩
  · exact .inr rfl
theorem good_seq {K : PySem.W.Frag} {F : Hp} {t : Bool} {a : Addr} {xs : List V} {ds : List D} (h : SQ K F t a xs) (r : RpL K F ds xs) : Good K F (ItS K t a) ds := by
  intro w S H i l s
  have hq := s.sq (l.sq h)
  have hl := r.length
  refine ⟨fun e => ?_, fun d e => ?_⟩
  · cases t with
    | false => exact ⟨xs, hq, by omega⟩
    | true => exact ⟨xs, hq, by omega⟩
  · obtain ⟨x, e1, r1⟩ := r.get e
    cases t with
    | false =>
      refine ⟨⟨xs, x, hq, e1⟩, fun z H' hy => ?_⟩
      obtain ⟨rfl, fz⟩ := hy
      have ez : z = x := Option.some.inj ((fz xs hq).symm.trans e1)
      subst ez
      exact ⟨w.F, .refl _, s, r1.mono l⟩
    | true =>
      refine ⟨⟨xs, x, hq, e1⟩, fun z H' hy => ?_⟩
      obtain ⟨rfl, fz⟩ := hy
      have ez : z = x := Option.some.inj ((fz xs hq).symm.trans e1)
      subst ez
      exact ⟨w.F, .refl _, s, r1.mono l⟩
theorem ri_seq (ha : RE X W a f) : RI X W tg a (fItS f) := weakPI (pi_seq ha) fun σ H Q q => by
  obtain ⟨w, env, S, hE, s, q⟩ := q
  refine ⟨w, env, S, hE, s, rd_bind q fun y S1 w1 v H1 l1 s1 r1 q1 => ?_⟩
  rcases itS_cases y S1 with ⟨ds, e1⟩ | e1
  · rw [e1] at q1
    obtain ⟨_, t, a, xs, rfl, h1, h2⟩ := itS_of r1 e1
    exact ⟨t, a, rfl, ⟨xs, s1.sq h1⟩, rd_ok q1 s1 (good_seq h1 h2)⟩
  · rw [e1] at q1; exact q1.elim
/-- lo, lo + 1, .. -/
def rngD (lo : Int) (n : Nat) : List D := (List.range n).map fun (i : Nat) => D.int (lo + i)
@[simp] theorem rngD_len (lo : Int) (n : Nat) : (rngD lo n).length = n := by simp [rngD]
theorem rngD_get {lo : Int} {n i : Nat} {d : D} (e : (rngD lo n)[i]? = some d) : i < n ∧ d = .int (lo + i) := by
  have hi : i < n := by have := (List.getElem?_eq_some_iff.mp e).1; simpa using this
  unfold rngD at e
  rw [List.getElem?_map, List.getElem?_range hi] at e
  exact ⟨hi, (Option.some.inj e).symm⟩
theorem good_rng {K : PySem.W.Frag} {F : Hp} (lo : Int) (n : Nat) : Good K F (Itr lo n) (rngD lo n) := by
  intro w S H i l s
  refine ⟨fun e => ?_, fun d e => ?_⟩
  · show n ≤ i
    rw [e, rngD_len]; exact Nat.le_refl _
  · obtain ⟨hi, rfl⟩ := rngD_get e
    refine ⟨hi, fun z H' hy => ?_⟩
    obtain ⟨rfl, rfl⟩ := hy
    exact ⟨w.F, .refl _, s, .int _⟩
def okR (j : Int) : Bool := decide (-(2 ^ 62) ≤ j ∧ j < 2 ^ 62)
def sRng1 : List Y → Sto → Res (List D)
  | [.v (.int j)], S => if okR j = true then .ok (rngD 0 j.toNat) S else .bad
  | _, _ => .bad
def sRng2 : List Y → Sto → Res (List D)
  | [.v (.int i), .v (.int j)], S => if okR i = true ∧ okR j = true then .ok (rngD i (j - i).toNat) S else .bad
  | _, _ => .bad
def fIt (sem : List Y → Sto → Res (List D)) (fs : FE (List Y)) : FE (List D) := fun env S => (fs env S).bind sem
theorem ri_rng1 (C : Ok X W k vl wl gl) (j : Nat) (ha : RA X W [a] fs) (hj : gl[j]? = some "range" := by rfl) (hs : starEach [a] X.env = [(false, eval a X.env)] := by rfl) : RI X W tg (.Call (.Name "range" p) [a] [] pos) (fIt sRng1 fs) :=
  weakPI (pi_range1 (C.glo j _ hj).1 (C.blt 1 _ rfl) ha hs) fun σ H Q q => by
    obtain ⟨w, env, S, hE, s, q⟩ := q
    refine ⟨w, env, S, hE, s, rd_bind q fun ys S1 w1 vs H1 l1 s1 r1 q1 => ?_⟩
    unfold sRng1 at q1
    split at q1
    · split at q1
      · rename_i hk
        obtain ⟨v, rfl, r⟩ := r1.one
        cases r
        have := of_decide_eq_true hk
        exact ⟨_, rfl, this.1, this.2, rd_ok q1 s1 (good_rng _ _)⟩
      · exact q1.elim
    · exact q1.elim
theorem ri_rng2 (C : Ok X W k vl wl gl) (j : Nat) (ha : RA X W [a, b] fs) (hj : gl[j]? = some "range" := by rfl) (hs : starEach [a, b] X.env = [(false, eval a X.env), (false, eval b X.env)] := by rfl) (hs2 : starEach [b] X.env = [(false, eval b X.env)] := by rfl) : RI X W tg (.Call (.Name "range" p) [a, b] [] pos) (fIt sRng2 fs) :=
  weakPI (pi_range2 (C.glo j _ hj).1 (C.blt 1 _ rfl) ha hs hs2) fun σ H Q q => by
    obtain ⟨w, env, S, hE, s, q⟩ := q
    refine ⟨w, env, S, hE, s, rd_bind q fun ys S1 w1 vs H1 l1 s1 r1 q1 => ?_⟩
    unfold sRng2 at q1
    split at q1
    · split at q1
      · rename_i hk
        obtain ⟨v, u, rfl, r, r'⟩ := r1.two
        cases r; cases r'
        have h1 := of_decide_eq_true hk.1
        have h2 := of_decide_eq_true hk.2
        exact ⟨_, _, rfl, ⟨h1.1, h1.2, h2.1, h2.2⟩, rd_ok q1 s1 (good_rng _ _)⟩
      · exact q1.elim
    · exact q1.elim
/-- lo, lo + c, .. (n of them) -/
def rngC (lo c : Int) (n : Nat) : List D := (List.range n).map fun (i : Nat) => D.int (lo + i * c)
@[simp] theorem rngC_len (lo c : Int) (n : Nat) : (rngC lo c n).length = n := by simp [rngC]
theorem good_rngC {K : PySem.W.Frag} {F : Hp} (lo c : Int) (n : Nat) : Good K F (Itc lo c n) (rngC lo c n) := by
  intro w S H i l s
  refine ⟨fun e => ?_, fun d e => ?_⟩
  · show n ≤ i
    rw [e, rngC_len]; exact Nat.le_refl _
  · have hi : i < n := by have := (List.getElem?_eq_some_iff.mp e).1; simpa using this
    unfold rngC at e
    rw [List.getElem?_map, List.getElem?_range hi] at e
    have e' := (Option.some.inj e).symm
    subst e'
    refine ⟨hi, fun z H' hy => ?_⟩
    obtain ⟨rfl, rfl⟩ := hy
    exact ⟨w.F, .refl _, s, .int _⟩
/-- downwards by ones -/
def sRng3 : List Y → Sto → Res (List D)
  | [.v (.int i), .v (.int j), .v (.int (-1))], S => if okR i = true ∧ okR j = true then .ok (rngC i (-1) (i - j).toNat) S else .bad
  | _, _ => .bad
theorem ri_rng3 (C : Ok X W k vl wl gl) (j : Nat) (ha : RA X W [a, b, c] fs) (hj : gl[j]? = some "range" := by rfl) (hs : starEach [a, b, c] X.env = (false, eval a X.env) :: starEach [b, c] X.env := by rfl) (hpl : (backTo pos (starEach [b, c] X.env)).any (·.1) = false := by rfl) : RI X W tg (.Call (.Name "range" p) [a, b, c] [] pos) (fIt sRng3 fs) :=
  weakPI (pi_range3 (C.glo j _ hj).1 (C.blt 1 _ rfl) ha hs hpl) fun σ H Q q => by
    obtain ⟨w, env, S, hE, s, q⟩ := q
    refine ⟨w, env, S, hE, s, rd_bind q fun ys S1 w1 vs H1 l1 s1 r1 q1 => ?_⟩
    unfold sRng3 at q1
    split at q1
    · split at q1
      · rename_i hk
        cases r1 with
        | cons r rr =>
          obtain ⟨v, u, rfl, r', r''⟩ := rr.two
          cases r; cases r'; cases r''
          have h1 := of_decide_eq_true hk.1
          have h2 := of_decide_eq_true hk.2
          exact ⟨_, _, _, _, rfl, RgC.neg h1.1 h1.2 h2.1 h2.2, rd_ok q1 s1 (good_rngC _ _ _)⟩
      · exact q1.elim
    · exact q1.elim
/-- counted -/
def enumL : Nat → List D → List D
  | _, [] => []
  | i, d :: ds => .tup [.int i, d] :: enumL (i + 1) ds
@[simp] theorem enumL_len : ∀ (i : Nat) (ds : List D), (enumL i ds).length = ds.length
  | _, [] => rfl
  | i, _ :: ds => congrArg (· + 1) (enumL_len (i + 1) ds)
theorem enumL_get : ∀ {k : Nat} {ds : List D} {i : Nat} {d : D}, (enumL k ds)[i]? = some d → ∃ c, ds[i]? = some c ∧ d = .tup [.int ((k + i : Nat) : Int), c]
  | _, [], _, _, e => by simp [enumL] at e
  | k, d :: ds, 0, _, e => by simp [enumL] at e; exact ⟨d, rfl, by simp [← e]⟩
  | k, _ :: ds, i + 1, _, e => by
    obtain ⟨c, h1, h2⟩ := enumL_get (k := k + 1) (ds := ds) (i := i) (by simpa [enumL] using e)
    refine ⟨c, by simpa using h1, ?_⟩
    rw [h2]
    congr 4
    omega
theorem new_tupF {K : PySem.W.Frag} {w : Wd} {S : Sto} {H : Hp} (s : Sim K w S H) {T : Addr} {xs : List V} {ds : List D} (hT : H T = none) (r : RpL K w.F ds xs) :
    ∃ F', Le w.F F' ∧ Sim K { w with F := F' } S (upd H T (.tup xs)) ∧ Rp K F' (.tup ds) (.ref T) :=
  ⟨upd w.F T (.tup xs), le_upd (s.freshF hT), s.newF hT, Rp.tup (.inl (.inl upd_same)) (r.mono (le_upd (s.freshF hT)))⟩
theorem good_enum {K : PySem.W.Frag} {F : Hp} {t : Bool} {a : Addr} {xs : List V} {ds : List D} (h : SQ K F t a xs) (r : RpL K F ds xs) : Good K F (ItE K t a) (enumL 0 ds) := by
  intro w S H i l s
  have hq := s.sq (l.sq h)
  have hl := r.length
  refine ⟨fun e => ⟨xs, hq, by rw [e, enumL_len]; omega⟩, fun d e => ?_⟩
  obtain ⟨c, e0, rfl⟩ := enumL_get e
  obtain ⟨x, e1, r1⟩ := r.get e0
  refine ⟨⟨xs, x, hq, e1⟩, fun z H' hy => ?_⟩
  obtain ⟨T, x', rfl, hT, rfl, fz⟩ := hy
  have ez : x' = x := Option.some.inj ((fz xs hq).symm.trans e1)
  subst ez
  refine new_tupF s hT (.cons ?_ (.cons (r1.mono l) .nil))
  rw [Nat.zero_add]; exact .int _
def itS1 (g : List D → List D) : List Y → Sto → Res (List D)
  | [y], S => (itS y S).bind fun ds S1 => .ok (g ds) S1
  | _, _ => .bad
theorem ri_enum {elts : List Expr} {kk : Nat} {tpos : Pos} (C : Ok X W k vl wl gl) (j : Nat) (ha : RA X W [a] fs) (hj : gl[j]? = some "enumerate" := by rfl) (hs : starEach [a] X.env = [(false, eval a X.env)] := by rfl) : RI X W (.Tuple elts kk tpos) (.Call (.Name "enumerate" p) [a] [] pos) (fIt (itS1 (enumL 0)) fs) :=
  weakPI (pi_enumX (C.glo j _ hj).1 (C.blt 17 _ rfl) ha hs) fun σ H Q q => by
    obtain ⟨w, env, S, hE, s, q⟩ := q
    refine ⟨w, env, S, hE, s, rd_bind q fun ys S1 w1 vs H1 l1 s1 r1 q1 => ?_⟩
    unfold itS1 at q1
    split at q1
    · rename_i y
      obtain ⟨v, rfl, r⟩ := r1.one
      rcases itS_cases y S1 with ⟨ds, e1⟩ | e1
      · rw [e1] at q1
        obtain ⟨_, t, a, xs, rfl, h1, h2⟩ := itS_of r e1
        exact ⟨t, a, xs, rfl, s1.sq h1, rd_ok q1 s1 (good_enum h1 h2)⟩
      · rw [e1] at q1; exact q1.elim
    · exact q1.elim
/-- in pairs -/
def zipL : List D → List D → List D
  | a :: as, b :: bs => .tup [a, b] :: zipL as bs
  | _, _ => []
@[simp] theorem zipL_len : ∀ (as bs : List D), (zipL as bs).length = min as.length bs.length
  | [], bs => by simp [zipL]
  | _ :: _, [] => by simp [zipL]
  | _ :: as, _ :: bs => by simp [zipL, zipL_len as bs]
theorem zipL_get : ∀ {as bs : List D} {i : Nat} {d : D}, (zipL as bs)[i]? = some d → ∃ x y, as[i]? = some x ∧ bs[i]? = some y ∧ d = .tup [x, y]
  | [], _, _, _, e => by simp [zipL] at e
  | _ :: _, [], _, _, e => by simp [zipL] at e
  | a :: as, b :: bs, 0, _, e => by simp [zipL] at e; exact ⟨a, b, rfl, rfl, e.symm⟩
  | a :: as, b :: bs, i + 1, _, e => by
    obtain ⟨x, y, h1, h2, h3⟩ := zipL_get (as := as) (bs := bs) (i := i) (by simpa [zipL] using e)
    exact ⟨x, y, by simpa using h1, by simpa using h2, h3⟩
theorem good_zip {K : PySem.W.Frag} {F : Hp} {t1 t2 : Bool} {a b : Addr} {xs ys : List V} {ds es : List D} (h1 : SQ K F t1 a xs) (r1 : RpL K F ds xs) (h2 : SQ K F t2 b ys) (r2 : RpL K F es ys) : Good K F (ItZ K t1 t2 a b) (zipL ds es) := by
  intro w S H i l s
  have hq1 := s.sq (l.sq h1)
  have hq2 := s.sq (l.sq h2)
  have hl1 := r1.length
  have hl2 := r2.length
  refine ⟨fun e => ?_, fun d e => ?_⟩
  · rw [zipL_len] at e
    exact ⟨xs, ys, hq1, hq2, by omega, by omega, by omega⟩
  · obtain ⟨c1, c2, e1, e2, rfl⟩ := zipL_get e
    obtain ⟨x1, g1, q1⟩ := r1.get e1
    obtain ⟨x2, g2, q2⟩ := r2.get e2
    refine ⟨⟨xs, ys, x1, x2, hq1, hq2, g1, g2⟩, fun z H' hy => ?_⟩
    obtain ⟨T, y1, y2, rfl, hT, rfl, f1, f2⟩ := hy
    have ez1 : y1 = x1 := Option.some.inj ((f1 xs hq1).symm.trans g1)
    have ez2 : y2 = x2 := Option.some.inj ((f2 ys hq2).symm.trans g2)
    subst ez1 ez2
    exact new_tupF s hT (.cons (q1.mono l) (.cons (q2.mono l) .nil))
def itS2 (g : List D → List D → List D) : List Y → Sto → Res (List D)
  | [y, z], S => (itS y S).bind fun ds S1 => (itS z S1).bind fun es S2 => .ok (g ds es) S2
  | _, _ => .bad
theorem ri_zip {elts : List Expr} {kk : Nat} {tpos : Pos} (C : Ok X W k vl wl gl) (j : Nat) (ha : RA X W [a, b] fs) (hj : gl[j]? = some "zip" := by rfl) (hs : starEach [a, b] X.env = (false, eval a X.env) :: starEach [b] X.env := by rfl) (hpl : (backTo pos (starEach [b] X.env)).any (·.1) = false := by rfl) :
    RI X W (.Tuple elts kk tpos) (.Call (.Name "zip" p) [a, b] [] pos) (fIt (itS2 zipL) fs) :=
  weakPI (pi_zipX (C.glo j _ hj).1 (C.blt 16 _ rfl) ha hs hpl) fun σ H Q q => by
    obtain ⟨w, env, S, hE, s, q⟩ := q
    refine ⟨w, env, S, hE, s, rd_bind q fun ys S1 w1 vs H1 l1 s1 r1 q1 => ?_⟩
    unfold itS2 at q1
    split at q1
    · rename_i y z
      obtain ⟨v, u, rfl, r, r'⟩ := r1.two
      rcases itS_cases y S1 with ⟨ds, e1⟩ | e1
      · rw [e1] at q1
        rcases itS_cases z S1 with ⟨es, e2⟩ | e2
        · simp only [Res.bind] at q1
          rw [e2] at q1
          obtain ⟨_, t1, a, xs, rfl, h1, h2⟩ := itS_of r e1
          obtain ⟨_, t2, b, ys, rfl, h3, h4⟩ := itS_of r' e2
          exact ⟨t1, t2, a, b, xs, ys, rfl, s1.sq h1, s1.sq h3, rd_ok q1 s1 (good_zip h1 h2 h3 h4)⟩
        · simp only [Res.bind] at q1
          rw [e2] at q1; exact q1.elim
      · rw [e1] at q1; exact q1.elim
    · exact q1.elim

/-- a thing of the store, frozen for good -/
def frz : Y → Sto → Res Y
  | .v d, S => .ok (.v d) S
  | .ref n, S => match S[n]? with
    | some (.lst ds) => .ok (.v (.lst ds)) (S.set n .gone)
    | _ => .bad
def fFrz (f : FE Y) : FE Y := fun env S => (f env S).bind frz
theorem frz_read {K : PySem.W.Frag} {mg : Str → Option Value} {E : XK} {w : Wd} {S : Sto} {H : Hp} {y : Y} {v : V} {Q : VK} (s : Sim K w S H) (r : RY K w y v) (h : rd K mg E (frz y S) w (RY K) Q) : Q v H := by
  cases y with
  | v d => exact rd_ok h s r
  | ref n =>
    unfold frz at h
    dsimp only at h
    split at h
    · rename_i ds e0
      have t0 : thaw [.ref n] S = some ([.lst ds], S.set n .gone) := by simp [thaw, e0]
      obtain ⟨w', l, s', q⟩ := thaw_ok s (.cons r .nil) t0
      cases q with
      | cons q _ => exact rd_okLe h l s' q
    · exact h.elim
theorem re_frz (ha : RE X W a f) : RE X W a (fFrz f) := weakPE ha fun σ H Q q => by
  obtain ⟨w, env, S, hE, s, q⟩ := q
  refine ⟨w, env, S, hE, s, rd_bind q fun y S1 w1 v H1 l1 s1 r1 q1 => frz_read s1 r1 q1⟩
end

/-! ### targets -/
inductive Tg where
  | nm (i : Nat)
  | tp (ts : List Tg)
mutual
def Tg.asg : Tg → D → Ev → Option Ev
  | .nm i, d, env => some (env.set i (some (.v d)))
  | .tp ts, .tup ds, env => Tg.asgL ts ds env
  | .tp _, _, _ => none
def Tg.asgL : List Tg → List D → Ev → Option Ev
  | [], [], env => some env
  | t :: ts, d :: ds, env => match Tg.asg t d env with
    | some env1 => Tg.asgL ts ds env1
    | none => none
  | _, _, _ => none
end
mutual
def Tg.slots : Tg → List Nat
  | .nm i => [i]
  | .tp ts => Tg.slotsL ts
def Tg.slotsL : List Tg → List Nat
  | [] => []
  | t :: ts => Tg.slots t ++ Tg.slotsL ts
end
mutual
def Tg.rd (K : PySem.W.Frag) : Tg → TG
  | .nm i => gName i
  | .tp ts => gTup K ts.length (Tg.rdL K ts)
def Tg.rdL (K : PySem.W.Frag) : List Tg → TGs
  | [] => gNil
  | t :: ts => gCons (Tg.rd K t) (Tg.rdL K ts)
end
abbrev RGt (X : Cx) (e : Expr) (t : Tg) : Prop := PG X e (t.rd X.K)
abbrev RGs (X : Cx) (es : List Expr) (ts : List Tg) : Prop := PGs X es (Tg.rdL X.K ts)
section
variable {X : Cx} {W : WX} {k : Nat} {vl wl : List (Nat × Str)} {gl : List Str} {x : Str} {pos : Pos}
theorem rg_nm (C : Ok X W k vl wl gl) (j : Nat) {i : Nat} (hj : wl[j]? = some (i, x) := by rfl) : RGt X (.Name x pos) (.nm i) := by
  obtain ⟨h1, h2, h3⟩ := C.sto j i x hj
  exact pg_name C.nd h1 h2 h3
theorem rg_nil : RGs X [] [] := pgs_nil
theorem rg_cons {e : Expr} {es : List Expr} {t : Tg} {ts : List Tg} (h1 : RGt X e t) (h2 : RGs X es ts) (hs : (assignEach (e :: es) X.env).map (·.2) = assign e X.env :: (assignEach es X.env).map (·.2) := by rfl) : RGs X (e :: es) (t :: ts) := pgs_cons h1 h2 hs
theorem rg_tp (C : Ok X W k vl wl gl) {es : List Expr} {kk : Nat} {ts : List Tg} (h : RGs X es ts) (hn : (assignEach es X.env).length = ts.length := by rfl) (hst : (assignEach es X.env).findIdx? (·.1) = none := by rfl) : RGt X (.Tuple es kk pos) (.tp ts) :=
  pg_tup C.calm h hn hst
end
theorem wipe_get {σ : L2.St} {i : Nat} : ∀ {vs : List Nat}, i ∈ vs → i < σ.length → (wipe σ vs)[i]? = some none
  | v :: vs, h, hl => by
    unfold wipe
    by_cases e : v = i
    · subst e
      exact List.getElem?_set_self (by rw [wipe_length]; exact hl)
    · rw [List.getElem?_set_ne e]
      exact wipe_get ((List.mem_cons.mp h).resolve_left fun q => e q.symm) hl
theorem wipe_set {σ : L2.St} {i : Nat} {o : Option V} {vs : List Nat} (h : i ∈ vs) : wipe (σ.set i o) vs = wipe σ vs := by
  apply List.ext_getElem?
  intro j
  by_cases hj : j ∈ vs
  · by_cases hl : j < σ.length
    · rw [wipe_get hj hl, wipe_get hj (by simpa using hl)]
    · rw [List.getElem?_eq_none (by rw [wipe_length]; simpa using hl), List.getElem?_eq_none (by rw [wipe_length]; simpa using hl)]
  · rw [wipe_out hj, wipe_out hj, List.getElem?_set_ne (by intro q; exact hj (by rw [← q]; exact h))]
mutual
theorem asg_ok {K : PySem.W.Frag} {w : Wd} {S : Sto} {H : Hp} (s : Sim K w S H) {vs : List Nat} : ∀ (t : Tg) {d : D} {env env' : Ev} {σ : L2.St} {v : V} {Q : L2.St → Hp → Prop}, EnvR K w env σ → Rp K w.F d v → t.asg d env = some env' → (∀ i ∈ t.slots, i ∈ vs) →
    (∀ σ', EnvR K w env' σ' → wipe σ' vs = wipe σ vs → Q σ' H) → t.rd K v σ H Q
  | .nm i, d, env, env', σ, v, Q, hE, r, e, hv, q => by
    simp only [Tg.asg] at e
    cases e
    simp only [Tg.rd]
    exact q _ (hE.set i r) (wipe_set (hv i (by simp [Tg.slots])))
  | .tp ts, d, env, env', σ, v, Q, hE, r, e, hv, q => by
    cases d with
    | tup ds =>
      simp only [Tg.asg] at e
      simp only [Tg.rd]
      cases r with
      | tup h1 h2 =>
        have hl : ds.length = ts.length := asgL_len ts e
        exact ⟨_, _, rfl, s.sqT h1, by rw [← h2.length]; exact hl, asgL_ok s ts hE h2 e (fun i hi => hv i (by simpa [Tg.slots] using hi)) q⟩
    | _ => simp [Tg.asg] at e
theorem asgL_ok {K : PySem.W.Frag} {w : Wd} {S : Sto} {H : Hp} (s : Sim K w S H) {vs : List Nat} : ∀ (ts : List Tg) {ds : List D} {env env' : Ev} {σ : L2.St} {xs : List V} {Q : L2.St → Hp → Prop}, EnvR K w env σ → RpL K w.F ds xs → Tg.asgL ts ds env = some env' → (∀ i ∈ Tg.slotsL ts, i ∈ vs) →
    (∀ σ', EnvR K w env' σ' → wipe σ' vs = wipe σ vs → Q σ' H) → Tg.rdL K ts xs σ H Q
  | [], ds, env, env', σ, xs, Q, hE, r, e, hv, q => by
    cases ds with
    | nil =>
      simp only [Tg.asgL] at e
      cases e
      cases r
      simp only [Tg.rdL]
      exact ⟨rfl, q σ hE rfl⟩
    | cons d ds => simp [Tg.asgL] at e
  | t :: ts, ds, env, env', σ, xs, Q, hE, r, e, hv, q => by
    cases ds with
    | nil => simp [Tg.asgL] at e
    | cons d ds =>
      simp only [Tg.asgL] at e
      split at e
      · rename_i env1 e1
        cases r with
        | cons r1 r2 =>
          simp only [Tg.rdL]
          refine ⟨_, _, rfl, asg_ok s t hE r1 e1 (fun i hi => hv i (by simp [Tg.slotsL, hi])) fun σ1 hE1 hw1 => ?_⟩
          exact asgL_ok s ts hE1 r2 e (fun i hi => hv i (by simp [Tg.slotsL, hi])) fun σ2 hE2 hw2 => q σ2 hE2 (hw2.trans hw1)
      · cases e
theorem asgL_len : ∀ (ts : List Tg) {ds : List D} {env env' : Ev}, Tg.asgL ts ds env = some env' → ds.length = ts.length
  | [], [], _, _, _ => rfl
  | [], _ :: _, _, _, e => by simp [Tg.asgL] at e
  | _ :: _, [], _, _, e => by simp [Tg.asgL] at e
  | t :: ts, d :: ds, _, _, e => by
    simp only [Tg.asgL] at e
    split at e
    · rw [List.length_cons, List.length_cons, asgL_len ts e]
    · cases e
end
end Sg

/-! Q4c: contexts of blocks, comprehensions -/
namespace Sg
open PySem PySem.Spec PyProof.Rows L2

/-! ### contexts -/
def visC (N : List Str) (sc : Scope) (vl : List (Nat × Str)) : Bool := vl.all fun p => decide (N[p.1]? = some p.2) && (match sc.names.lookup p.2 with | some .local => true | some .cell => true | some .free => true | _ => false) && !(p.2 == ("__debug__" : Str)) && !(p.2 == ("__classdict__" : Str))
def stoC (N : List Str) (fn : Str → Bool) (sc : Scope) (wl : List (Nat × Str)) : Bool := wl.all fun p => decide (N[p.1]? = some p.2) && (match sc.names.lookup p.2 with | some .local => true | some .cell => fn p.2 | _ => false)
def gloC (sc : Scope) (gl : List Str) : Bool := gl.all fun x => (match sc.names.lookup x with | some .globalImplicit => true | _ => false) && !(x == ("__debug__" : Str)) && !decide (x = "__name__")
def ctxC (N : List Str) (fn : Str → Bool) (sc : Scope) (vl wl : List (Nat × Str)) (gl : List Str) : Bool := visC N sc vl && stoC N fn sc wl && gloC sc gl
theorem mem_get {α : Type} {l : List α} {j : Nat} {x : α} (h : l[j]? = some x) : x ∈ l := List.mem_of_getElem? h
theorem ok_of {X : Cx} {W : WX} {k : Nat} {vl wl : List (Nat × Str)} {gl : List Str} {N : List Str} {sc : Scope} {fn : Str → Bool} (tk : Takes X W) (hr : Room k X.A) (calm : X.calm = true) (nd : X.N.Nodup) (eN : X.N = N) (es : X.env.scope = sc) (ef : ∀ x, fn x = true → X.fn x = true) (h : ctxC N fn sc vl wl gl = true)
    (blt : ∀ (j : Nat) (x : Str), bls[j]? = some x → X.mg x = none) : Ok X W k vl wl gl := by
  unfold ctxC at h
  simp only [Bool.and_eq_true] at h
  obtain ⟨⟨h1, h2⟩, h3⟩ := h
  unfold visC at h1; unfold stoC at h2; unfold gloC at h3
  rw [List.all_eq_true] at h1 h2 h3
  refine ⟨tk, hr, calm, nd, fun j i x e => ?_, fun j i x e => ?_, fun j x e => ?_, blt⟩
  · have q := h1 _ (mem_get e)
    simp only [Bool.and_eq_true, decide_eq_true_eq, Bool.not_eq_true'] at q
    obtain ⟨⟨⟨q1, q2⟩, q3⟩, q4⟩ := q
    refine ⟨by rw [eN]; exact q1, ?_, q3, q4⟩
    unfold Vis
    rw [es]
    split at q2
    · exact .inl (by assumption)
    · exact .inr (.inl (by assumption))
    · exact .inr (.inr (by assumption))
    · cases q2
  · have q := h2 _ (mem_get e)
    simp only [Bool.and_eq_true, decide_eq_true_eq] at q
    obtain ⟨q1, q2⟩ := q
    refine ⟨by rw [eN]; exact q1, ?_⟩
    unfold L2.Loc
    rw [es]
    split at q2
    · exact ⟨.inl (by assumption), .inr (by assumption)⟩
    · exact ⟨.inr (by assumption), .inl (ef x q2)⟩
    · cases q2
  · have q := h3 _ (mem_get e)
    simp only [Bool.and_eq_true, Bool.not_eq_true', decide_eq_false_iff_not] at q
    obtain ⟨⟨q1, q2⟩, q3⟩ := q
    refine ⟨?_, q2, q3⟩
    show X.env.scope.names.lookup x = some .globalImplicit
    rw [es]
    split at q1
    · assumption
    · cases q1
def W0 : WX := fun _ _ _ _ => False
theorem takes0 {X : Cx} : Takes X W0 := fun u s' x => by
  obtain ⟨a, B, sI, pins, σ, H, cls, d, e, I, nb, up, sky, na, os, ag, w⟩ := x
  exact w.elim
abbrev Bk (X : Cx) (scope : Scope) (s : Shared) (H : Hp) (C : Addr) (cl : List (Str × Addr)) (fp : List Addr) : Cx := X.blk s H scope (compEnvC scope cl C X.env) fp
theorem Ok.blk {X : Cx} {W : WX} {k : Nat} {vl wl vl' wl' : List (Nat × Str)} {gl gl' : List Str} (O : Ok X W k vl wl gl) {N : List Str} {sc scope : Scope} (eN : X.N = N) (es : X.env.scope = sc) (h : ctxC N (fun x => scope.names.lookup x == some .cell) (relS scope sc) vl' wl' gl' = true)
    (s : Shared) (H : Hp) (C : Addr) (cl : List (Str × Addr)) (fp : List Addr) : Ok (Bk X scope s H C cl fp) W0 k vl' wl' gl' :=
  ok_of (N := N) (sc := relS scope sc) (fn := fun x => scope.names.lookup x == some .cell) takes0 O.hr O.calm O.nd eN (by rw [← es]; rfl) (fun _ h => h) h O.blt

/-! ### comprehensions -/
@[simp] def Res.bindX {α β : Type} : Res α → (α → Sto → Res β) → Res β
  | .ok a S, f => f a S
  | _, _ => .bad
theorem rd_bindX {α β γ δ : Type} {K : PySem.W.Frag} {mg : Str → Option Value} {E E' : XK} {w : Wd} {r : Res α} {g : α → Sto → Res γ} {R1 : Wd → α → β → Prop} {R2 : Wd → γ → δ → Prop} {Q1 : β → Hp → Prop} {Q : δ → Hp → Prop} (h : rd K mg E (r.bindX g) w R2 Q)
    (k : ∀ a S' w' v H', w.le w' → Sim K w' S' H' → R1 w' a v → rd K mg E (g a S') w' R2 Q → Q1 v H') : rd K mg E' r w R1 Q1 := by
  cases r with
  | ok a S => exact fun w' v H' l s q => k a S w' v H' l s q (rd_le l h)
  | exc x S => exact h.elim
  | bad => exact h
def wipeE : List Nat → Ev → Ev
  | [], env => env
  | v :: vs, env => (wipeE vs env).set v none
theorem EnvR.wipe {K : PySem.W.Frag} {w : Wd} {env : Ev} {σ : L2.St} (h : EnvR K w env σ) : ∀ vs : List Nat, EnvR K w (wipeE vs env) (L2.wipe σ vs)
  | [] => h
  | v :: vs => by
    have ih := h.wipe vs
    refine ⟨by simp [wipeE, L2.wipe, ih.len], fun j z e => ?_⟩
    unfold wipeE at e
    unfold L2.wipe
    by_cases hj : v = j
    · subst hj
      by_cases hi : v < (wipeE vs env).length
      · rw [List.getElem?_set_self hi] at e; cases e
      · rw [List.getElem?_eq_none (by simpa using hi)] at e; cases e
    · rw [List.getElem?_set_ne hj] at e
      rw [List.getElem?_set_ne hj]
      exact ih.at_ j z e
def thaw1 (y : Y) (S : Sto) : Res D := match thaw [y] S with
  | some ([d], S1) => .ok d S1
  | _ => .bad
@[simp] theorem thaw1_v (d : D) (S : Sto) : thaw1 (.v d) S = .ok d S := by simp [thaw1, thaw]
theorem thaw1_ok {K : PySem.W.Frag} {w : Wd} {S S1 : Sto} {H : Hp} {y : Y} {v : V} {d : D} (s : Sim K w S H) (r : RY K w y v) (e : thaw1 y S = .ok d S1) : ∃ w', w.le w' ∧ Sim K w' S1 H ∧ Rp K w'.F d v := by
  unfold thaw1 at e
  split at e
  · rename_i d' S1' e1
    cases e
    obtain ⟨w', l, s', q⟩ := thaw_ok s (.cons r .nil) e1
    cases q with
    | cons q _ => exact ⟨w', l, s', q⟩
  · cases e
theorem thaw1_cases (y : Y) (S : Sto) : (∃ d S1, thaw1 y S = .ok d S1) ∨ thaw1 y S = .bad := by
  unfold thaw1
  split
  · exact .inl ⟨_, _, rfl⟩
  · exact .inr rfl
def lcD (t : Tg) (ft : FE Bool) (fe : FE Y) (env : Ev) : List D → List D → Sto → Res (List D)
  | [], acc, S => .ok acc S
  | d :: ds, acc, S => match t.asg d env with
    | none => .bad
    | some env1 => (ft env1 S).bindX fun b S1 => if b = true then (fe env1 S1).bindX fun y S2 => (thaw1 y S2).bindX fun d' S3 => if okLen (acc.length + 1) = true then lcD t ft fe env ds (acc ++ [d']) S3 else .bad else lcD t ft fe env ds acc S1
def fLc (m : Bool) (vs : List Nat) (fi : FE (List D)) (t : Tg) (ft : FE Bool) (fe : FE Y) : FE Y := fun env S => (fi env S).bind fun ds S1 => (lcD t ft fe (wipeE vs env) ds [] S1).bindX fun out S2 => newL m out S2
def fYes : FE Bool := fun _ S => .ok true S
section
variable {X : Cx} {W : WX} {k : Nat} {vl wl : List (Nat × Str)} {gl : List Str} {e : Expr} {es : List Expr} {fs : FE (List Y)} {pos p : Pos} {x : Str}
abbrev RTs (X : Cx) (W : WX) (es : List Expr) (f : FE Bool) : Prop := PTs X es (tT X W f)
theorem rts_nil : RTs X W [] fYes := ⟨fun pins s σ H Q I q => by
  obtain ⟨w, env, S, hE, s', q⟩ := q
  exact pts_nil.run pins s σ H Q I (rd_ok q s' rfl)⟩
theorem rts_one {c : Expr} {f : FE Bool} (h : RT X W c f) : RTs X W [c] f := pts_one h
theorem RpL.snoc {K : PySem.W.Frag} {F : Hp} {ds : List D} {vs : List V} {d : D} {v : V} (r : RpL K F ds vs) (q : Rp K F d v) : RpL K F (ds ++ [d]) (vs ++ [v]) := r.append (.cons q .nil)
end
theorem EnvR.to {K : PySem.W.Frag} {w w' : Wd} {env : Ev} {σ : L2.St} (h : EnvR K w env σ) (lF : Le w.F w'.F) (lio : ∃ more, w'.io = w.io ++ more) : EnvR K w' env σ := by
  have h1 : EnvR K { w with X := w'.X } env σ := ⟨h.len, fun i y e => by
    obtain ⟨v, e1, r⟩ := h.at_ i y e
    refine ⟨v, e1, ?_⟩
    cases y with
    | v d => exact r
    | ref n => exact r⟩
  exact EnvR.mono (w := { w with X := w'.X }) ⟨lF, lio, rfl⟩ h1
theorem RY.to {K : PySem.W.Frag} {w w' : Wd} {y : Y} {v : V} (h : RY K w y v) (lF : Le w.F w'.F) (lio : ∃ more, w'.io = w.io ++ more) : RY K w' y v := by
  cases y with
  | v d => exact Rp.mono lF h
  | ref n =>
    obtain ⟨a, e, z⟩ := h
    obtain ⟨m, q⟩ := lio
    exact ⟨a, by rw [q, List.getElem?_append_left (List.getElem?_eq_some_iff.mp e).1]; exact e, z⟩
theorem ORep.mv {K : PySem.W.Frag} {w w' : Wd} (lF : Le w.F w'.F) {H H' : Hp} {a : Addr} {o : O} (hH : ∀ u, H a = some u → H' a = some u) (h : ORep K w H a o) : ORep K w' H' a o := by
  cases o with
  | lst ds => obtain ⟨xs, h1, h2⟩ := h; exact ⟨xs, hH _ h1, h2.mono lF⟩
  | gone => trivial
  | _ => exact h.elim
section
variable {K : PySem.W.Frag} {w : Wd} {S : Sto} {H : Hp}
theorem Sim.hold (s : Sim K w S H) {A : Addr} (hA : H A = none) (o : HO) : Sim K { w with X := upd w.X A o } S (upd H A o) := by
  have j := s.junk (o := o) hA
  refine ⟨j.len, j.fr, fun n o' a e1 e2 gn => ?_, j.inj, fun a o' e => ?_⟩
  · obtain ⟨r, z, f, x⟩ := j.ob n o' a e1 e2 gn
    have ne : a ≠ A := fun q => by
      subst q
      have := s.live hA e2
      rw [e1] at this; exact gn (Option.some.inj this)
    exact ⟨r.mv (.refl _) fun _ h => h, z, f, by show upd w.X A o a = none; rw [upd_ne ne]; exact x⟩
  · have e' : upd w.X A o a = some o' := e
    by_cases ha : a = A
    · subst ha
      rw [upd_same] at e'; cases e'
      exact ⟨upd_same, s.freshF hA⟩
    · rw [upd_ne ha] at e'
      exact j.ex a o' e'
theorem Sim.setX {X0 : Hp} {A : Addr} {o o' : HO} (s : Sim K { w with X := upd X0 A o } S H) : Sim K { w with X := upd X0 A o' } S (upd H A o') := by
  have hA : H A = some o ∧ w.F A = none := s.ex A o upd_same
  refine ⟨s.len, fun a u e => ?_, fun n t a e1 e2 gn => ?_, s.inj, fun a u e => ?_⟩
  · have ne : a ≠ A := ne_of_none e hA.2
    rw [upd_ne ne]; exact s.fr a u e
  · obtain ⟨r, ⟨u, z⟩, f, x⟩ := s.ob n t a e1 e2 gn
    have ne : a ≠ A := fun q => by
      subst q
      have x' : upd X0 a o a = none := x
      rw [upd_same] at x'; cases x'
    refine ⟨r.mv (.refl _) fun v h => by rw [upd_ne ne]; exact h, ⟨u, by rw [upd_ne ne]; exact z⟩, f, ?_⟩
    have x' : upd X0 A o a = none := x
    show upd X0 A o' a = none
    rw [upd_ne ne] at x' ⊢; exact x'
  · have e' : upd X0 A o' a = some u := e
    by_cases ha : a = A
    · subst ha
      rw [upd_same] at e'; cases e'
      exact ⟨upd_same, hA.2⟩
    · rw [upd_ne ha] at e'
      obtain ⟨h1, h2⟩ := s.ex a u (by show upd X0 A o a = some u; rw [upd_ne ha]; exact e')
      exact ⟨by rw [upd_ne ha]; exact h1, h2⟩
/-- what the context held becomes nobody's -/
theorem Sim.drop {X0 : Hp} {A : Addr} {o : HO} (hX0 : X0 A = none) (s : Sim K { w with X := upd X0 A o } S H) : Sim K { w with X := X0 } S H ∧ H A = some o ∧ w.F A = none ∧ ∀ n : Nat, w.io[n]? = some A → S[n]? = some .gone := by
  have hA : H A = some o ∧ w.F A = none := s.ex A o upd_same
  refine ⟨⟨s.len, s.fr, fun n t a e1 e2 gn => ?_, s.inj, fun a u e => ?_⟩, hA.1, hA.2, fun n e => ?_⟩
  · obtain ⟨r, z, f, x⟩ := s.ob n t a e1 e2 gn
    have x' : upd X0 A o a = none := x
    refine ⟨r.mv (.refl _) fun _ h => h, z, f, ?_⟩
    by_cases ha : a = A
    · subst ha; exact hX0
    · rw [upd_ne ha] at x'; exact x'
  · have e0 : X0 a = some u := e
    have ne : a ≠ A := ne_of_none e0 hX0
    exact s.ex a u (by show upd X0 A o a = some u; rw [upd_ne ne]; exact e0)
  · have hl : n < S.length := by rw [← s.len]; exact (List.getElem?_eq_some_iff.mp e).1
    have e1 : S[n]? = some S[n] := List.getElem?_eq_getElem hl
    by_cases gg : S[n] = .gone
    · rw [e1, gg]
    · obtain ⟨_, _, _, x⟩ := s.ob n _ A e1 e gg
      have x' : upd X0 A o A = none := x
      rw [upd_same] at x'; cases x'
/-- an object that stands and is nobody's becomes a thing of the store -/
theorem Sim.adopt (s : Sim K w S H) {A : Addr} {o : HO} {t : O} (hA : H A = some o) (hF : w.F A = none) (hX : w.X A = none) (hs : ∀ n : Nat, w.io[n]? = some A → S[n]? = some .gone) (ht : ORep K w H A t) : Sim K { w with io := w.io ++ [A] } (S ++ [t]) H := by
  have hl := s.len
  refine ⟨by simp [hl], s.fr, fun n o' a e1 e2 gn => ?_, fun n m a e1 e2 g1 g2 => ?_, s.ex⟩
  · by_cases hn : n < S.length
    · rw [List.getElem?_append_left hn] at e1
      have e2' : (w.io ++ [A])[n]? = some a := e2
      rw [List.getElem?_append_left (by omega)] at e2'
      obtain ⟨r, z, f, x⟩ := s.ob n o' a e1 e2' gn
      exact ⟨r.mv (.refl _) fun _ h => h, z, f, x⟩
    · rw [List.getElem?_append_right (by omega)] at e1
      have hz : n - S.length = 0 := by
        by_cases q : n - S.length = 0
        · exact q
        · rw [List.getElem?_eq_none (by simp; omega)] at e1; cases e1
      rw [hz] at e1
      have e2' : (w.io ++ [A])[n]? = some a := e2
      rw [List.getElem?_append_right (by omega), hl, hz] at e2'
      simp at e1 e2'
      subst e1; subst e2'
      exact ⟨ht.mv (.refl _) fun _ h => h, ⟨o, hA⟩, hF, hX⟩
  · have gone : ∀ k : Nat, k < w.io.length → (w.io ++ [A])[k]? = some A → (S ++ [t])[k]? = some .gone := fun k hk e => by
      rw [List.getElem?_append_left hk] at e
      rw [List.getElem?_append_left (by omega)]
      exact hs k e
    have e1' : (w.io ++ [A])[n]? = some a := e1
    have e2' : (w.io ++ [A])[m]? = some a := e2
    have bn : n < w.io.length + 1 := by have := (List.getElem?_eq_some_iff.mp e1').1; simpa using this
    have bm : m < w.io.length + 1 := by have := (List.getElem?_eq_some_iff.mp e2').1; simpa using this
    have last : ∀ k : Nat, ¬ k < w.io.length → k < w.io.length + 1 → (w.io ++ [A])[k]? = some A := fun k h1 h2 => by
      have : k = w.io.length := by omega
      subst this; simp
    by_cases hn : n < w.io.length <;> by_cases hm : m < w.io.length
    · rw [List.getElem?_append_left hn] at e1'
      rw [List.getElem?_append_left hm] at e2'
      rw [List.getElem?_append_left (by omega)] at g1 g2
      exact s.inj n m a e1' e2' g1 g2
    · rw [last m hm bm] at e2'
      cases e2'
      exact absurd (gone n hn e1') g1
    · rw [last n hn bn] at e1'
      cases e1'
      exact absurd (gone m hm e2') g2
    · omega
/-- a list that nobody tells of comes out -/
theorem newL_out {mg : Str → Option Value} {E : XK} {m : Bool} {ds : List D} {Q : VK} {A : Addr} {xs : List V} (s : Sim K w S H) (hA : H A = some (.lst xs)) (hF : w.F A = none) (hX : w.X A = none) (hs : ∀ n : Nat, w.io[n]? = some A → S[n]? = some .gone) (r : RpL K w.F ds xs)
    (h : rd K mg E (newL m ds S) w (RY K) Q) : Q (.ref A) H := by
  unfold newL at h
  split at h
  · refine rd_okLe h .newO (s.adopt hA hF hX hs ⟨xs, hA, r⟩) ⟨A, ?_, rfl⟩
    show (w.io ++ [A])[S.length]? = some A
    rw [← s.len]; simp
  · exact rd_okLe h (.froze hF) (s.froze hA hF hX hs) (Rp.lst (.inl upd_same) (r.mono (le_upd hF)))
end
theorem wipe_wipe {σ : L2.St} (vs : List Nat) : L2.wipe (L2.wipe σ vs) vs = L2.wipe σ vs := by
  apply List.ext_getElem?
  intro j
  by_cases hj : j ∈ vs
  · by_cases hl : j < σ.length
    · rw [wipe_get hj hl, wipe_get hj (by rw [wipe_length]; exact hl)]
    · rw [List.getElem?_eq_none (by rw [wipe_length, wipe_length]; omega), List.getElem?_eq_none (by rw [wipe_length]; omega)]
  · rw [wipe_out hj]
/-- the state of a comprehension ahead of turn i: n turns are left -/
def LcI (K : PySem.W.Frag) (w1 : Wd) (A : Addr) (P : Wd → List D → Sto → Prop) (H : Hp) : Prop :=
  ∃ (w' : Wd) (S' : Sto) (acc : List D) (xs : List V), w1.le w' ∧ Sim K { w' with X := upd w1.X A (.lst xs) } S' H ∧ RpL K w'.F acc xs ∧ P w' acc S'
theorem LcI.out {K : PySem.W.Frag} {w1 : Wd} {A : Addr} {mg : Str → Option Value} {E : XK} {m : Bool} {Q : VK} {H : Hp} (hX : w1.X A = none) (h : LcI K w1 A (fun w' acc S' => rd K mg E (newL m acc S') w' (RY K) Q) H) : Q (.ref A) H := by
  obtain ⟨w', S', acc, xs, l', s', ra, q⟩ := h
  obtain ⟨s0, h1, h2, h3⟩ := s'.drop hX
  have ew : ({ w' with X := w1.X } : Wd) = w' := by rw [← l'.X]
  rw [ew] at s0
  exact newL_out s0 h1 h2 (by rw [l'.X]; exact hX) h3 ra q
/-- an element -/
theorem LcI.elt {K : PySem.W.Frag} {w1 : Wd} {A : Addr} {mg : Str → Option Value} {fe : FE Y} {env1 : Ev} {S' : Sto} {H : Hp} {P P' : Wd → List D → Sto → Prop} {σ2 : L2.St} {w' : Wd} {acc : List D} {xs : List V} (l' : w1.le w') (hE : EnvR K w' env1 σ2) (s' : Sim K { w' with X := upd w1.X A (.lst xs) } S' H) (ra : RpL K w'.F acc xs)
    (h : ∃ y S1 d S2, fe env1 S' = .ok y S1 ∧ thaw1 y S1 = .ok d S2 ∧ okLen (acc.length + 1) = true ∧ ∀ w2, w'.le w2 → P' w2 (acc ++ [d]) S2) :
    tM K mg W0 (RY K) fe σ2 H fun y H4 => ∃ ac, H4 A = some (.lst ac) ∧ ac.length < sizeLine ∧ LcI K w1 A P' (upd H4 A (.lst (ac ++ [y]))) := by
  obtain ⟨y, S1, d, S2, e1, e2, hl, p⟩ := h
  refine ⟨{ w' with X := upd w1.X A (.lst xs) }, env1, S', hE.to (.refl _) ⟨[], by simp⟩, s', ?_⟩
  rw [e1]
  intro w3 v H4 l3 s3 r3
  obtain ⟨w4, l4, s4, r4⟩ := thaw1_ok s3 r3 e2
  have eX : w4.X = upd w1.X A (.lst xs) := by rw [l4.X, l3.X]
  have ew : w4 = { w4 with X := upd w1.X A (.lst xs) } := by rw [← eX]
  rw [ew] at s4
  have hA : H4 A = some (.lst xs) := (s4.ex A (.lst xs) upd_same).1
  have lw : w'.le { w4 with X := w'.X } := ⟨l3.F.trans l4.F, (l3.trans l4).io, rfl⟩
  refine ⟨xs, hA, ?_, { w4 with X := w'.X }, S2, acc ++ [d], xs ++ [v], l'.trans lw, s4.setX, ?_, p _ lw⟩
  · have := len_ok hl
    rw [← ra.length]; omega
  · exact (ra.mono (l3.F.trans l4.F)).snoc r4
theorem LcI.test {K : PySem.W.Frag} {w1 : Wd} {A : Addr} {mg : Str → Option Value} {ft : FE Bool} {env1 : Ev} {S' S1 : Sto} {H : Hp} {σ2 : L2.St} {w' : Wd} {xs : List V} {b : Bool} {Q : Bool → Hp → Prop} (hE : EnvR K w' env1 σ2) (s' : Sim K { w' with X := upd w1.X A (.lst xs) } S' H) (e : ft env1 S' = .ok b S1)
    (h : ∀ w2 H2, w'.le w2 → Sim K { w2 with X := upd w1.X A (.lst xs) } S1 H2 → Q b H2) : tM K mg W0 REq ft σ2 H Q := by
  refine ⟨{ w' with X := upd w1.X A (.lst xs) }, env1, S', hE.to (.refl _) ⟨[], by simp⟩, s', ?_⟩
  rw [e]
  intro w3 v H4 l3 s3 r3
  have r3' : b = v := r3
  subst r3'
  have ew : w3 = { ({ w3 with X := w'.X } : Wd) with X := upd w1.X A (.lst xs) } := by
    have := l3.X
    cases w3
    simp at this ⊢
    exact this
  rw [ew] at s3
  exact h { w3 with X := w'.X } H4 ⟨l3.F, l3.io, rfl⟩ s3
/-- the accumulator's address is the context's -/
theorem lc_read {K : PySem.W.Frag} {mg : Str → Option Value} {m : Bool} {vs : List Nat} {t : Tg} {fi : FE (List D)} {ft : FE Bool} {fe : FE Y} (hv : ∀ i ∈ t.slots, i ∈ vs) (σ : L2.St) (H : Hp) (Q : VK)
    (q : tM K mg W (RY K) (fLc m vs fi t ft fe) σ H Q) :
    tLc (tM K mg W (fun w ds J => Good K w.F J ds) fi) (t.rd K) (tM K mg W0 REq ft) (tM K mg W0 (RY K) fe) vs σ H Q := by
  obtain ⟨w, env, S, hE, s, q⟩ := q
  refine ⟨w, env, S, hE, s, rd_bind q fun ds S1 w1 J H1 l1 s1 g q1 A hA => ?_⟩
  have hE1 := hE.mono l1
  have hX1 : w1.X A = none := s1.freshX hA
  refine ⟨fun i n H' => n + i = ds.length ∧ LcI K w1 A (fun w' acc S' => rd K mg (WE W σ) ((lcD t ft fe (wipeE vs env) (ds.drop i) acc S').bindX fun out S2 => newL m out S2) w' (RY K) Q) H',
    ⟨ds.length, rfl, w1, S1, [], [], .refl w1, s1.hold hA _, .nil, q1⟩, fun i n H' hW => ?_⟩
  obtain ⟨hn, w', S', acc, xs, l', s', ra, q'⟩ := hW
  obtain ⟨hstop, hgo⟩ := g { w' with X := upd w1.X A (.lst xs) } S' H' i l'.F s'
  cases ed : ds[i]? with
  | none =>
    have hi : ds.length ≤ i := List.getElem?_eq_none_iff.mp ed
    refine .inl ⟨hstop (by omega), LcI.out (mg := mg) (E := WE W σ) (m := m) hX1 ⟨w', S', acc, xs, l', s', ra, ?_⟩⟩
    rw [List.drop_eq_nil_of_le hi] at q'
    exact q'
  | some d =>
    obtain ⟨hg, hy⟩ := hgo d ed
    have hlt : i < ds.length := (List.getElem?_eq_some_iff.mp ed).1
    refine .inr ⟨hg, LcI K w1 A (fun w' acc S' => rd K mg (WE W σ) ((lcD t ft fe (wipeE vs env) (ds.drop (i + 1)) acc S').bindX fun out S2 => newL m out S2) w' (RY K) Q), fun H3 h3 => ⟨n - 1, by omega, by omega, h3⟩, fun z H2 hyl => ?_⟩
    obtain ⟨F', lF, s2, rz⟩ := hy z H2 hyl
    have l2 : w'.le { w' with F := F' } := ⟨lF, ⟨[], by simp⟩, rfl⟩
    rw [List.drop_eq_getElem_cons hlt] at q'
    have ed' : ds[i] = d := Option.some.inj ((List.getElem?_eq_getElem hlt).symm.trans ed)
    rw [ed'] at q'
    unfold lcD at q'
    cases ea : t.asg d (wipeE vs env) with
    | none => rw [ea] at q'; exact q'.elim
    | some env1 =>
      rw [ea] at q'
      dsimp only at q'
      refine asg_ok (w := { w' with F := F', X := upd w1.X A (.lst xs) }) (vs := vs) s2 t (((hE1.mono l').wipe vs).to lF ⟨[], by simp⟩) rz ea hv fun σ2 hE2 hw2 => ⟨by rw [hw2, wipe_wipe], ?_⟩
      have hE2' : EnvR K { w' with F := F' } env1 σ2 := hE2.to (.refl _) ⟨[], by simp⟩
      have q2 := rd_le l2 q'
      cases hb : ft env1 S' with
      | exc x S9 => rw [hb] at q2; exact q2.elim
      | bad => rw [hb] at q2; exact q2.elim
      | ok b S1' =>
        rw [hb] at q2
        simp only [Res.bindX] at q2
        refine LcI.test (w' := { w' with F := F' }) hE2' s2 hb fun w3 H3 l3 s3 => ?_
        have q3 := rd_le l3 q2
        cases b with
        | false =>
          rw [if_neg Bool.false_ne_true] at q3 ⊢
          exact ⟨w3, S1', acc, xs, (l'.trans l2).trans l3, s3, ra.mono ((l2.trans l3).F), q3⟩
        | true =>
          rw [if_pos rfl] at q3 ⊢
          refine LcI.elt (w' := w3) (P := fun _ _ _ => True) ((l'.trans l2).trans l3) (hE2'.mono l3) s3 (ra.mono ((l2.trans l3).F)) ?_
          cases he : fe env1 S1' with
          | exc x S9 => rw [he] at q3; exact q3.elim
          | bad => rw [he] at q3; exact q3.elim
          | ok y S2' =>
            rw [he] at q3
            simp only [Res.bindX] at q3
            rcases thaw1_cases y S2' with ⟨d', S3', e4⟩ | e4
            · rw [e4] at q3
              simp only [Res.bindX] at q3
              by_cases hl : okLen (acc.length + 1) = true
              · rw [if_pos hl] at q3
                exact ⟨y, S2', d', S3', rfl, e4, hl, fun w4 l4 => rd_le l4 q3⟩
              · rw [if_neg hl] at q3; exact q3.elim
            · rw [e4] at q3; exact q3.elim
section
variable {X : Cx} {W : WX} {k : Nat} {vl wl : List (Nat × Str)} {gl : List Str} {e : Expr} {es : List Expr} {fs : FE (List Y)} {pos p : Pos} {x : Str}
theorem re_lc (m : Bool) (O : Ok X W k vl wl gl) {elt tg iter : Expr} {ifs : List Expr} {N : List Str} {sc scope : Scope} (own : List (Str × Nat)) {t : Tg} {fi : FE (List D)} {ft : FE Bool} {fe : FE Y} (hi : RI X W tg iter fi) (eN : X.N = N) (es : X.env.scope = sc) (ok : blkC N sc scope own = true)
    (hv : (t.slots.all fun i => (own.map (·.2)).contains i) = true)
    (hg : ∀ (s : Shared) (H : Hp) (C : Addr) (cl : List (Str × Addr)) (fp : List Addr), RGt (Bk X scope s H C cl fp) tg t) (ht : ∀ (s : Shared) (H : Hp) (C : Addr) (cl : List (Str × Addr)) (fp : List Addr), RTs (Bk X scope s H C cl fp) W0 ifs ft)
    (he : ∀ (s : Shared) (H : Hp) (C : Addr) (cl : List (Str × Addr)) (fp : List Addr), RE (Bk X scope s H C cl fp) W0 elt fe) (hs : ∀ x, foldedSetIterable iter X.env x = pure x := by intro _; rfl) :
    RE X W (.ListComp elt [⟨tg, iter, ifs, 0⟩] scope pos) (fLc m (own.map (·.2)) fi t ft fe) := by
  subst eN; subst es
  refine weakPE (pe_lc (g := t.rd X.K) (tt := tM X.K X.mg W0 REq ft) (te := tM X.K X.mg W0 (RY X.K) fe) O.calm O.nd hi (blkOk_by ok) hg ht he hs) fun σ H Q q => lc_read (fun i hi => ?_) σ H Q q
  have := List.all_eq_true.mp hv i hi
  simpa using this
/-- as ps_setLc -/
theorem fLc_asg (m : Bool) {i : Nat} {y : Str} {py : Pos} (O : Ok X W k vl wl gl) {elt tg iter : Expr} {ifs : List Expr} {N : List Str} {sc scope : Scope} (own : List (Str × Nat)) {t : Tg} {fi : FE (List D)} {ft : FE Bool} {fe : FE Y} {spos : Pos} (hi : RI X W tg iter fi) (eN : X.N = N) (es : X.env.scope = sc) (ok : blkC N sc scope own = true)
    (hv : (t.slots.all fun i => (own.map (·.2)).contains i) = true) (hy : N[i]? = some y) (hyl : sc.names.lookup y = some .local)
    (hsw : swapsWith (.ListComp elt [⟨tg, iter, ifs, 0⟩] scope pos) (some (.Name y py)) spos.line X.env = pure true)
    (hg : ∀ (s : Shared) (H : Hp) (C : Addr) (cl : List (Str × Addr)) (fp : List Addr), RGt (Bk X scope s H C cl fp) tg t) (ht : ∀ (s : Shared) (H : Hp) (C : Addr) (cl : List (Str × Addr)) (fp : List Addr), RTs (Bk X scope s H C cl fp) W0 ifs ft)
    (he : ∀ (s : Shared) (H : Hp) (C : Addr) (cl : List (Str × Addr)) (fp : List Addr), RE (Bk X scope s H C cl fp) W0 elt fe) (hs : ∀ x, foldedSetIterable iter X.env x = pure x := by intro _; rfl) :
    PS X (.Assign [.Name y py] (.ListComp elt [⟨tg, iter, ifs, 0⟩] scope pos) spos) (tAsg (tM X.K X.mg W (RY X.K) (fLc m (own.map (·.2)) fi t ft fe)) (gName i)) := by
  subst eN; subst es
  refine weakPS (ps_setLc (g := t.rd X.K) (tt := tM X.K X.mg W0 REq ft) (te := tM X.K X.mg W0 (RY X.K) fe) O.calm O.nd hy hyl hsw hi (blkOk_by ok) hg ht he hs) fun D σ H q => ?_
  refine lc_read (fun i hi => ?_) σ H _ q
  have := List.all_eq_true.mp hv i hi
  simpa using this
end
end Sg

/-! Q4d: statements -/
namespace Sg
open PySem PySem.Spec PyProof.Rows L2

inductive SR where
  | nx (env : Ev) (S : Sto) | rt (y : Y) (S : Sto) | bk (env : Ev) (S : Sto) | ct (env : Ev) (S : Sto) | exc (x : Xc) (env : Ev) (S : Sto) | bad
abbrev FS := Ev → Sto → SR
def sd (K : PySem.W.Frag) (mg : Str → Option Value) (W : WX) (r : SR) (w : Wd) (D : Ends) : Prop :=
  match r with
  | .nx env S => ∀ w' σ H, w.le w' → EnvR K w' env σ → Sim K w' S H → D.nx σ H
  | .rt y S => ∀ w' v H, w.le w' → Sim K w' S H → RY K w' y v → D.rt v H
  | .bk env S => ∀ w' σ H, w.le w' → EnvR K w' env σ → Sim K w' S H → D.bk σ H
  | .ct env S => ∀ w' σ H, w.le w' → EnvR K w' env σ → Sim K w' S H → D.ct σ H
  | .exc x env S => ∀ w' σ cls d H, w.le w' → EnvR K w' env σ → Sim K w' S H → XR mg w' x cls d → W cls d σ H
  | .bad => False
theorem sd_le {K : PySem.W.Frag} {mg : Str → Option Value} {W : WX} {r : SR} {w w' : Wd} {D : Ends} (l : w.le w') (h : sd K mg W r w D) : sd K mg W r w' D := by
  cases r with
  | nx env S => exact fun w2 σ H l2 => h w2 σ H (l.trans l2)
  | rt y S => exact fun w2 v H l2 => h w2 v H (l.trans l2)
  | bk env S => exact fun w2 σ H l2 => h w2 σ H (l.trans l2)
  | ct env S => exact fun w2 σ H l2 => h w2 σ H (l.trans l2)
  | exc x env S => exact fun w2 σ c d H l2 => h w2 σ c d H (l.trans l2)
  | bad => exact h
@[simp] def Res.bindE {α : Type} : Res α → Ev → (α → Sto → SR) → SR
  | .ok a S, _, f => f a S
  | .exc x S, env, _ => .exc x env S
  | .bad, _, _ => .bad
theorem rd_bindE {α β : Type} {K : PySem.W.Frag} {mg : Str → Option Value} {W : WX} {w : Wd} {r : Res α} {env : Ev} {σ : L2.St} {g : α → Sto → SR} {R1 : Wd → α → β → Prop} {Q1 : β → Hp → Prop} {D : Ends} (hE : EnvR K w env σ) (h : sd K mg W (r.bindE env g) w D)
    (k : ∀ a S' w' v H', w.le w' → Sim K w' S' H' → R1 w' a v → EnvR K w' env σ → sd K mg W (g a S') w' D → Q1 v H') : rd K mg (WE W σ) r w R1 Q1 := by
  cases r with
  | ok a S => exact fun w' v H' l s q => k a S w' v H' l s q (hE.mono l) (sd_le l h)
  | exc x S => exact fun w' cls d H' l s xr => h w' σ cls d H' l (hE.mono l) s xr
  | bad => exact h
def tS (X : Cx) (W : WX) (f : FS) : TS := fun D σ H => ∃ w env S, EnvR X.K w env σ ∧ Sim X.K w S H ∧ sd X.K X.mg W (f env S) w D
abbrev RS (X : Cx) (W : WX) (st : Stmt) (f : FS) : Prop := PS X st (tS X W f)
abbrev RSs (X : Cx) (W : WX) (sts : List Stmt) (f : FS) : Prop := PSs X sts (tS X W f)

@[simp] def SR.seq : SR → FS → SR
  | .nx env S, g => g env S
  | .rt y S, _ => .rt y S
  | .bk env S, _ => .bk env S
  | .ct env S, _ => .ct env S
  | .exc x env S, _ => .exc x env S
  | .bad, _ => .bad
def fNx : FS := fun env S => .nx env S
def fSeq (f g : FS) : FS := fun env S => (f env S).seq g
def fBrk : FS := fun env S => .bk env S
def fCnt : FS := fun env S => .ct env S
def fDrop (f : FE Y) : FS := fun env S => (f env S).bindE env fun _ S1 => .nx env S1
def fRet (f : FE Y) : FS := fun env S => (f env S).bindE env fun y S1 => .rt y S1
def fRetN : FS := fun _ S => .rt (.v .non) S
def fIfS (t : FE Bool) (f g : FS) : FS := fun env S => (t env S).bindE env fun b S1 => if b = true then f env S1 else g env S1
def fSet (i : Nat) (f : FE Y) : FS := fun env S => (f env S).bindE env fun y S1 => .nx (env.set i (some y)) S1
def fAsg (t : Tg) (f : FE Y) : FS := fun env S => (f env S).bindE env fun y S1 => match y with
  | .v d => match t.asg d env with
    | some env1 => .nx env1 S1
    | none => .bad
  | _ => .bad
def fPar (i j : Nat) (fs : FE (List Y)) : FS := fun env S => (fs env S).bindE env fun ys S1 => match ys with
  | [y, z] => .nx ((env.set i (some y)).set j (some z)) S1
  | _ => .bad
def fPar3 (i j l : Nat) (fs : FE (List Y)) : FS := fun env S => (fs env S).bindE env fun ys S1 => match ys with
  | [y, z, u] => .nx (((env.set i (some y)).set j (some z)).set l (some u)) S1
  | _ => .bad
def fAug (i : Nat) (sem : Y → Y → Sto → Res Y) (f : FE Y) : FS := fun env S => match env[i]? with
  | some (some x) => (f env S).bindE env fun y S1 => (sem x y S1).bindE env fun z S2 => .nx (env.set i (some z)) S2
  | _ => .bad
section
variable {X : Cx} {W : WX} {k : Nat} {vl wl : List (Nat × Str)} {gl : List Str} {e : Expr} {es : List Expr} {f g : FE Y} {fs : FE (List Y)} {pos p : Pos} {x : Str} {st : Stmt} {sts a b : List Stmt} {F G : FS} {t : FE Bool}
theorem rss_nil : RSs X W [] fNx := weakPSs pss_nil fun D σ H q => by
  obtain ⟨w, env, S, hE, s, q⟩ := q
  exact q w σ H (.refl w) hE s
theorem sd_seq {K : PySem.W.Frag} {mg : Str → Option Value} {r : SR} {w : Wd} {D : Ends} (h : sd K mg W (r.seq G) w D) : sd K mg W r w { D with nx := fun σ H => ∃ w env S, EnvR K w env σ ∧ Sim K w S H ∧ sd K mg W (G env S) w D } := by
  cases r with
  | nx env S => exact fun w' σ H l hE s => ⟨w', env, S, hE, s, sd_le l h⟩
  | rt y S => exact h
  | bk env S => exact h
  | ct env S => exact h
  | exc x env S => exact h
  | bad => exact h
theorem rss_cons (h1 : RS X W st F) (h2 : RSs X W sts G) : RSs X W (st :: sts) (fSeq F G) := weakPSs (pss_cons h1 h2) fun D σ H q => by
  obtain ⟨w, env, S, hE, s, q⟩ := q
  exact ⟨w, env, S, hE, s, sd_seq q⟩
theorem rss_one (h1 : RS X W st F) : RSs X W [st] F := pss_one h1
theorem rs_pass : RS X W (.Pass pos) fNx := weakPS ps_pass fun D σ H q => by
  obtain ⟨w, env, S, hE, s, q⟩ := q
  exact q w σ H (.refl w) hE s
theorem rs_doc {z j} {pos' : Pos} : RS X W (.Expr (.Constant (.str z) j pos) pos') fNx := weakPS ps_doc fun D σ H q => by
  obtain ⟨w, env, S, hE, s, q⟩ := q
  exact q w σ H (.refl w) hE s
theorem rs_brk : RS X W (.Break pos) fBrk := weakPS ps_break fun D σ H q => by
  obtain ⟨w, env, S, hE, s, q⟩ := q
  exact q w σ H (.refl w) hE s
theorem rs_cnt : RS X W (.Continue pos) fCnt := weakPS ps_continue fun D σ H q => by
  obtain ⟨w, env, S, hE, s, q⟩ := q
  exact q w σ H (.refl w) hE s
theorem rs_expr (he : RE X W e f) (hs : swapsWith e none pos.line X.env = pure false := by rfl) : RS X W (.Expr e pos) (fDrop f) := weakPS (ps_expr he hs) fun D σ H q => by
  obtain ⟨w, env, S, hE, s, q⟩ := q
  exact ⟨w, env, S, hE, s, rd_bindE hE q fun y S1 w1 v H1 l1 s1 r1 hE1 q1 => q1 w1 σ H1 (.refl w1) hE1 s1⟩
theorem rs_ret (he : RE X W e f) : RS X W (.Return (some e) pos) (fRet f) := weakPS (ps_ret he) fun D σ H q => by
  obtain ⟨w, env, S, hE, s, q⟩ := q
  exact ⟨w, env, S, hE, s, rd_bindE hE q fun y S1 w1 v H1 l1 s1 r1 hE1 q1 => q1 w1 v H1 (.refl w1) s1 r1⟩
theorem rs_retN : RS X W (.Return none pos) fRetN := weakPS ps_retN fun D σ H q => by
  obtain ⟨w, env, S, hE, s, q⟩ := q
  exact q w .non H (.refl w) s .non
theorem rs_if {c : Expr} (hc : RT X W c t) (ha : RSs X W a F) (hb : RSs X W b G) : RS X W (.If c a b pos) (fIfS t F G) := weakPS (ps_if hc ha hb) fun D σ H q => by
  obtain ⟨w, env, S, hE, s, q⟩ := q
  refine ⟨w, env, S, hE, s, rd_bindE hE q fun y S1 w1 v H1 l1 s1 r1 hE1 q1 => ?_⟩
  have r1' : y = v := r1
  subst r1'
  cases y with
  | true => rw [if_pos rfl] at q1 ⊢; exact ⟨w1, env, S1, hE1, s1, q1⟩
  | false => rw [if_neg Bool.false_ne_true] at q1 ⊢; exact ⟨w1, env, S1, hE1, s1, q1⟩
theorem set_read {i : Nat} (D : Ends) (σ : L2.St) (H : Hp) (q : tS X W (fSet i f) D σ H) : tAsg (tE X W f) (gName i) D σ H := by
  obtain ⟨w, env, S, hE, s, q⟩ := q
  exact ⟨w, env, S, hE, s, rd_bindE hE q fun y S1 w1 v H1 l1 s1 r1 hE1 q1 => q1 w1 _ H1 (.refl w1) (hE1.set i r1) s1⟩
theorem rs_set (O : Ok X W k vl wl gl) (j : Nat) {i : Nat} {pos' : Pos} (he : RE X W e f) (hj : wl[j]? = some (i, x) := by rfl) (hs : swapsWith e (some (.Name x pos')) pos.line X.env = pure false := by rfl) : RS X W (.Assign [.Name x pos'] e pos) (fSet i f) := by
  obtain ⟨h1, h2, h3⟩ := O.sto j i x hj
  exact weakPS (ps_set O.nd h1 h2 he hs h3) fun D σ H q => set_read D σ H q
theorem rs_setLc (m : Bool) {i : Nat} {y : Str} {py : Pos} (O : Ok X W k vl wl gl) {elt tg iter : Expr} {ifs : List Expr} {N : List Str} {sc scope : Scope} (own : List (Str × Nat)) {t : Tg} {fi : FE (List D)} {ft : FE Bool} {fe : FE Y} {spos : Pos} (hi : RI X W tg iter fi) (eN : X.N = N) (es : X.env.scope = sc) (ok : blkC N sc scope own = true)
    (hv : (t.slots.all fun i => (own.map (·.2)).contains i) = true) (hy : N[i]? = some y) (hyl : sc.names.lookup y = some .local)
    (hsw : swapsWith (.ListComp elt [⟨tg, iter, ifs, 0⟩] scope pos) (some (.Name y py)) spos.line X.env = pure true)
    (hg : ∀ (s : Shared) (H : Hp) (C : Addr) (cl : List (Str × Addr)) (fp : List Addr), RGt (Bk X scope s H C cl fp) tg t) (ht : ∀ (s : Shared) (H : Hp) (C : Addr) (cl : List (Str × Addr)) (fp : List Addr), RTs (Bk X scope s H C cl fp) W0 ifs ft)
    (he : ∀ (s : Shared) (H : Hp) (C : Addr) (cl : List (Str × Addr)) (fp : List Addr), RE (Bk X scope s H C cl fp) W0 elt fe) (hs : ∀ x, foldedSetIterable iter X.env x = pure x := by intro _; rfl) :
    RS X W (.Assign [.Name y py] (.ListComp elt [⟨tg, iter, ifs, 0⟩] scope pos) spos) (fSet i (fLc m (own.map (·.2)) fi t ft fe)) :=
  weakPS (fLc_asg m O own hi eN es ok hv hy hyl hsw hg ht he hs) fun D σ H q => set_read D σ H q
theorem rs_asg (O : Ok X W k vl wl gl) {tg : Expr} {t : Tg} (he : RE X W e f) (hg : RGt X tg t) (hs : swapsWithSole [tg] e pos.line X.env = pure false := by rfl) (hw : swappedStores [tg] e X.env = pure none := by rfl)
    (h1 : (assignEach [tg] X.env).map (·.2) = [assign tg X.env] := by rfl) : RS X W (.Assign [tg] e pos) (fAsg t f) := weakPS (ps_asg he hg hs hw h1) fun D σ H q => by
  obtain ⟨w, env, S, hE, s, q⟩ := q
  refine ⟨w, env, S, hE, s, rd_bindE hE q fun y S1 w1 v H1 l1 s1 r1 hE1 q1 => ?_⟩
  cases y with
  | ref n => exact q1.elim
  | v d =>
    dsimp only at q1
    cases ea : t.asg d env with
    | none => rw [ea] at q1; exact q1.elim
    | some env1 =>
      rw [ea] at q1
      exact asg_ok s1 t hE1 r1 ea (fun i hi => hi) fun σ' hE' _ => q1 w1 σ' H1 (.refl w1) hE' s1
theorem rs_par (O : Ok X W k vl wl gl) (j1 j2 : Nat) {i j : Nat} {y : Str} {a b : Expr} {px py pt : Pos} {kt k2 pt2} (ha : RA X W [a, b] fs) (h1 : wl[j1]? = some (i, x) := by rfl) (h2 : wl[j2]? = some (j, y) := by rfl) (hij : i ≠ j := by decide)
    (hx : X.env.scope.names.lookup x = some .local := by rfl) (hy : X.env.scope.names.lookup y = some .local := by rfl)
    (hw : swappedStores [.Tuple [.Name x px, .Name y py] kt pt] (.Tuple [a, b] k2 pt2) X.env = pure (some [x, y]) := by rfl)
    (hs : swapsWithSole [.Tuple [.Name x px, .Name y py] kt pt] (.Tuple [a, b] k2 pt2) pos.line X.env = pure false := by rfl) :
    RS X W (.Assign [.Tuple [.Name x px, .Name y py] kt pt] (.Tuple [a, b] k2 pt2) pos) (fPar i j fs) := weakPS (ps_par O.calm O.nd (O.sto j1 i x h1).1 (O.sto j2 j y h2).1 hij hx hy ha hw hs) fun D σ H q => by
  obtain ⟨w, env, S, hE, s, q⟩ := q
  refine ⟨w, env, S, hE, s, rd_bindE hE q fun ys S1 w1 vs H1 l1 s1 r1 hE1 q1 => ?_⟩
  split at q1
  · obtain ⟨v, u, rfl, r, r'⟩ := r1.two
    exact ⟨v, u, rfl, q1 w1 _ H1 (.refl w1) ((hE1.set i r).set j r') s1⟩
  · exact q1.elim
theorem rs_par3 (O : Ok X W k vl wl gl) (j1 j2 j3 : Nat) {i j l : Nat} {y z : Str} {a b c : Expr} {px py pz pt : Pos} {kt k2 pt2} (ha : RA X W [a, b, c] fs) (h1 : wl[j1]? = some (i, x) := by rfl) (h2 : wl[j2]? = some (j, y) := by rfl) (h3 : wl[j3]? = some (l, z) := by rfl) (hij : i ≠ j := by decide) (hil : i ≠ l := by decide) (hjl : j ≠ l := by decide)
    (hx : X.env.scope.names.lookup x = some .local := by rfl) (hy : X.env.scope.names.lookup y = some .local := by rfl) (hz : X.env.scope.names.lookup z = some .local := by rfl)
    (hw : swappedStores [.Tuple [.Name x px, .Name y py, .Name z pz] kt pt] (.Tuple [a, b, c] k2 pt2) X.env = pure (some [x, y, z]) := by rfl)
    (hs : swapsWithSole [.Tuple [.Name x px, .Name y py, .Name z pz] kt pt] (.Tuple [a, b, c] k2 pt2) pos.line X.env = pure false := by rfl) :
    RS X W (.Assign [.Tuple [.Name x px, .Name y py, .Name z pz] kt pt] (.Tuple [a, b, c] k2 pt2) pos) (fPar3 i j l fs) := weakPS (ps_par3 O.calm O.nd (O.sto j1 i x h1).1 (O.sto j2 j y h2).1 (O.sto j3 l z h3).1 hij hil hjl hx hy hz ha hw hs) fun D σ H q => by
  obtain ⟨w, env, S, hE, s, q⟩ := q
  refine ⟨w, env, S, hE, s, rd_bindE hE q fun ys S1 w1 vs H1 l1 s1 r1 hE1 q1 => ?_⟩
  split at q1
  · cases r1 with
    | cons r rr =>
      obtain ⟨v, u, rfl, r', r''⟩ := rr.two
      exact ⟨_, v, u, rfl, q1 w1 _ H1 (.refl w1) (((hE1.set i r).set j r').set l r'') s1⟩
  · exact q1.elim
/-- in place -/
def IpS (X : Cx) (sem : Y → Y → Sto → Res Y) (r : TIp) : Prop :=
  ∀ (E : XK) (w : Wd) (S : Sto) (H : Hp) (x y : Y) (a b : V) (Q : VK), Sim X.K w S H → RY X.K w x a → RY X.K w y b → rd X.K X.mg E (sem x y S) w (RY X.K) Q → r a b H Q
def sIAdd : Y → Y → Sto → Res Y
  | .v (.int i), .v (.int j), S => .ok (.v (.int (i + j))) S
  | _, _, _ => .bad
def sISub : Y → Y → Sto → Res Y
  | .v (.int i), .v (.int j), S => .ok (.v (.int (i - j))) S
  | _, _, _ => .bad
theorem sIAdd_ok : IpS X sIAdd (ipI fun i j => i + j) := by
  intro E w S H x y a b Q s r1 r2 h
  unfold sIAdd at h
  split at h
  · cases r1; cases r2
    exact ⟨_, _, rfl, rfl, rd_ok h s (.int _)⟩
  · exact h.elim
theorem sISub_ok : IpS X sISub (ipI fun i j => i - j) := by
  intro E w S H x y a b Q s r1 r2 h
  unfold sISub at h
  split at h
  · cases r1; cases r2
    exact ⟨_, _, rfl, rfl, rd_ok h s (.int _)⟩
  · exact h.elim
theorem rs_augG (O : Ok X W k vl wl gl) {op : Operator} {sem : Y → Y → Sto → Res Y} {r : TIp} (hp : PIp X op r) (hs : IpS X sem r) (j : Nat) {i : Nat} {pos' : Pos} (he : RE X W e f) (hj : wl[j]? = some (i, x)) : RS X W (.AugAssign (.Name x pos') op e pos) (fAug i sem f) := by
  obtain ⟨h1, h2, h3⟩ := O.sto j i x hj
  refine weakPS (ps_aug O.nd h1 h2 he hp h3) fun D σ H q => ?_
  obtain ⟨w, env, S, hE, s, q⟩ := q
  unfold fAug at q
  split at q
  · rename_i y ey
    obtain ⟨v, e1, r0⟩ := hE.at_ i y ey
    refine ⟨v, e1, w, env, S, hE, s, rd_bindE hE q fun z S1 w1 u H1 l1 s1 r1 hE1 q1 => ?_⟩
    refine hs _ w1 S1 H1 y z v u _ s1 (r0.mono l1) r1 (rd_bindE hE1 q1 fun z2 S2 w2 u2 H2 l2 s2 r2 hE2 q2 => ?_)
    exact q2 w2 _ H2 (.refl w2) (hE2.set i r2) s2
  · exact q.elim
theorem rs_augA (O : Ok X W k vl wl gl) (j : Nat) {i : Nat} {pos' : Pos} (he : RE X W e f) (hj : wl[j]? = some (i, x) := by rfl) : RS X W (.AugAssign (.Name x pos') .Add e pos) (fAug i sIAdd f) := rs_augG O ip_add sIAdd_ok j he hj
theorem rs_augS (O : Ok X W k vl wl gl) (j : Nat) {i : Nat} {pos' : Pos} (he : RE X W e f) (hj : wl[j]? = some (i, x) := by rfl) : RS X W (.AugAssign (.Name x pos') .Sub e pos) (fAug i sISub f) := rs_augG O ip_sub sISub_ok j he hj

/-! ### loops -/
def forD (t : Tg) (F : FS) : List D → FS
  | [], env, S => .nx env S
  | d :: ds, env, S => match t.asg d env with
    | none => .bad
    | some env1 => match F env1 S with
      | .nx env2 S2 => forD t F ds env2 S2
      | .ct env2 S2 => forD t F ds env2 S2
      | .bk env2 S2 => .nx env2 S2
      | .rt y S2 => .rt y S2
      | .exc x env2 S2 => .exc x env2 S2
      | .bad => .bad
def fFor (t : Tg) (fi : FE (List D)) (F : FS) : FS := fun env S => (fi env S).bindE env fun ds S1 => forD t F ds env S1
theorem rs_for (O : Ok X W k vl wl gl) {tg iter : Expr} {t : Tg} {fi : FE (List D)} (hp : PassesOwn (model X.prog X.w) X.A X.env X.xe) (hi : RI X W tg iter fi) (hg : RGt X tg t) (hb : RSs X W sts F)
    (hs : ∀ x, foldedSetIterable iter X.env x = pure x := by intro _; rfl) : RS X W (.For tg iter sts [] pos) (fFor t fi F) := weakPS (ps_for hp O.calm hi hg hb hs) fun D σ H q => by
  obtain ⟨w, env, S, hE, s, q⟩ := q
  refine ⟨w, env, S, hE, s, rd_bindE hE q fun ds S1 w1 J H1 l1 s1 g hE1 q1 => ?_⟩
  refine ⟨fun i n σ' H' => n + i = ds.length ∧ ∃ w' env' S', w1.le w' ∧ EnvR X.K w' env' σ' ∧ Sim X.K w' S' H' ∧ sd X.K X.mg W (forD t F (ds.drop i) env' S') w' D, ⟨ds.length, rfl, w1, env, S1, .refl w1, hE1, s1, q1⟩, fun i n σ' H' hW => ?_⟩
  obtain ⟨hn, w', env', S', l', hE', s', q'⟩ := hW
  obtain ⟨hstop, hgo⟩ := g w' S' H' i l'.F s'
  cases ed : ds[i]? with
  | none =>
    have hi : ds.length ≤ i := List.getElem?_eq_none_iff.mp ed
    rw [List.drop_eq_nil_of_le hi] at q'
    exact .inl ⟨hstop (by omega), q' w' σ' H' (.refl w') hE' s'⟩
  | some d =>
    obtain ⟨hgo', hy⟩ := hgo d ed
    have hlt : i < ds.length := (List.getElem?_eq_some_iff.mp ed).1
    refine .inr ⟨hgo', fun σ3 H3 => ∃ w3 env3 S3, w1.le w3 ∧ EnvR X.K w3 env3 σ3 ∧ Sim X.K w3 S3 H3 ∧ sd X.K X.mg W (forD t F (ds.drop (i + 1)) env3 S3) w3 D, fun σ3 H3 h3 => ⟨n - 1, by omega, by omega, h3⟩, fun z H2 hyl => ?_⟩
    obtain ⟨F', lF, s2, rz⟩ := hy z H2 hyl
    have l2 : w'.le { w' with F := F' } := ⟨lF, ⟨[], by simp⟩, rfl⟩
    rw [List.drop_eq_getElem_cons hlt] at q'
    have ed' : ds[i] = d := Option.some.inj ((List.getElem?_eq_getElem hlt).symm.trans ed)
    rw [ed'] at q'
    unfold forD at q'
    cases ea : t.asg d env' with
    | none => rw [ea] at q'; exact q'.elim
    | some env1 =>
      rw [ea] at q'
      dsimp only at q'
      refine asg_ok s2 t (hE'.mono l2) rz ea (fun i hi => hi) fun σ2 hE2 _ => ⟨_, env1, S', hE2, s2, ?_⟩
      have q2 := sd_le l2 q'
      have lw := l'.trans l2
      cases hF : F env1 S' with
      | nx env2 S2 => rw [hF] at q2; exact fun w3 σ3 H3 l3 hE3 s3 => ⟨w3, env2, S2, lw.trans l3, hE3, s3, sd_le l3 q2⟩
      | ct env2 S2 => rw [hF] at q2; exact fun w3 σ3 H3 l3 hE3 s3 => ⟨w3, env2, S2, lw.trans l3, hE3, s3, sd_le l3 q2⟩
      | bk env2 S2 => rw [hF] at q2; exact fun w3 σ3 H3 l3 hE3 s3 => q2 w3 σ3 H3 l3 hE3 s3
      | rt y S2 => rw [hF] at q2; exact q2
      | exc x env2 S2 => rw [hF] at q2; exact q2
      | bad => rw [hF] at q2; exact q2.elim
/-- while, with fuel -/
def whD (t : FE Bool) (F : FS) : Nat → FS
  | 0, _, _ => .bad
  | n + 1, env, S => (t env S).bindE env fun b S1 => if b = true then (match F env S1 with
      | .nx env2 S2 => whD t F n env2 S2
      | .ct env2 S2 => whD t F n env2 S2
      | .bk env2 S2 => .nx env2 S2
      | .rt y S2 => .rt y S2
      | .exc x env2 S2 => .exc x env2 S2
      | .bad => .bad) else .nx env S1
open Classical in
noncomputable def fWh (t : FE Bool) (F : FS) : FS := fun env S => if h : ∃ n, whD t F n env S ≠ .bad then whD t F (Classical.choose h) env S else .bad
theorem rs_while (O : Ok X W k vl wl gl) {c : Expr} (hp : PassesOwn (model X.prog X.w) X.A X.env X.xe) (hc : RT X W c t) (hb : RSs X W sts F) : RS X W (.While c sts [] pos) (fWh t F) := weakPS (ps_while hp hc hb) fun D σ H q => by
  obtain ⟨w, env, S, hE, s, q⟩ := q
  have ⟨n0, q0⟩ : ∃ n, sd X.K X.mg W (whD t F n env S) w D := by
    unfold fWh at q
    split at q
    · exact ⟨_, q⟩
    · exact q.elim
  refine ⟨fun n σ' H' => ∃ w' env' S', EnvR X.K w' env' σ' ∧ Sim X.K w' S' H' ∧ sd X.K X.mg W (whD t F n env' S') w' D, ⟨n0, w, env, S, hE, s, q0⟩, fun n σ' H' hW => ?_⟩
  obtain ⟨w', env', S', hE', s', q'⟩ := hW
  cases n with
  | zero => exact q'.elim
  | succ n =>
    unfold whD at q'
    refine ⟨w', env', S', hE', s', rd_bindE hE' q' fun b S1 w1 v H1 l1 s1 r1 hE1 q1 => ?_⟩
    have r1' : b = v := r1
    subst r1'
    cases b with
    | false => rw [if_neg Bool.false_ne_true] at q1 ⊢; exact q1 w1 σ' H1 (.refl w1) hE1 s1
    | true =>
      rw [if_pos rfl] at q1 ⊢
      refine ⟨fun σ3 H3 => ∃ w3 env3 S3, EnvR X.K w3 env3 σ3 ∧ Sim X.K w3 S3 H3 ∧ sd X.K X.mg W (whD t F n env3 S3) w3 D, fun σ3 H3 h3 => ⟨n, by omega, h3⟩, w1, env', S1, hE1, s1, ?_⟩
      cases hF : F env' S1 with
      | nx env2 S2 => rw [hF] at q1; exact fun w3 σ3 H3 l3 hE3 s3 => ⟨w3, env2, S2, hE3, s3, sd_le l3 q1⟩
      | ct env2 S2 => rw [hF] at q1; exact fun w3 σ3 H3 l3 hE3 s3 => ⟨w3, env2, S2, hE3, s3, sd_le l3 q1⟩
      | bk env2 S2 => rw [hF] at q1; exact fun w3 σ3 H3 l3 hE3 s3 => q1 w3 σ3 H3 l3 hE3 s3
      | rt y S2 => rw [hF] at q1; exact q1
      | exc x env2 S2 => rw [hF] at q1; exact q1
      | bad => rw [hF] at q1; exact q1.elim

/-! ### lists of the store -/
def stL (y : Y) (S : Sto) : Option (Nat × List D) := match y with
  | .ref n => match S[n]? with
    | some (.lst ds) => some (n, ds)
    | _ => none
  | _ => none
/-- o[i] = e -/
def fSub (fo fi f : FE Y) : FS := fun env S => (f env S).bindE env fun y S1 => (fo env S1).bindE env fun o S2 => (fi env S2).bindE env fun i S3 => match i with
  | .v (.int j) => (thaw1 y S3).bindE env fun d S4 => match stL o S4 with
    | some (n, ds) => (match ixN ds.length j with
      | some jj => .nx env (S4.set n (.lst (ds.set jj d)))
      | none => .bad)
    | none => .bad
  | _ => .bad
theorem stL_of {K : PySem.W.Frag} {w : Wd} {S : Sto} {H : Hp} (s : Sim K w S H) {y : Y} {v : V} {n : Nat} {ds : List D} (r : RY K w y v) (e : stL y S = some (n, ds)) : ∃ a xs, v = .ref a ∧ w.io[n]? = some a ∧ H a = some (.lst xs) ∧ RpL K w.F ds xs ∧ S[n]? = some (.lst ds) := by
  unfold stL at e
  split at e
  · split at e
    · rename_i m ds' e1
      cases e
      obtain ⟨a, xs, rfl, h1, h2, h3⟩ := ref_lst s r e1
      exact ⟨a, xs, rfl, h1, h2, h3, e1⟩
    · cases e
  · cases e
theorem rs_sub (O : Ok X W k vl wl gl) {o i : Expr} {fo fi : FE Y} {ps : Pos} (he : RE X W e f) (ho : RE X W o fo) (hi : RE X W i fi)
    (ha : ∀ v, assign (.Subscript o i ps) X.env v = (do
      let ov ← holding [v] (eval o X.env)
      let iv ← holding [v, ov] (eval i X.env)
      standAt ps
      holding [v, ov, iv] (setItem ov iv v)
      release [v, ov, iv] []) := by intro _; rfl) (hs : swapsWithSole [.Subscript o i ps] e pos.line X.env = pure false := by rfl) (hw : swappedStores [.Subscript o i ps] e X.env = pure none := by rfl)
    (h1 : (assignEach [.Subscript o i ps] X.env).map (·.2) = [assign (.Subscript o i ps) X.env] := by rfl) : RS X W (.Assign [.Subscript o i ps] e pos) (fSub fo fi f) := weakPS (ps_asg he (pg_sub ho hi set_list ha) hs hw h1) fun D σ H q => by
  obtain ⟨w, env, S, hE, s, q⟩ := q
  refine ⟨w, env, S, hE, s, rd_bindE hE q fun y S1 w1 v H1 l1 s1 r1 hE1 q1 => ?_⟩
  refine ⟨w1, env, S1, hE1, s1, rd_bindE hE1 q1 fun oy S2 w2 ov H2 l2 s2 r2 hE2 q2 => ?_⟩
  refine ⟨w2, env, S2, hE2, s2, rd_bindE hE2 q2 fun iy S3 w3 iv H3 l3 s3 r3 hE3 q3 => ?_⟩
  split at q3
  · rename_i j
    have r3' : Rp X.K w3.F (.int j) iv := r3
    cases r3'
    rcases thaw1_cases y S3 with ⟨d, S4, et⟩ | et
    · rw [et] at q3
      simp only [Res.bindE] at q3
      obtain ⟨w4, l4, s4, r4⟩ := thaw1_ok s3 ((r1.mono l2).mono l3) et
      split at q3
      · rename_i n ds eo
        split at q3
        · rename_i jj ej
          obtain ⟨a, xs, rfl, ha1, ha2, ha3, ha4⟩ := stL_of s4 ((r2.mono l3).mono l4) eo
          refine ⟨a, xs, j, jj, rfl, rfl, ha2, by rw [← ha3.length]; exact ej, ?_⟩
          exact sd_le l4 q3 w4 σ _ (.refl w4) (hE3.mono l4) (s4.setO ha1 ⟨_, ha4, by intro z; cases z⟩ fun _ => ⟨xs.set jj v, upd_same, RpL.set r4 jj ha3⟩)
        · exact q3.elim
      · exact q3.elim
    · rw [et] at q3; exact q3.elim
  · exact q3.elim
end
end Sg

/-! Q5: methods of lists, defs, the head -/
namespace Sg
open PySem PySem.Spec PyProof.Rows L2

/-! ### methods -/
def fMet (chk : Y → Sto → Bool) (sem : Y → List Y → Sto → Res Y) (fo : FE Y) (fs : FE (List Y)) : FE Y := fun env S => (fo env S).bind fun o S1 => if chk o S1 = true then (fs env S1).bind fun ys S2 => sem o ys S2 else .bad
def isSt (o : Y) (S : Sto) : Bool := (stL o S).isSome
def sApp (o : Y) : List Y → Sto → Res Y
  | [y], S => (thaw1 y S).bind fun d S1 => match stL o S1 with
    | some (n, ds) => if okLen (ds.length + 1) = true then .ok (.v .non) (S1.set n (.lst (ds ++ [d]))) else .bad
    | none => .bad
  | _, _ => .bad
def sPop (o : Y) : List Y → Sto → Res Y
  | [], S => match stL o S with
    | some (n, ds) => match ds[ds.length - 1]? with
      | some d => .ok (.v d) (S.set n (.lst ds.dropLast))
      | none => .bad
    | none => .bad
  | [.v (.int i)], S => match stL o S with
    | some (n, ds) => match seqIndex? i ds.length with
      | some j => match ds[j]? with
        | some d => if -(2 ^ 63) ≤ i ∧ i < 2 ^ 63 then .ok (.v d) (S.set n (.lst (ds.eraseIdx j))) else .bad
        | none => .bad
      | none => .bad
    | none => .bad
  | _, _ => .bad
section
variable {X : Cx} {W : WX} {k : Nat} {vl wl : List (Nat × Str)} {gl : List Str} {e o : Expr} {es : List Expr} {f fo : FE Y} {fs : FE (List Y)} {pos p apos cpos : Pos} {x : Str}
theorem RpL.dropLast {K : PySem.W.Frag} {F : Hp} : ∀ {ds : List D} {vs : List V}, RpL K F ds vs → RpL K F ds.dropLast vs.dropLast
  | _, _, .nil => .nil
  | _, _, .cons _ .nil => .nil
  | _, _, .cons h (.cons h' r) => .cons h (RpL.dropLast (.cons h' r))
theorem isSt_ty {K : PySem.W.Frag} {w : Wd} {S : Sto} {H : Hp} {y : Y} {v : V} (s : Sim K w S H) (r : RY K w y v) (h : isSt y S = true) : tyV K "list" v H := by
  unfold isSt at h
  obtain ⟨⟨n, ds⟩, e⟩ := Option.isSome_iff_exists.mp h
  obtain ⟨a, xs, rfl, _, h2, _⟩ := stL_of s r e
  exact .inl ⟨rfl, xs, .inl (.inl h2)⟩
theorem re_app (ho : RE X W o fo) (ha : RE X W e f)
    (hbase : attributeBase o "append" X.env (eval o X.env) = eval o X.env := by rfl)
    (hfew : ((backTo cpos (starEach (e :: []) X.env)).all (fun x => !x.1) && (backToKw cpos (keywordEach [] X.env)).all (fun x => x.1.isSome)
      && decide ((e :: []).length + ([] : List Keyword).length + (if ([] : List Keyword).isEmpty then 0 else 1) < 30)) = true := by rfl)
    (hline : (apos.endLine == cpos.line) = true := by rfl) (hs : starEach (e :: []) X.env = (false, eval e X.env) :: starEach [] X.env := by rfl) (hplain : (backTo cpos (starEach [] X.env)).any (·.1) = false := by rfl) :
    RE X W (.Call (.Attribute o "append" apos) [e] [] cpos) (fMet isSt sApp fo (fCons f fNil)) :=
  weakPE (pe_bm PySem.F.plainAttrs_list PySem.F.slot_list_append PySem.F.type_list_append mt_append ho (ra_cons ha ra_nil hs) hbase hfew hline hs hplain) fun σ H Q q => by
    obtain ⟨w, env, S, hE, s, q⟩ := q
    refine ⟨w, env, S, hE, s, rd_bind q fun y S1 w1 v H1 l1 s1 r1 q1 => ?_⟩
    split at q1
    · rename_i hc
      refine ⟨isSt_ty s1 r1 hc, w1, env, S1, hE.mono l1, s1, rd_bind q1 fun ys S2 w2 vs H2 l2 s2 r2 q2 => ?_⟩
      unfold sApp at q2
      split at q2
      · obtain ⟨u, rfl, ru⟩ := r2.one
        rename_i z
        rcases thaw1_cases z S2 with ⟨d, S3, et⟩ | et
        · rw [et] at q2
          simp only [Res.bind] at q2
          obtain ⟨w3, l3, s3, r3⟩ := thaw1_ok s2 ru et
          split at q2
          · rename_i n ds eo
            split at q2
            · rename_i hl
              obtain ⟨a, xs, rfl, ha1, ha2, ha3, ha4⟩ := stL_of s3 ((r1.mono l2).mono l3) eo
              refine ⟨a, xs, u, rfl, rfl, ha2, by have := len_ok hl; rw [← ha3.length]; omega, ?_⟩
              exact rd_okLe q2 l3 (s3.setO ha1 ⟨_, ha4, by intro z; cases z⟩ fun _ => ⟨xs ++ [u], upd_same, ha3.snoc r3⟩) .non
            · exact q2.elim
          · exact q2.elim
        · rw [et] at q2; exact q2.elim
      · exact q2.elim
    · exact q1.elim
theorem re_pop0 (ho : RE X W o fo)
    (hbase : attributeBase o "pop" X.env (eval o X.env) = eval o X.env := by rfl) (hline : (apos.endLine == cpos.line) = true := by rfl) :
    RE X W (.Call (.Attribute o "pop" apos) [] [] cpos) (fMet isSt sPop fo fNil) :=
  weakPE (pe_bm0 PySem.F.plainAttrs_list PySem.F.slot_list_pop PySem.F.type_list_pop mt_pop ho hbase hline) fun σ H Q q => by
    obtain ⟨w, env, S, hE, s, q⟩ := q
    refine ⟨w, env, S, hE, s, rd_bind q fun y S1 w1 v H1 l1 s1 r1 q1 => ?_⟩
    split at q1
    · rename_i hc
      refine ⟨isSt_ty s1 r1 hc, ?_⟩
      simp only [fNil, Res.bind, sPop] at q1
      split at q1
      · rename_i n ds eo
        split at q1
        · rename_i d ed
          obtain ⟨a, xs, rfl, ha1, ha2, ha3, ha4⟩ := stL_of s1 r1 eo
          obtain ⟨u, eu, ru⟩ := ha3.get ed
          refine ⟨a, xs, u, rfl, rfl, ha2, by rw [← ha3.length]; exact eu, ?_⟩
          exact rd_okLe q1 (.refl w1) (s1.setO ha1 ⟨_, ha4, by intro z; cases z⟩ fun _ => ⟨xs.dropLast, upd_same, ha3.dropLast⟩) ru
        · exact q1.elim
      · exact q1.elim
    · exact q1.elim
/-! ### what is not reached -/
def fNev : FE Y := fun _ _ => .bad
def fNevS : FS := fun _ _ => .bad
theorem re_never : RE X W e fNev := ⟨fun pins s σ H Q I q => by
  obtain ⟨w, env, S, hE, s, q⟩ := q
  exact q.elim⟩
theorem rs_never {st : Stmt} : RS X W st fNevS := ⟨fun pins s σ H Q I q => by
  obtain ⟨w, env, S, hE, s, q⟩ := q
  exact q.elim⟩
end

/-! ### defs -/
def startE (n : Nat) (ys : List Y) : Ev := ys.map some ++ List.replicate (n - ys.length) none
/-- at the end of a body: what the body made is forgotten; a list that it made is given frozen, or (keep) as the store's last thing -/
def close (keep : Bool) (n : Nat) : Y → Sto → Res Y
  | .v d, S => .ok (.v d) (S.take n)
  | .ref m, S => if m < n then .ok (.ref m) (S.take n) else match S[m]? with
    | some (.lst ds) => if keep = true then .ok (.ref n) (S.take n ++ [.lst ds]) else .ok (.v (.lst ds)) (S.take n)
    | _ => .bad
def wrap (keep : Bool) (N : Nat) (body : FS) (ys : List Y) (S : Sto) : Res Y := match body (startE N ys) S with
  | .nx _ S1 => close keep S.length (.v .non) S1
  | .rt y S1 => close keep S.length y S1
  | .exc x _ S1 => .exc x (S1.take S.length)
  | _ => .bad
theorem start_R {K : PySem.W.Frag} {w : Wd} {N : List Str} {ys : List Y} {vs : List V} (r : RYs K w ys vs) : EnvR K w (startE N.length ys) (L2.start N vs) := by
  have hl := r.length
  refine ⟨by simp [startE, L2.start, hl], fun i y e => ?_⟩
  unfold startE at e
  by_cases hi : i < ys.length
  · rw [List.getElem?_append_left (by simpa using hi), List.getElem?_map] at e
    cases e1 : ys[i]? with
    | none => rw [e1] at e; cases e
    | some y' =>
      rw [e1] at e; cases e
      obtain ⟨v, e2, r2⟩ := r.get e1
      refine ⟨v, ?_, r2⟩
      unfold L2.start
      rw [List.getElem?_append_left (by rw [List.length_map, ← hl]; exact hi), List.getElem?_map, e2]
      rfl
  · rw [List.getElem?_append_right (by simpa using Nat.le_of_not_lt hi), List.getElem?_replicate] at e
    split at e <;> cases e
theorem cut_le {w w1 : Wd} (l : w.le w1) : w.le { w1 with io := w1.io.take w.io.length } := by
  refine ⟨l.F, ⟨[], ?_⟩, l.X⟩
  obtain ⟨m, e⟩ := l.io
  show w1.io.take w.io.length = w.io ++ []
  rw [e, List.take_left, List.append_nil]
theorem close_rd {K : PySem.W.Frag} {mg : Str → Option Value} {E : XK} {w w1 : Wd} {S S1 : Sto} {H0 H : Hp} {keep : Bool} {y : Y} {v : V} {Q : VK} (s0 : Sim K w S H0) (l : w.le w1) (s : Sim K w1 S1 H) (r : RY K w1 y v) (h : rd K mg E (close keep S.length y S1) w (RY K) Q) : Q v H := by
  have el := s0.len
  have lc := cut_le l
  rw [el] at lc
  have sc := s.cut S.length
  cases y with
  | v d => exact rd_okLe h lc sc r
  | ref m =>
    simp only [close] at h
    obtain ⟨a, ea, rfl⟩ := r
    split at h
    · rename_i hm
      refine rd_okLe h lc sc ⟨a, ?_, rfl⟩
      show (w1.io.take S.length)[m]? = some a
      rw [List.getElem?_take, if_pos hm]; exact ea
    · rename_i hm
      split at h
      · rename_i ds e1
        obtain ⟨⟨xs, h1, h2⟩, _, hF, hX⟩ := s.ob m _ a e1 ea (by intro z; cases z)
        have hs : ∀ n : Nat, (w1.io.take S.length)[n]? = some a → (S1.take S.length)[n]? = some .gone := fun n e => by
          have hn : n < S.length := by
            by_cases q : n < S.length
            · exact q
            · rw [List.getElem?_take, if_neg q] at e; cases e
          rw [List.getElem?_take, if_pos hn] at e ⊢
          by_cases z : S1[n]? = some .gone
          · exact z
          · exact absurd (s.inj m n a ea e (by rw [e1]; intro z; cases z) z) (by omega)
        split at h
        · refine rd_okLe h (lc.trans .newO) (sc.adopt h1 hF hX hs ⟨xs, h1, h2⟩) ⟨a, ?_, rfl⟩
          have hl : S.length ≤ w1.io.length := by
            obtain ⟨mm, e⟩ := l.io
            rw [e, List.length_append, el]; omega
          show (w1.io.take S.length ++ [a])[S.length]? = some a
          rw [List.getElem?_append_right (by rw [List.length_take]; omega), List.length_take, Nat.min_eq_left hl, Nat.sub_self]; rfl
        · exact rd_okLe h (lc.trans (.froze hF)) (sc.froze h1 hF hX hs) (Rp.lst (.inl upd_same) (h2.mono (le_upd hF)))
      · exact h.elim
section
variable {P : Program} {w : World} {K : PySem.W.Frag} {mg : Str → Option Value} {base : Heap}
abbrev CxD (P : Program) (w : World) (K : PySem.W.Frag) (mg : Str → Option Value) (base : Heap) (N : List Str) (x : Str) (sc : Scope) (f : Addr) (cdv : Value) (A : Around) (outer : List Env) (s : Shared) (H : Hp) (E : XK) : Cx := cxOf (L2.CX P w) P w K mg base N x sc f cdv A outer s H E
abbrev WD (E : XK) : WX := fun cls d _ H => E cls d H
theorem okD {N ps : List Str} {x : Str} {sc : Scope} {f : Addr} {cdv : Value} {A : Around} {outer : List Env} {s : Shared} {H : Hp} {E : XK} {k : Nat} {vl wl : List (Nat × Str)} {gl : List Str} (S : FnScope N ps sc) (hr : Room k (A.deeper (envOfC x sc s.heap.objs.size f cdv)))
    (h : ctxC N (fun _ => true) sc vl wl gl = true) (blt : ∀ (j : Nat) (x : Str), bls[j]? = some x → mg x = none) : Ok (CxD P w K mg base N x sc f cdv A outer s H E) (WD E) k vl wl gl :=
  ok_of (N := N) (sc := sc) (fn := fun _ => true) (L2.takes_of rfl rfl rfl rfl) hr rfl S.nd rfl rfl (fun _ h => h) h blt
theorem passD {N : List Str} {x : Str} {sc : Scope} {f : Addr} {cdv : Value} {A : Around} {outer : List Env} {s : Shared} {H : Hp} {E : XK} : PassesOwn (model P w) (CxD P w K mg base N x sc f cdv A outer s H E).A (CxD P w K mg base N x sc f cdv A outer s H E).env (CxD P w K mg base N x sc f cdv A outer s H E).xe :=
  L2.passes_of (X := CxD P w K mg base N x sc f cdv A outer s H E) (K := fun e s'' => L2.CX P w outer H s E e s'') rfl
theorem def_mk {x : Str} {st : Stmt} {f : Addr} {fd : FuncData} {N ps : List Str} {k : Nat} (keep : Bool) {body : FS} (F : Fun K x x st f fd) (gx : mg x = some (.ref f)) (S : FnScope N ps (defScope st)) (b : Binds K fd ps [])
    (hb : ∀ (cdv : Value) (A : Around) (outer : List Env) (s : Shared) (H : Hp) (E : XK), Room k (A.deeper (envOfC x (defScope st) s.heap.objs.size f cdv)) → RSs (CxD P w K mg base N x (defScope st) f cdv A outer s H E) (WD E) (defBody st) body) :
    Def P w K mg base x ps.length (k + 1) (wrap keep N.length body) := by
  refine ⟨f, fd, ps, gx, F.kp, rfl, ?_, b⟩
  refine F.okX S (fun vs H Q E h => h.1) (fun cdv A outer s H vs Q E hr h => ⟨_, hb cdv A outer s H E hr, ?_⟩)
  obtain ⟨hl, w0, S0, ys, s0, r0, q⟩ := h
  refine ⟨w0, startE N.length ys, S0, start_R r0, s0, ?_⟩
  unfold wrap at q
  cases hB : body (startE N.length ys) S0 with
  | nx env S1 => rw [hB] at q; exact fun w1 σ1 H1 l1 hE1 s1 => close_rd (y := .v .non) (v := .non) s0 l1 s1 Rp.non q
  | rt y S1 => rw [hB] at q; exact fun w1 v H1 l1 s1 r1 => close_rd s0 l1 s1 r1 q
  | bk env S1 => rw [hB] at q; exact q.elim
  | ct env S1 => rw [hB] at q; exact q.elim
  | exc x env S1 =>
    rw [hB] at q
    intro w1 σ1 cls d H1 l1 hE1 s1 xr
    have lc := cut_le l1
    rw [s0.len] at lc
    refine q _ cls d H1 lc (s1.cut S0.length) ?_
    obtain ⟨x1, x2⟩ := xr
    exact ⟨x1, x2⟩
  | bad => rw [hB] at q; exact q.elim
/-- never called -/
theorem def_bad {x : Str} {st : Stmt} {f : Addr} {fd : FuncData} {N ps : List Str} {n j : Nat} (F : Fun K x x st f fd) (gx : mg x = some (.ref f)) (S : FnScope N ps (defScope st)) (b : Binds K fd ps []) (hn : ps.length = n := by rfl) : Def P w K mg base x n (j + 1) (fun _ _ => .bad) := by
  refine ⟨f, fd, ps, gx, F.kp, hn, ?_, b⟩
  refine F.okX S (fun vs H Q E h => by rw [hn]; exact h.1) (fun cdv A outer s H vs Q E hr h => ⟨_, pss_never, ?_⟩)
  obtain ⟨hl, w0, S0, ys, s0, r0, q⟩ := h
  exact q.elim
end

/-! ### the law's own head -/
def spL (K : PySem.W.Frag) (n : Nat) : Sp := fun vs H Q _ => ∃ (a : Addr) (ns : List Int), vs = [.ref a] ∧ SqL K H a (ns.map V.int) ∧ ns.length ≤ n ∧ ∀ H', Q (.bl true) H'
theorem def_law {P : Program} {w : World} {K : PySem.W.Frag} {mg : Str → Option Value} {base : Heap} {x : Str} {k n : Nat} {m : List Y → Sto → Res Y} (d : Def P w K mg base x 1 k m)
    (hm : ∀ ns : List Int, ns.length ≤ n → m [.v (.scr (ns.map D.int))] [] = .ok (.v (.bl true)) []) {fa : Addr} (hfa : mg x = some (.ref fa)) :
    ∃ fd : FuncData, ∃ p : Str, Binds K fd [p] [] ∧ FnOk P w K mg base (L2.CX P w) k fa fd [p] (spL K n) := by
  obtain ⟨f, fd, ps, h1, h2, h3, h4, h5⟩ := d.ex
  rw [hfa] at h1
  cases h1
  match ps, h3 with
  | [p], _ =>
    refine ⟨fd, p, h5, h4.imp fun vs H Q E q => ?_⟩
    obtain ⟨a, ns, rfl, hS, hl, hq⟩ := q
    refine ⟨rfl, ⟨H, [], fun _ => none⟩, [], [.v (.scr (ns.map D.int))], ?_, .cons (Rp.scr hS (RpL.ofInts ns)) .nil, ?_⟩
    · exact ⟨rfl, fun b o e => .inl e, fun n o b e => by simp at e, fun n m b e => by simp at e, fun b o e => by cases e⟩
    · rw [hm ns hl]
      intro w' v H' l s r
      cases r
      exact hq H'
end Sg

/-! Q6: what the printed proofs use -/
namespace Sg
open PySem PySem.Spec PyProof.Rows L2

/-! ### comprehensions of two clauses -/
def lcD2 (t : Tg) (ft : FE Bool) (fi1 : FE (List D)) (vs1 : List Nat) (t1 : Tg) (ft1 : FE Bool) (fe : FE Y) (env : Ev) : List D → List D → Sto → Res (List D)
  | [], acc, S => .ok acc S
  | d :: ds, acc, S => match t.asg d env with
    | none => .bad
    | some env1 => (ft env1 S).bindX fun b S1 => if b = true then (fi1 env1 S1).bindX fun es S2 => (lcD t1 ft1 fe (wipeE vs1 env1) es acc S2).bindX fun acc' S3 => lcD2 t ft fi1 vs1 t1 ft1 fe env ds acc' S3 else lcD2 t ft fi1 vs1 t1 ft1 fe env ds acc S1
def fLc2 (m : Bool) (vs vs1 : List Nat) (fi : FE (List D)) (t : Tg) (ft : FE Bool) (fi1 : FE (List D)) (t1 : Tg) (ft1 : FE Bool) (fe : FE Y) : FE Y := fun env S => (fi env S).bind fun ds S1 => (lcD2 t ft fi1 vs1 t1 ft1 fe (wipeE vs env) ds [] S1).bindX fun out S2 => newL m out S2
theorem bindX_ok {α β : Type} (a : α) (S : Sto) (f : α → Sto → Res β) : (Res.ok a S).bindX f = f a S := rfl
theorem bindX_assoc {α β γ : Type} (r : Res α) (f : α → Sto → Res β) (g : β → Sto → Res γ) : (r.bindX f).bindX g = r.bindX fun a S => (f a S).bindX g := by
  cases r <;> rfl
theorem LcI.base {K : PySem.W.Frag} {w1 w2 : Wd} {A : Addr} {P : Wd → List D → Sto → Prop} {H : Hp} (l : w1.le w2) (h : LcI K w2 A P H) : LcI K w1 A P H := by
  obtain ⟨w', S', acc, xs, l', s', ra, q⟩ := h
  rw [l.X] at s'
  exact ⟨w', S', acc, xs, l.trans l', s', ra, q⟩
theorem LcI.ev {α β : Type} {K : PySem.W.Frag} {w1 : Wd} {A : Addr} {mg : Str → Option Value} {R : Wd → α → β → Prop} {f : FE α} {env1 : Ev} {S' S1 : Sto} {a : α} {H : Hp} {σ2 : L2.St} {w' : Wd} {xs : List V} {Q : β → Hp → Prop} (hE : EnvR K w' env1 σ2) (s' : Sim K { w' with X := upd w1.X A (.lst xs) } S' H) (e : f env1 S' = .ok a S1)
    (h : ∀ w2 H2 b, w'.le w2 → Sim K { w2 with X := upd w1.X A (.lst xs) } S1 H2 → R { w2 with X := upd w1.X A (.lst xs) } a b → Q b H2) : tM K mg W0 R f σ2 H Q := by
  refine ⟨{ w' with X := upd w1.X A (.lst xs) }, env1, S', hE.to (.refl _) ⟨[], by simp⟩, s', ?_⟩
  rw [e]
  intro w3 v H4 l3 s3 r3
  have ew : w3 = { ({ w3 with X := w'.X } : Wd) with X := upd w1.X A (.lst xs) } := by
    have := l3.X
    cases w3
    simp at this ⊢
    exact this
  rw [ew] at s3 r3
  exact h { w3 with X := w'.X } H4 v ⟨l3.F, l3.io, rfl⟩ s3 r3
/-- one turn of the (inner) loop -/
theorem lc_step {K : PySem.W.Frag} {mg : Str → Option Value} {E : XK} {vs : List Nat} {t : Tg} {ft : FE Bool} {fe : FE Y} (hv : ∀ i ∈ t.slots, i ∈ vs) {w1 : Wd} {A : Addr} {κ : List D → Sto → Res Y} {Q : VK} {ds : List D} {i : Nat} {d : D} (ed : ds[i]? = some d) {envB : Ev} {σ : L2.St}
    (hE1 : EnvR K w1 envB (L2.wipe σ vs)) {w' : Wd} {S' : Sto} {acc : List D} {xs : List V} (l' : w1.le w') (ra : RpL K w'.F acc xs) (q' : rd K mg E ((lcD t ft fe envB (ds.drop i) acc S').bindX κ) w' (RY K) Q) {F' : Hp} (lF : Le w'.F F') {H2 : Hp} (s2 : Sim K { w' with F := F', X := upd w1.X A (.lst xs) } S' H2) {z : V} (rz : Rp K F' d z) :
    t.rd K z (L2.wipe σ vs) H2 fun σ2 H2 => L2.wipe σ2 vs = L2.wipe σ vs ∧ tM K mg W0 REq ft σ2 H2 fun b H3 => if b = true then tM K mg W0 (RY K) fe σ2 H3 fun y H4 => ∃ ac, H4 A = some (.lst ac) ∧ ac.length < sizeLine ∧ LcI K w1 A (fun w' acc S' => rd K mg E ((lcD t ft fe envB (ds.drop (i + 1)) acc S').bindX κ) w' (RY K) Q) (upd H4 A (.lst (ac ++ [y])))
      else LcI K w1 A (fun w' acc S' => rd K mg E ((lcD t ft fe envB (ds.drop (i + 1)) acc S').bindX κ) w' (RY K) Q) H3 := by
  have hlt : i < ds.length := (List.getElem?_eq_some_iff.mp ed).1
  have l2 : w'.le { w' with F := F' } := ⟨lF, ⟨[], by simp⟩, rfl⟩
  rw [List.drop_eq_getElem_cons hlt] at q'
  have ed' : ds[i] = d := Option.some.inj ((List.getElem?_eq_getElem hlt).symm.trans ed)
  rw [ed'] at q'
  unfold lcD at q'
  cases ea : t.asg d envB with
  | none => rw [ea] at q'; exact q'.elim
  | some env1 =>
    rw [ea] at q'
    dsimp only at q'
    refine asg_ok (w := { w' with F := F', X := upd w1.X A (.lst xs) }) (vs := vs) s2 t ((hE1.mono l').to lF ⟨[], by simp⟩) rz ea hv fun σ2 hE2 hw2 => ⟨by rw [hw2, wipe_wipe], ?_⟩
    have hE2' : EnvR K { w' with F := F' } env1 σ2 := hE2.to (.refl _) ⟨[], by simp⟩
    have q2 := rd_le l2 q'
    cases hb : ft env1 S' with
    | exc x S9 => rw [hb] at q2; exact q2.elim
    | bad => rw [hb] at q2; exact q2.elim
    | ok b S1' =>
      rw [hb] at q2
      simp only [Res.bindX] at q2
      refine LcI.test (w' := { w' with F := F' }) hE2' s2 hb fun w3 H3 l3 s3 => ?_
      have q3 := rd_le l3 q2
      cases b with
      | false =>
        rw [if_neg Bool.false_ne_true] at q3 ⊢
        exact ⟨w3, S1', acc, xs, (l'.trans l2).trans l3, s3, ra.mono ((l2.trans l3).F), q3⟩
      | true =>
        rw [if_pos rfl] at q3 ⊢
        refine LcI.elt (w' := w3) (P := fun _ _ _ => True) ((l'.trans l2).trans l3) (hE2'.mono l3) s3 (ra.mono ((l2.trans l3).F)) ?_
        cases he : fe env1 S1' with
        | exc x S9 => rw [he] at q3; exact q3.elim
        | bad => rw [he] at q3; exact q3.elim
        | ok y S2' =>
          rw [he] at q3
          simp only [Res.bindX] at q3
          rcases thaw1_cases y S2' with ⟨d', S3', e4⟩ | e4
          · rw [e4] at q3
            simp only [Res.bindX] at q3
            by_cases hl : okLen (acc.length + 1) = true
            · rw [if_pos hl] at q3
              exact ⟨y, S2', d', S3', rfl, e4, hl, fun w4 l4 => rd_le l4 q3⟩
            · rw [if_neg hl] at q3; exact q3.elim
          · rw [e4] at q3; exact q3.elim
theorem lc2_read {K : PySem.W.Frag} {mg : Str → Option Value} {W : WX} {m : Bool} {vs vs1 : List Nat} {t t1 : Tg} {fi fi1 : FE (List D)} {ft ft1 : FE Bool} {fe : FE Y} (hv : ∀ i ∈ t.slots, i ∈ vs) (hv1 : ∀ i ∈ t1.slots, i ∈ vs1) (σ : L2.St) (H : Hp) (Q : VK)
    (q : tM K mg W (RY K) (fLc2 m vs vs1 fi t ft fi1 t1 ft1 fe) σ H Q) :
    tLc2 (tM K mg W (fun w ds J => Good K w.F J ds) fi) (t.rd K) (tM K mg W0 REq ft) (tM K mg W0 (fun w ds J => Good K w.F J ds) fi1) (t1.rd K) (tM K mg W0 REq ft1) (tM K mg W0 (RY K) fe) vs vs1 σ H Q := by
  obtain ⟨w, env, S, hE, s, q⟩ := q
  refine ⟨w, env, S, hE, s, rd_bind q fun ds S1 w1 J H1 l1 s1 g q1 A hA => ?_⟩
  have hE1 := hE.mono l1
  have hX1 : w1.X A = none := s1.freshX hA
  let P : Nat → Wd → List D → Sto → Prop := fun i w' acc S' => rd K mg (WE W σ) ((lcD2 t ft fi1 vs1 t1 ft1 fe (wipeE vs env) (ds.drop i) acc S').bindX fun out S2 => newL m out S2) w' (RY K) Q
  refine ⟨fun i n H' => n + i = ds.length ∧ LcI K w1 A (P i) H', ⟨ds.length, rfl, w1, S1, [], [], .refl w1, s1.hold hA _, .nil, q1⟩, fun i n H' hW => ?_⟩
  obtain ⟨hn, w', S', acc, xs, l', s', ra, q'⟩ := hW
  obtain ⟨hstop, hgo⟩ := g { w' with X := upd w1.X A (.lst xs) } S' H' i l'.F s'
  cases ed : ds[i]? with
  | none =>
    have hi : ds.length ≤ i := List.getElem?_eq_none_iff.mp ed
    refine .inl ⟨hstop (by omega), LcI.out (mg := mg) (E := WE W σ) (m := m) hX1 ⟨w', S', acc, xs, l', s', ra, ?_⟩⟩
    simp only [P] at q'
    rw [List.drop_eq_nil_of_le hi] at q'
    exact q'
  | some d =>
    obtain ⟨hg, hy⟩ := hgo d ed
    have hlt : i < ds.length := (List.getElem?_eq_some_iff.mp ed).1
    refine .inr ⟨hg, LcI K w1 A (P (i + 1)), fun H3 h3 => ⟨n - 1, by omega, by omega, h3⟩, fun z H2 hyl => ?_⟩
    obtain ⟨F', lF, s2, rz⟩ := hy z H2 hyl
    have l2 : w'.le { w' with F := F' } := ⟨lF, ⟨[], by simp⟩, rfl⟩
    simp only [P] at q'
    rw [List.drop_eq_getElem_cons hlt] at q'
    have ed' : ds[i] = d := Option.some.inj ((List.getElem?_eq_getElem hlt).symm.trans ed)
    rw [ed'] at q'
    unfold lcD2 at q'
    cases ea : t.asg d (wipeE vs env) with
    | none => rw [ea] at q'; exact q'.elim
    | some env1 =>
      rw [ea] at q'
      dsimp only at q'
      refine asg_ok (w := { w' with F := F', X := upd w1.X A (.lst xs) }) (vs := vs) s2 t (((hE1.mono l').wipe vs).to lF ⟨[], by simp⟩) rz ea hv fun σ2 hE2 hw2 => ⟨by rw [hw2, wipe_wipe], ?_⟩
      have hE2' : EnvR K { w' with F := F' } env1 σ2 := hE2.to (.refl _) ⟨[], by simp⟩
      have q2 := rd_le l2 q'
      cases hb : ft env1 S' with
      | exc x S9 => rw [hb] at q2; exact q2.elim
      | bad => rw [hb] at q2; exact q2.elim
      | ok b S1' =>
        rw [hb] at q2
        rw [bindX_ok] at q2
        refine LcI.test (w' := { w' with F := F' }) hE2' s2 hb fun w3 H3 l3 s3 => ?_
        have q3 := rd_le l3 q2
        have ra3 := ra.mono ((l2.trans l3).F)
        have lw3 := (l'.trans l2).trans l3
        cases b with
        | false =>
          rw [if_neg Bool.false_ne_true] at q3 ⊢
          exact ⟨w3, S1', acc, xs, lw3, s3, ra3, q3⟩
        | true =>
          rw [if_pos rfl] at q3 ⊢
          cases hf : fi1 env1 S1' with
          | exc x S9 => rw [hf] at q3; exact q3.elim
          | bad => rw [hf] at q3; exact q3.elim
          | ok es S2' =>
            rw [hf] at q3
            rw [bindX_ok] at q3
            refine LcI.ev (w1 := w1) (A := A) (w' := w3) (hE2'.mono l3) s3 hf fun w4 H4 J1 l4 s4 g1 => ?_
            have q4 := rd_le l4 q3
            rw [bindX_assoc] at q4
            have lw4 := lw3.trans l4
            have eX : w4.X = w1.X := lw4.X
            let P1 : Nat → Wd → List D → Sto → Prop := fun j w' acc S' => rd K mg (WE W σ) ((lcD t1 ft1 fe (wipeE vs1 env1) (es.drop j) acc S').bindX fun acc' S3 => (lcD2 t ft fi1 vs1 t1 ft1 fe (wipeE vs env) (ds.drop (i + 1)) acc' S3).bindX fun out S2 => newL m out S2) w' (RY K) Q
            refine ⟨fun j n H' => n + j = es.length ∧ LcI K w4 A (P1 j) H', ⟨es.length, rfl, w4, S2', acc, xs, .refl w4, by rw [eX]; exact s4, ra3.mono l4.F, q4⟩, fun j n1 H5 hW1 => ?_⟩
            obtain ⟨hn1, w5, S5, acc5, xs5, l5, s5, ra5, q5⟩ := hW1
            obtain ⟨hstop1, hgo1⟩ := g1 { w5 with X := upd w4.X A (.lst xs5) } S5 H5 j l5.F s5
            have hE5 : EnvR K w4 (wipeE vs1 env1) (L2.wipe σ2 vs1) := ((hE2'.mono l3).mono l4).wipe vs1
            cases ee : es[j]? with
            | none =>
              have hj : es.length ≤ j := List.getElem?_eq_none_iff.mp ee
              refine .inl ⟨hstop1 (by omega), LcI.base lw4 ⟨w5, S5, acc5, xs5, l5, s5, ra5, ?_⟩⟩
              simp only [P1] at q5
              rw [List.drop_eq_nil_of_le hj] at q5
              exact q5
            | some d1 =>
              obtain ⟨hg1, hy1⟩ := hgo1 d1 ee
              have hlt1 : j < es.length := (List.getElem?_eq_some_iff.mp ee).1
              refine .inr ⟨hg1, LcI K w4 A (P1 (j + 1)), fun H6 h6 => ⟨n1 - 1, by omega, by omega, h6⟩, fun z1 H6 hyl1 => ?_⟩
              obtain ⟨F5, lF5, s6, rz1⟩ := hy1 z1 H6 hyl1
              exact lc_step hv1 ee hE5 l5 ra5 q5 lF5 s6 rz1
structure OkS (X : Cx) (W : WX) (k : Nat) (N : List Str) (sc : Scope) (vl wl : List (Nat × Str)) (gl : List Str) : Prop where
  o : Ok X W k vl wl gl
  eN : X.N = N
  es : X.env.scope = sc
section
variable {X : Cx} {W : WX} {k : Nat} {vl wl : List (Nat × Str)} {gl : List Str} {e : Expr} {es : List Expr} {fs : FE (List Y)} {pos p : Pos} {x : Str} {N : List Str} {sc scope : Scope}
theorem OkS.blk {vl' wl' : List (Nat × Str)} {gl' : List Str} (O : OkS X W k N sc vl wl gl) (h : ctxC N (fun x => scope.names.lookup x == some .cell) (relS scope sc) vl' wl' gl' = true)
    (s : Shared) (H : Hp) (C : Addr) (cl : List (Str × Addr)) (fp : List Addr) : OkS (Bk X scope s H C cl fp) W0 k N (relS scope sc) vl' wl' gl' :=
  ⟨O.o.blk O.eN O.es h s H C cl fp, O.eN, by rw [← O.es]; rfl⟩
def slotsC (t : Tg) (own : List (Str × Nat)) : Bool := t.slots.all fun i => (own.map (·.2)).contains i
theorem re_lcO (m : Bool) (O : OkS X W k N sc vl wl gl) {elt tg iter : Expr} {ifs : List Expr} (own : List (Str × Nat)) (vl' wl' : List (Nat × Str)) (gl' : List Str) {t : Tg} {fi : FE (List D)} {ft : FE Bool} {fe : FE Y} (hi : RI X W tg iter fi) (ok : blkC N sc scope own = true) (hv : slotsC t own = true)
    (hc : ctxC N (fun x => scope.names.lookup x == some .cell) (relS scope sc) vl' wl' gl' = true)
    (hb : ∀ (s : Shared) (H : Hp) (C : Addr) (cl : List (Str × Addr)) (fp : List Addr), OkS (Bk X scope s H C cl fp) W0 k N (relS scope sc) vl' wl' gl' → RGt (Bk X scope s H C cl fp) tg t ∧ RTs (Bk X scope s H C cl fp) W0 ifs ft ∧ RE (Bk X scope s H C cl fp) W0 elt fe)
    (hs : ∀ x, foldedSetIterable iter X.env x = pure x := by intro _; rfl) :
    RE X W (.ListComp elt [⟨tg, iter, ifs, 0⟩] scope pos) (fLc m (own.map (·.2)) fi t ft fe) :=
  re_lc m O.o own hi O.eN O.es ok hv (fun s H C cl fp => (hb s H C cl fp (O.blk hc s H C cl fp)).1) (fun s H C cl fp => (hb s H C cl fp (O.blk hc s H C cl fp)).2.1) (fun s H C cl fp => (hb s H C cl fp (O.blk hc s H C cl fp)).2.2) hs
theorem rs_setLcO (m : Bool) {i : Nat} {y : Str} {py : Pos} (O : OkS X W k N sc vl wl gl) {elt tg iter : Expr} {ifs : List Expr} (own : List (Str × Nat)) (vl' wl' : List (Nat × Str)) (gl' : List Str) {t : Tg} {fi : FE (List D)} {ft : FE Bool} {fe : FE Y} {spos : Pos} (hi : RI X W tg iter fi) (ok : blkC N sc scope own = true) (hv : slotsC t own = true)
    (hc : ctxC N (fun x => scope.names.lookup x == some .cell) (relS scope sc) vl' wl' gl' = true) (hy : N[i]? = some y) (hyl : sc.names.lookup y = some .local)
    (hsw : swapsWith (.ListComp elt [⟨tg, iter, ifs, 0⟩] scope pos) (some (.Name y py)) spos.line X.env = pure true)
    (hb : ∀ (s : Shared) (H : Hp) (C : Addr) (cl : List (Str × Addr)) (fp : List Addr), OkS (Bk X scope s H C cl fp) W0 k N (relS scope sc) vl' wl' gl' → RGt (Bk X scope s H C cl fp) tg t ∧ RTs (Bk X scope s H C cl fp) W0 ifs ft ∧ RE (Bk X scope s H C cl fp) W0 elt fe)
    (hs : ∀ x, foldedSetIterable iter X.env x = pure x := by intro _; rfl) :
    RS X W (.Assign [.Name y py] (.ListComp elt [⟨tg, iter, ifs, 0⟩] scope pos) spos) (fSet i (fLc m (own.map (·.2)) fi t ft fe)) :=
  rs_setLc m O.o own hi O.eN O.es ok hv hy hyl hsw (fun s H C cl fp => (hb s H C cl fp (O.blk hc s H C cl fp)).1) (fun s H C cl fp => (hb s H C cl fp (O.blk hc s H C cl fp)).2.1) (fun s H C cl fp => (hb s H C cl fp (O.blk hc s H C cl fp)).2.2) hs
def vsC (t1 : Tg) (vs1 : List Nat) (own : List (Str × Nat)) : Bool := (t1.slots.all fun i => vs1.contains i) && vs1.all fun i => (own.map (·.2)).contains i
abbrev Body2 (X : Cx) (k : Nat) (N : List Str) (sc scope : Scope) (vl' wl' : List (Nat × Str)) (gl' : List Str) (tg tg1 iter1 elt : Expr) (ifs ifs1 : List Expr) (t t1 : Tg) (fi1 : FE (List D)) (ft ft1 : FE Bool) (fe : FE Y) : Prop :=
  ∀ (s : Shared) (H : Hp) (C : Addr) (cl : List (Str × Addr)) (fp : List Addr), OkS (Bk X scope s H C cl fp) W0 k N (relS scope sc) vl' wl' gl' → RGt (Bk X scope s H C cl fp) tg t ∧ RTs (Bk X scope s H C cl fp) W0 ifs ft ∧ RI (Bk X scope s H C cl fp) W0 tg1 iter1 fi1 ∧ RGt (Bk X scope s H C cl fp) tg1 t1 ∧ RTs (Bk X scope s H C cl fp) W0 ifs1 ft1 ∧ RE (Bk X scope s H C cl fp) W0 elt fe
theorem all_mem {l : List Nat} {own : List Nat} (h : (l.all fun i => own.contains i) = true) : ∀ i ∈ l, i ∈ own := fun i hi => by
  have := List.all_eq_true.mp h i hi
  simpa using this
theorem re_lc2O (m : Bool) (O : OkS X W k N sc vl wl gl) {elt tg iter tg1 iter1 : Expr} {ifs ifs1 : List Expr} (own : List (Str × Nat)) (vs1 : List Nat) (vl' wl' : List (Nat × Str)) (gl' : List Str) {t t1 : Tg} {fi fi1 : FE (List D)} {ft ft1 : FE Bool} {fe : FE Y} (hi : RI X W tg iter fi) (ok : blkC N sc scope own = true) (hv : (slotsC t own && vsC t1 vs1 own) = true)
    (hc : ctxC N (fun x => scope.names.lookup x == some .cell) (relS scope sc) vl' wl' gl' = true) (hb : Body2 X k N sc scope vl' wl' gl' tg tg1 iter1 elt ifs ifs1 t t1 fi1 ft ft1 fe)
    (hs : ∀ x, foldedSetIterable iter X.env x = pure x := by intro _; rfl) (hs1 : ∀ env x, foldedSetIterable iter1 env x = pure x := by intro _ _; rfl) :
    RE X W (.ListComp elt [⟨tg, iter, ifs, 0⟩, ⟨tg1, iter1, ifs1, 0⟩] scope pos) (fLc2 m (own.map (·.2)) vs1 fi t ft fi1 t1 ft1 fe) := by
  simp only [Bool.and_eq_true, slotsC, vsC] at hv
  obtain ⟨hv0, hv1, hv2⟩ := hv
  have B := fun s H C cl fp => hb s H C cl fp (O.blk hc s H C cl fp)
  have ok' : BlkOk X.N X.env.scope scope own := by rw [O.eN, O.es]; exact blkOk_by ok
  refine weakPE (pe_lc2 (wi1 := tM X.K X.mg W0 (fun w ds J => Good X.K w.F J ds) fi1) (g := t.rd X.K) (tt := tM X.K X.mg W0 REq ft) (te := tM X.K X.mg W0 (RY X.K) fe) (g1 := t1.rd X.K) (tt1 := tM X.K X.mg W0 REq ft1) O.o.calm O.o.nd hi ok' (all_mem hv2) (fun s H C cl fp => (B s H C cl fp).1) (fun s H C cl fp => (B s H C cl fp).2.1)
    (fun s H C cl fp => (B s H C cl fp).2.2.1) (fun s H C cl fp => (B s H C cl fp).2.2.2.1) (fun s H C cl fp => (B s H C cl fp).2.2.2.2.1) (fun s H C cl fp => (B s H C cl fp).2.2.2.2.2) hs hs1) fun σ H Q q => lc2_read (all_mem hv0) (all_mem hv1) σ H Q q
theorem rs_setLc2O (m : Bool) {i : Nat} {y : Str} {py : Pos} (O : OkS X W k N sc vl wl gl) {elt tg iter tg1 iter1 : Expr} {ifs ifs1 : List Expr} (own : List (Str × Nat)) (vs1 : List Nat) (vl' wl' : List (Nat × Str)) (gl' : List Str) {t t1 : Tg} {fi fi1 : FE (List D)} {ft ft1 : FE Bool} {fe : FE Y} {spos : Pos} (hi : RI X W tg iter fi) (ok : blkC N sc scope own = true) (hv : (slotsC t own && vsC t1 vs1 own) = true)
    (hc : ctxC N (fun x => scope.names.lookup x == some .cell) (relS scope sc) vl' wl' gl' = true) (hy : N[i]? = some y) (hyl : sc.names.lookup y = some .local)
    (hsw : swapsWith (.ListComp elt [⟨tg, iter, ifs, 0⟩, ⟨tg1, iter1, ifs1, 0⟩] scope pos) (some (.Name y py)) spos.line X.env = pure true) (hb : Body2 X k N sc scope vl' wl' gl' tg tg1 iter1 elt ifs ifs1 t t1 fi1 ft ft1 fe)
    (hs : ∀ x, foldedSetIterable iter X.env x = pure x := by intro _; rfl) (hs1 : ∀ env x, foldedSetIterable iter1 env x = pure x := by intro _ _; rfl) :
    RS X W (.Assign [.Name y py] (.ListComp elt [⟨tg, iter, ifs, 0⟩, ⟨tg1, iter1, ifs1, 0⟩] scope pos) spos) (fSet i (fLc2 m (own.map (·.2)) vs1 fi t ft fi1 t1 ft1 fe)) := by
  simp only [Bool.and_eq_true, slotsC, vsC] at hv
  obtain ⟨hv0, hv1, hv2⟩ := hv
  have B := fun s H C cl fp => hb s H C cl fp (O.blk hc s H C cl fp)
  have ok' : BlkOk X.N X.env.scope scope own := by rw [O.eN, O.es]; exact blkOk_by ok
  refine weakPS (ps_setLc2 (wi1 := tM X.K X.mg W0 (fun w ds J => Good X.K w.F J ds) fi1) (g := t.rd X.K) (tt := tM X.K X.mg W0 REq ft) (te := tM X.K X.mg W0 (RY X.K) fe) (g1 := t1.rd X.K) (tt1 := tM X.K X.mg W0 REq ft1) O.o.calm O.o.nd (by rw [O.eN]; exact hy) (by rw [O.es]; exact hyl) hsw hi ok' (all_mem hv2) (fun s H C cl fp => (B s H C cl fp).1) (fun s H C cl fp => (B s H C cl fp).2.1)
    (fun s H C cl fp => (B s H C cl fp).2.2.1) (fun s H C cl fp => (B s H C cl fp).2.2.2.1) (fun s H C cl fp => (B s H C cl fp).2.2.2.2.1) (fun s H C cl fp => (B s H C cl fp).2.2.2.2.2) hs hs1) fun D σ H q => ?_
  have q' := set_read D σ H q
  exact lc2_read (all_mem hv0) (all_mem hv1) σ H _ q'
/-! ### calls, constants, defs -/
def fOwn (n : Nat) (m : List Y → Sto → Res Y) (fs : FE (List Y)) : FE Y := fCall (fun ys S => if ys.length = n then m ys S else .bad) fs
theorem re_own (O : OkS X W k N sc vl wl gl) {x : Str} {n j : Nat} {m : List Y → Sto → Res Y} (d : Def X.prog X.w X.K X.mg X.base x n j m) (i : Nat) (ha : RA X W (e :: es) fs) (hn : (e :: es).length = n := by rfl) (hk : j ≤ k := by omega) (hj : gl[i]? = some x := by rfl) (he : HE X e es := by rfl) (hp : HP X es pos := by rfl) :
    RE X W (.Call (.Name x p) (e :: es) [] pos) (fOwn n m fs) := re_call O.o d i ha hn hk hj he hp
theorem re_own0 (O : OkS X W k N sc vl wl gl) {x : Str} {j : Nat} {m : List Y → Sto → Res Y} (d : Def X.prog X.w X.K X.mg X.base x 0 j m) (i : Nat) (hk : j ≤ k := by omega) (hj : gl[i]? = some x := by rfl) :
    RE X W (.Call (.Name x p) [] [] pos) (fOwn 0 m fNil) := by
  obtain ⟨f, fd, ps, h1, h2, h3, h4, h5⟩ := d.ex
  have hg := (O.o.glo i x hj).1
  have hdb := (O.o.glo i x hj).2.1
  refine ⟨fun pins s σ H Q I q => ?_⟩
  obtain ⟨w, env, S, hE, s', q⟩ := q
  refine wpAny_Call_Name_kw (ld_glob I hg h1 ?_ hdb)
  refine PySem.W.callWith_K0 I.kIn h2 (run_fnS (us := []) (E := WE W) h4 (O.o.hr.mono hk) h5 (passAt O.o.tk σ) I .nil ?_)
  exact ⟨rfl, w, S, [], s', .nil, q⟩
theorem g_const (O : OkS X W k N sc vl wl gl) (j : Nat) {i : Int} (c : ∃ t, X.mg x = some (.int i t)) (hj : gl[j]? = some x := by rfl) : RE X W (.Name x pos) (fC (.int i)) := by
  obtain ⟨t, c⟩ := c
  exact re_glob (v := .int i) O.o j c ⟨t, rfl⟩ (fun _ => .int i) hj
end
section
variable {P : Program} {w : World} {K : PySem.W.Frag} {mg : Str → Option Value} {base : Heap}
theorem okS {N ps : List Str} {x : Str} {sc : Scope} {f : Addr} {cdv : Value} {A : Around} {outer : List Env} {s : Shared} {H : Hp} {E : XK} {k : Nat} {vl wl : List (Nat × Str)} {gl : List Str} (S : FnScope N ps sc) (hr : Room k (A.deeper (envOfC x sc s.heap.objs.size f cdv)))
    (h : ctxC N (fun _ => true) sc vl wl gl = true) (blt : ∀ (j : Nat) (x : Str), bls[j]? = some x → mg x = none) : OkS (CxD P w K mg base N x sc f cdv A outer s H E) (WD E) k N sc vl wl gl := ⟨okD S hr h blt, rfl, rfl⟩
theorem fn_mk {x : Str} {st : Stmt} {f : Addr} {fd : FuncData} {N ps : List Str} {k n nN : Nat} (keep : Bool) {body : FS} (F : Fun K x x st f fd) (S : FnScope N ps (defScope st))
    (hb : ∀ (cdv : Value) (A : Around) (outer : List Env) (s : Shared) (H : Hp) (E : XK), Room k (A.deeper (envOfC x (defScope st) s.heap.objs.size f cdv)) → RSs (CxD P w K mg base N x (defScope st) f cdv A outer s H E) (WD E) (defBody st) body) (hn : ps.length = n := by rfl) (hN : N.length = nN := by rfl) :
    FnOk P w K mg base (L2.CX P w) (k + 1) f fd ps (spM K mg n (wrap keep nN body)) := by
  subst hn; subst hN
  refine F.okX S (fun vs H Q E h => h.1) (fun cdv A outer s H vs Q E hr h => ⟨_, hb cdv A outer s H E hr, ?_⟩)
  obtain ⟨hl, w0, S0, ys, s0, r0, q⟩ := h
  refine ⟨w0, startE N.length ys, S0, start_R r0, s0, ?_⟩
  unfold wrap at q
  cases hB : body (startE N.length ys) S0 with
  | nx env S1 => rw [hB] at q; exact fun w1 σ1 H1 l1 hE1 s1 => close_rd (y := .v .non) (v := .non) s0 l1 s1 Rp.non q
  | rt y S1 => rw [hB] at q; exact fun w1 v H1 l1 s1 r1 => close_rd s0 l1 s1 r1 q
  | bk env S1 => rw [hB] at q; exact q.elim
  | ct env S1 => rw [hB] at q; exact q.elim
  | exc x env S1 =>
    rw [hB] at q
    intro w1 σ1 cls d H1 l1 hE1 s1 xr
    have lc := cut_le l1
    rw [s0.len] at lc
    refine q _ cls d H1 lc (s1.cut S0.length) ?_
    obtain ⟨x1, x2⟩ := xr
    exact ⟨x1, x2⟩
  | bad => rw [hB] at q; exact q.elim
theorem def_of {x : Str} {f : Addr} {fd : FuncData} {ps : List Str} {n k : Nat} {m : List Y → Sto → Res Y} (F : FnOk P w K mg base (L2.CX P w) k f fd ps (spM K mg n m)) (gx : mg x = some (.ref f)) (kp : PySem.W.keepIn K (.ref f) = true) (b : Binds K fd ps []) (hn : ps.length = n := by rfl) : Def P w K mg base x n k m :=
  ⟨f, fd, ps, gx, kp, hn, F, b⟩
theorem def_rec {x : Str} {st : Stmt} {f : Addr} {fd : FuncData} {N ps : List Str} {k n nN : Nat} (keep : Bool) {body : FS} (F : Fun K x x st f fd) (gx : mg x = some (.ref f)) (S : FnScope N ps (defScope st)) (b : Binds K fd ps [])
    (hb : ∀ (cdv : Value) (A : Around) (outer : List Env) (s : Shared) (H : Hp) (E : XK), Room k (A.deeper (envOfC x (defScope st) s.heap.objs.size f cdv)) → RSs (CxD P w K mg base N x (defScope st) f cdv A outer s H E) (WD E) (defBody st) body) (hn : ps.length = n := by rfl) (hN : N.length = nN := by rfl) :
    Def P w K mg base x n (k + 1) (wrap keep nN body) := def_of (fn_mk keep F S hb hn hN) gx F.kp b hn
theorem law_fn {k n : Nat} {m : List Y → Sto → Res Y} {f : Addr} {fd : FuncData} {p : Str} (F : FnOk P w K mg base (L2.CX P w) k f fd [p] (spM K mg 1 m)) (hm : ∀ ns : List Int, ns.length ≤ n → m [.v (.scr (ns.map D.int))] [] = .ok (.v (.bl true)) []) :
    FnOk P w K mg base (L2.CX P w) k f fd [p] (spL K n) := by
  refine F.imp fun vs H Q E q => ?_
  obtain ⟨a, ns, rfl, hS, hl, hq⟩ := q
  refine ⟨rfl, ⟨H, [], fun _ => none⟩, [], [.v (.scr (ns.map D.int))], ?_, .cons (Rp.scr hS (RpL.ofInts ns)) .nil, ?_⟩
  · exact ⟨rfl, fun b o e => .inl e, fun n o b e => by simp at e, fun n m b e => by simp at e, fun b o e => by cases e⟩
  · rw [hm ns hl]
    intro w' v H' l s r
    cases r
    exact hq H'
theorem noCX {H : Hp} {s : Shared} {e : Value} {s' : Shared} (h : L2.CX P w [] H s (fun _ _ _ => False) e s') : False := by
  obtain ⟨_, _, _, _, _, _, _, _, _, _, _, _, z⟩ := h
  exact z
theorem blt_of {h : Heap} (X : K.In h) (G : h.Ns mainGlobals mg) (hz : ∀ x ∈ bls, PySem.W.nsIn K mainGlobals x = some none) : ∀ (j : Nat) (x : Str), bls[j]? = some x → mg x = none := fun j x e => PySem.W.mg_none_of X G (hz x (mem_get e))
end
end Sg

/-! Q7: sorted(set(..)), tuple(range(..)), sorted of a tuple -/
namespace Sg
open PySem PySem.Spec PyProof.Rows L2
def insU (i : Int) : List Int → List Int
  | [] => [i]
  | j :: r => if i < j then i :: j :: r else if i = j then j :: r else j :: insU i r
def ssort : List Int → List Int
  | [] => []
  | i :: r => insU i (ssort r)
theorem insU_mem (i z : Int) : ∀ r : List Int, z ∈ insU i r ↔ z = i ∨ z ∈ r
  | [] => by simp [insU]
  | j :: r => by
    unfold insU
    split
    · simp
    · split
      · rename_i h; subst h; simp
      · simp [insU_mem i z r]; constructor <;> (intro h; rcases h with h | h | h <;> simp [h])
theorem insU_pw (i : Int) : ∀ {r : List Int}, r.Pairwise (· < ·) → (insU i r).Pairwise (· < ·)
  | [], _ => by simp [insU]
  | j :: r, h => by
    obtain ⟨h1, h2⟩ := List.pairwise_cons.mp h
    unfold insU
    split
    · rename_i hi
      refine List.pairwise_cons.mpr ⟨fun z hz => ?_, h⟩
      rcases List.mem_cons.mp hz with rfl | hz
      · exact hi
      · have := h1 z hz; omega
    · split
      · exact h
      · refine List.pairwise_cons.mpr ⟨fun z hz => ?_, insU_pw i h2⟩
        rcases (insU_mem i z r).mp hz with rfl | hz
        · omega
        · exact h1 z hz
theorem ssort_mem (z : Int) : ∀ r : List Int, z ∈ ssort r ↔ z ∈ r
  | [] => by simp [ssort]
  | i :: r => by simp [ssort, insU_mem, ssort_mem z r]
theorem ssort_pw : ∀ r : List Int, (ssort r).Pairwise (· < ·)
  | [] => .nil
  | i :: r => insU_pw i (ssort_pw r)
theorem lt_nodup {l : List Int} (h : l.Pairwise (· < ·)) : l.Nodup := h.imp fun h => by omega
theorem lt_uniq {a b : List Int} (ha : a.Pairwise (· < ·)) (hb : b.Pairwise (· < ·)) (h : ∀ z, z ∈ a ↔ z ∈ b) : a = b :=
  sort_uniq ((List.perm_ext_iff_of_nodup (lt_nodup ha) (lt_nodup hb)).mpr h) (ha.imp fun h => by omega) (hb.imp fun h => by omega)
def rSetTI (K : PySem.W.Frag) (w : World) : List V → Hp → VK → Prop := fun xs H Q => ∃ (l : Addr) (ns : List Int), xs = [.ref l] ∧ SqT K H l (ns.map V.int) ∧ ns.length + 1 < scanBound ∧
  ∀ (a : Addr) (c : Nat), H a = none → c ≤ ns.length → Q (.ref a) (upd H a (SetO w a (fun j => decide (j ∈ ns)) c))
theorem cr_setTI {X : Cx} (hc : X.calm = true) : CallR X (.type "set") (rSetTI X.K X.w) := by
  intro pins s σ H vs us Q I r h
  obtain ⟨l, ns, rfl, hS, hb, q⟩ := h
  rw [Vals.ref1 r]
  obtain ⟨its, rv, ht, hz⟩ := I.tuple hS
  refine call_set_tupI ns (I.ok.hd hc) ht (ints_of_vals rv) hb fun h' tk c R hcn k => ?_
  refine ⟨.ref s.heap.objs.size, _, I.laid k (Nat.le_refl _) (setO_new R), rfl, q _ c (I.hok.fresh (Nat.le_refl _)) hcn⟩
def sSset (m : Bool) : List Y → Sto → Res Y
  | [.v (.tup ds)], S => match intsD ds with
    | some ns => if ns.length < 63 then newL m ((ssort ns).map D.int) S else .bad
    | none => .bad
  | _, _ => .bad
section
variable {X : Cx} {W : WX} {k : Nat} {vl wl : List (Nat × Str)} {gl : List Str} {e a b : Expr} {es : List Expr} {f g : FE Y} {fs : FE (List Y)} {pos p p2 pos2 : Pos} {x : Str}
theorem re_sset (m : Bool) (C : Ok X W k vl wl gl) (j j2 : Nat) (ha : RE X W e f) (hj : gl[j]? = some "sorted" := by rfl) (hj2 : gl[j2]? = some "set" := by rfl) (he : HE X e [] := by rfl) (hp : HP X [] pos2 := by rfl)
    (he1 : HE X (.Call (.Name "set" p2) [e] [] pos2) [] := by rfl) (hp1 : HP X [] pos := by rfl) : RE X W (.Call (.Name "sorted" p) [.Call (.Name "set" p2) [e] [] pos2] [] pos) (fCall (sSset m) (fCons f fNil)) := by
  have hin : PE X (.Call (.Name "set" p2) [e] [] pos2) (tCB (rSetTI X.K X.w) (tA X W (fCons f fNil))) :=
    pe_callTy (cr_setTI C.calm) (C.glo j2 _ hj2).1 (C.blt 15 _ rfl) (by decide +kernel) (ra_cons ha ra_nil he) (C.glo j2 _ hj2).2.2 (C.glo j2 _ hj2).2.1 he hp
  refine weakPE (pe_callB (cr_sortedSet C.calm) (C.glo j _ hj).1 (C.blt 9 _ rfl) (by decide +kernel) (pa_cons hin pa_nil he1) (C.glo j _ hj).2.2 (C.glo j _ hj).2.1 he1 hp1) fun σ H Q q => ?_
  obtain ⟨w, env, S, hE, s, q⟩ := q
  refine ⟨w, env, S, hE, s, rd_bind q fun ys S1 w1 vs H1 l1 s1 r1 q1 => ?_⟩
  unfold sSset at q1
  split at q1
  · split at q1
    · split at q1
      · rename_i ns e2 hl
        obtain ⟨v, rfl, r⟩ := r1.one
        have e3 := intsD_eq e2
        cases r with
        | tup h1 h2 =>
          subst e3
          have e4 := h2.ints
          subst e4
          refine ⟨_, ns, rfl, s1.sqT h1, by show ns.length + 1 < 4096; omega, fun A c hA hc => ?_⟩
          refine ⟨A, _, c, rfl, upd_same, by omega, fun ns' B hs hm hn hB => ?_⟩
          have e5 : ns' = ssort ns := lt_uniq hs (ssort_pw ns) fun z => by rw [hm z, ssort_mem]; simp
          subst e5
          exact new_lst (s1.junk hA) q1 hB (RpL.ofInts _)
      · exact q1.elim
    · exact q1.elim
  · exact q1.elim
/-- tuple(range(..)), list(range(..)) -/
def sTupR (lo : Y) (hi : Y) (S : Sto) : Res (Int × Int) := match lo, hi with
  | .v (.int i), .v (.int j) => if okR i = true ∧ okR j = true ∧ okLen (j - i).toNat = true then .ok (i, j) S else .bad
  | _, _ => .bad
def fTupR (l : Bool) (m : Bool) (f g : FE Y) : FE Y := fun env S => (f env S).bind fun x S1 => (g env S1).bind fun y S2 => (sTupR x y S2).bind fun p S3 => if l = true then newL m (rngD p.1 (p.2 - p.1).toNat) S3 else .ok (.v (.tup (rngD p.1 (p.2 - p.1).toNat))) S3
theorem rg_ok {i j : Int} (h : okR i = true ∧ okR j = true ∧ okLen (j - i).toNat = true) : RgOk i j := by
  have h1 := of_decide_eq_true h.1
  have h2 := of_decide_eq_true h.2.1
  have h3 : (j - i).toNat ≤ 16777216 := of_decide_eq_true h.2.2
  exact ⟨h1.1, h1.2, h2.1, h2.2, h3⟩
theorem rgV_R {K : PySem.W.Frag} {F : Hp} (i j : Int) : RpL K F (rngD i (j - i).toNat) (rgV i j) := by
  unfold rngD rgV
  generalize (j - i).toNat = n
  have : ∀ l : List Nat, RpL K F (l.map fun (t : Nat) => D.int (i + t)) (l.map fun (t : Nat) => V.int (i + t)) := fun l => by
    induction l with
    | nil => exact .nil
    | cons t l ih => exact .cons (.int _) ih
  exact this _
theorem sTupR_read {K : PySem.W.Frag} {mg : Str → Option Value} {E : XK} {w : Wd} {S : Sto} {H : Hp} {x y : Y} {v u : V} {l m : Bool} {Q : VK} (s : Sim K w S H) (r1 : RY K w x v) (r2 : RY K w y u) (h : rd K mg E ((sTupR x y S).bind fun p S3 => if l = true then newL m (rngD p.1 (p.2 - p.1).toNat) S3 else .ok (.v (.tup (rngD p.1 (p.2 - p.1).toNat))) S3) w (RY K) Q) :
    ∃ i j, v = .int i ∧ u = .int j ∧ RgOk i j ∧ ∀ q, H q = none → Q (.ref q) (upd H q (if l = true then .lst (rgV i j) else .tup (rgV i j))) := by
  unfold sTupR at h
  split at h
  · rename_i i j
    split at h
    · rename_i hk
      cases r1; cases r2
      refine ⟨i, j, rfl, rfl, rg_ok hk, fun q hq => ?_⟩
      simp only [Res.bind] at h
      cases l with
      | true => exact new_lst s h hq (rgV_R i j)
      | false => exact new_tup s h hq (rgV_R i j)
    · exact h.elim
  · exact h.elim
theorem re_tupR2 (C : Ok X W k vl wl gl) (j j2 : Nat) (ha : RE X W a f) (hb : RE X W b g) (hj : gl[j]? = some "tuple" := by rfl) (hj2 : gl[j2]? = some "range" := by rfl)
    (na : starEach [a, b] X.env = (false, eval a X.env) :: starEach [b] X.env := by rfl) (nb : starEach [b] X.env = (false, eval b X.env) :: starEach [] X.env := by rfl) (hp : (backTo pos2 (starEach [b] X.env)).any (·.1) = false := by rfl)
    (nc : starEach [.Call (.Name "range" p2) [a, b] [] pos2] X.env = (false, eval (.Call (.Name "range" p2) [a, b] [] pos2) X.env) :: starEach [] X.env := by rfl) :
    RE X W (.Call (.Name "tuple" p) [.Call (.Name "range" p2) [a, b] [] pos2] [] pos) (fTupR false false f g) :=
  weakPE (pe_tupRg C.calm (C.glo j _ hj).1 (C.blt 13 _ rfl) (prg_2 (C.glo j2 _ hj2).1 (C.blt 1 _ rfl) ha hb na nb hp) nc) fun σ H Q q => by
    obtain ⟨w, env, S, hE, s, q⟩ := q
    refine ⟨w, env, S, hE, s, rd_bind q fun x S1 w1 v H1 l1 s1 r1 q1 => ⟨w1, env, S1, hE.mono l1, s1, rd_bind q1 fun y S2 w2 u H2 l2 s2 r2 q2 => ?_⟩⟩
    obtain ⟨i, j, e1, e2, hk, h⟩ := sTupR_read s2 (r1.mono l2) r2 q2
    exact ⟨i, j, e1, e2, hk, h⟩
theorem re_lstR2 (m : Bool) (C : Ok X W k vl wl gl) (j j2 : Nat) (ha : RE X W a f) (hb : RE X W b g) (hj : gl[j]? = some "list" := by rfl) (hj2 : gl[j2]? = some "range" := by rfl)
    (na : starEach [a, b] X.env = (false, eval a X.env) :: starEach [b] X.env := by rfl) (nb : starEach [b] X.env = (false, eval b X.env) :: starEach [] X.env := by rfl) (hp : (backTo pos2 (starEach [b] X.env)).any (·.1) = false := by rfl)
    (nc : starEach [.Call (.Name "range" p2) [a, b] [] pos2] X.env = (false, eval (.Call (.Name "range" p2) [a, b] [] pos2) X.env) :: starEach [] X.env := by rfl) :
    RE X W (.Call (.Name "list" p) [.Call (.Name "range" p2) [a, b] [] pos2] [] pos) (fTupR true m f g) :=
  weakPE (pe_listRg C.calm (C.glo j _ hj).1 (C.blt 12 _ rfl) (prg_2 (C.glo j2 _ hj2).1 (C.blt 1 _ rfl) ha hb na nb hp) nc) fun σ H Q q => by
    obtain ⟨w, env, S, hE, s, q⟩ := q
    refine ⟨w, env, S, hE, s, rd_bind q fun x S1 w1 v H1 l1 s1 r1 q1 => ⟨w1, env, S1, hE.mono l1, s1, rd_bind q1 fun y S2 w2 u H2 l2 s2 r2 q2 => ?_⟩⟩
    obtain ⟨i, j, e1, e2, hk, h⟩ := sTupR_read s2 (r1.mono l2) r2 q2
    exact ⟨i, j, e1, e2, hk, h⟩
end
end Sg

namespace PyProof.Rows
open PySem PySem.Spec SrtO
section
variable {prog : Program} {w : World} {A : Around} {E : Value → Shared → Prop} {s : Shared}
theorem sg_collect_tuple {l : Addr} {vs : List Value} {Q : List Value → Shared → Prop} (hl : s.heap.IsTuple l vs.toArray) (hsz : vs.length ≤ sizeLine)
    (h : Q vs { s with heap := (s.heap.push (seqObj "list" #[] 0)).update s.heap.objs.size (Obj.mapSeq (· ++ vs.toArray)) }) :
    wpAny (model prog w) A (collect (.ref l)) Q E s := by
  obtain ⟨o, ho, hc, n, hd⟩ := id hl
  unfold collect
  refine wpAny_bind (wpAny_runValue (codeAny_builtin entry_proto_collect' ?_))
  show wpAny _ _ (do again (.builtin "list.__iadd__" ⟨[← newList [], .ref l], []⟩)) _ _ s
  refine wpAny_bind (wpAny_newList (wpAny_pure ⟨Code.quiet_builtin _ (by decide +kernel), codeAny_builtin entry_list_iadd' ?_⟩))
  show wpAny _ _ (Builtin.List.listExtendWith (.ref s.heap.objs.size) (.ref l) (.ref s.heap.objs.size)) _ _ { s with heap := s.heap.push (seqObj "list" #[] 0) }
  unfold Builtin.List.listExtendWith
  have ho' : (s.heap.push (seqObj "list" #[] 0)).get? l = some o := Heap.get?_push_of_some _ ho
  refine wpAny_bind (wpAny_typeOf (T := "tuple") ⟨o, ho', hc⟩ ?_)
  have ht : (Value.type "tuple" == Value.type "tuple") = true := by rfl
  rw [if_pos (by rw [ht]; simp)]
  refine wpAny_bind (listItems_at ho' hd ?_)
  refine wpAny_bind (listItems_at (xs := #[]) (n := 0) (Heap.get?_push_size _ rfl) rfl ?_)
  rw [if_neg (by simp)]
  refine wpAny_bind (listUpdate_at (xs := #[]) (n := 0) (Heap.get?_push_size _ rfl) rfl ?_ (Nat.zero_le _) (by show (#[] ++ vs.toArray).size ≤ sizeLine + 1; simp only [Array.size_append, List.size_toArray, List.length_nil]; omega))
  refine wpAny_pure ?_
  show wpAny (model prog w) A (do
      let o ← load s.heap.objs.size
      match o.data with
      | .seq xs _ => pure xs.toList
      | _ => unsupported "internal:collect") Q E { s with heap := (s.heap.push (seqObj "list" #[] 0)).update s.heap.objs.size (Obj.mapSeq (· ++ vs.toArray)) }
  refine wpAny_bind (wpAny_load (get?_update_seq (Heap.get?_push_size _ rfl) _) ?_)
  show wpAny _ _ (pure ((#[] : Array Value) ++ vs.toArray).toList) Q E _
  rw [show ((#[] : Array Value) ++ vs.toArray).toList = vs by simp]
  exact wpAny_pure h
theorem sg_sorted_tup {l : Addr} {vs : List Value} {ns : List Int} {Q : Value → Shared → Prop} (hl : s.heap.IsTuple l vs.toArray) (hI : IntsAre vs ns) (hz : vs.length ≤ sizeLine)
    (h : ∀ out : List Value, Srtd SrtO.ltIv out → Stb SrtO.ltIv out vs → Q (.ref (s.heap.objs.size + 1)) { s with heap := sortedAll s.heap vs out.toArray }) :
    wpAny (model prog w) A (call (.builtin "sorted") [.ref l]) Q E s := by
  refine Calls.call_function_entry kind_sorted plain_sorted entry_sorted (args_sorted1 _) ?_
  unfold Builtin.«sorted»
  refine wpAny_bind (m := checkCount "sorted" 1 1 _) (wpAny_pure ?_)
  refine wpAny_bind (sg_collect_tuple hl hz ?_)
  refine wpAny_bind (wpAny_newList ?_ hz)
  have hsz : ((s.heap.push (seqObj "list" #[] 0)).update s.heap.objs.size (Obj.mapSeq (· ++ vs.toArray))).objs.size = s.heap.objs.size + 1 := by
    rw [Heap.size_update, size_push']
  have hoL : (((s.heap.push (seqObj "list" #[] 0)).update s.heap.objs.size (Obj.mapSeq (· ++ vs.toArray))).push (seqObj "list" vs.toArray 0)).get? (s.heap.objs.size + 1) = some (seqObj "list" vs.toArray 0) := by
    rw [← hsz]; exact Heap.get?_push_size _ rfl
  show wpAny _ _ _ _ _ { s with heap := ((s.heap.push (seqObj "list" #[] 0)).update s.heap.objs.size (Obj.mapSeq (· ++ vs.toArray))).push (seqObj "list" vs.toArray 0) }
  rw [hsz]
  refine wpAny_bind (wpAny_holding (wpAny_call_entry slot_list_sort ⟨_, hoL, rfl⟩ entry_list_sort (SrtO.list_sort_ord SrtO.swo_int hoL hz (fun h2 => SrtO.ints_sortable hI h2) fun out hs hb => ⟨_, rfl, ?_⟩) (args_list_sort _)))
  exact wpAny_pure ⟨_, rfl, h out hs hb⟩
end
end PyProof.Rows
namespace Sg
open PySem PySem.Spec PyProof.Rows L2
def rSortedU (K : PySem.W.Frag) : List V → Hp → VK → Prop := fun vs H Q => ∃ (a : Addr) (ns : List Int), vs = [V.ref a] ∧ SqT K H a (ns.map V.int) ∧
  ∀ (ns' : List Int) (p : Addr), ns'.Perm ns → ns'.Pairwise (· ≤ ·) → H p = none → Q (.ref p) (upd H p (.lst (ns'.map V.int)))
theorem cr_sortedU {X : Cx} : CallR X (.builtin "sorted") (rSortedU X.K) := by
  intro pins s σ H vs us Q I r h
  obtain ⟨a, ns, rfl, hs, q⟩ := h
  obtain ⟨its, rv, hl, hz⟩ := I.tuple hs
  rw [Vals.ref1 r]
  have hi := rv.ints
  refine sg_sorted_tup hl hi (by rw [← rv.length]; exact hz) fun out h1 h2 => ?_
  obtain ⟨k1, k2, k3⟩ := SrtO.ints_out hi h1 h2
  obtain ⟨ep, he'⟩ := PyProof.Rows.sortedAll_at s.heap its out.toArray
  have hlen : ((out.map SrtO.iv).map V.int).length ≤ sizeLine := by
    rw [List.length_map, k2.length_eq]
    rw [List.length_map] at hz
    exact hz
  exact ⟨.ref _, upd H (s.heap.objs.size + 1) (.lst ((out.map SrtO.iv).map V.int)), I.laid (t' := s.toks) (fun _ _ => PyProof.Rows.sortedAll_old) (Nat.le_succ _) ⟨hlen, out, ep, vals_of_ints k1, he'⟩, rfl, q _ _ k2 k3 (I.hok.fresh (Nat.le_succ _))⟩
def sSortedU (m : Bool) : List Y → Sto → Res Y
  | [.v (.tup ds)], S => match intsD ds with
    | some ns => newL m ((sortI ns).map D.int) S
    | none => .bad
  | ys, S => sSortedI m ys S
theorem CallR.or {X : Cx} {f : Value} {r r' : List V → Hp → VK → Prop} (h : CallR X f r) (h' : CallR X f r') : CallR X f (fun vs H Q => r vs H Q ∨ r' vs H Q) := by
  intro pins s σ H vs us Q I rv q
  rcases q with q | q
  · exact h pins s σ H vs us Q I rv q
  · exact h' pins s σ H vs us Q I rv q
theorem sSortedU_ok {X : Cx} (m : Bool) : CallS X (sSortedU m) (fun vs H Q => rSortedU X.K vs H Q ∨ rSortedI X.K vs H Q) := by
  intro E w S H ys vs Q s r h
  unfold sSortedU at h
  split at h
  · obtain ⟨v, rfl, r1⟩ := r.one
    split at h
    · rename_i ns e2
      have e3 := intsD_eq e2
      cases r1 with
      | tup h1 h2 =>
        subst e3
        have e4 := h2.ints
        subst e4
        refine .inl ⟨_, ns, rfl, s.sqT h1, fun ns' p hp hs hn => ?_⟩
        have : ns' = sortI ns := sort_uniq (hp.trans (sortI_perm ns).symm) hs (sortI_pw ns)
        subst this
        exact new_lst s h hn (.ofInts _)
    · exact h.elim
  · exact .inr (sSortedI_ok m E w S H _ vs Q s r h)
section
variable {X : Cx} {W : WX} {k : Nat} {vl wl : List (Nat × Str)} {gl : List Str} {e : Expr} {es : List Expr} {fs : FE (List Y)} {pos p : Pos}
theorem re_sorted (m : Bool) (C : Ok X W k vl wl gl) (j : Nat) (ha : RA X W (e :: es) fs) (hj : gl[j]? = some "sorted" := by rfl) (he : HE X e es := by rfl) (hp : HP X es pos := by rfl) : RE X W (.Call (.Name "sorted" p) (e :: es) [] pos) (fCall (sSortedU m) fs) :=
  re_callB C (CallR.or cr_sortedU cr_sortedI) (sSortedU_ok m) (by decide +kernel) 9 j rfl hj ha he hp
end
end Sg

/-! P1: what mirrors compute, in plain Lean -/
namespace Sg
open PySem PySem.Spec PyProof.Rows L2
section
variable {env : Ev} {S : Sto} {f g h : FE Y} {fs : FE (List Y)} {F G : FS} {t u : FE Bool} {i j : Nat} {d : D}
@[simp] theorem ev_seq : fSeq F G env S = (F env S).seq G := rfl
@[simp] theorem ev_nx : fNx env S = .nx env S := rfl
@[simp] theorem ev_drop : fDrop f env S = (f env S).bindE env fun _ S1 => .nx env S1 := rfl
@[simp] theorem ev_ret : fRet f env S = (f env S).bindE env fun y S1 => .rt y S1 := rfl
@[simp] theorem ev_ifs : fIfS t F G env S = (t env S).bindE env fun b S1 => if b = true then F env S1 else G env S1 := rfl
@[simp] theorem ev_set : fSet i f env S = (f env S).bindE env fun y S1 => .nx (env.set i (some y)) S1 := rfl
@[simp] theorem ev_for {fi : FE (List D)} {tg : Tg} : fFor tg fi F env S = (fi env S).bindE env fun ds S1 => forD tg F ds env S1 := rfl
@[simp] theorem ev_par : fPar i j fs env S = (fs env S).bindE env fun ys S1 => match ys with
  | [y, z] => .nx ((env.set i (some y)).set j (some z)) S1
  | _ => .bad := rfl
@[simp] theorem ev_asg {tg : Tg} : fAsg tg f env S = (f env S).bindE env fun y S1 => match y with
  | .v d => match tg.asg d env with
    | some env1 => .nx env1 S1
    | none => .bad
  | _ => .bad := rfl
@[simp] theorem ev_aug {sem : Y → Y → Sto → Res Y} {y : Y} (e : env[i]? = some (some y)) : fAug i sem f env S = (f env S).bindE env fun z S1 => (sem y z S1).bindE env fun x S2 => .nx (env.set i (some x)) S2 := by
  unfold fAug; rw [e]
@[simp] theorem ev_var {y : Y} (e : env[i]? = some (some y)) : fVar i env S = .ok y S := by unfold fVar; rw [e]
@[simp] theorem ev_c : fC d env S = .ok (.v d) S := rfl
@[simp] theorem ev_nil : fNil env S = .ok [] S := rfl
@[simp] theorem ev_cons : fCons f fs env S = (f env S).bind fun y S1 => (fs env S1).bind fun ys S2 => .ok (y :: ys) S2 := rfl
@[simp] theorem ev_bin {sem : Y → Y → Sto → Res Y} : fBin sem f g env S = (f env S).bind fun x S1 => (g env S1).bind fun y S2 => sem x y S2 := rfl
@[simp] theorem ev_un {sem : Y → Sto → Res Y} : fUn sem f env S = (f env S).bind sem := rfl
@[simp] theorem ev_call {sem : List Y → Sto → Res Y} : fCall sem fs env S = (fs env S).bind sem := rfl
@[simp] theorem ev_own {n : Nat} {m : List Y → Sto → Res Y} : fOwn n m fs env S = (fs env S).bind fun ys S1 => if ys.length = n then m ys S1 else .bad := rfl
@[simp] theorem ev_chain {s1 s2 : Y → Y → Sto → Res Y} : fChain s1 s2 f g h env S = (f env S).bind fun x S1 => (g env S1).bind fun y S2 => (s1 x y S2).bind fun z S3 => match z with
  | .v (.bl true) => (h env S3).bind fun u S4 => s2 y u S4
  | .v (.bl false) => .ok (.v (.bl false)) S3
  | _ => .bad := rfl
@[simp] theorem ev_andV : fAndV f g env S = (f env S).bind fun y S1 => match y with
  | .v (.bl true) => g env S1
  | .v (.bl false) => .ok (.v (.bl false)) S1
  | _ => .bad := by
  unfold fAndV
  cases f env S with
  | ok y S1 => cases y with
    | ref n => rfl
    | v d => cases d with
      | bl b => cases b <;> rfl
      | _ => rfl
  | _ => rfl
@[simp] theorem ev_orV : fOrV f g env S = (f env S).bind fun y S1 => match y with
  | .v (.bl true) => .ok (.v (.bl true)) S1
  | .v (.bl false) => g env S1
  | _ => .bad := by
  unfold fOrV
  cases f env S with
  | ok y S1 => cases y with
    | ref n => rfl
    | v d => cases d with
      | bl b => cases b <;> rfl
      | _ => rfl
  | _ => rfl
@[simp] theorem ev_notV : fNotV f env S = (f env S).bind fun y S1 => match y with
  | .v (.bl b) => .ok (.v (.bl (!b))) S1
  | _ => .bad := by
  unfold fNotV
  cases f env S with
  | ok y S1 => cases y with
    | ref n => rfl
    | v d => cases d with
      | bl b => cases b <;> rfl
      | _ => rfl
  | _ => rfl
@[simp] theorem ev_and : fAnd t u env S = (t env S).bind fun b S1 => if b = true then u env S1 else .ok false S1 := rfl
@[simp] theorem ev_or : fOr t u env S = (t env S).bind fun b S1 => if b = true then .ok true S1 else u env S1 := rfl
@[simp] theorem ev_not : fNot t env S = (t env S).bind fun b S1 => .ok (!b) S1 := rfl
@[simp] theorem ev_if : fIf t f g env S = (t env S).bind fun b S1 => if b = true then f env S1 else g env S1 := rfl
@[simp] theorem ev_tru : fTru f env S = (f env S).bind truY := rfl
@[simp] theorem ev_test : fTest f env S = asB (f env S) := rfl
@[simp] theorem asB_ok {b : Bool} : asB (.ok (.v (.bl b)) S) = .ok b S := rfl
@[simp] theorem tru_bl {b : Bool} : truY (.v (.bl b)) S = .ok b S := rfl
@[simp] theorem ev_its {fi : FE Y} : fItS fi env S = (fi env S).bind itS := rfl
@[simp] theorem ev_it {sem : List Y → Sto → Res (List D)} : fIt sem fs env S = (fs env S).bind sem := rfl
@[simp] theorem ev_frz : fFrz f env S = (f env S).bind frz := rfl
@[simp] theorem frz_v : frz (.v d) S = .ok (.v d) S := rfl
@[simp] theorem its_l {ds : List D} : itS (.v (.lst ds)) S = .ok ds S := rfl
@[simp] theorem its_t {ds : List D} : itS (.v (.tup ds)) S = .ok ds S := rfl
@[simp] theorem ev_part : fPart f env S = (f env S).bind fun y S1 => match y with
  | .v (.int i) => .ok (some i) S1
  | _ => .bad := rfl
@[simp] theorem ev_nop : fNoP env S = .ok none S := rfl
@[simp] theorem ev_sl {m : Bool} {lo hi : FE (Option Int)} : fSl m f lo hi env S = (f env S).bind fun y S1 => (lo env S1).bind fun l S2 => (hi env S2).bind fun u S3 => sSl m y l u S3 := rfl
-- operators
variable {a b : Int} {p q : Bool} {xs ys : List D} {m : Bool}
@[simp] theorem s_add : sAdd m (.v (.int a)) (.v (.int b)) S = .ok (.v (.int (a + b))) S := rfl
@[simp] theorem s_sub : sSub (.v (.int a)) (.v (.int b)) S = .ok (.v (.int (a - b))) S := rfl
@[simp] theorem s_iadd : sIAdd (.v (.int a)) (.v (.int b)) S = .ok (.v (.int (a + b))) S := rfl
@[simp] theorem s_neg : sNeg (.v (.int a)) S = .ok (.v (.int (-a))) S := rfl
@[simp] theorem s_lt : sLt (.v (.int a)) (.v (.int b)) S = .ok (.v (.bl (decide (a < b)))) S := rfl
@[simp] theorem s_le : sLe (.v (.int a)) (.v (.int b)) S = .ok (.v (.bl (decide (a ≤ b)))) S := rfl
@[simp] theorem s_gt : sGt (.v (.int a)) (.v (.int b)) S = .ok (.v (.bl (decide (b < a)))) S := rfl
@[simp] theorem s_ge : sGe (.v (.int a)) (.v (.int b)) S = .ok (.v (.bl (decide (b ≤ a)))) S := rfl
theorem s_mul (h : okMul a b = true) : sMul m (.v (.int a)) (.v (.int b)) S = .ok (.v (.int (a * b))) S := by simp [sMul, h]
theorem s_fdiv (h : okDiv b = true) : sFdiv (.v (.int a)) (.v (.int b)) S = .ok (.v (.int (a.fdiv b))) S := by simp [sFdiv, h]
theorem s_mod (h : b ≠ 0) : sMod (.v (.int a)) (.v (.int b)) S = .ok (.v (.int (a.fmod b))) S := by simp [sMod, h]
theorem s_catT (h : okLen (xs.length + ys.length) = true) : sAdd m (.v (.tup xs)) (.v (.tup ys)) S = .ok (.v (.tup (xs ++ ys))) S := by simp [sAdd, h]
theorem s_catL (h : okLen (xs.length + ys.length) = true) : sAdd m (.v (.lst xs)) (.v (.lst ys)) S = newL m (xs ++ ys) S := by simp [sAdd, getL, h]
theorem okLen_of {n : Nat} (h : n ≤ 16777216) : okLen n = true := decide_eq_true h
theorem okMul_l (h : a.natAbs < 18446744073709551616) : okMul a b = true := by simp [okMul, h]
theorem okMul_r (h : b.natAbs < 18446744073709551616) : okMul a b = true := by simp [okMul, h]
theorem okDiv_of (h0 : b ≠ 0) (h : b.natAbs < 1073741824) : okDiv b = true := by simp [okDiv, h0, h]
theorem s_eq {x y : Y} {d e : D} (h1 : getD x S = some d) (h2 : getD y S = some e) (k1 : d.eqk = true) (k2 : e.eqk = true) : sEq x y S = .ok (.v (.bl (D.eqv d e))) S := by simp [sEq, h1, h2, k1, k2]
theorem s_ne {x y : Y} {d e : D} (h1 : getD x S = some d) (h2 : getD y S = some e) (k1 : d.eqk = true) (k2 : e.eqk = true) : sNe x y S = .ok (.v (.bl (!D.eqv d e))) S := by simp [sNe, h1, h2, k1, k2]
@[simp] theorem eqk_int : (D.int a).eqk = true := by simp [D.eqk, D.pln, D.dep]
@[simp] theorem eqk_bl : (D.bl p).eqk = true := by simp [D.eqk, D.pln, D.dep]
@[simp] theorem s_eqI : sEq (.v (.int a)) (.v (.int b)) S = .ok (.v (.bl (decide (a = b)))) S := by
  rw [s_eq rfl rfl eqk_int eqk_int]
  simp only [D.eqv]
  congr 3
@[simp] theorem s_neI : sNe (.v (.int a)) (.v (.int b)) S = .ok (.v (.bl (!decide (a = b)))) S := by
  rw [s_ne rfl rfl eqk_int eqk_int]
  simp only [D.eqv]
  congr 4
@[simp] theorem s_eqB : sEq (.v (.bl p)) (.v (.bl q)) S = .ok (.v (.bl (p == q))) S := by
  rw [s_eq rfl rfl eqk_bl eqk_bl]; simp [D.eqv]
@[simp] theorem s_neB : sNe (.v (.bl p)) (.v (.bl q)) S = .ok (.v (.bl (!(p == q)))) S := by
  rw [s_ne rfl rfl eqk_bl eqk_bl]; simp [D.eqv]
@[simp] theorem s_lenT : sLen [.v (.tup xs)] S = .ok (.v (.int xs.length)) S := rfl
@[simp] theorem s_lenL : sLen [.v (.lst xs)] S = .ok (.v (.int xs.length)) S := rfl
@[simp] theorem s_tupL : sTuple [.v (.lst xs)] S = .ok (.v (.tup xs)) S := rfl
@[simp] theorem s_tupT : sTuple [.v (.tup xs)] S = .ok (.v (.tup xs)) S := rfl
@[simp] theorem s_listT : sList m [.v (.tup xs)] S = newL m xs S := rfl
@[simp] theorem s_listL : sList m [.v (.lst xs)] S = newL m xs S := rfl
@[simp] theorem s_int : sInt [.v (.int a)] S = .ok (.v (.int a)) S := rfl
@[simp] theorem s_intB : sInt [.v (.bl p)] S = .ok (.v (.int (if p then 1 else 0))) S := by cases p <;> rfl
@[simp] theorem s_abs : sAbs [.v (.int a)] S = .ok (.v (.int (if a < 0 then -a else a))) S := rfl
theorem ev_tup {ys : List Y} {S1 : Sto} {ds : List D} {S2 : Sto} (h1 : fs env S = .ok ys S1) (h2 : thaw ys S1 = some (ds, S2)) (h3 : okLen ds.length = true) : fTup fs env S = .ok (.v (.tup ds)) S2 := by
  simp [fTup, h1, h2, h3]
def vals (ds : List D) : List Y := ds.map Y.v
@[simp] theorem thaw_vals : ∀ ds : List D, thaw (ds.map Y.v) S = some (ds, S)
  | [] => rfl
  | d :: ds => by simp [thaw, thaw_vals ds]
@[simp] theorem ev_tup' : fTup fs env S = (fs env S).bind fun ys S1 => match thaw ys S1 with
  | some (ds, S2) => if okLen ds.length = true then .ok (.v (.tup ds)) S2 else .bad
  | none => .bad := rfl
@[simp] theorem ev_lst : fLst m fs env S = (fs env S).bind fun ys S1 => match thaw ys S1 with
  | some (ds, S2) => if okLen ds.length = true then newL m ds S2 else .bad
  | none => .bad := rfl
@[simp] theorem thaw_nil : thaw [] S = some ([], S) := rfl
@[simp] theorem thaw_v {ys : List Y} : thaw (.v d :: ys) S = match thaw ys S with
  | some (ds, S1) => some (d :: ds, S1)
  | none => none := rfl
@[simp] theorem close_v {n : Nat} {keep : Bool} : close keep n (.v d) S = .ok (.v d) (S.take n) := rfl
-- isinstance
@[simp] theorem s_isi {T ty : String} (h1 : tyD d = some ty) (h2 : tyOk T = true) : sIsi [.v d, .v (.ty T)] S = .ok (.v (.bl (isSub ty T))) S := by
  simp [sIsi, tyY, h1, h2]
theorem isSub_ii : isSub "int" "int" = true := by decide
end
/-- what may be told apart -/
def D.good : D → Bool
  | .non | .bl _ | .int _ | .str _ | .tup _ | .lst _ => true
  | _ => false
end Sg

/-! P2: loops, the cup, equality by kind -/
namespace Sg
open PySem PySem.Spec PyProof.Rows L2
section
variable {env : Ev} {S : Sto} {m : Bool} {vs : List Nat} {fi : FE (List D)} {t : Tg} {ft : FE Bool} {fe : FE Y}
@[simp] theorem ev_yes : fYes env S = .ok true S := rfl
theorem lcD_pure {α : Type} (c : α → D) (p : α → Bool) (g : α → D) : ∀ (l : List α) (acc : List D), (∀ x ∈ l, ∃ env1, t.asg (c x) env = some env1 ∧ ft env1 S = .ok (p x) S ∧ (p x = true → fe env1 S = .ok (.v (g x)) S)) → acc.length + l.length ≤ 16777216 →
    lcD t ft fe env (l.map c) acc S = .ok (acc ++ (l.filter p).map g) S
  | [], acc, _, _ => by simp [lcD]
  | x :: l, acc, h, hl => by
    obtain ⟨env1, e1, e2, e3⟩ := h x List.mem_cons_self
    have ih := fun acc' => lcD_pure c p g l acc' (fun y hy => h y (List.mem_cons_of_mem _ hy))
    rw [List.length_cons] at hl
    simp only [List.map_cons, lcD, e1, e2, Res.bindX]
    cases hp : p x with
    | false => rw [if_neg Bool.false_ne_true, ih acc (by omega), List.filter_cons_of_neg (by simp [hp])]
    | true =>
      rw [if_pos rfl, e3 hp]
      simp only [Res.bindX, thaw1_v]
      rw [if_pos (okLen_of (by omega)), ih _ (by rw [List.length_append, List.length_singleton]; omega), List.filter_cons_of_pos (by simp [hp])]
      simp
theorem lc_map {α : Type} (l : List α) (c : α → D) (p : α → Bool) (g : α → D) {ds : List D} {S0 : Sto} (hi : fi env S0 = .ok ds S) (hd : ds = l.map c) (hl : l.length ≤ 16777216)
    (h : ∀ x ∈ l, ∃ env1, t.asg (c x) (wipeE vs env) = some env1 ∧ ft env1 S = .ok (p x) S ∧ (p x = true → fe env1 S = .ok (.v (g x)) S)) : fLc m vs fi t ft fe env S0 = newL m ((l.filter p).map g) S := by
  subst hd
  unfold fLc
  rw [hi]
  simp only [Res.bind]
  rw [lcD_pure c p g l [] h (by simpa using hl)]
  rfl
theorem lcD_inv (P : List D → Sto → Prop) {n : Nat} : ∀ (ds acc : List D) (S : Sto), (∀ d ∈ ds, ∀ acc S, P acc S → ∃ env1 b S1, t.asg d env = some env1 ∧ ft env1 S = .ok b S1 ∧ (b = false → P acc S1) ∧ (b = true → ∃ d' S2, fe env1 S1 = .ok (.v d') S2 ∧ P (acc ++ [d']) S2)) → acc.length + ds.length ≤ 16777216 → P acc S →
    ∃ out S', lcD t ft fe env ds acc S = .ok out S' ∧ P out S'
  | [], acc, S, _, _, h => ⟨acc, S, by simp [lcD], h⟩
  | d :: ds, acc, S, step, hl, h => by
    obtain ⟨env1, b, S1, e1, e2, e3, e4⟩ := step d List.mem_cons_self acc S h
    rw [List.length_cons] at hl
    simp only [lcD, e1, e2, Res.bindX]
    cases b with
    | false =>
      rw [if_neg Bool.false_ne_true]
      exact lcD_inv P (n := n) ds acc S1 (fun x hx => step x (List.mem_cons_of_mem _ hx)) (by omega) (e3 rfl)
    | true =>
      obtain ⟨d', S2, e5, e6⟩ := e4 rfl
      rw [if_pos rfl, e5]
      simp only [Res.bindX, thaw1_v]
      rw [if_pos (okLen_of (by omega))]
      exact lcD_inv P (n := n) ds _ S2 (fun x hx => step x (List.mem_cons_of_mem _ hx)) (by rw [List.length_append, List.length_singleton]; omega) e6
theorem lc_inv (P : List D → Sto → Prop) {ds : List D} {S0 : Sto} (hi : fi env S0 = .ok ds S) (hl : ds.length ≤ 16777216) (h0 : P [] S)
    (step : ∀ d ∈ ds, ∀ acc S, P acc S → ∃ env1 b S1, t.asg d (wipeE vs env) = some env1 ∧ ft env1 S = .ok b S1 ∧ (b = false → P acc S1) ∧ (b = true → ∃ d' S2, fe env1 S1 = .ok (.v d') S2 ∧ P (acc ++ [d']) S2)) :
    ∃ out S', fLc false vs fi t ft fe env S0 = .ok (.v (.lst out)) S' ∧ P out S' := by
  obtain ⟨out, S', e, p⟩ := lcD_inv (n := 0) P ds [] S step (by simpa using hl) h0
  refine ⟨out, S', ?_, p⟩
  unfold fLc
  rw [hi]
  simp only [Res.bind, e, Res.bindX, newL_f]
end
theorem lcD_idx {env : Ev} {t : Tg} {ft : FE Bool} {fe : FE Y} (P : Nat → List D → Sto → Prop) : ∀ (ds acc : List D) (S : Sto) (i : Nat), (∀ (j : Nat) (d : D) (acc : List D) (S : Sto), ds[j]? = some d → P (i + j) acc S → ∃ env1 b S1, t.asg d env = some env1 ∧ ft env1 S = .ok b S1 ∧ (b = false → P (i + j + 1) acc S1) ∧ (b = true → ∃ d' S2, fe env1 S1 = .ok (.v d') S2 ∧ P (i + j + 1) (acc ++ [d']) S2)) → acc.length + ds.length ≤ 16777216 → P i acc S →
    ∃ out S', lcD t ft fe env ds acc S = .ok out S' ∧ P (i + ds.length) out S'
  | [], acc, S, i, _, _, h => ⟨acc, S, by simp [lcD], h⟩
  | d :: ds, acc, S, i, step, hl, h => by
    obtain ⟨env1, b, S1, e1, e2, e3, e4⟩ := step 0 d acc S rfl h
    rw [List.length_cons] at hl
    have next : ∀ (acc : List D) (S : Sto), acc.length + ds.length ≤ 16777216 → P (i + 1) acc S → ∃ out S', lcD t ft fe env ds acc S = .ok out S' ∧ P (i + (ds.length + 1)) out S' := fun acc S hl hP => by
      obtain ⟨out, S', e, p⟩ := lcD_idx P ds acc S (i + 1) (fun j d' acc S hj hI => by
        have := step (j + 1) d' acc S (by simpa using hj) (by rw [show i + (j + 1) = i + 1 + j by omega]; exact hI)
        rw [show i + (j + 1) + 1 = i + 1 + j + 1 by omega] at this
        exact this) hl hP
      exact ⟨out, S', e, by rw [show i + (ds.length + 1) = i + 1 + ds.length by omega]; exact p⟩
    simp only [lcD, e1, e2, Res.bindX, List.length_cons]
    cases b with
    | false =>
      rw [if_neg Bool.false_ne_true]
      exact next acc S1 (by omega) (e3 rfl)
    | true =>
      obtain ⟨d', S2, e5, e6⟩ := e4 rfl
      rw [if_pos rfl, e5]
      simp only [Res.bindX, thaw1_v]
      rw [if_pos (okLen_of (by omega))]
      exact next _ S2 (by rw [List.length_append, List.length_singleton]; omega) e6
theorem lc_idx {env : Ev} {S : Sto} {vs : List Nat} {fi : FE (List D)} {t : Tg} {ft : FE Bool} {fe : FE Y} (P : Nat → List D → Sto → Prop) {ds : List D} {S0 : Sto} (hi : fi env S0 = .ok ds S) (hl : ds.length ≤ 16777216) (h0 : P 0 [] S)
    (step : ∀ (j : Nat) (d : D) (acc : List D) (S : Sto), ds[j]? = some d → P j acc S → ∃ env1 b S1, t.asg d (wipeE vs env) = some env1 ∧ ft env1 S = .ok b S1 ∧ (b = false → P (j + 1) acc S1) ∧ (b = true → ∃ d' S2, fe env1 S1 = .ok (.v d') S2 ∧ P (j + 1) (acc ++ [d']) S2)) :
    ∃ out S', fLc false vs fi t ft fe env S0 = .ok (.v (.lst out)) S' ∧ P ds.length out S' := by
  obtain ⟨out, S', e, p⟩ := lcD_idx P ds [] S 0 (fun j d acc S hj hP => by rw [Nat.zero_add] at hP ⊢; exact step j d acc S hj hP) (by simpa using hl) h0
  rw [Nat.zero_add] at p
  refine ⟨out, S', ?_, p⟩
  unfold fLc
  rw [hi]
  simp only [Res.bind, e, Res.bindX, newL_f]
theorem forD_inv {t : Tg} {F : FS} (I : Nat → Ev → Sto → Prop) (n : Nat) : ∀ (ds : List D) (i : Nat) (env : Ev) (S : Sto), (∀ j d env S, ds[j]? = some d → I (i + j) env S → ∃ env1, t.asg d env = some env1 ∧ ∃ env2 S2, F env1 S = .nx env2 S2 ∧ I (i + j + 1) env2 S2) → I i env S →
    ∃ env' S', forD t F ds env S = .nx env' S' ∧ I (i + ds.length) env' S'
  | [], i, env, S, _, h => ⟨env, S, rfl, h⟩
  | d :: ds, i, env, S, step, h => by
    obtain ⟨env1, e1, env2, S2, e2, h2⟩ := step 0 d env S rfl h
    obtain ⟨env', S', e, h3⟩ := forD_inv I n ds (i + 1) env2 S2 (fun j d' env S hj hI => by
      have := step (j + 1) d' env S (by simpa using hj) (by rw [show i + (j + 1) = i + 1 + j by omega]; exact hI)
      obtain ⟨a1, a2, a3, a4, a5, a6⟩ := this
      exact ⟨a1, a2, a3, a4, a5, by rw [show i + 1 + j + 1 = i + (j + 1) + 1 by omega]; exact a6⟩) h2
    refine ⟨env', S', ?_, by rw [List.length_cons, show i + (ds.length + 1) = i + 1 + ds.length by omega]; exact h3⟩
    simp only [forD, e1, e2]
    exact e
/-- where the invariant knows of no turns -/
theorem forD_any {t : Tg} {F : FS} (I : Ev → Sto → Prop) {ds : List D} {env : Ev} {S : Sto} (h0 : I env S) (step : ∀ d ∈ ds, ∀ env S, I env S → ∃ env1, t.asg d env = some env1 ∧ ∃ env2 S2, F env1 S = .nx env2 S2 ∧ I env2 S2) :
    ∃ env' S', forD t F ds env S = .nx env' S' ∧ I env' S' := by
  obtain ⟨env', S', e, h⟩ := forD_inv (F := F) (fun _ => I) 0 ds 0 env S (fun j d env S hj hI => step d (List.mem_of_getElem? hj) env S hI) h0
  exact ⟨env', S', e, h⟩
theorem rngD_mem {lo : Int} {n : Nat} {d : D} (h : d ∈ rngD lo n) : ∃ i : Nat, i < n ∧ d = .int (lo + i) := by
  unfold rngD at h
  obtain ⟨i, hi, rfl⟩ := List.mem_map.mp h
  exact ⟨i, List.mem_range.mp hi, rfl⟩
section
variable {S : Sto} {a b c : Int} {m : Bool}
theorem s_rng1 (h : okR a = true) : sRng1 [.v (.int a)] S = .ok (rngD 0 a.toNat) S := by simp [sRng1, h]
theorem s_rng2 (h : okR a = true) (h' : okR b = true) : sRng2 [.v (.int a), .v (.int b)] S = .ok (rngD a (b - a).toNat) S := by simp [sRng2, h, h']
theorem s_rng3 (h : okR a = true) (h' : okR b = true) : sRng3 [.v (.int a), .v (.int b), .v (.int (-1))] S = .ok (rngC a (-1) (a - b).toNat) S := by simp [sRng3, h, h']
theorem okR_of (h : -1000000000 ≤ a) (h' : a ≤ 1000000000) : okR a = true := decide_eq_true (by omega)
theorem s_ix {y : Y} {ds : List D} {d : D} {i : Int} (hy : ∀ z, y ≠ .v (.str z)) (h : getS y S = some ds) (h2 : atI ds i = some d) : sIx y (.v (.int i)) S = .ok (.v d) S := by
  cases y with
  | ref n => simp [sIx, h, h2]
  | v e => cases e with
    | str z => exact absurd rfl (hy z)
    | _ => simp [sIx, h, h2]
theorem s_ixT {ds : List D} {d : D} {i : Int} (h2 : atI ds i = some d) : sIx (.v (.tup ds)) (.v (.int i)) S = .ok (.v d) S := s_ix (fun _ h => by cases h) rfl h2
theorem s_ixL {ds : List D} {d : D} {i : Int} (h2 : atI ds i = some d) : sIx (.v (.lst ds)) (.v (.int i)) S = .ok (.v d) S := s_ix (fun _ h => by cases h) rfl h2
end
/-! ### the cup -/
def CupOk (S : Sto) : Prop := ∃ a b : Int, S = [.lst [.int a, .int b]] ∧ 0 ≤ a ∧ 0 ≤ b ∧ b < 4294967296
section
variable {a b i : Int}
@[simp] theorem cup_ix0 : sIx (.ref 0) (.v (.int 0)) [.lst [.int a, .int b]] = .ok (.v (.int a)) [.lst [.int a, .int b]] := s_ix (fun _ h => by cases h) rfl rfl
@[simp] theorem cup_ix1 : sIx (.ref 0) (.v (.int 1)) [.lst [.int a, .int b]] = .ok (.v (.int b)) [.lst [.int a, .int b]] := s_ix (fun _ h => by cases h) rfl rfl
end
def bRoll (k1 k2 p1 k3 p2 k4 : Int) : FS :=
  (fSeq (fIfS (fTest (fBin sGt (fBin sIx (fVar 0) (fC (.int 0))) (fC (.int 0)))) (fSeq (fSet 2 (fBin sMod (fCall sInt (fCons (fBin sIx (fVar 0) (fC (.int 0))) fNil)) (fVar 1)))
  (fSeq (fSub (fVar 0) (fC (.int 0)) (fBin sFdiv (fBin sIx (fVar 0) (fC (.int 0))) (fVar 1)))
  (fRet (fVar 2)))) fNx)
  (fSeq (fSub (fVar 0) (fC (.int 1)) (fBin sMod (fCall sInt (fCons (fBin (sAdd false) (fBin (sMul false) (fBin sIx (fVar 0) (fC (.int 1))) (fC (.int k1))) (fC (.int k2))) fNil)) (fC (.int p1))))
  (fSeq (fSet 3 (fBin sMod (fCall sInt (fCons (fBin (sMul false) (fBin sIx (fVar 0) (fC (.int 1))) (fBin (sAdd false) (fBin sIx (fVar 0) (fC (.int 1))) (fC (.int k3)))) fNil)) (fC (.int p2))))
  (fRet (fBin sMod (fCall sInt (fCons (fBin sFdiv (fVar 3) (fC (.int k4))) fNil)) (fVar 1))))))
theorem fmod_range {x y : Int} (h : 0 < y) : 0 ≤ x.fmod y ∧ x.fmod y < y := ⟨Int.fmod_nonneg_of_pos _ h, Int.fmod_lt_of_pos _ h⟩
theorem fdiv_nonneg' {x y : Int} (h : 0 ≤ x) (h' : 0 < y) : 0 ≤ x.fdiv y := by
  rw [Int.fdiv_eq_ediv_of_nonneg x (by omega)]
  exact Int.ediv_nonneg h (by omega)
theorem sub_cup0 {env : Ev} {a b v : Int} {S0 : Sto} {f fo fi : FE Y} (h1 : f env S0 = .ok (.v (.int v)) [.lst [.int a, .int b]]) (h2 : fo env [.lst [.int a, .int b]] = .ok (.ref 0) [.lst [.int a, .int b]]) (h3 : fi env [.lst [.int a, .int b]] = .ok (.v (.int 0)) [.lst [.int a, .int b]]) : fSub fo fi f env S0 = .nx env [.lst [.int v, .int b]] := by
  simp [fSub, h1, h2, h3, stL, ixN]
theorem sub_cup1 {env : Ev} {a b v : Int} {S0 : Sto} {f fo fi : FE Y} (h1 : f env S0 = .ok (.v (.int v)) [.lst [.int a, .int b]]) (h2 : fo env [.lst [.int a, .int b]] = .ok (.ref 0) [.lst [.int a, .int b]]) (h3 : fi env [.lst [.int a, .int b]] = .ok (.v (.int 1)) [.lst [.int a, .int b]]) : fSub fo fi f env S0 = .nx env [.lst [.int a, .int v]] := by
  simp [fSub, h1, h2, h3, stL, ixN]
theorem roll_ok {k1 k2 p1 k3 p2 k4 many : Int} (hp1 : 0 < p1 ∧ p1 ≤ 4294967296) (hp2 : 0 < p2) (hk1 : k1.natAbs < 18446744073709551616) (hk4 : okDiv k4 = true) (hm : 0 < many ∧ many < 1000000000) {S : Sto} (hS : CupOk S) :
    ∃ (r : Int) (S' : Sto), wrap false 4 (bRoll k1 k2 p1 k3 p2 k4) [.ref 0, .v (.int many)] S = .ok (.v (.int r)) S' ∧ CupOk S' ∧ 0 ≤ r ∧ r < many := by
  obtain ⟨a, b, rfl, ha, hb, hb2⟩ := hS
  have hd : okDiv many = true := okDiv_of (by omega) (by omega)
  have hm0 : many ≠ 0 := by omega
  have hp0 : p1 ≠ 0 := by omega
  have hp20 : p2 ≠ 0 := by omega
  by_cases h0 : 0 < a
  · have g := fmod_range (x := a) hm.1
    refine ⟨a.fmod many, [.lst [.int (a.fdiv many), .int b]], ?_, ⟨_, _, rfl, fdiv_nonneg' ha hm.1, hb, hb2⟩, g.1, g.2⟩
    simp only [wrap, bRoll, startE, ev_seq, ev_ifs, ev_test]
    simp [h0, s_mod hm0]
    rw [sub_cup0 (a := a) (b := b) (v := a.fdiv many) (by simp [s_fdiv hd]) (by simp) (by simp)]
    simp
  · have g := fmod_range (x := b * k1 + k2) hp1.1
    have g2 := fmod_range (x := ((((b * k1 + k2).fmod p1) * ((b * k1 + k2).fmod p1 + k3)).fmod p2).fdiv k4) hm.1
    refine ⟨_, [.lst [.int a, .int ((b * k1 + k2).fmod p1)]], ?_, ⟨_, _, rfl, ha, g.1, by omega⟩, g2.1, g2.2⟩
    simp only [wrap, bRoll, startE, ev_seq, ev_ifs, ev_test]
    simp [h0]
    rw [sub_cup1 (a := a) (b := b) (v := (b * k1 + k2).fmod p1) (by simp [s_mul (okMul_r hk1), s_mod hp0]) (by simp) (by simp)]
    simp [s_mul (okMul_l (a := (b * k1 + k2).fmod p1) (b := (b * k1 + k2).fmod p1 + k3) (by omega)), s_mod hp20, s_fdiv hk4, s_mod hm0]
def bCup (d k1 k2 p c : Int) : FS :=
  (fSeq (fSet 1 (fCall sAbs (fCons (fBin sIx (fBin (sAdd false) (fCall (sList false) (fCons (fVar 0) fNil)) (fLst false (fCons (fC (.int 0)) fNil))) (fC (.int 0))) fNil)))
  (fRet (fLst true (fCons (fIf (fTest (fBin sGe (fVar 1) (fBin sPow (fC (.int 10)) (fC (.int 18))))) (fBin sFdiv (fVar 1) (fC (.int d))) (fC (.int 0))) (fCons (fBin (sAdd false) (fBin sMod (fCall sInt (fCons (fBin (sAdd false) (fBin (sMul false) (fVar 1) (fC (.int k1))) (fC (.int k2))) fNil)) (fC (.int p))) (fC (.int c))) fNil)))))
theorem s_pow {a b : Int} {S : Sto} (h : CPow a b) : sPow (.v (.int a)) (.v (.int b)) S = .ok (.v (.int (a ^ b.toNat))) S := by
  simp only [sPow]
  rw [if_pos ⟨h.1, h.2.1, by have := h.2.2; omega⟩]
theorem cup_ok {d k1 k2 p c : Int} (hd : okDiv d = true ∧ 0 < d) (hk : k1.natAbs < 18446744073709551616) (hp : 0 < p ∧ p + c ≤ 4294967296) (hc : 0 ≤ c) (ns : List Int) (hl : ns.length ≤ 63) : ∃ S', wrap true 2 (bCup d k1 k2 p c) [.v (.scr (ns.map D.int))] [] = .ok (.ref 0) S' ∧ CupOk S' := by
  have hp0 : p ≠ 0 := by omega
  obtain ⟨x, hx⟩ : ∃ x : Int, L2.atI (ns.map D.int ++ [D.int 0]) 0 = some (.int x) := by
    cases ns with
    | nil => exact ⟨0, rfl⟩
    | cons n r =>
      refine ⟨n, ?_⟩
      have : (0 : Int) = ((0 : Nat) : Int) := rfl
      rw [this]
      exact L2.atI_nat rfl
  generalize hy : (if x < 0 then -x else x) = y
  have hy0 : 0 ≤ y := by subst hy; split <;> omega
  have g := fmod_range (x := y * k1 + k2) hp.1
  have hpw : CPow 10 18 := ⟨by decide, by decide, by decide⟩
  have key : ∀ z : Int, 0 ≤ z → CupOk [.lst [.int z, .int ((y * k1 + k2).fmod p + c)]] := fun z hz => ⟨_, _, rfl, hz, by omega, by omega⟩
  have e1 : fSet 1 (fCall sAbs (fCons (fBin sIx (fBin (sAdd false) (fCall (sList false) (fCons (fVar 0) fNil)) (fLst false (fCons (fC (.int 0)) fNil))) (fC (.int 0))) fNil)) [some (.v (.scr (ns.map D.int))), none] [] = .nx [some (.v (.scr (ns.map D.int))), some (.v (.int y))] [] := by
    simp [sList, s_catL (m := false) (S := []) (xs := ns.map D.int) (ys := [D.int 0]) (okLen_of (by simp; omega)), s_ixL hx, hy, okLen]
  have e2 : ∀ z : Int, (fIf (fTest (fBin sGe (fVar 1) (fBin sPow (fC (.int 10)) (fC (.int 18))))) (fBin sFdiv (fVar 1) (fC (.int d))) (fC (.int 0))) [some (.v (.scr (ns.map D.int))), some (.v (.int y))] [] = .ok (.v (.int (if 10 ^ 18 ≤ y then y.fdiv d else 0))) [] := fun z => by
    by_cases hb : (10 : Int) ^ 18 ≤ y
    · simp [s_pow hpw, hb, s_fdiv hd.1]
      have hb' : (1000000000000000000 : Int) ≤ y := by simpa using hb
      simp [hb', s_fdiv hd.1]
    · simp [s_pow hpw, hb]
      have hb' : ¬ (1000000000000000000 : Int) ≤ y := by simpa using hb
      simp [hb']
  refine ⟨[.lst [.int (if 10 ^ 18 ≤ y then y.fdiv d else 0), .int ((y * k1 + k2).fmod p + c)]], ?_, key _ (by split; exact fdiv_nonneg' hy0 hd.2; omega)⟩
  simp only [wrap, bCup, startE, ev_seq, List.map_cons, List.map_nil, List.length_cons, List.length_nil]
  rw [show ([some (Y.v (.scr (ns.map D.int)))] ++ List.replicate (2 - (0 + 1)) none) = [some (Y.v (.scr (ns.map D.int))), none] from rfl, e1]
  simp only [SR.seq, ev_ret, ev_lst, ev_cons, e2 0]
  simp [s_mul (okMul_r hk), s_mod hp0, okLen, close]
end Sg

/-! P3: the same by kind -/
namespace Sg
open PySem PySem.Spec PyProof.Rows L2
theorem okLen_0 : okLen 0 = true := rfl
mutual
def D.sg : D → Bool
  | .non | .bl _ | .int _ => true
  | .str x => PyData.strOk x
  | .tup ds => okLen ds.length && D.sgL ds
  | .lst ds => okLen ds.length && D.sgL ds
  | _ => false
def D.sgL : List D → Bool
  | [] => true
  | d :: ds => D.sg d && D.sgL ds
end
theorem sgL_mem : ∀ {ds : List D} {d : D}, D.sgL ds = true → d ∈ ds → D.sg d = true
  | [], _, _, h => absurd h List.not_mem_nil
  | e :: ds, d, g, h => by
    have g' : D.sg e = true ∧ D.sgL ds = true := by simpa [D.sgL] using g
    rcases List.mem_cons.mp h with rfl | h
    · exact g'.1
    · exact sgL_mem g'.2 h
theorem sgL_of : ∀ {ds : List D}, (∀ d ∈ ds, D.sg d = true) → D.sgL ds = true
  | [], _ => by simp [D.sgL]
  | e :: ds, h => by simp [D.sgL, h e List.mem_cons_self, sgL_of fun d hd => h d (List.mem_cons_of_mem _ hd)]
theorem depL_mem : ∀ {ds : List D} {d : D}, d ∈ ds → D.dep d ≤ D.depL ds
  | [], _, h => absurd h List.not_mem_nil
  | e :: ds, d, h => by
    simp only [D.depL]
    rcases List.mem_cons.mp h with rfl | h
    · omega
    · have := depL_mem h; omega
theorem depL_le : ∀ {ds : List D} {n : Nat}, (∀ d ∈ ds, D.dep d ≤ n) → D.depL ds ≤ n
  | [], _, _ => by simp [D.depL]
  | e :: ds, n, h => by
    simp only [D.depL]
    have := h e List.mem_cons_self
    have := depL_le (n := n) fun d hd => h d (List.mem_cons_of_mem _ hd)
    omega
theorem plnL_of : ∀ {ds : List D}, (∀ d ∈ ds, D.pln d = true) → D.plnL ds = true
  | [], _ => by simp [D.plnL]
  | e :: ds, h => by simp [D.plnL, h e List.mem_cons_self, plnL_of fun d hd => h d (List.mem_cons_of_mem _ hd)]
theorem ints_pln (ns : List Int) : D.plnL (ns.map D.int) = true := plnL_of fun d hd => by
  obtain ⟨i, _, rfl⟩ := List.mem_map.mp hd
  simp [D.pln]
theorem ints_dep (ns : List Int) : D.depL (ns.map D.int) ≤ 0 := depL_le fun d hd => by
  obtain ⟨i, _, rfl⟩ := List.mem_map.mp hd
  simp [D.dep]
@[simp] theorem eqk_nilL : (D.lst []).eqk = true := by decide
@[simp] theorem eqk_intsL (ns : List Int) : (D.lst (ns.map D.int)).eqk = true := by
  have := ints_dep ns
  simp [D.eqk, D.pln, D.dep, ints_pln]; omega
@[simp] theorem eqk_intsT (ns : List Int) : (D.tup (ns.map D.int)).eqk = true := by
  have := ints_dep ns
  simp [D.eqk, D.pln, D.dep, ints_pln]; omega
theorem eqvL_ints : ∀ a b : List Int, D.eqvL (a.map D.int) (b.map D.int) = decide (a = b)
  | [], [] => by simp [D.eqvL]
  | [], _ :: _ => by simp [D.eqvL]
  | _ :: _, [] => by simp [D.eqvL]
  | x :: a, y :: b => by
    simp only [List.map_cons, D.eqvL, D.eqv, eqvL_ints a b]
    by_cases h1 : x = y <;> by_cases h2 : a = b <;> simp [h1, h2]
theorem eqv_intsT (a b : List Int) : D.eqv (.tup (a.map D.int)) (.tup (b.map D.int)) = decide (a = b) := by simp [D.eqv, eqvL_ints]
theorem eqv_intsL (a b : List Int) : D.eqv (.lst (a.map D.int)) (.lst (b.map D.int)) = decide (a = b) := by simp [D.eqv, eqvL_ints]
def bSameK (kf : FE Y) : FS :=
  (fSeq (fIfS (fOr (fTru (fCall sIsi (fCons (fVar 1) (fCons (fC (.ty "tuple")) fNil)))) (fTru (fCall sIsi (fCons (fVar 1) (fCons (fC (.ty "list")) fNil))))) (fSeq (fIfS (fOr (fTest (fBin sNe (fCall sIsi (fCons (fVar 0) (fCons (fC (.ty "tuple")) fNil))) (fCall sIsi (fCons (fVar 1) (fCons (fC (.ty "tuple")) fNil))))) (fOr (fTest (fBin sNe (fCall sIsi (fCons (fVar 0) (fCons (fC (.ty "list")) fNil))) (fCall sIsi (fCons (fVar 1) (fCons (fC (.ty "list")) fNil))))) (fTest (fBin sNe (fCall sLen (fCons (fVar 0) fNil)) (fCall sLen (fCons (fVar 1) fNil)))))) (fRet (fC (.bl false))) fNx)
  (fRet kf)) fNx)
  (fSeq (fIfS (fTest (fBin (sIs false) (fVar 1) (fC .non))) (fRet (fBin (sIs false) (fVar 0) (fC .non))) fNx)
  (fSeq (fIfS (fTru (fCall sIsi (fCons (fVar 1) (fCons (fC (.ty "bool")) fNil)))) (fRet (fIf (fTru (fVar 1)) (fBin (sIs false) (fVar 0) (fC (.bl true))) (fBin (sIs false) (fVar 0) (fC (.bl false))))) fNx)
  (fSeq (fIfS (fTru (fCall sIsi (fCons (fVar 1) (fCons (fC (.ty "int")) fNil)))) (fRet (fAndV (fCall sIsi (fCons (fVar 0) (fCons (fC (.ty "int")) fNil))) (fAndV (fNotV (fCall sIsi (fCons (fVar 0) (fCons (fC (.ty "bool")) fNil)))) (fBin sEq (fCall sInt (fCons (fVar 0) fNil)) (fVar 1))))) fNx)
  (fRet (fAndV (fCall sIsi (fCons (fVar 0) (fCons (fC (.ty "str")) fNil))) (fBin sEq (fCall sStr (fCons (fVar 0) fNil)) (fVar 1))))))))
def bSame (r : List Y → Sto → Res Y) : FS := bSameK (fBin sEq (fLc false [2] (fIt sRng1 (fCons (fCall sLen (fCons (fVar 1) fNil)) fNil)) (.nm 2) (fNot (fTru (fOwn 2 (r) (fCons (fBin sIx (fVar 0) (fVar 2)) (fCons (fBin sIx (fVar 1) (fVar 2)) fNil))))) (fC (.int 1))) (fLst false fNil))
def mSame : Nat → List Y → Sto → Res Y
  | 0 => fun _ _ => .bad
  | n + 1 => wrap false 3 (bSame (mSame n))
theorem rngD_range (n : Nat) : rngD 0 n = (List.range n).map fun (i : Nat) => D.int (0 + i) := rfl
theorem same_seq {r : List Y → Sto → Res Y} {S : Sto} {ds : List D} {y : Y} (hy : getS y S = some ds) (hy0 : ∀ z, y ≠ .v (.str z)) (hl : okLen ds.length = true) (h : ∀ d ∈ ds, r [.v d, .v d] S = .ok (.v (.bl true)) S) {env : Ev} (e0 : env[0]? = some (some y)) (e1 : env[1]? = some (some y)) (hlen : sLen [y] S = .ok (.v (.int ds.length)) S) (h3 : env.length = 3) :
    (fBin sEq (fLc false [2] (fIt sRng1 (fCons (fCall sLen (fCons (fVar 1) fNil)) fNil)) (.nm 2) (fNot (fTru (fOwn 2 r (fCons (fBin sIx (fVar 0) (fVar 2)) (fCons (fBin sIx (fVar 1) (fVar 2)) fNil))))) (fC (.int 1))) (fLst false fNil)) env S = .ok (.v (.bl true)) S := by
  have hl' : ds.length ≤ 16777216 := of_decide_eq_true hl
  have lc : fLc false [2] (fIt sRng1 (fCons (fCall sLen (fCons (fVar 1) fNil)) fNil)) (.nm 2) (fNot (fTru (fOwn 2 r (fCons (fBin sIx (fVar 0) (fVar 2)) (fCons (fBin sIx (fVar 1) (fVar 2)) fNil))))) (fC (.int 1)) env S = newL false (((List.range ds.length).filter fun _ => false).map fun _ => D.int 1) S := by
    refine lc_map (List.range ds.length) (fun (i : Nat) => D.int (0 + i)) (fun _ => false) (fun _ => D.int 1) (ds := rngD 0 ds.length) ?_ rfl (by simpa using hl') fun i hi => ?_
    · simp [e1, hlen, s_rng1 (okR_of (a := (ds.length : Int)) (by omega) (by omega))]
    · have hi' : i < ds.length := List.mem_range.mp hi
      refine ⟨_, rfl, ?_, fun z => by cases z⟩
      have g0 : ((wipeE [2] env).set 2 (some (.v (.int (0 + (i : Int))))))[0]? = some (some y) := by
        simp [wipeE, e0]
      have g1 : ((wipeE [2] env).set 2 (some (.v (.int (0 + (i : Int))))))[1]? = some (some y) := by
        simp [wipeE, e1]
      have g2 : ((wipeE [2] env).set 2 (some (.v (.int (0 + (i : Int))))))[2]? = some (some (.v (.int (0 + (i : Int))))) := by
        rw [List.getElem?_set_self]; simp [wipeE, h3]
      have ha : L2.atI ds (0 + (i : Int)) = some ds[i] := by rw [Int.zero_add]; exact L2.atI_nat (List.getElem?_eq_getElem hi')
      simp only [ev_not, ev_tru, ev_own, ev_cons, ev_bin, ev_var g0, ev_var g1, ev_var g2, ev_nil, Res.bind, s_ix hy0 hy ha]
      simp [h _ (List.getElem_mem hi')]
  rw [ev_bin, lc, show ((List.range ds.length).filter fun _ => false) = [] from List.filter_eq_nil_iff.mpr (by simp)]
  simp [okLen_0]
  rw [s_eq rfl rfl eqk_nilL eqk_nilL]
  rfl
theorem same_K {S : Sto} {ds : List D} {kf : FE Y} {d : D} (hd : d = .tup ds ∨ d = .lst ds) (key : kf [some (.v d), some (.v d), none] S = .ok (.v (.bl true)) S) : wrap false 3 (bSameK kf) [.v d, .v d] S = .ok (.v (.bl true)) S := by
  rcases hd with rfl | rfl <;> simp [wrap, bSameK, startE, sIsi, tyY, tyD, tyOk, isSub, key]
theorem same_refl {S : Sto} : ∀ (n : Nat) (d : D), D.sg d = true → D.dep d < n → mSame n [.v d, .v d] S = .ok (.v (.bl true)) S
  | 0, _, _, h => absurd h (Nat.not_lt_zero _)
  | n + 1, d, hg, hd => by
    have ih := same_refl (S := S) n
    show wrap false 3 (bSame (mSame n)) [.v d, .v d] S = _
    have close' : ∀ b : Bool, close false S.length (.v (.bl b)) S = .ok (.v (.bl b)) S := fun b => by simp
    cases d with
    | non => simp [wrap, bSame, bSameK, startE, sIsi, tyY, tyD, tyOk, isSub, sIs]
    | bl b => cases b <;> simp [wrap, bSame, bSameK, startE, sIsi, tyY, tyD, tyOk, isSub, sIs]
    | int i => simp [wrap, bSame, bSameK, startE, sIsi, tyY, tyD, tyOk, isSub, sIs]
    | str x =>
      have hx : PyData.strOk x = true := by simpa [D.sg] using hg
      have hk : (D.str x).eqk = true := by simp [D.eqk, D.pln, D.dep, hx]
      simp [wrap, bSame, bSameK, startE, sIsi, tyY, tyD, tyOk, isSub, sIs, sStr, s_eq (S := S) (x := .v (.str x)) (y := .v (.str x)) rfl rfl hk hk, D.eqv]
    | tup ds =>
      have hg' : okLen ds.length = true ∧ D.sgL ds = true := by simpa [D.sg] using hg
      have hd' : D.depL ds < n := by simpa [D.dep] using hd
      have key := same_seq (r := mSame n) (S := S) (y := .v (.tup ds)) rfl (fun _ h => by cases h) hg'.1 (fun d hm => ih d (sgL_mem hg'.2 hm) (by have := depL_mem hm; omega)) (env := [some (.v (.tup ds)), some (.v (.tup ds)), none]) rfl rfl rfl rfl
      exact same_K (.inl rfl) key
    | lst ds =>
      have hg' : okLen ds.length = true ∧ D.sgL ds = true := by simpa [D.sg] using hg
      have hd' : D.depL ds < n := by simpa [D.dep] using hd
      have key := same_seq (r := mSame n) (S := S) (y := .v (.lst ds)) rfl (fun _ h => by cases h) hg'.1 (fun d hm => ih d (sgL_mem hg'.2 hm) (by have := depL_mem hm; omega)) (env := [some (.v (.lst ds)), some (.v (.lst ds)), none]) rfl rfl rfl rfl
      exact same_K (.inr rfl) key
    | _ => simp [D.sg] at hg
end Sg

/-! P4: more of what mirrors compute -/
namespace Sg
open PySem PySem.Spec PyProof.Rows L2
section
variable {env : Ev} {S : Sto} {m : Bool} {vs : List Nat} {fi : FE (List D)} {t : Tg} {ft : FE Bool} {fe : FE Y}
theorem lc_yes {α : Type} (l : List α) (c : α → D) (g : α → D) {ds : List D} {S0 : Sto} (hi : fi env S0 = .ok ds S) (hd : ds = l.map c) (hl : l.length ≤ 16777216)
    (h : ∀ x ∈ l, ∃ env1, t.asg (c x) (wipeE vs env) = some env1 ∧ fe env1 S = .ok (.v (g x)) S) : fLc m vs fi t fYes fe env S0 = newL m (l.map g) S := by
  have e := lc_map (m := m) (t := t) (ft := fYes) (fe := fe) l c (fun _ => true) g hi hd hl fun x hx => by
    obtain ⟨env1, e1, e2⟩ := h x hx
    exact ⟨env1, e1, rfl, fun _ => e2⟩
  rw [e]
  congr 2
  exact List.filter_eq_self.mpr fun _ _ => rfl
theorem blsD_mapP {α : Type} (p : α → Bool) : ∀ l : List α, blsD (l.map fun x => D.bl (p x)) = some (l.map p)
  | [] => rfl
  | x :: l => by simp [blsD, blsD_mapP p l]
theorem all_map {α : Type} (p : α → Bool) (l : List α) : sAll [.v (.lst (l.map fun x => D.bl (p x)))] S = .ok (.v (.bl (l.all p))) S := by
  simp only [sAll, getL_v, blsD_mapP p l]
  congr 3
  rw [List.all_map]; rfl
theorem all_lc {α : Type} (l : List α) (c : α → D) (p : α → Bool) {ds : List D} {S0 : Sto} (hi : fi env S0 = .ok ds S) (hd : ds = l.map c) (hl : l.length ≤ 16777216)
    (h : ∀ x ∈ l, ∃ env1, t.asg (c x) (wipeE vs env) = some env1 ∧ fe env1 S = .ok (.v (.bl (p x))) S) : fCall sAll (fCons (fLc false vs fi t fYes fe) fNil) env S0 = .ok (.v (.bl (l.all p))) S := by
  rw [ev_call, ev_cons, lc_yes l c (fun x => D.bl (p x)) hi hd hl h]
  simp only [newL_f, Res.bind, ev_nil]
  exact all_map p l
/-- tuple([..]) -/
theorem tup_lc {α : Type} (l : List α) (c : α → D) (p : α → Bool) (g : α → D) {ds : List D} {S0 : Sto} (hi : fi env S0 = .ok ds S) (hd : ds = l.map c) (hl : l.length ≤ 16777216)
    (h : ∀ x ∈ l, ∃ env1, t.asg (c x) (wipeE vs env) = some env1 ∧ ft env1 S = .ok (p x) S ∧ (p x = true → fe env1 S = .ok (.v (g x)) S)) : fCall sTuple (fCons (fLc false vs fi t ft fe) fNil) env S0 = .ok (.v (.tup ((l.filter p).map g))) S := by
  rw [ev_call, ev_cons, lc_map l c p g hi hd hl h]
  simp
theorem tup_lcy {α : Type} (l : List α) (c : α → D) (g : α → D) {ds : List D} {S0 : Sto} (hi : fi env S0 = .ok ds S) (hd : ds = l.map c) (hl : l.length ≤ 16777216)
    (h : ∀ x ∈ l, ∃ env1, t.asg (c x) (wipeE vs env) = some env1 ∧ fe env1 S = .ok (.v (g x)) S) : fCall sTuple (fCons (fLc false vs fi t fYes fe) fNil) env S0 = .ok (.v (.tup (l.map g))) S := by
  rw [ev_call, ev_cons, lc_yes l c g hi hd hl h]
  simp
end
theorem zipL_zip : ∀ as bs : List D, zipL as bs = (as.zip bs).map fun p => D.tup [p.1, p.2]
  | [], _ => by simp [zipL]
  | _ :: _, [] => by simp [zipL]
  | a :: as, b :: bs => by simp [zipL, zipL_zip as bs]
theorem enumL_zip : ∀ (k : Nat) (ds : List D), enumL k ds = ((List.range ds.length).zip ds).map fun p => D.tup [.int ((k + p.1 : Nat) : Int), p.2]
  | _, [] => by simp [enumL]
  | k, d :: ds => by
    rw [enumL, enumL_zip (k + 1) ds, List.length_cons, List.range_succ_eq_map]
    simp only [List.zip_cons_cons, List.map_cons, Nat.add_zero, List.cons.injEq, true_and]
    rw [List.zip_map_left, List.map_map]
    apply List.map_congr_left
    intro p hp
    simp only [Function.comp, Prod.map, id]
    congr 4
    omega
theorem cut_drop {α : Type} (ds : List α) (k : Nat) : cut ds (some (k : Int)) none = ds.drop k := by
  unfold cut
  rw [HT.sIx_nat, HT.sIx_none]
  by_cases h : k ≤ ds.length
  · rw [Nat.min_eq_left h, List.take_of_length_le (by rw [List.length_drop]; omega)]
  · rw [Nat.min_eq_right (by omega), List.drop_eq_nil_of_le (Nat.le_refl _), List.drop_eq_nil_of_le (by omega)]
    simp
theorem cut_take {α : Type} (ds : List α) (k : Nat) : cut ds none (some (k : Int)) = ds.take k := by
  unfold cut
  rw [HT.sIx_nat, HT.sIx_none, List.drop_zero, Nat.sub_zero]
  by_cases h : k ≤ ds.length
  · rw [Nat.min_eq_left h]
  · rw [Nat.min_eq_right (by omega), List.take_of_length_le (Nat.le_refl _), List.take_of_length_le (by omega)]
theorem s_slT {m : Bool} {ds : List D} {lo hi : Option Int} {S : Sto} : sSl m (.v (.tup ds)) lo hi S = .ok (.v (.tup (cut ds lo hi))) S := rfl
theorem s_slL {m : Bool} {ds : List D} {lo hi : Option Int} {S : Sto} : sSl m (.v (.lst ds)) lo hi S = newL m (cut ds lo hi) S := rfl
/-- plain, of little depth -/
def vg (d : D) : Prop := d.pln = true ∧ d.dep ≤ 20
def tupD (v : D) : List D := match v with
  | .tup ds => ds
  | _ => []
theorem vg_items {ds : List D} (h : vg (.tup ds)) : ∀ d ∈ ds, vg d ∧ d.dep ≤ 19 := fun d hm => by
  have h1 : D.plnL ds = true := by simpa [D.pln] using h.1
  have h2 : D.depL ds + 1 ≤ 20 := by simpa [D.dep] using h.2
  have h3 := depL_mem hm
  have h4 : ∀ {es : List D}, D.plnL es = true → d ∈ es → d.pln = true := fun {es} g m => by
    induction es with
    | nil => exact absurd m List.not_mem_nil
    | cons e es ih =>
      have g' : D.pln e = true ∧ D.plnL es = true := by simpa [D.plnL] using g
      rcases List.mem_cons.mp m with rfl | m
      · exact g'.1
      · exact ih g'.2 m
  exact ⟨⟨h4 h1 hm, by omega⟩, by omega⟩
theorem vg_of {ds : List D} (h : ∀ d ∈ ds, d.pln = true ∧ d.dep ≤ 19) : vg (.tup ds) := ⟨by simp only [D.pln]; exact plnL_of fun d hm => (h d hm).1, by simp only [D.dep]; have := depL_le (n := 19) fun d hm => (h d hm).2; omega⟩
theorem vg_int (i : Int) : vg (.int i) := ⟨by simp [D.pln], by simp [D.dep]⟩
/-! ### step by step -/
def fin (keep : Bool) (n : Nat) : SR → Res Y
  | .nx _ S1 => close keep n (.v .non) S1
  | .rt y S1 => close keep n y S1
  | .exc x _ S1 => .exc x (S1.take n)
  | _ => .bad
section
variable {env env1 : Ev} {S S1 : Sto} {f : FE Y} {fs : FE (List Y)} {F G : FS} {t : FE Bool} {y : Y} {ys : List Y} {i n : Nat} {ds : List D} {fi : FE (List D)} {tg : Tg} {keep : Bool} {d : D}
theorem wrap_fin : wrap keep n F ys S = fin keep S.length (F (startE n ys) S) := by
  unfold wrap
  cases F (startE n ys) S <;> rfl
theorem fin_rt : fin keep n (.rt (.v d) S) = .ok (.v d) (S.take n) := rfl
theorem fin_nx : fin keep n (.nx env S) = .ok (.v .non) (S.take n) := rfl
theorem fin_rtS : fin keep S.length (.rt (.v d) S) = .ok (.v d) S := by rw [fin_rt, List.take_length]
theorem seq_nx (h : F env S = .nx env1 S1) : fSeq F G env S = G env1 S1 := by rw [ev_seq, h]; rfl
theorem seq_rt (h : F env S = .rt y S1) : fSeq F G env S = .rt y S1 := by rw [ev_seq, h]; rfl
theorem ret_ok (h : f env S = .ok y S1) : fRet f env S = .rt y S1 := by rw [ev_ret, h]; rfl
theorem drop_ok (h : f env S = .ok y S1) : fDrop f env S = .nx env S1 := by rw [ev_drop, h]; rfl
theorem set_ok (h : f env S = .ok y S1) : fSet i f env S = .nx (env.set i (some y)) S1 := by rw [ev_set, h]; rfl
theorem ifs_t (h : t env S = .ok true S1) : fIfS t F G env S = F env S1 := by rw [ev_ifs, h]; rfl
theorem ifs_f (h : t env S = .ok false S1) : fIfS t F G env S = G env S1 := by rw [ev_ifs, h]; rfl
theorem for_ok (h : fi env S = .ok ds S1) : fFor tg fi F env S = forD tg F ds env S1 := by rw [ev_for, h]; rfl
theorem asg_ok' (h : f env S = .ok (.v d) S1) (h1 : tg.asg d env = some env1) : fAsg tg f env S = .nx env1 S1 := by
  rw [ev_asg, h]; simp only [Res.bindE, h1]
theorem own_ok {m : List Y → Sto → Res Y} {r : Res Y} (h : fs env S = .ok ys S1) (hn : ys.length = n) (hm : m ys S1 = r) : fOwn n m fs env S = r := by
  rw [ev_own, h]; simp only [Res.bind, hn, if_true, hm]
theorem cons_ok {S2 : Sto} (h : f env S = .ok y S1) (h2 : fs env S1 = .ok ys S2) : fCons f fs env S = .ok (y :: ys) S2 := by
  rw [ev_cons, h]; simp only [Res.bind, h2]
theorem tru_ok {b : Bool} (h : f env S = .ok (.v (.bl b)) S1) : fTru f env S = .ok b S1 := by rw [ev_tru, h]; rfl
theorem not_ok {b : Bool} (h : t env S = .ok b S1) : fNot t env S = .ok (!b) S1 := by rw [ev_not, h]; rfl
theorem test_ok {b : Bool} (h : f env S = .ok (.v (.bl b)) S1) : fTest f env S = .ok b S1 := by rw [ev_test, h]; rfl
theorem bin_ok {g : FE Y} {sem : Y → Y → Sto → Res Y} {z : Y} {S2 : Sto} {r : Res Y} (h : f env S = .ok y S1) (h2 : g env S1 = .ok z S2) (h3 : sem y z S2 = r) : fBin sem f g env S = r := by
  rw [ev_bin, h]; simp only [Res.bind, h2, h3]
theorem call_ok {sem : List Y → Sto → Res Y} {r : Res Y} (h : fs env S = .ok ys S1) (h2 : sem ys S1 = r) : fCall sem fs env S = r := by
  rw [ev_call, h]; simp only [Res.bind, h2]
theorem tup_ok {S2 : Sto} (h : fs env S = .ok ys S1) (h2 : thaw ys S1 = some (ds, S2)) (h3 : ds.length ≤ 16777216) : fTup fs env S = .ok (.v (.tup ds)) S2 := by
  rw [ev_tup', h]; simp only [Res.bind, h2, okLen_of h3, if_true]
theorem lst_ok {S2 : Sto} (h : fs env S = .ok ys S1) (h2 : thaw ys S1 = some (ds, S2)) (h3 : ds.length ≤ 16777216) : fLst false fs env S = .ok (.v (.lst ds)) S2 := by
  rw [ev_lst, h]; simp only [Res.bind, h2, okLen_of h3, if_true, newL_f]
theorem var_ok (h : env[i]? = some (some y)) : fVar i env S = .ok y S := ev_var h
end
end Sg

/-! P5: parts that many laws share -/
namespace Sg
open PySem PySem.Spec PyProof.Rows L2
theorem cut_1 {ds : List D} : cut ds (some 1) none = ds.tail := by rw [← List.drop_one]; exact cut_drop ds 1
theorem vg_tup_ints (ns : List Int) : vg (.tup (ns.map D.int)) := vg_of fun d hd => by
  obtain ⟨i, _, rfl⟩ := List.mem_map.mp hd
  simp [D.pln, D.dep]
def notInt (d : D) : Bool := match d with
  | .int _ => false
  | _ => true
theorem eqk_lst {ds : List D} (h : ∀ d ∈ ds, d.pln = true ∧ d.dep ≤ 19) : (D.lst ds).eqk = true := by
  have h1 : D.plnL ds = true := plnL_of fun d hd => (h d hd).1
  have h2 := depL_le (n := 19) fun d hd => (h d hd).2
  simp [D.eqk, D.pln, D.dep, h1]; omega
theorem eqv_nil {ds : List D} : D.eqv (.lst ds) (.lst []) = ds.isEmpty := by
  cases ds <;> simp [D.eqv, D.eqvL]
theorem mem_int (x : Int) : ∀ ns : List Int, D.mem (.int x) (ns.map D.int) = decide (x ∈ ns)
  | [] => by simp [D.mem]
  | y :: ns => by
    have ih := mem_int x ns
    simp only [D.mem, List.map_cons, List.any_cons] at ih ⊢
    rw [ih]
    simp only [D.eqv]
    by_cases h1 : y = x <;> by_cases h2 : x ∈ ns <;> simp [h1, h2]
    have h3 : ¬ x = y := fun h => h1 h.symm
    simp [h1, h3]
theorem s_inT {n : Bool} {x : Int} {ns : List Int} {S : Sto} : sIn n (.v (.int x)) (.v (.tup (ns.map D.int))) S = .ok (.v (.bl (xor n (decide (x ∈ ns))))) S := by
  have h := eqk_intsT ns
  simp [sIn, mem_int, h]
def upTo (n : Nat) : List Int := (List.range n).map fun (i : Nat) => 1 + (i : Int)
def dn (n : Nat) : List Int := (List.range n).map fun (i : Nat) => (n : Int) + (i : Int) * (-1)
theorem rngD_up (n : Nat) : rngD 1 n = (upTo n).map D.int := by simp [rngD, upTo]
theorem rngC_dn (n : Nat) : rngC (n : Int) (-1) n = (dn n).map D.int := by simp [rngC, dn]
theorem mem_up {n : Nat} {x : Int} : x ∈ upTo n ↔ 1 ≤ x ∧ x ≤ n := by
  unfold upTo
  rw [List.mem_map]
  constructor
  · rintro ⟨i, hi, rfl⟩
    have := List.mem_range.mp hi
    omega
  · intro h
    exact ⟨(x - 1).toNat, List.mem_range.mpr (by omega), by omega⟩
theorem up_pw (n : Nat) : (upTo n).Pairwise (· < ·) := by
  unfold upTo
  rw [List.pairwise_map]
  exact List.pairwise_lt_range.imp fun h => by omega
theorem len_up (n : Nat) : (upTo n).length = n := by simp [upTo]
theorem len_dn (n : Nat) : (dn n).length = n := by simp [dn]
theorem i_rng3 {n : Nat} (hn : n ≤ 1000) {env : Ev} {S : Sto} {f : FE Y} (h : f env S = .ok (.v (.int n)) S) : fIt sRng3 (fCons f (fCons (fC (.int 0)) (fCons (fUn sNeg (fC (.int 1))) fNil))) env S = .ok ((dn n).map D.int) S := by
  have e := s_rng3 (S := S) (a := (n : Int)) (b := 0) (okR_of (by omega) (by omega)) (okR_of (by omega) (by omega))
  rw [Int.sub_zero, Int.toNat_natCast, rngC_dn] at e
  simp only [ev_it, ev_cons, h, Res.bind, ev_c, ev_un, s_neg, ev_nil]
  exact e
theorem i_rng2 {n : Nat} (hn : n ≤ 1000) {env : Ev} {S : Sto} {f : FE Y} (h : f env S = .ok (.v (.int n)) S) : fIt sRng2 (fCons (fC (.int 1)) (fCons (fBin (sAdd false) f (fC (.int 1))) fNil)) env S = .ok ((upTo n).map D.int) S := by
  rw [ev_it, ev_cons]
  simp only [Res.bind, ev_cons, ev_c, ev_bin, h, s_add, ev_nil]
  rw [s_rng2 (okR_of (by omega) (by omega)) (okR_of (by omega) (by omega)), show ((n : Int) + 1 - 1).toNat = n by omega, rngD_up]
def posA : Int → List Int → List Int
  | _, [] => []
  | k, s :: r => if s = 1 then (k + 1) :: posA (k + 1) r else posA (k + 1) r
def numb : Nat → List Int → List (Int × Int)
  | _, [] => []
  | k, s :: r => ((k : Int), s) :: numb (k + 1) r
theorem enumL_numb : ∀ (k : Nat) (ws : List Int), enumL k (ws.map D.int) = (numb k ws).map fun p => D.tup [.int p.1, .int p.2]
  | _, [] => rfl
  | k, s :: r => by simp [enumL, numb, enumL_numb (k + 1) r]
theorem len_numb : ∀ (k : Nat) (ws : List Int), (numb k ws).length = ws.length
  | _, [] => rfl
  | k, s :: r => by simp [numb, len_numb (k + 1) r]
theorem rngD_get' {lo : Int} {n j : Nat} {d : D} (h : (rngD lo n)[j]? = some d) : j < n ∧ d = .int (lo + j) := rngD_get h
theorem i_rng1 {n : Nat} (hn : n ≤ 1000) {env : Ev} {S : Sto} {f : FE Y} (h : f env S = .ok (.v (.int n)) S) : fIt sRng1 (fCons f fNil) env S = .ok (rngD 0 n) S := by
  have e := s_rng1 (S := S) (a := (n : Int)) (okR_of (by omega) (by omega))
  rw [Int.toNat_natCast] at e
  simp only [ev_it, ev_cons, h, Res.bind, ev_nil]
  exact e
theorem zip_ints : ∀ (a b : List Int), (a.map D.int).zip (b.map D.int) = (a.zip b).map fun p => (D.int p.1, D.int p.2)
  | [], _ => by simp
  | _ :: _, [] => by simp
  | x :: a, y :: b => by simp [zip_ints a b]
theorem CupOk.len {S : Sto} (h : CupOk S) : S.length = 1 := by obtain ⟨a, b, rfl, _⟩ := h; rfl
theorem ex_seq {F G : FS} {env env1 : Ev} {S S1 : Sto} {I : Ev → Sto → Prop} (h : F env S = .nx env1 S1) (k : ∃ env2 S2, G env1 S1 = .nx env2 S2 ∧ I env2 S2) : ∃ env2 S2, fSeq F G env S = .nx env2 S2 ∧ I env2 S2 := by
  rw [seq_nx h]; exact k
theorem if_nx {t : FE Bool} {F : FS} {env : Ev} {S S1 : Sto} (h : t env S = .ok false S1) : fIfS t F fNx env S = .nx env S1 := (ifs_f h).trans ev_nx
theorem nsame {f : FE Y} {env : Ev} {S S1 : Sto} (h : f env S = .ok (.v (.bl true)) S1) : fNot (fTru f) env S = .ok false S1 := not_ok (tru_ok h)
theorem a2v {env : Ev} {S : Sto} {i j : Nat} {y z : Y} (h1 : env[i]? = some (some y)) (h2 : env[j]? = some (some z)) : fCons (fVar i) (fCons (fVar j) fNil) env S = .ok [y, z] S := cons_ok (var_ok h1) (cons_ok (var_ok h2) ev_nil)
def valOk (d : D) : Prop := vg d ∧ (tupD d).length < 63
theorem val_ints {ns : List Int} (h : ns.length < 63) : valOk (.tup (ns.map D.int)) := ⟨vg_tup_ints ns, by simpa [tupD] using h⟩
theorem val_odd {ns : List Int} {k : Nat} {d : D} (h : ns.length < 60) (hd : d.pln = true ∧ d.dep ≤ 19) : valOk (.tup ((ns.map D.int).take k ++ [d] ++ (ns.map D.int).drop k)) := by
  refine ⟨vg_of fun e he => ?_, ?_⟩
  · rcases List.mem_append.mp he with he | he
    · rcases List.mem_append.mp he with he | he
      · obtain ⟨i, _, rfl⟩ := List.mem_map.mp (List.mem_of_mem_take he)
        simp [D.pln, D.dep]
      · rw [List.mem_singleton.mp he]; exact hd
    · obtain ⟨i, _, rfl⟩ := List.mem_map.mp (List.mem_of_mem_drop he)
      simp [D.pln, D.dep]
  · simp only [tupD, List.length_append, List.length_take, List.length_drop, List.length_map, List.length_singleton]; omega
theorem cut_map {ns : List Int} {lo hi : Option Int} : cut (ns.map D.int) lo hi = (cut ns lo hi).map D.int := by
  unfold cut; rw [List.length_map, List.map_take, List.map_drop]
theorem cut_len {ns : List Int} {lo hi : Option Int} : (cut ns lo hi).length ≤ ns.length := by
  unfold cut; rw [List.length_take, List.length_drop]; omega
theorem s_sortU {ns : List Int} {S : Sto} : sSortedU false [.v (.tup (ns.map D.int))] S = .ok (.v (.lst ((sortI ns).map D.int))) S := by simp [sSortedU]
theorem sTupR_ok {i j : Int} {S : Sto} (h1 : okR i = true) (h2 : okR j = true) (h3 : okLen (j - i).toNat = true) : sTupR (.v (.int i)) (.v (.int j)) S = .ok (i, j) S := if_pos ⟨h1, h2, h3⟩
theorem tupR_ok {i j : Int} {env : Ev} {S : Sto} {f g : FE Y} (hf : f env S = .ok (.v (.int i)) S) (hg : g env S = .ok (.v (.int j)) S) (h1 : okR i = true) (h2 : okR j = true) (h3 : okLen (j - i).toNat = true) : fTupR false false f g env S = .ok (.v (.tup (rngD i (j - i).toNat))) S := by
  unfold fTupR
  rw [hf]
  simp only [Res.bind, hg, sTupR_ok h1 h2 h3]
  rfl
theorem i_tupR {n : Nat} (hn : n ≤ 1000) {env : Ev} {S : Sto} {f g : FE Y} (hf : f env S = .ok (.v (.int 1)) S) (hg : g env S = .ok (.v (.int ((n : Int) + 1))) S) : fTupR false false f g env S = .ok (.v (.tup ((upTo n).map D.int))) S := by
  have k1 : okR 1 = true := okR_of (by omega) (by omega)
  have k2 : okR ((n : Int) + 1) = true := okR_of (by omega) (by omega)
  have k3 : ((n : Int) + 1 - 1).toNat = n := by omega
  have k4 : okLen n = true := okLen_of (by omega)
  exact (tupR_ok hf hg k1 k2 (by rw [k3]; exact k4)).trans (by rw [k3, rngD_up])
theorem strOk_1 : PyData.strOk "1" = true := by decide +kernel
theorem strOk_12 : PyData.strOk "12" = true := by decide +kernel
theorem nat_of {x lo hi : Int} (h0 : 0 ≤ lo) (h : lo ≤ x ∧ x ≤ hi) : ∃ n : Nat, x = n ∧ lo ≤ n ∧ (n : Int) ≤ hi := ⟨x.toNat, by omega, by omega, by omega⟩
theorem s_rep2 {x : D} {S : Sto} : sMul false (.v (.tup [x])) (.v (.int 2)) S = .ok (.v (.tup [x, x])) S := rfl
theorem sl_ok {m : Bool} {f : FE Y} {lo hi : FE (Option Int)} {env : Ev} {S S1 S2 S3 : Sto} {y : Y} {l u : Option Int} {r : Res Y} (h : f env S = .ok y S1) (h1 : lo env S1 = .ok l S2) (h2 : hi env S2 = .ok u S3) (h3 : sSl m y l u S3 = r) : fSl m f lo hi env S = r := by
  rw [ev_sl, h]; simp only [Res.bind, h1, h2, h3]
theorem part_ok {f : FE Y} {env : Ev} {S S1 : Sto} {i : Int} (h : f env S = .ok (.v (.int i)) S1) : fPart f env S = .ok (some i) S1 := by rw [ev_part, h]; rfl
theorem its_okT {f : FE Y} {env : Ev} {S S1 : Sto} {ds : List D} (h : f env S = .ok (.v (.tup ds)) S1) : fItS f env S = .ok ds S1 := by rw [ev_its, h]; rfl
theorem its_okL {f : FE Y} {env : Ev} {S S1 : Sto} {ds : List D} (h : f env S = .ok (.v (.lst ds)) S1) : fItS f env S = .ok ds S1 := by rw [ev_its, h]; rfl
theorem un_ok {f : FE Y} {sem : Y → Sto → Res Y} {env : Ev} {S S1 : Sto} {y : Y} {r : Res Y} (h : f env S = .ok y S1) (h1 : sem y S1 = r) : fUn sem f env S = r := by rw [ev_un, h]; exact h1
theorem if_t {t : FE Bool} {f g : FE Y} {env : Ev} {S S1 : Sto} (h : t env S = .ok true S1) : fIf t f g env S = f env S1 := by rw [ev_if, h]; rfl
theorem if_f {t : FE Bool} {f g : FE Y} {env : Ev} {S S1 : Sto} (h : t env S = .ok false S1) : fIf t f g env S = g env S1 := by rw [ev_if, h]; rfl
theorem or_ff {t u : FE Bool} {env : Ev} {S S1 S2 : Sto} (h : t env S = .ok false S1) (h1 : u env S1 = .ok false S2) : fOr t u env S = .ok false S2 := by rw [ev_or, h]; simp only [Res.bind, h1]; rfl
theorem depI (ns : List Int) : D.dep (.tup (ns.map D.int)) = 1 := by have := ints_dep ns; simp [D.dep]; omega
theorem sgI {ns : List Int} (h : ns.length ≤ 16777216) : D.sg (.tup (ns.map D.int)) = true := by
  have h1 : okLen ns.length = true := okLen_of h
  simp only [D.sg, List.length_map, h1, Bool.true_and]
  exact sgL_of fun d hd => by obtain ⟨i, _, rfl⟩ := List.mem_map.mp hd; rfl
theorem pow30 {S : Sto} : sPow (.v (.int 10)) (.v (.int 30)) S = .ok (.v (.int (10 ^ 30))) S := s_pow ⟨by decide, by decide, by decide⟩
theorem s_neg1 {env : Ev} {S : Sto} : fUn sNeg (fC (.int 1)) env S = .ok (.v (.int (-1))) S := rfl
theorem s_revT {ds : List D} {S : Sto} : sRev false (.v (.tup ds)) S = .ok (.v (.tup ds.reverse)) S := rfl
end Sg


namespace Sg
open PySem PySem.Spec PyProof.Rows L2
abbrev Pw : Program := PySem.Challenge.pw_signway_k03_whole_ways_one_by_one_and_nu
def topS (i : Nat) : Stmt := Pw.main.body.getD i (.Pass ⟨0, 0, 0, 0⟩)
/-! ### _law_cup -/
abbrev st_law_cupU : Stmt := topS 24
abbrev N_law_cupU : List Str := ["script", "cell"]
abbrev P_law_cupU : List Str := ["script"]
theorem sc_law_cupU : FnScope N_law_cupU P_law_cupU (defScope st_law_cupU) := ⟨rfl, rfl, rfl, by decide +kernel, rfl, by decide +kernel, by decide +kernel⟩
def b_law_cupU : FS :=
  (fSeq (fSet 1 (fCall sAbs (fCons (fBin sIx (fBin (sAdd false) (fCall (sList false) (fCons (fVar 0) fNil)) (fLst false (fCons (fC (.int 0)) fNil))) (fC (.int 0))) fNil)))
  (fRet (fLst true (fCons (fIf (fTest (fBin sGe (fVar 1) (fBin sPow (fC (.int 10)) (fC (.int 18))))) (fBin sFdiv (fVar 1) (fC (.int 73))) (fC (.int 0))) (fCons (fBin (sAdd false) (fBin sMod (fCall sInt (fCons (fBin (sAdd false) (fBin (sMul false) (fVar 1) (fC (.int 991))) (fC (.int 5347))) fNil)) (fC (.int 2099900749))) (fC (.int 853))) fNil)))))
def m_law_cupU : List Y → Sto → Res Y := wrap true 2 b_law_cupU
set_option maxHeartbeats 4000000 in
theorem fn_law_cupU {w : World} {K : PySem.W.Frag} {mg : Str → Option Value} {base : Heap} (blt : ∀ (j : Nat) (x : Str), bls[j]? = some x → mg x = none) {f : Addr} {fd : FuncData} (F : Fun K "_law_cup" "_law_cup" st_law_cupU f fd) : FnOk Pw w K mg base (L2.CX Pw w) 1 f fd P_law_cupU (spM K mg 1 m_law_cupU) :=
  fn_mk (k := 0) true F sc_law_cupU (fun cdv A outer s H E hr => by
    have O := okS (P := Pw) (w := w) (K := K) (base := base) (outer := outer) (H := H) (E := E) (vl := [(1, "cell"), (0, "script")]) (wl := [(1, "cell"), (0, "script")]) (gl := ["abs", "list", "int"]) sc_law_cupU hr (by decide +kernel) blt
    exact (rss_cons (rs_set O.o 0 (re_abs O.o 0 (ra_cons (re_ix (re_add false (re_listc false O.o 1 (ra_cons (re_var O.o 1) ra_nil)) (re_lst false (ra_cons re_int ra_nil))) re_int) ra_nil)))
  (rss_one (rs_ret (re_lst true (ra_cons (re_if (rt_ge (re_var O.o 0) (re_pow re_int re_int)) (re_fdiv (re_var O.o 0) re_int) re_int) (ra_cons (re_add false (re_mod (re_intc O.o 2 (ra_cons (re_add false (re_mul false (re_var O.o 0) re_int) re_int) ra_nil)) re_int) re_int) ra_nil)))))))
/-! ### _law_same -/
abbrev st_law_sameU : Stmt := topS 27
abbrev N_law_sameU : List Str := ["told", "due", "at"]
abbrev P_law_sameU : List Str := ["told", "due"]
theorem sc_law_sameU : FnScope N_law_sameU P_law_sameU (defScope st_law_sameU) := ⟨rfl, rfl, rfl, by decide +kernel, rfl, by decide +kernel, by decide +kernel⟩
def b_law_sameU (r : List Y → Sto → Res Y) : FS :=
  (fSeq (fIfS (fOr (fTru (fCall sIsi (fCons (fVar 1) (fCons (fC (.ty "tuple")) fNil)))) (fTru (fCall sIsi (fCons (fVar 1) (fCons (fC (.ty "list")) fNil))))) (fSeq (fIfS (fOr (fTest (fBin sNe (fCall sIsi (fCons (fVar 0) (fCons (fC (.ty "tuple")) fNil))) (fCall sIsi (fCons (fVar 1) (fCons (fC (.ty "tuple")) fNil))))) (fOr (fTest (fBin sNe (fCall sIsi (fCons (fVar 0) (fCons (fC (.ty "list")) fNil))) (fCall sIsi (fCons (fVar 1) (fCons (fC (.ty "list")) fNil))))) (fTest (fBin sNe (fCall sLen (fCons (fVar 0) fNil)) (fCall sLen (fCons (fVar 1) fNil)))))) (fRet (fC (.bl false))) fNx)
  (fRet (fBin sEq (fLc false [2] (fIt sRng1 (fCons (fCall sLen (fCons (fVar 1) fNil)) fNil)) (.nm 2) (fNot (fTru (fOwn 2 (r) (fCons (fBin sIx (fVar 0) (fVar 2)) (fCons (fBin sIx (fVar 1) (fVar 2)) fNil))))) (fC (.int 1))) (fLst false fNil)))) fNx)
  (fSeq (fIfS (fTest (fBin (sIs false) (fVar 1) (fC .non))) (fRet (fBin (sIs false) (fVar 0) (fC .non))) fNx)
  (fSeq (fIfS (fTru (fCall sIsi (fCons (fVar 1) (fCons (fC (.ty "bool")) fNil)))) (fRet (fIf (fTru (fVar 1)) (fBin (sIs false) (fVar 0) (fC (.bl true))) (fBin (sIs false) (fVar 0) (fC (.bl false))))) fNx)
  (fSeq (fIfS (fTru (fCall sIsi (fCons (fVar 1) (fCons (fC (.ty "int")) fNil)))) (fRet (fAndV (fCall sIsi (fCons (fVar 0) (fCons (fC (.ty "int")) fNil))) (fAndV (fNotV (fCall sIsi (fCons (fVar 0) (fCons (fC (.ty "bool")) fNil)))) (fBin sEq (fCall sInt (fCons (fVar 0) fNil)) (fVar 1))))) fNx)
  (fRet (fAndV (fCall sIsi (fCons (fVar 0) (fCons (fC (.ty "str")) fNil))) (fBin sEq (fCall sStr (fCons (fVar 0) fNil)) (fVar 1))))))))
def m_law_sameU : Nat → List Y → Sto → Res Y
  | 0 => fun _ _ => .bad
  | n + 1 => wrap false 3 (b_law_sameU (m_law_sameU n))
set_option maxHeartbeats 4000000 in
theorem fn_law_sameU {w : World} {K : PySem.W.Frag} {mg : Str → Option Value} {base : Heap} (blt : ∀ (j : Nat) (x : Str), bls[j]? = some x → mg x = none) {f : Addr} {fd : FuncData} (F : Fun K "_law_same" "_law_same" st_law_sameU f fd) (gx : mg "_law_same" = some (.ref f)) : ∀ n : Nat, Def Pw w K mg base "_law_same" 2 (1 + n) (m_law_sameU n)
  | 0 => def_bad (j := 0) F gx sc_law_sameU (F.binds (ps := P_law_sameU) fun _ _ _ _ _ _ us hl => match us, hl with | [_, _], _ => rfl)
  | n + 1 => by
    have ih := fn_law_sameU (w := w) (base := base) blt F gx n
    exact def_rec (k := 1 + n) false F gx sc_law_sameU (F.binds (ps := P_law_sameU) fun _ _ _ _ _ _ us hl => match us, hl with | [_, _], _ => rfl) (fun cdv A outer s H E hr => by
    have O := okS (P := Pw) (w := w) (K := K) (base := base) (outer := outer) (H := H) (E := E) (vl := [(1, "due"), (0, "told")]) (wl := [(1, "due"), (0, "told")]) (gl := ["isinstance", "tuple", "list", "len", "range", "bool", "int", "str"]) sc_law_sameU hr (by decide +kernel) blt
    exact (rss_cons (rs_if (rt_w (rw_or (rt_tru (re_isi O.o 0 (ra_cons (re_var O.o 0) (ra_cons (re_ty O.o 1 (n := "tuple") 13) ra_nil)))) (rw_or1 (rt_tru (re_isi O.o 0 (ra_cons (re_var O.o 0) (ra_cons (re_ty O.o 2 (n := "list") 12) ra_nil))))))) (rss_cons (rs_if (rt_w (rw_or (rt_ne O.o (re_isi O.o 0 (ra_cons (re_var O.o 1) (ra_cons (re_ty O.o 1 (n := "tuple") 13) ra_nil))) (re_isi O.o 0 (ra_cons (re_var O.o 0) (ra_cons (re_ty O.o 1 (n := "tuple") 13) ra_nil)))) (rw_or (rt_ne O.o (re_isi O.o 0 (ra_cons (re_var O.o 1) (ra_cons (re_ty O.o 2 (n := "list") 12) ra_nil))) (re_isi O.o 0 (ra_cons (re_var O.o 0) (ra_cons (re_ty O.o 2 (n := "list") 12) ra_nil)))) (rw_or1 (rt_ne O.o (re_len O.o 3 (ra_cons (re_var O.o 1) ra_nil)) (re_len O.o 3 (ra_cons (re_var O.o 0) ra_nil))))))) (rss_one (rs_ret re_bl)) rss_nil)
  (rss_one (rs_ret (re_eq O.o (re_lcO false O [("at", 2)] [(2, "at"), (0, "told"), (1, "due")] [(2, "at")] ["_law_same"] (ri_rng1 O.o 4 (ra_cons (re_len O.o 3 (ra_cons (re_var O.o 0) ra_nil)) ra_nil)) (by decide +kernel) (by decide +kernel) (by decide +kernel) (fun s H C cl fp O1 => ⟨(rg_nm O1.o 0), (rts_one (rt_not (rt_tru (re_own O1 ih 0 (ra_cons (re_ix (re_var O1.o 1) (re_var O1.o 0)) (ra_cons (re_ix (re_var O1.o 2) (re_var O1.o 0)) ra_nil)))))), re_int⟩)) (re_lst false ra_nil))))) rss_nil)
  (rss_cons (rs_if (rt_is (re_var O.o 0) re_non) (rss_one (rs_ret (re_is (re_var O.o 1) re_non))) rss_nil)
  (rss_cons (rs_if (rt_tru (re_isi O.o 0 (ra_cons (re_var O.o 0) (ra_cons (re_ty O.o 5 (n := "bool") 18) ra_nil)))) (rss_one (rs_ret (re_if (rt_tru (re_var O.o 0)) (re_is (re_var O.o 1) re_bl) (re_is (re_var O.o 1) re_bl)))) rss_nil)
  (rss_cons (rs_if (rt_tru (re_isi O.o 0 (ra_cons (re_var O.o 0) (ra_cons (re_ty O.o 6 (n := "int") 10) ra_nil)))) (rss_one (rs_ret (re_and (re_isi O.o 0 (ra_cons (re_var O.o 1) (ra_cons (re_ty O.o 6 (n := "int") 10) ra_nil))) (re_and (re_not (re_isi O.o 0 (ra_cons (re_var O.o 1) (ra_cons (re_ty O.o 5 (n := "bool") 18) ra_nil)))) (re_one (re_eq O.o (re_intc O.o 6 (ra_cons (re_var O.o 1) ra_nil)) (re_var O.o 0))))))) rss_nil)
  (rss_one (rs_ret (re_and (re_isi O.o 0 (ra_cons (re_var O.o 1) (ra_cons (re_ty O.o 7 (n := "str") 11) ra_nil))) (re_one (re_eq O.o (re_strc O.o 7 (ra_cons (re_var O.o 1) ra_nil)) (re_var O.o 0)))))))))))
/-! ### is_tuple_of -/
abbrev st_is_tuple_of : Stmt := topS 7
abbrev N_is_tuple_of : List Str := ["value", "least", "most"]
abbrev P_is_tuple_of : List Str := ["value", "least", "most"]
theorem sc_is_tuple_of : FnScope N_is_tuple_of P_is_tuple_of (defScope st_is_tuple_of) := ⟨rfl, rfl, rfl, by decide +kernel, rfl, by decide +kernel, by decide +kernel⟩
def b_is_tuple_of : FS :=
  (fRet (fAndV (fCall sIsi (fCons (fVar 0) (fCons (fC (.ty "tuple")) fNil))) (fChain sLe sLe (fVar 1) (fCall sLen (fCons (fVar 0) fNil)) (fVar 2))))
def m_is_tuple_of : List Y → Sto → Res Y := wrap false 3 b_is_tuple_of
set_option maxHeartbeats 4000000 in
theorem fn_is_tuple_of {w : World} {K : PySem.W.Frag} {mg : Str → Option Value} {base : Heap} (blt : ∀ (j : Nat) (x : Str), bls[j]? = some x → mg x = none) {f : Addr} {fd : FuncData} (F : Fun K "is_tuple_of" "is_tuple_of" st_is_tuple_of f fd) : FnOk Pw w K mg base (L2.CX Pw w) 1 f fd P_is_tuple_of (spM K mg 3 m_is_tuple_of) :=
  fn_mk (k := 0) false F sc_is_tuple_of (fun cdv A outer s H E hr => by
    have O := okS (P := Pw) (w := w) (K := K) (base := base) (outer := outer) (H := H) (E := E) (vl := [(0, "value"), (1, "least"), (2, "most")]) (wl := [(0, "value"), (1, "least"), (2, "most")]) (gl := ["isinstance", "tuple", "len"]) sc_is_tuple_of hr (by decide +kernel) blt
    exact (rss_one (rs_ret (re_and (re_isi O.o 0 (ra_cons (re_var O.o 0) (ra_cons (re_ty O.o 1 (n := "tuple") 13) ra_nil))) (re_one (re_chain op_le op_le sLe_ok sLe_ok (re_var O.o 1) (re_len O.o 2 (ra_cons (re_var O.o 0) ra_nil)) (re_var O.o 2)))))))
/-! ### fits_whole -/
abbrev st_fits_whole : Stmt := topS 6
abbrev N_fits_whole : List Str := ["value", "low", "high"]
abbrev P_fits_whole : List Str := ["value", "low", "high"]
theorem sc_fits_whole : FnScope N_fits_whole P_fits_whole (defScope st_fits_whole) := ⟨rfl, rfl, rfl, by decide +kernel, rfl, by decide +kernel, by decide +kernel⟩
def b_fits_whole : FS :=
  (fRet (fAndV (fCall sIsi (fCons (fVar 0) (fCons (fC (.ty "int")) fNil))) (fAndV (fNotV (fCall sIsi (fCons (fVar 0) (fCons (fC (.ty "bool")) fNil)))) (fChain sLe sLe (fVar 1) (fVar 0) (fVar 2)))))
def m_fits_whole : List Y → Sto → Res Y := wrap false 3 b_fits_whole
set_option maxHeartbeats 4000000 in
theorem fn_fits_whole {w : World} {K : PySem.W.Frag} {mg : Str → Option Value} {base : Heap} (blt : ∀ (j : Nat) (x : Str), bls[j]? = some x → mg x = none) {f : Addr} {fd : FuncData} (F : Fun K "fits_whole" "fits_whole" st_fits_whole f fd) : FnOk Pw w K mg base (L2.CX Pw w) 1 f fd P_fits_whole (spM K mg 3 m_fits_whole) :=
  fn_mk (k := 0) false F sc_fits_whole (fun cdv A outer s H E hr => by
    have O := okS (P := Pw) (w := w) (K := K) (base := base) (outer := outer) (H := H) (E := E) (vl := [(0, "value"), (1, "low"), (2, "high")]) (wl := [(0, "value"), (1, "low"), (2, "high")]) (gl := ["isinstance", "int", "bool"]) sc_fits_whole hr (by decide +kernel) blt
    exact (rss_one (rs_ret (re_and (re_isi O.o 0 (ra_cons (re_var O.o 0) (ra_cons (re_ty O.o 1 (n := "int") 10) ra_nil))) (re_and (re_not (re_isi O.o 0 (ra_cons (re_var O.o 0) (ra_cons (re_ty O.o 2 (n := "bool") 18) ra_nil)))) (re_one (re_chain op_le op_le sLe_ok sLe_ok (re_var O.o 1) (re_var O.o 0) (re_var O.o 2))))))))
/-! ### fits_word -/
abbrev st_fits_word : Stmt := topS 8
abbrev N_fits_word : List Str := ["value", "sign"]
abbrev P_fits_word : List Str := ["value"]
theorem sc_fits_word : FnScope N_fits_word P_fits_word (defScope st_fits_word) := ⟨rfl, rfl, rfl, by decide +kernel, rfl, by decide +kernel, by decide +kernel⟩
def b_fits_word : FS :=
  (fRet (fAndV (fOwn 3 m_is_tuple_of (fCons (fVar 0) (fCons (fC (.int 1)) (fCons (fC (.int 16)) fNil)))) (fCall sAll (fCons (fLc false [1] (fItS (fVar 0)) (.nm 1) fYes (fOwn 3 m_fits_whole (fCons (fVar 1) (fCons (fC (.int 0)) (fCons (fC (.int 1)) fNil))))) fNil))))
def m_fits_word : List Y → Sto → Res Y := wrap false 2 b_fits_word
set_option maxHeartbeats 4000000 in
theorem fn_fits_word {w : World} {K : PySem.W.Frag} {mg : Str → Option Value} {base : Heap} (blt : ∀ (j : Nat) (x : Str), bls[j]? = some x → mg x = none) (c_SIGNS : ∃ t, mg "SIGNS" = some (.int 16 t)) (d_is_tuple_of : Def Pw w K mg base "is_tuple_of" 3 1 m_is_tuple_of) (d_fits_whole : Def Pw w K mg base "fits_whole" 3 1 m_fits_whole) {f : Addr} {fd : FuncData} (F : Fun K "fits_word" "fits_word" st_fits_word f fd) : FnOk Pw w K mg base (L2.CX Pw w) 2 f fd P_fits_word (spM K mg 1 m_fits_word) :=
  fn_mk (k := 1) false F sc_fits_word (fun cdv A outer s H E hr => by
    have O := okS (P := Pw) (w := w) (K := K) (base := base) (outer := outer) (H := H) (E := E) (vl := [(0, "value")]) (wl := [(0, "value")]) (gl := ["is_tuple_of", "SIGNS", "all"]) sc_fits_word hr (by decide +kernel) blt
    exact (rss_one (rs_ret (re_and (re_own O d_is_tuple_of 0 (ra_cons (re_var O.o 0) (ra_cons re_int (ra_cons (g_const O 1 c_SIGNS) ra_nil)))) (re_one (re_all O.o 2 (ra_cons (re_lcO false O [("sign", 1)] [(1, "sign")] [(1, "sign")] ["fits_whole"] (ri_seq (re_var O.o 0)) (by decide +kernel) (by decide +kernel) (by decide +kernel) (fun s H C cl fp O1 => ⟨(rg_nm O1.o 0), rts_nil, (re_own O1 d_fits_whole 0 (ra_cons (re_var O1.o 0) (ra_cons re_int (ra_cons re_int ra_nil))))⟩)) ra_nil)))))))
/-! ### need_word -/
abbrev st_need_word : Stmt := topS 11
abbrev N_need_word : List Str := ["word"]
abbrev P_need_word : List Str := ["word"]
theorem sc_need_word : FnScope N_need_word P_need_word (defScope st_need_word) := ⟨rfl, rfl, rfl, by decide +kernel, rfl, by decide +kernel, by decide +kernel⟩
def b_need_word : FS :=
  (fIfS (fNot (fTru (fOwn 1 m_fits_word (fCons (fVar 0) fNil)))) fNevS fNx)
def m_need_word : List Y → Sto → Res Y := wrap false 1 b_need_word
set_option maxHeartbeats 4000000 in
theorem fn_need_word {w : World} {K : PySem.W.Frag} {mg : Str → Option Value} {base : Heap} (blt : ∀ (j : Nat) (x : Str), bls[j]? = some x → mg x = none) (d_fits_word : Def Pw w K mg base "fits_word" 1 2 m_fits_word) {f : Addr} {fd : FuncData} (F : Fun K "need_word" "need_word" st_need_word f fd) : FnOk Pw w K mg base (L2.CX Pw w) 3 f fd P_need_word (spM K mg 1 m_need_word) :=
  fn_mk (k := 2) false F sc_need_word (fun cdv A outer s H E hr => by
    have O := okS (P := Pw) (w := w) (K := K) (base := base) (outer := outer) (H := H) (E := E) (vl := [(0, "word")]) (wl := [(0, "word")]) (gl := ["fits_word", "InvalidWord"]) sc_need_word hr (by decide +kernel) blt
    exact (rss_one (rs_if (rt_not (rt_tru (re_own O d_fits_word 0 (ra_cons (re_var O.o 0) ra_nil)))) (rss_one rs_never) rss_nil)))
/-! ### need_words -/
abbrev st_need_words : Stmt := topS 12
abbrev N_need_words : List Str := ["one", "other"]
abbrev P_need_words : List Str := ["one", "other"]
theorem sc_need_words : FnScope N_need_words P_need_words (defScope st_need_words) := ⟨rfl, rfl, rfl, by decide +kernel, rfl, by decide +kernel, by decide +kernel⟩
def b_need_words : FS :=
  (fSeq (fDrop (fOwn 1 m_need_word (fCons (fVar 0) fNil)))
  (fIfS (fOr (fNot (fTru (fOwn 1 m_fits_word (fCons (fVar 1) fNil)))) (fTest (fBin sNe (fCall sLen (fCons (fVar 0) fNil)) (fCall sLen (fCons (fVar 1) fNil))))) fNevS fNx))
def m_need_words : List Y → Sto → Res Y := wrap false 2 b_need_words
set_option maxHeartbeats 4000000 in
theorem fn_need_words {w : World} {K : PySem.W.Frag} {mg : Str → Option Value} {base : Heap} (blt : ∀ (j : Nat) (x : Str), bls[j]? = some x → mg x = none) (d_need_word : Def Pw w K mg base "need_word" 1 3 m_need_word) (d_fits_word : Def Pw w K mg base "fits_word" 1 2 m_fits_word) {f : Addr} {fd : FuncData} (F : Fun K "need_words" "need_words" st_need_words f fd) : FnOk Pw w K mg base (L2.CX Pw w) 4 f fd P_need_words (spM K mg 2 m_need_words) :=
  fn_mk (k := 3) false F sc_need_words (fun cdv A outer s H E hr => by
    have O := okS (P := Pw) (w := w) (K := K) (base := base) (outer := outer) (H := H) (E := E) (vl := [(0, "one"), (1, "other")]) (wl := [(0, "one"), (1, "other")]) (gl := ["need_word", "fits_word", "len", "InvalidWord"]) sc_need_words hr (by decide +kernel) blt
    exact (rss_cons (rs_expr (re_own O d_need_word 0 (ra_cons (re_var O.o 0) ra_nil)))
  (rss_one (rs_if (rt_w (rw_or (rt_not (rt_tru (re_own O d_fits_word 1 (ra_cons (re_var O.o 1) ra_nil)))) (rw_or1 (rt_ne O.o (re_len O.o 2 (ra_cons (re_var O.o 0) ra_nil)) (re_len O.o 2 (ra_cons (re_var O.o 1) ra_nil)))))) (rss_one rs_never) rss_nil))))
/-! ### fits_steps -/
abbrev st_fits_steps : Stmt := topS 17
abbrev N_fits_steps : List Str := ["word", "value", "most", "place"]
abbrev P_fits_steps : List Str := ["word", "value", "most"]
theorem sc_fits_steps : FnScope N_fits_steps P_fits_steps (defScope st_fits_steps) := ⟨rfl, rfl, rfl, by decide +kernel, rfl, by decide +kernel, by decide +kernel⟩
def b_fits_steps : FS :=
  (fRet (fAndV (fOwn 3 m_is_tuple_of (fCons (fVar 1) (fCons (fC (.int 0)) (fCons (fVar 2) fNil)))) (fCall sAll (fCons (fLc false [3] (fItS (fVar 1)) (.nm 3) fYes (fOwn 3 m_fits_whole (fCons (fVar 3) (fCons (fC (.int 1)) (fCons (fCall sLen (fCons (fVar 0) fNil)) fNil))))) fNil))))
def m_fits_steps : List Y → Sto → Res Y := wrap false 4 b_fits_steps
set_option maxHeartbeats 4000000 in
theorem fn_fits_steps {w : World} {K : PySem.W.Frag} {mg : Str → Option Value} {base : Heap} (blt : ∀ (j : Nat) (x : Str), bls[j]? = some x → mg x = none) (d_is_tuple_of : Def Pw w K mg base "is_tuple_of" 3 1 m_is_tuple_of) (d_fits_whole : Def Pw w K mg base "fits_whole" 3 1 m_fits_whole) {f : Addr} {fd : FuncData} (F : Fun K "fits_steps" "fits_steps" st_fits_steps f fd) : FnOk Pw w K mg base (L2.CX Pw w) 2 f fd P_fits_steps (spM K mg 3 m_fits_steps) :=
  fn_mk (k := 1) false F sc_fits_steps (fun cdv A outer s H E hr => by
    have O := okS (P := Pw) (w := w) (K := K) (base := base) (outer := outer) (H := H) (E := E) (vl := [(1, "value"), (2, "most")]) (wl := [(1, "value"), (2, "most")]) (gl := ["is_tuple_of", "all"]) sc_fits_steps hr (by decide +kernel) blt
    exact (rss_one (rs_ret (re_and (re_own O d_is_tuple_of 0 (ra_cons (re_var O.o 0) (ra_cons re_int (ra_cons (re_var O.o 1) ra_nil)))) (re_one (re_all O.o 1 (ra_cons (re_lcO false O [("place", 3)] [(3, "place"), (0, "word")] [(3, "place")] ["fits_whole", "len"] (ri_seq (re_var O.o 0)) (by decide +kernel) (by decide +kernel) (by decide +kernel) (fun s H C cl fp O1 => ⟨(rg_nm O1.o 0), rts_nil, (re_own O1 d_fits_whole 0 (ra_cons (re_var O1.o 0) (ra_cons re_int (ra_cons (re_len O1.o 1 (ra_cons (re_var O1.o 1) ra_nil)) ra_nil))))⟩)) ra_nil)))))))
/-! ### turned_at -/
abbrev st_turned_at : Stmt := topS 9
abbrev N_turned_at : List Str := ["word", "place"]
abbrev P_turned_at : List Str := ["word", "place"]
theorem sc_turned_at : FnScope N_turned_at P_turned_at (defScope st_turned_at) := ⟨rfl, rfl, rfl, by decide +kernel, rfl, by decide +kernel, by decide +kernel⟩
def b_turned_at : FS :=
  (fRet (fBin (sAdd false) (fBin (sAdd false) (fSl false (fVar 0) fNoP (fPart (fBin sSub (fVar 1) (fC (.int 1))))) (fTup (fCons (fBin sSub (fC (.int 1)) (fBin sIx (fVar 0) (fBin sSub (fVar 1) (fC (.int 1))))) fNil))) (fSl false (fVar 0) (fPart (fVar 1)) fNoP)))
def m_turned_at : List Y → Sto → Res Y := wrap false 2 b_turned_at
set_option maxHeartbeats 4000000 in
theorem fn_turned_at {w : World} {K : PySem.W.Frag} {mg : Str → Option Value} {base : Heap} (blt : ∀ (j : Nat) (x : Str), bls[j]? = some x → mg x = none) {f : Addr} {fd : FuncData} (F : Fun K "turned_at" "turned_at" st_turned_at f fd) : FnOk Pw w K mg base (L2.CX Pw w) 1 f fd P_turned_at (spM K mg 2 m_turned_at) :=
  fn_mk (k := 0) false F sc_turned_at (fun cdv A outer s H E hr => by
    have O := okS (P := Pw) (w := w) (K := K) (base := base) (outer := outer) (H := H) (E := E) (vl := [(0, "word"), (1, "place")]) (wl := [(0, "word"), (1, "place")]) (gl := []) sc_turned_at hr (by decide +kernel) blt
    exact (rss_one (rs_ret (re_add false (re_add false (re_sl false (re_var O.o 0) ro_none (ro_some (re_sub (re_var O.o 1) re_int))) (re_tup (ra_cons (re_sub re_int (re_ix (re_var O.o 0) (re_sub (re_var O.o 1) re_int))) ra_nil))) (re_sl false (re_var O.o 0) (ro_some (re_var O.o 1)) ro_none)))))
/-! ### ended_by -/
abbrev st_ended_by : Stmt := topS 16
abbrev N_ended_by : List Str := ["word", "steps", "place"]
abbrev P_ended_by : List Str := ["word", "steps"]
theorem sc_ended_by : FnScope N_ended_by P_ended_by (defScope st_ended_by) := ⟨rfl, rfl, rfl, by decide +kernel, rfl, by decide +kernel, by decide +kernel⟩
def b_ended_by : FS :=
  (fSeq (fFor (.nm 2) (fItS (fVar 1)) (fSet 0 (fOwn 2 m_turned_at (fCons (fVar 0) (fCons (fVar 2) fNil)))))
  (fRet (fVar 0)))
def m_ended_by : List Y → Sto → Res Y := wrap false 3 b_ended_by
set_option maxHeartbeats 4000000 in
theorem fn_ended_by {w : World} {K : PySem.W.Frag} {mg : Str → Option Value} {base : Heap} (blt : ∀ (j : Nat) (x : Str), bls[j]? = some x → mg x = none) (d_turned_at : Def Pw w K mg base "turned_at" 2 1 m_turned_at) {f : Addr} {fd : FuncData} (F : Fun K "ended_by" "ended_by" st_ended_by f fd) : FnOk Pw w K mg base (L2.CX Pw w) 2 f fd P_ended_by (spM K mg 2 m_ended_by) :=
  fn_mk (k := 1) false F sc_ended_by (fun cdv A outer s H E hr => by
    have O := okS (P := Pw) (w := w) (K := K) (base := base) (outer := outer) (H := H) (E := E) (vl := [(2, "place"), (1, "steps"), (0, "word")]) (wl := [(2, "place"), (1, "steps"), (0, "word")]) (gl := ["turned_at"]) sc_ended_by hr (by decide +kernel) blt
    exact (rss_cons (rs_for O.o passD (ri_seq (re_var O.o 1)) (rg_nm O.o 0) (rss_one (rs_set O.o 2 (re_own O d_turned_at 0 (ra_cons (re_var O.o 2) (ra_cons (re_var O.o 0) ra_nil))))))
  (rss_one (rs_ret (re_var O.o 2)))))
/-! ### is_way -/
abbrev st_is_way : Stmt := topS 20
abbrev N_is_way : List Str := ["one", "other", "value"]
abbrev P_is_way : List Str := ["one", "other", "value"]
theorem sc_is_way : FnScope N_is_way P_is_way (defScope st_is_way) := ⟨rfl, rfl, rfl, by decide +kernel, rfl, by decide +kernel, by decide +kernel⟩
def b_is_way : FS :=
  (fSeq (fDrop (fOwn 2 m_need_words (fCons (fVar 0) (fCons (fVar 1) fNil))))
  (fRet (fAndV (fOwn 3 m_fits_steps (fCons (fVar 0) (fCons (fVar 2) (fCons (fC (.int 400)) fNil)))) (fBin sEq (fOwn 2 m_ended_by (fCons (fVar 0) (fCons (fVar 2) fNil))) (fVar 1)))))
def m_is_way : List Y → Sto → Res Y := wrap false 3 b_is_way
set_option maxHeartbeats 4000000 in
theorem fn_is_way {w : World} {K : PySem.W.Frag} {mg : Str → Option Value} {base : Heap} (blt : ∀ (j : Nat) (x : Str), bls[j]? = some x → mg x = none) (c_STEPS : ∃ t, mg "STEPS" = some (.int 400 t)) (d_need_words : Def Pw w K mg base "need_words" 2 4 m_need_words) (d_fits_steps : Def Pw w K mg base "fits_steps" 3 2 m_fits_steps) (d_ended_by : Def Pw w K mg base "ended_by" 2 2 m_ended_by) {f : Addr} {fd : FuncData} (F : Fun K "is_way" "is_way" st_is_way f fd) : FnOk Pw w K mg base (L2.CX Pw w) 5 f fd P_is_way (spM K mg 3 m_is_way) :=
  fn_mk (k := 4) false F sc_is_way (fun cdv A outer s H E hr => by
    have O := okS (P := Pw) (w := w) (K := K) (base := base) (outer := outer) (H := H) (E := E) (vl := [(0, "one"), (1, "other"), (2, "value")]) (wl := [(0, "one"), (1, "other"), (2, "value")]) (gl := ["need_words", "fits_steps", "STEPS", "ended_by"]) sc_is_way hr (by decide +kernel) blt
    exact (rss_cons (rs_expr (re_own O d_need_words 0 (ra_cons (re_var O.o 0) (ra_cons (re_var O.o 1) ra_nil))))
  (rss_one (rs_ret (re_and (re_own O d_fits_steps 1 (ra_cons (re_var O.o 0) (ra_cons (re_var O.o 2) (ra_cons (g_const O 2 c_STEPS) ra_nil)))) (re_one (re_eq O.o (re_own O d_ended_by 3 (ra_cons (re_var O.o 0) (ra_cons (re_var O.o 2) ra_nil))) (re_var O.o 1))))))))
/-! ### need_many -/
abbrev st_need_many : Stmt := topS 19
abbrev N_need_many : List Str := ["many", "most"]
abbrev P_need_many : List Str := ["many", "most"]
theorem sc_need_many : FnScope N_need_many P_need_many (defScope st_need_many) := ⟨rfl, rfl, rfl, by decide +kernel, rfl, by decide +kernel, by decide +kernel⟩
def b_need_many : FS :=
  (fIfS (fNot (fTru (fOwn 3 m_fits_whole (fCons (fVar 0) (fCons (fC (.int 0)) (fCons (fVar 1) fNil)))))) fNevS fNx)
def m_need_many : List Y → Sto → Res Y := wrap false 2 b_need_many
set_option maxHeartbeats 4000000 in
theorem fn_need_many {w : World} {K : PySem.W.Frag} {mg : Str → Option Value} {base : Heap} (blt : ∀ (j : Nat) (x : Str), bls[j]? = some x → mg x = none) (d_fits_whole : Def Pw w K mg base "fits_whole" 3 1 m_fits_whole) {f : Addr} {fd : FuncData} (F : Fun K "need_many" "need_many" st_need_many f fd) : FnOk Pw w K mg base (L2.CX Pw w) 2 f fd P_need_many (spM K mg 2 m_need_many) :=
  fn_mk (k := 1) false F sc_need_many (fun cdv A outer s H E hr => by
    have O := okS (P := Pw) (w := w) (K := K) (base := base) (outer := outer) (H := H) (E := E) (vl := [(0, "many"), (1, "most")]) (wl := [(0, "many"), (1, "most")]) (gl := ["fits_whole", "InvalidNumber"]) sc_need_many hr (by decide +kernel) blt
    exact (rss_one (rs_if (rt_not (rt_tru (re_own O d_fits_whole 0 (ra_cons (re_var O.o 0) (ra_cons re_int (ra_cons (re_var O.o 1) ra_nil)))))) (rss_one rs_never) rss_nil)))
/-! ### counts_by -/
abbrev st_counts_by : Stmt := topS 18
abbrev N_counts_by : List Str := ["signs", "many", "here", "turn", "later", "far", "near"]
abbrev P_counts_by : List Str := ["signs", "many"]
theorem sc_counts_by : FnScope N_counts_by P_counts_by (defScope st_counts_by) := ⟨rfl, rfl, rfl, by decide +kernel, rfl, by decide +kernel, by decide +kernel⟩
def b_counts_by : FS :=
  (fSeq (fSet 2 (fBin (sAdd false) (fLst false (fCons (fC (.int 1)) fNil)) (fBin (sMul false) (fLst false (fCons (fC (.int 0)) fNil)) (fVar 0))))
  (fSeq (fFor (.nm 3) (fIt sRng1 (fCons (fVar 1) fNil)) (fSeq (fSet 4 (fLst true fNil))
  (fSeq (fFor (.nm 5) (fIt sRng1 (fCons (fBin (sAdd false) (fVar 0) (fC (.int 1))) fNil)) (fSeq (fSet 6 (fIf (fTest (fBin sGt (fVar 5) (fC (.int 0)))) (fBin (sMul false) (fBin sIx (fVar 2) (fBin sSub (fVar 5) (fC (.int 1)))) (fVar 5)) (fC (.int 0))))
  (fDrop (fMet isSt sApp (fVar 4) (fCons (fBin (sAdd false) (fVar 6) (fIf (fTest (fBin sLt (fVar 5) (fVar 0))) (fBin (sMul false) (fBin sIx (fVar 2) (fBin (sAdd false) (fVar 5) (fC (.int 1)))) (fBin sSub (fVar 0) (fVar 5))) (fC (.int 0)))) fNil)))))
  (fSet 2 (fFrz (fVar 4))))))
  (fRet (fVar 2))))
def m_counts_by : List Y → Sto → Res Y := wrap false 7 b_counts_by
set_option maxHeartbeats 4000000 in
theorem fn_counts_by {w : World} {K : PySem.W.Frag} {mg : Str → Option Value} {base : Heap} (blt : ∀ (j : Nat) (x : Str), bls[j]? = some x → mg x = none) {f : Addr} {fd : FuncData} (F : Fun K "counts_by" "counts_by" st_counts_by f fd) : FnOk Pw w K mg base (L2.CX Pw w) 1 f fd P_counts_by (spM K mg 2 m_counts_by) :=
  fn_mk (k := 0) false F sc_counts_by (fun cdv A outer s H E hr => by
    have O := okS (P := Pw) (w := w) (K := K) (base := base) (outer := outer) (H := H) (E := E) (vl := [(2, "here"), (0, "signs"), (3, "turn"), (1, "many"), (4, "later"), (5, "far"), (6, "near")]) (wl := [(2, "here"), (0, "signs"), (3, "turn"), (1, "many"), (4, "later"), (5, "far"), (6, "near")]) (gl := ["range"]) sc_counts_by hr (by decide +kernel) blt
    exact (rss_cons (rs_set O.o 0 (re_add false (re_lst false (ra_cons re_int ra_nil)) (re_mul false (re_lst false (ra_cons re_int ra_nil)) (re_var O.o 1))))
  (rss_cons (rs_for O.o passD (ri_rng1 O.o 0 (ra_cons (re_var O.o 3) ra_nil)) (rg_nm O.o 2) (rss_cons (rs_set O.o 4 (re_lst true ra_nil))
  (rss_cons (rs_for O.o passD (ri_rng1 O.o 0 (ra_cons (re_add false (re_var O.o 1) re_int) ra_nil)) (rg_nm O.o 5) (rss_cons (rs_set O.o 6 (re_if (rt_gt (re_var O.o 5) re_int) (re_mul false (re_ix (re_var O.o 0) (re_sub (re_var O.o 5) re_int)) (re_var O.o 5)) re_int))
  (rss_one (rs_expr (re_app (re_var O.o 4) (re_add false (re_var O.o 6) (re_if (rt_lt (re_var O.o 5) (re_var O.o 1)) (re_mul false (re_ix (re_var O.o 0) (re_add false (re_var O.o 5) re_int)) (re_sub (re_var O.o 1) (re_var O.o 5))) re_int)))))))
  (rss_one (rs_set O.o 0 (re_frz (re_var O.o 4)))))))
  (rss_one (rs_ret (re_var O.o 0))))))
/-! ### count_back -/
abbrev st_count_back : Stmt := topS 22
abbrev N_count_back : List Str := ["signs", "many"]
abbrev P_count_back : List Str := ["signs", "many"]
theorem sc_count_back : FnScope N_count_back P_count_back (defScope st_count_back) := ⟨rfl, rfl, rfl, by decide +kernel, rfl, by decide +kernel, by decide +kernel⟩
def b_count_back : FS :=
  (fSeq (fIfS (fNot (fTru (fOwn 3 m_fits_whole (fCons (fVar 0) (fCons (fC (.int 1)) (fCons (fC (.int 16)) fNil)))))) fNevS fNx)
  (fSeq (fDrop (fOwn 2 m_need_many (fCons (fVar 1) (fCons (fC (.int 400)) fNil))))
  (fRet (fBin sIx (fOwn 2 m_counts_by (fCons (fVar 0) (fCons (fVar 1) fNil))) (fC (.int 0))))))
def m_count_back : List Y → Sto → Res Y := wrap false 2 b_count_back
set_option maxHeartbeats 4000000 in
theorem fn_count_back {w : World} {K : PySem.W.Frag} {mg : Str → Option Value} {base : Heap} (blt : ∀ (j : Nat) (x : Str), bls[j]? = some x → mg x = none) (c_STEPS : ∃ t, mg "STEPS" = some (.int 400 t)) (d_need_many : Def Pw w K mg base "need_many" 2 2 m_need_many) (d_fits_whole : Def Pw w K mg base "fits_whole" 3 1 m_fits_whole) (d_counts_by : Def Pw w K mg base "counts_by" 2 1 m_counts_by) {f : Addr} {fd : FuncData} (F : Fun K "count_back" "count_back" st_count_back f fd) : FnOk Pw w K mg base (L2.CX Pw w) 3 f fd P_count_back (spM K mg 2 m_count_back) :=
  fn_mk (k := 2) false F sc_count_back (fun cdv A outer s H E hr => by
    have O := okS (P := Pw) (w := w) (K := K) (base := base) (outer := outer) (H := H) (E := E) (vl := [(0, "signs"), (1, "many")]) (wl := [(0, "signs"), (1, "many")]) (gl := ["fits_whole", "InvalidNumber", "need_many", "STEPS", "counts_by"]) sc_count_back hr (by decide +kernel) blt
    exact (rss_cons (rs_if (rt_not (rt_tru (re_own O d_fits_whole 0 (ra_cons (re_var O.o 0) (ra_cons re_int (ra_cons re_int ra_nil)))))) (rss_one rs_never) rss_nil)
  (rss_cons (rs_expr (re_own O d_need_many 2 (ra_cons (re_var O.o 1) (ra_cons (g_const O 3 c_STEPS) ra_nil))))
  (rss_one (rs_ret (re_ix (re_own O d_counts_by 4 (ra_cons (re_var O.o 0) (ra_cons (re_var O.o 1) ra_nil))) re_int))))))
/-! ### _law_rows_right -/
abbrev st_law_rows_rightU : Stmt := topS 40
abbrev N_law_rows_rightU : List Str := ["told"]
abbrev P_law_rows_rightU : List Str := []
theorem sc_law_rows_rightU : FnScope N_law_rows_rightU P_law_rows_rightU (defScope st_law_rows_rightU) := ⟨rfl, rfl, rfl, by decide +kernel, rfl, by decide +kernel, by decide +kernel⟩
def b_law_rows_rightU : FS :=
  (fSeq (fSet 0 (fTup (fCons (fOwn 3 m_is_way (fCons (fTup (fCons (fC (.int 0)) fNil)) (fCons (fTup (fCons (fC (.int 0)) fNil)) (fCons (fBin (sMul false) (fTup (fCons (fC (.int 1)) fNil)) (fC (.int 400))) fNil)))) (fCons (fOwn 2 m_count_back (fCons (fC (.int 1)) (fCons (fC (.int 2)) fNil))) (fCons (fOwn 2 m_count_back (fCons (fC (.int 2)) (fCons (fC (.int 2)) fNil))) (fCons (fOwn 2 m_count_back (fCons (fC (.int 1)) (fCons (fC (.int 301)) fNil))) fNil))))))
  (fRet (fOwn 2 (m_law_sameU 6) (fCons (fVar 0) (fCons (fTup (fCons (fC (.bl true)) (fCons (fC (.int 1)) (fCons (fC (.int 2)) (fCons (fC (.int 0)) fNil))))) fNil)))))
def m_law_rows_rightU : List Y → Sto → Res Y := wrap false 1 b_law_rows_rightU
set_option maxHeartbeats 4000000 in
theorem fn_law_rows_rightU {w : World} {K : PySem.W.Frag} {mg : Str → Option Value} {base : Heap} (blt : ∀ (j : Nat) (x : Str), bls[j]? = some x → mg x = none) (d_law_sameU : Def Pw w K mg base "_law_same" 2 7 (m_law_sameU 6)) (d_is_way : Def Pw w K mg base "is_way" 3 5 m_is_way) (d_count_back : Def Pw w K mg base "count_back" 2 3 m_count_back) {f : Addr} {fd : FuncData} (F : Fun K "_law_rows_right" "_law_rows_right" st_law_rows_rightU f fd) : FnOk Pw w K mg base (L2.CX Pw w) 8 f fd P_law_rows_rightU (spM K mg 0 m_law_rows_rightU) :=
  fn_mk (k := 7) false F sc_law_rows_rightU (fun cdv A outer s H E hr => by
    have O := okS (P := Pw) (w := w) (K := K) (base := base) (outer := outer) (H := H) (E := E) (vl := [(0, "told")]) (wl := [(0, "told")]) (gl := ["is_way", "count_back", "_law_same"]) sc_law_rows_rightU hr (by decide +kernel) blt
    exact (rss_cons (rs_set O.o 0 (re_tup (ra_cons (re_own O d_is_way 0 (ra_cons (re_tup (ra_cons re_int ra_nil)) (ra_cons (re_tup (ra_cons re_int ra_nil)) (ra_cons (re_mul false (re_tup (ra_cons re_int ra_nil)) re_int) ra_nil)))) (ra_cons (re_own O d_count_back 1 (ra_cons re_int (ra_cons re_int ra_nil))) (ra_cons (re_own O d_count_back 1 (ra_cons re_int (ra_cons re_int ra_nil))) (ra_cons (re_own O d_count_back 1 (ra_cons re_int (ra_cons re_int ra_nil))) ra_nil))))))
  (rss_one (rs_ret (re_own O d_law_sameU 2 (ra_cons (re_var O.o 0) (ra_cons (re_tup (ra_cons re_bl (ra_cons re_int (ra_cons re_int (ra_cons re_int ra_nil))))) ra_nil)))))))
/-! ### _law_roll -/
abbrev st_law_rollU : Stmt := topS 25
abbrev N_law_rollU : List Str := ["cup", "many", "found", "deep"]
abbrev P_law_rollU : List Str := ["cup", "many"]
theorem sc_law_rollU : FnScope N_law_rollU P_law_rollU (defScope st_law_rollU) := ⟨rfl, rfl, rfl, by decide +kernel, rfl, by decide +kernel, by decide +kernel⟩
def b_law_rollU : FS :=
  (fSeq (fIfS (fTest (fBin sGt (fBin sIx (fVar 0) (fC (.int 0))) (fC (.int 0)))) (fSeq (fSet 2 (fBin sMod (fCall sInt (fCons (fBin sIx (fVar 0) (fC (.int 0))) fNil)) (fVar 1)))
  (fSeq (fSub (fVar 0) (fC (.int 0)) (fBin sFdiv (fBin sIx (fVar 0) (fC (.int 0))) (fVar 1)))
  (fRet (fVar 2)))) fNx)
  (fSeq (fSub (fVar 0) (fC (.int 1)) (fBin sMod (fCall sInt (fCons (fBin (sAdd false) (fBin (sMul false) (fBin sIx (fVar 0) (fC (.int 1))) (fC (.int 27014))) (fC (.int 6899))) fNil)) (fC (.int 2147483423))))
  (fSeq (fSet 3 (fBin sMod (fCall sInt (fCons (fBin (sMul false) (fBin sIx (fVar 0) (fC (.int 1))) (fBin (sAdd false) (fBin sIx (fVar 0) (fC (.int 1))) (fC (.int 1621)))) fNil)) (fC (.int 2147483587))))
  (fRet (fBin sMod (fCall sInt (fCons (fBin sFdiv (fVar 3) (fC (.int 2399))) fNil)) (fVar 1))))))
def m_law_rollU : List Y → Sto → Res Y := wrap false 4 b_law_rollU
set_option maxHeartbeats 4000000 in
theorem fn_law_rollU {w : World} {K : PySem.W.Frag} {mg : Str → Option Value} {base : Heap} (blt : ∀ (j : Nat) (x : Str), bls[j]? = some x → mg x = none) {f : Addr} {fd : FuncData} (F : Fun K "_law_roll" "_law_roll" st_law_rollU f fd) : FnOk Pw w K mg base (L2.CX Pw w) 1 f fd P_law_rollU (spM K mg 2 m_law_rollU) :=
  fn_mk (k := 0) false F sc_law_rollU (fun cdv A outer s H E hr => by
    have O := okS (P := Pw) (w := w) (K := K) (base := base) (outer := outer) (H := H) (E := E) (vl := [(0, "cup"), (2, "found"), (1, "many"), (3, "deep")]) (wl := [(0, "cup"), (2, "found"), (1, "many"), (3, "deep")]) (gl := ["int"]) sc_law_rollU hr (by decide +kernel) blt
    exact (rss_cons (rs_if (rt_gt (re_ix (re_var O.o 0) re_int) re_int) (rss_cons (rs_set O.o 1 (re_mod (re_intc O.o 0 (ra_cons (re_ix (re_var O.o 0) re_int) ra_nil)) (re_var O.o 2)))
  (rss_cons (rs_sub O.o (re_fdiv (re_ix (re_var O.o 0) re_int) (re_var O.o 2)) (re_var O.o 0) re_int)
  (rss_one (rs_ret (re_var O.o 1))))) rss_nil)
  (rss_cons (rs_sub O.o (re_mod (re_intc O.o 0 (ra_cons (re_add false (re_mul false (re_ix (re_var O.o 0) re_int) re_int) re_int) ra_nil)) re_int) (re_var O.o 0) re_int)
  (rss_cons (rs_set O.o 3 (re_mod (re_intc O.o 0 (ra_cons (re_mul false (re_ix (re_var O.o 0) re_int) (re_add false (re_ix (re_var O.o 0) re_int) re_int)) ra_nil)) re_int))
  (rss_one (rs_ret (re_mod (re_intc O.o 0 (ra_cons (re_fdiv (re_var O.o 3) re_int) ra_nil)) (re_var O.o 2))))))))
/-! ### _law_some -/
abbrev st_law_someU : Stmt := topS 26
abbrev N_law_someU : List Str := ["cup", "things"]
abbrev P_law_someU : List Str := ["cup", "things"]
theorem sc_law_someU : FnScope N_law_someU P_law_someU (defScope st_law_someU) := ⟨rfl, rfl, rfl, by decide +kernel, rfl, by decide +kernel, by decide +kernel⟩
def b_law_someU : FS :=
  (fRet (fBin sIx (fVar 1) (fOwn 2 m_law_rollU (fCons (fVar 0) (fCons (fCall sLen (fCons (fVar 1) fNil)) fNil)))))
def m_law_someU : List Y → Sto → Res Y := wrap false 2 b_law_someU
set_option maxHeartbeats 4000000 in
theorem fn_law_someU {w : World} {K : PySem.W.Frag} {mg : Str → Option Value} {base : Heap} (blt : ∀ (j : Nat) (x : Str), bls[j]? = some x → mg x = none) (d_law_rollU : Def Pw w K mg base "_law_roll" 2 1 m_law_rollU) {f : Addr} {fd : FuncData} (F : Fun K "_law_some" "_law_some" st_law_someU f fd) : FnOk Pw w K mg base (L2.CX Pw w) 2 f fd P_law_someU (spM K mg 2 m_law_someU) :=
  fn_mk (k := 1) false F sc_law_someU (fun cdv A outer s H E hr => by
    have O := okS (P := Pw) (w := w) (K := K) (base := base) (outer := outer) (H := H) (E := E) (vl := [(1, "things"), (0, "cup")]) (wl := [(1, "things"), (0, "cup")]) (gl := ["_law_roll", "len"]) sc_law_someU hr (by decide +kernel) blt
    exact (rss_one (rs_ret (re_ix (re_var O.o 0) (re_own O d_law_rollU 0 (ra_cons (re_var O.o 1) (ra_cons (re_len O.o 1 (ra_cons (re_var O.o 0) ra_nil)) ra_nil)))))))
/-! ### _law_tuples -/
abbrev st_law_tuplesU : Stmt := topS 32
abbrev N_law_tuplesU : List Str := ["signs", "many", "found", "turn", "longer", "way", "place"]
abbrev P_law_tuplesU : List Str := ["signs", "many"]
theorem sc_law_tuplesU : FnScope N_law_tuplesU P_law_tuplesU (defScope st_law_tuplesU) := ⟨rfl, rfl, rfl, by decide +kernel, rfl, by decide +kernel, by decide +kernel⟩
def b_law_tuplesU : FS :=
  (fSeq (fSet 2 (fLst false (fCons (fTup fNil) fNil)))
  (fSeq (fFor (.nm 3) (fIt sRng1 (fCons (fVar 1) fNil)) (fSeq (fSet 4 (fLst false fNil))
  (fSeq (fFor (.nm 5) (fItS (fVar 2)) (fSet 4 (fBin (sAdd false) (fVar 4) (fLc false [6] (fIt sRng2 (fCons (fC (.int 1)) (fCons (fBin (sAdd false) (fVar 0) (fC (.int 1))) fNil))) (.nm 6) fYes (fBin (sAdd false) (fVar 5) (fTup (fCons (fVar 6) fNil)))))))
  (fSet 2 (fVar 4)))))
  (fRet (fVar 2))))
def m_law_tuplesU : List Y → Sto → Res Y := wrap false 7 b_law_tuplesU
set_option maxHeartbeats 4000000 in
theorem fn_law_tuplesU {w : World} {K : PySem.W.Frag} {mg : Str → Option Value} {base : Heap} (blt : ∀ (j : Nat) (x : Str), bls[j]? = some x → mg x = none) {f : Addr} {fd : FuncData} (F : Fun K "_law_tuples" "_law_tuples" st_law_tuplesU f fd) : FnOk Pw w K mg base (L2.CX Pw w) 1 f fd P_law_tuplesU (spM K mg 2 m_law_tuplesU) :=
  fn_mk (k := 0) false F sc_law_tuplesU (fun cdv A outer s H E hr => by
    have O := okS (P := Pw) (w := w) (K := K) (base := base) (outer := outer) (H := H) (E := E) (vl := [(2, "found"), (3, "turn"), (1, "many"), (4, "longer"), (5, "way"), (0, "signs")]) (wl := [(2, "found"), (3, "turn"), (1, "many"), (4, "longer"), (5, "way"), (0, "signs")]) (gl := ["range"]) sc_law_tuplesU hr (by decide +kernel) blt
    exact (rss_cons (rs_set O.o 0 (re_lst false (ra_cons (re_tup ra_nil) ra_nil)))
  (rss_cons (rs_for O.o passD (ri_rng1 O.o 0 (ra_cons (re_var O.o 2) ra_nil)) (rg_nm O.o 1) (rss_cons (rs_set O.o 3 (re_lst false ra_nil))
  (rss_cons (rs_for O.o passD (ri_seq (re_var O.o 0)) (rg_nm O.o 4) (rss_one (rs_set O.o 3 (re_add false (re_var O.o 3) (re_lcO false O [("place", 6)] [(5, "way"), (6, "place")] [(6, "place")] [] (ri_rng2 O.o 0 (ra_cons re_int (ra_cons (re_add false (re_var O.o 5) re_int) ra_nil))) (by decide +kernel) (by decide +kernel) (by decide +kernel) (fun s H C cl fp O1 => ⟨(rg_nm O1.o 0), rts_nil, (re_add false (re_var O1.o 0) (re_tup (ra_cons (re_var O1.o 1) ra_nil)))⟩))))))
  (rss_one (rs_set O.o 0 (re_var O.o 3))))))
  (rss_one (rs_ret (re_var O.o 0))))))
/-! ### _law_word -/
abbrev st_law_wordU : Stmt := topS 28
abbrev N_law_wordU : List Str := ["cup", "signs", "turn"]
abbrev P_law_wordU : List Str := ["cup", "signs"]
theorem sc_law_wordU : FnScope N_law_wordU P_law_wordU (defScope st_law_wordU) := ⟨rfl, rfl, rfl, by decide +kernel, rfl, by decide +kernel, by decide +kernel⟩
def b_law_wordU : FS :=
  (fRet (fCall sTuple (fCons (fLc false [2] (fIt sRng1 (fCons (fVar 1) fNil)) (.nm 2) fYes (fOwn 2 m_law_rollU (fCons (fVar 0) (fCons (fC (.int 2)) fNil)))) fNil)))
def m_law_wordU : List Y → Sto → Res Y := wrap false 3 b_law_wordU
set_option maxHeartbeats 4000000 in
theorem fn_law_wordU {w : World} {K : PySem.W.Frag} {mg : Str → Option Value} {base : Heap} (blt : ∀ (j : Nat) (x : Str), bls[j]? = some x → mg x = none) (d_law_rollU : Def Pw w K mg base "_law_roll" 2 1 m_law_rollU) {f : Addr} {fd : FuncData} (F : Fun K "_law_word" "_law_word" st_law_wordU f fd) : FnOk Pw w K mg base (L2.CX Pw w) 2 f fd P_law_wordU (spM K mg 2 m_law_wordU) :=
  fn_mk (k := 1) false F sc_law_wordU (fun cdv A outer s H E hr => by
    have O := okS (P := Pw) (w := w) (K := K) (base := base) (outer := outer) (H := H) (E := E) (vl := [(1, "signs")]) (wl := [(1, "signs")]) (gl := ["tuple", "range"]) sc_law_wordU hr (by decide +kernel) blt
    exact (rss_one (rs_ret (re_tupc O.o 0 (ra_cons (re_lcO false O [("turn", 2)] [(0, "cup"), (2, "turn")] [(2, "turn")] ["_law_roll"] (ri_rng1 O.o 1 (ra_cons (re_var O.o 0) ra_nil)) (by decide +kernel) (by decide +kernel) (by decide +kernel) (fun s H C cl fp O1 => ⟨(rg_nm O1.o 0), rts_nil, (re_own O1 d_law_rollU 0 (ra_cons (re_var O1.o 0) (ra_cons re_int ra_nil)))⟩)) ra_nil)))))
/-! ### unlike_in -/
abbrev st_unlike_in : Stmt := topS 10
abbrev N_unlike_in : List Str := ["one", "other", "at"]
abbrev P_unlike_in : List Str := ["one", "other"]
theorem sc_unlike_in : FnScope N_unlike_in P_unlike_in (defScope st_unlike_in) := ⟨rfl, rfl, rfl, by decide +kernel, rfl, by decide +kernel, by decide +kernel⟩
def b_unlike_in : FS :=
  (fRet (fLc false [2] (fIt sRng1 (fCons (fCall sLen (fCons (fVar 0) fNil)) fNil)) (.nm 2) (fTest (fBin sNe (fBin sIx (fVar 0) (fVar 2)) (fBin sIx (fVar 1) (fVar 2)))) (fBin (sAdd false) (fVar 2) (fC (.int 1)))))
def m_unlike_in : List Y → Sto → Res Y := wrap false 3 b_unlike_in
set_option maxHeartbeats 4000000 in
theorem fn_unlike_in {w : World} {K : PySem.W.Frag} {mg : Str → Option Value} {base : Heap} (blt : ∀ (j : Nat) (x : Str), bls[j]? = some x → mg x = none) {f : Addr} {fd : FuncData} (F : Fun K "unlike_in" "unlike_in" st_unlike_in f fd) : FnOk Pw w K mg base (L2.CX Pw w) 1 f fd P_unlike_in (spM K mg 2 m_unlike_in) :=
  fn_mk (k := 0) false F sc_unlike_in (fun cdv A outer s H E hr => by
    have O := okS (P := Pw) (w := w) (K := K) (base := base) (outer := outer) (H := H) (E := E) (vl := [(0, "one")]) (wl := [(0, "one")]) (gl := ["range", "len"]) sc_unlike_in hr (by decide +kernel) blt
    exact (rss_one (rs_ret (re_lcO false O [("at", 2)] [(2, "at"), (0, "one"), (1, "other")] [(2, "at")] [] (ri_rng1 O.o 0 (ra_cons (re_len O.o 1 (ra_cons (re_var O.o 0) ra_nil)) ra_nil)) (by decide +kernel) (by decide +kernel) (by decide +kernel) (fun s H C cl fp O1 => ⟨(rg_nm O1.o 0), (rts_one (rt_ne O1.o (re_ix (re_var O1.o 1) (re_var O1.o 0)) (re_ix (re_var O1.o 2) (re_var O1.o 0)))), (re_add false (re_var O1.o 0) re_int)⟩)))))
/-! ### count_ways -/
abbrev st_count_ways : Stmt := topS 21
abbrev N_count_ways : List Str := ["one", "other", "many"]
abbrev P_count_ways : List Str := ["one", "other", "many"]
theorem sc_count_ways : FnScope N_count_ways P_count_ways (defScope st_count_ways) := ⟨rfl, rfl, rfl, by decide +kernel, rfl, by decide +kernel, by decide +kernel⟩
def b_count_ways : FS :=
  (fSeq (fDrop (fOwn 2 m_need_words (fCons (fVar 0) (fCons (fVar 1) fNil))))
  (fSeq (fDrop (fOwn 2 m_need_many (fCons (fVar 2) (fCons (fC (.int 400)) fNil))))
  (fRet (fBin sIx (fOwn 2 m_counts_by (fCons (fCall sLen (fCons (fVar 0) fNil)) (fCons (fVar 2) fNil))) (fCall sLen (fCons (fOwn 2 m_unlike_in (fCons (fVar 0) (fCons (fVar 1) fNil))) fNil))))))
def m_count_ways : List Y → Sto → Res Y := wrap false 3 b_count_ways
set_option maxHeartbeats 4000000 in
theorem fn_count_ways {w : World} {K : PySem.W.Frag} {mg : Str → Option Value} {base : Heap} (blt : ∀ (j : Nat) (x : Str), bls[j]? = some x → mg x = none) (c_STEPS : ∃ t, mg "STEPS" = some (.int 400 t)) (d_need_words : Def Pw w K mg base "need_words" 2 4 m_need_words) (d_need_many : Def Pw w K mg base "need_many" 2 2 m_need_many) (d_counts_by : Def Pw w K mg base "counts_by" 2 1 m_counts_by) (d_unlike_in : Def Pw w K mg base "unlike_in" 2 1 m_unlike_in) {f : Addr} {fd : FuncData} (F : Fun K "count_ways" "count_ways" st_count_ways f fd) : FnOk Pw w K mg base (L2.CX Pw w) 5 f fd P_count_ways (spM K mg 3 m_count_ways) :=
  fn_mk (k := 4) false F sc_count_ways (fun cdv A outer s H E hr => by
    have O := okS (P := Pw) (w := w) (K := K) (base := base) (outer := outer) (H := H) (E := E) (vl := [(0, "one"), (1, "other"), (2, "many")]) (wl := [(0, "one"), (1, "other"), (2, "many")]) (gl := ["need_words", "need_many", "STEPS", "counts_by", "len", "unlike_in"]) sc_count_ways hr (by decide +kernel) blt
    exact (rss_cons (rs_expr (re_own O d_need_words 0 (ra_cons (re_var O.o 0) (ra_cons (re_var O.o 1) ra_nil))))
  (rss_cons (rs_expr (re_own O d_need_many 1 (ra_cons (re_var O.o 2) (ra_cons (g_const O 2 c_STEPS) ra_nil))))
  (rss_one (rs_ret (re_ix (re_own O d_counts_by 3 (ra_cons (re_len O.o 4 (ra_cons (re_var O.o 0) ra_nil)) (ra_cons (re_var O.o 2) ra_nil))) (re_len O.o 4 (ra_cons (re_own O d_unlike_in 5 (ra_cons (re_var O.o 0) (ra_cons (re_var O.o 1) ra_nil))) ra_nil))))))))
/-! ### _law_turn -/
abbrev st_law_turnU : Stmt := topS 29
abbrev N_law_turnU : List Str := ["word", "place", "at", "sign"]
abbrev P_law_turnU : List Str := ["word", "place"]
theorem sc_law_turnU : FnScope N_law_turnU P_law_turnU (defScope st_law_turnU) := ⟨rfl, rfl, rfl, by decide +kernel, rfl, by decide +kernel, by decide +kernel⟩
def b_law_turnU : FS :=
  (fRet (fCall sTuple (fCons (fLc false [2, 3] (fIt (itS1 (enumL 0)) (fCons (fVar 0) fNil)) (.tp [(.nm 2), (.nm 3)]) fYes (fIf (fTest (fBin sEq (fBin (sAdd false) (fVar 2) (fC (.int 1))) (fVar 1))) (fBin sSub (fC (.int 1)) (fVar 3)) (fVar 3))) fNil)))
def m_law_turnU : List Y → Sto → Res Y := wrap false 4 b_law_turnU
set_option maxHeartbeats 4000000 in
theorem fn_law_turnU {w : World} {K : PySem.W.Frag} {mg : Str → Option Value} {base : Heap} (blt : ∀ (j : Nat) (x : Str), bls[j]? = some x → mg x = none) {f : Addr} {fd : FuncData} (F : Fun K "_law_turn" "_law_turn" st_law_turnU f fd) : FnOk Pw w K mg base (L2.CX Pw w) 1 f fd P_law_turnU (spM K mg 2 m_law_turnU) :=
  fn_mk (k := 0) false F sc_law_turnU (fun cdv A outer s H E hr => by
    have O := okS (P := Pw) (w := w) (K := K) (base := base) (outer := outer) (H := H) (E := E) (vl := [(0, "word")]) (wl := [(0, "word")]) (gl := ["tuple", "enumerate"]) sc_law_turnU hr (by decide +kernel) blt
    exact (rss_one (rs_ret (re_tupc O.o 0 (ra_cons (re_lcO false O [("at", 2), ("sign", 3)] [(2, "at"), (1, "place"), (3, "sign")] [(2, "at"), (3, "sign")] [] (ri_enum O.o 1 (ra_cons (re_var O.o 0) ra_nil)) (by decide +kernel) (by decide +kernel) (by decide +kernel) (fun s H C cl fp O1 => ⟨(rg_tp O1.o (rg_cons (rg_nm O1.o 0) (rg_cons (rg_nm O1.o 1) rg_nil))), rts_nil, (re_if (rt_eq O1.o (re_add false (re_var O1.o 0) re_int) (re_var O1.o 1)) (re_sub re_int (re_var O1.o 2)) (re_var O1.o 2))⟩)) ra_nil)))))
/-! ### _law_end -/
abbrev st_law_endU : Stmt := topS 30
abbrev N_law_endU : List Str := ["word", "steps", "place"]
abbrev P_law_endU : List Str := ["word", "steps"]
theorem sc_law_endU : FnScope N_law_endU P_law_endU (defScope st_law_endU) := ⟨rfl, rfl, rfl, by decide +kernel, rfl, by decide +kernel, by decide +kernel⟩
def b_law_endU : FS :=
  (fSeq (fFor (.nm 2) (fItS (fVar 1)) (fSet 0 (fOwn 2 m_law_turnU (fCons (fVar 0) (fCons (fVar 2) fNil)))))
  (fRet (fVar 0)))
def m_law_endU : List Y → Sto → Res Y := wrap false 3 b_law_endU
set_option maxHeartbeats 4000000 in
theorem fn_law_endU {w : World} {K : PySem.W.Frag} {mg : Str → Option Value} {base : Heap} (blt : ∀ (j : Nat) (x : Str), bls[j]? = some x → mg x = none) (d_law_turnU : Def Pw w K mg base "_law_turn" 2 1 m_law_turnU) {f : Addr} {fd : FuncData} (F : Fun K "_law_end" "_law_end" st_law_endU f fd) : FnOk Pw w K mg base (L2.CX Pw w) 2 f fd P_law_endU (spM K mg 2 m_law_endU) :=
  fn_mk (k := 1) false F sc_law_endU (fun cdv A outer s H E hr => by
    have O := okS (P := Pw) (w := w) (K := K) (base := base) (outer := outer) (H := H) (E := E) (vl := [(2, "place"), (1, "steps"), (0, "word")]) (wl := [(2, "place"), (1, "steps"), (0, "word")]) (gl := ["_law_turn"]) sc_law_endU hr (by decide +kernel) blt
    exact (rss_cons (rs_for O.o passD (ri_seq (re_var O.o 1)) (rg_nm O.o 0) (rss_one (rs_set O.o 2 (re_own O d_law_turnU 0 (ra_cons (re_var O.o 2) (ra_cons (re_var O.o 0) ra_nil))))))
  (rss_one (rs_ret (re_var O.o 2)))))
/-! ### _law_is_way -/
abbrev st_law_is_wayU : Stmt := topS 31
abbrev N_law_is_wayU : List Str := ["one", "other", "value", "place"]
abbrev P_law_is_wayU : List Str := ["one", "other", "value"]
theorem sc_law_is_wayU : FnScope N_law_is_wayU P_law_is_wayU (defScope st_law_is_wayU) := ⟨rfl, rfl, rfl, by decide +kernel, rfl, by decide +kernel, by decide +kernel⟩
def b_law_is_wayU : FS :=
  (fSeq (fIfS (fOr (fNot (fTru (fCall sIsi (fCons (fVar 2) (fCons (fC (.ty "tuple")) fNil))))) (fTest (fBin sGt (fCall sLen (fCons (fVar 2) fNil)) (fC (.int 400))))) (fRet (fC (.bl false))) fNx)
  (fSeq (fIfS (fTest (fBin sNe (fLc false [3] (fItS (fVar 2)) (.nm 3) (fOr (fTru (fCall sIsi (fCons (fVar 3) (fCons (fC (.ty "bool")) fNil)))) (fOr (fNot (fTru (fCall sIsi (fCons (fVar 3) (fCons (fC (.ty "int")) fNil))))) (fNot (fTest (fChain sLe sLe (fC (.int 1)) (fVar 3) (fCall sLen (fCons (fVar 0) fNil))))))) (fC (.int 1))) (fLst false fNil))) (fRet (fC (.bl false))) fNx)
  (fRet (fBin sEq (fOwn 2 m_law_endU (fCons (fVar 0) (fCons (fVar 2) fNil))) (fVar 1)))))
def m_law_is_wayU : List Y → Sto → Res Y := wrap false 4 b_law_is_wayU
set_option maxHeartbeats 4000000 in
theorem fn_law_is_wayU {w : World} {K : PySem.W.Frag} {mg : Str → Option Value} {base : Heap} (blt : ∀ (j : Nat) (x : Str), bls[j]? = some x → mg x = none) (d_law_endU : Def Pw w K mg base "_law_end" 2 2 m_law_endU) {f : Addr} {fd : FuncData} (F : Fun K "_law_is_way" "_law_is_way" st_law_is_wayU f fd) : FnOk Pw w K mg base (L2.CX Pw w) 3 f fd P_law_is_wayU (spM K mg 3 m_law_is_wayU) :=
  fn_mk (k := 2) false F sc_law_is_wayU (fun cdv A outer s H E hr => by
    have O := okS (P := Pw) (w := w) (K := K) (base := base) (outer := outer) (H := H) (E := E) (vl := [(2, "value"), (0, "one"), (1, "other")]) (wl := [(2, "value"), (0, "one"), (1, "other")]) (gl := ["isinstance", "tuple", "len", "_law_end"]) sc_law_is_wayU hr (by decide +kernel) blt
    exact (rss_cons (rs_if (rt_w (rw_or (rt_not (rt_tru (re_isi O.o 0 (ra_cons (re_var O.o 0) (ra_cons (re_ty O.o 1 (n := "tuple") 13) ra_nil))))) (rw_or1 (rt_gt (re_len O.o 2 (ra_cons (re_var O.o 0) ra_nil)) re_int)))) (rss_one (rs_ret re_bl)) rss_nil)
  (rss_cons (rs_if (rt_ne O.o (re_lcO false O [("place", 3)] [(3, "place"), (0, "one")] [(3, "place")] ["isinstance", "bool", "int", "len"] (ri_seq (re_var O.o 0)) (by decide +kernel) (by decide +kernel) (by decide +kernel) (fun s H C cl fp O1 => ⟨(rg_nm O1.o 0), (rts_one (rt_w (rw_or (rt_tru (re_isi O1.o 0 (ra_cons (re_var O1.o 0) (ra_cons (re_ty O1.o 1 (n := "bool") 18) ra_nil)))) (rw_or (rt_not (rt_tru (re_isi O1.o 0 (ra_cons (re_var O1.o 0) (ra_cons (re_ty O1.o 2 (n := "int") 10) ra_nil))))) (rw_or1 (rt_not (rt_chain op_le op_le sLe_ok sLe_ok re_int (re_var O1.o 0) (re_len O1.o 3 (ra_cons (re_var O1.o 1) ra_nil))))))))), re_int⟩)) (re_lst false ra_nil)) (rss_one (rs_ret re_bl)) rss_nil)
  (rss_one (rs_ret (re_eq O.o (re_own O d_law_endU 3 (ra_cons (re_var O.o 1) (ra_cons (re_var O.o 0) ra_nil))) (re_var O.o 2)))))))
/-! ### _law_part_one -/
abbrev st_law_part_oneU : Stmt := topS 38
abbrev N_law_part_oneU : List Str := ["cup", "turn", "signs", "many", "one", "other", "ways", "due", "told", "walk", "at", "odd", "near", "value", "way", "step"]
abbrev P_law_part_oneU : List Str := ["cup"]
theorem sc_law_part_oneU : FnScope N_law_part_oneU P_law_part_oneU (defScope st_law_part_oneU) := ⟨rfl, rfl, rfl, by decide +kernel, rfl, by decide +kernel, by decide +kernel⟩
def b_law_part_oneU : FS :=
  (fSeq (fFor (.nm 1) (fIt sRng1 (fCons (fC (.int 3)) fNil)) (fSeq (fAsg (.tp [(.nm 2), (.nm 3)]) (fOwn 2 m_law_someU (fCons (fVar 0) (fCons (fLst false (fCons (fTup (fCons (fC (.int 1)) (fCons (fC (.int 6)) fNil))) (fCons (fTup (fCons (fC (.int 2)) (fCons (fC (.int 5)) fNil))) (fCons (fTup (fCons (fC (.int 3)) (fCons (fC (.int 4)) fNil))) (fCons (fTup (fCons (fC (.int 4)) (fCons (fC (.int 3)) fNil))) fNil))))) fNil))))
  (fSeq (fSet 3 (fOwn 2 m_law_rollU (fCons (fVar 0) (fCons (fBin (sAdd false) (fVar 3) (fC (.int 1))) fNil))))
  (fSeq (fAsg (.tp [(.nm 4), (.nm 5)]) (fTup (fCons (fOwn 2 m_law_wordU (fCons (fVar 0) (fCons (fVar 2) fNil))) (fCons (fOwn 2 m_law_wordU (fCons (fVar 0) (fCons (fVar 2) fNil))) fNil))))
  (fSeq (fSet 6 (fOwn 2 m_law_tuplesU (fCons (fVar 2) (fCons (fVar 3) fNil))))
  (fSeq (fSet 7 (fCall sLen (fCons (fLc false [14] (fItS (fVar 6)) (.nm 14) (fTest (fBin sEq (fOwn 2 m_law_endU (fCons (fVar 4) (fCons (fVar 14) fNil))) (fVar 5))) (fVar 14)) fNil)))
  (fSeq (fSet 8 (fLst false (fCons (fOwn 3 m_count_ways (fCons (fVar 4) (fCons (fVar 5) (fCons (fVar 3) fNil)))) (fCons (fOwn 3 m_count_ways (fCons (fVar 5) (fCons (fVar 4) (fCons (fVar 3) fNil)))) (fCons (fOwn 2 m_count_back (fCons (fVar 2) (fCons (fVar 3) fNil))) fNil)))))
  (fSeq (fIfS (fNot (fTru (fOwn 2 (m_law_sameU 6) (fCons (fVar 8) (fCons (fLst false (fCons (fVar 7) (fCons (fVar 7) (fCons (fCall sLen (fCons (fLc false [14] (fItS (fVar 6)) (.nm 14) (fTest (fBin sEq (fOwn 2 m_law_endU (fCons (fVar 4) (fCons (fVar 14) fNil))) (fVar 4))) (fVar 14)) fNil)) fNil)))) fNil))))) (fRet (fC (.bl false))) fNx)
  (fSeq (fSet 2 (fOwn 2 m_law_someU (fCons (fVar 0) (fCons (fLst false (fCons (fC (.int 1)) (fCons (fC (.int 5)) (fCons (fC (.int 16)) fNil)))) fNil))))
  (fSeq (fAsg (.tp [(.nm 4), (.nm 9)]) (fTup (fCons (fOwn 2 m_law_wordU (fCons (fVar 0) (fCons (fVar 2) fNil))) (fCons (fCall sTuple (fCons (fLc false [15] (fIt sRng1 (fCons (fOwn 2 m_law_someU (fCons (fVar 0) (fCons (fLst false (fCons (fC (.int 0)) (fCons (fC (.int 3)) (fCons (fC (.int 20)) fNil)))) fNil))) fNil)) (.nm 15) fYes (fBin (sAdd false) (fC (.int 1)) (fOwn 2 m_law_rollU (fCons (fVar 0) (fCons (fVar 2) fNil))))) fNil)) fNil))))
  (fSeq (fAsg (.tp [(.nm 5), (.nm 10)]) (fTup (fCons (fOwn 2 m_law_endU (fCons (fVar 4) (fCons (fVar 9) fNil))) (fCons (fOwn 2 m_law_rollU (fCons (fVar 0) (fCons (fBin (sAdd false) (fCall sLen (fCons (fVar 9) fNil)) (fC (.int 1))) fNil))) fNil))))
  (fSeq (fSet 11 (fLst false (fCons (fC (.int 0)) (fCons (fBin (sAdd false) (fVar 2) (fC (.int 1))) (fCons (fUn sNeg (fC (.int 1))) (fCons (fC (.bl true)) (fCons (fC .non) (fCons (fC (.str "1")) (fCons (fTup (fCons (fC (.int 1)) fNil)) (fCons (fBin (sAdd false) (fC (.int 1)) (fOwn 2 m_law_rollU (fCons (fVar 0) (fCons (fVar 2) fNil)))) fNil))))))))))
  (fSeq (fSet 12 (fBin (sAdd false) (fLst false (fCons (fVar 9) (fCons (fUn (sRev false) (fVar 9)) (fCons (fSl false (fVar 9) fNoP (fPart (fVar 10))) (fCons (fCall (sList false) (fCons (fVar 9) fNil)) (fCons (fC .non) (fCons (fTup fNil) (fCons (fBin (sAdd false) (fVar 9) (fVar 9)) fNil)))))))) (fLc false [15] (fItS (fVar 11)) (.nm 15) fYes (fBin (sAdd false) (fBin (sAdd false) (fSl false (fVar 9) fNoP (fPart (fVar 10))) (fTup (fCons (fVar 15) fNil))) (fSl false (fVar 9) (fPart (fVar 10)) fNoP)))))
  (fSeq (fSet 12 (fBin (sAdd false) (fVar 12) (fLst false (fCons (fBin (sAdd false) (fBin (sAdd false) (fSl false (fVar 9) fNoP (fPart (fVar 10))) (fTup (fCons (fVar 2) (fCons (fVar 2) fNil)))) (fSl false (fVar 9) (fPart (fVar 10)) fNoP)) (fCons (fBin (sAdd false) (fVar 9) (fBin (sMul false) (fTup (fCons (fC (.int 1)) (fCons (fC (.int 1)) fNil))) (fBin sFdiv (fBin sSub (fC (.int 400)) (fCall sLen (fCons (fVar 9) fNil))) (fC (.int 2))))) (fCons (fBin (sAdd false) (fBin (sAdd false) (fVar 9) (fBin (sMul false) (fTup (fCons (fC (.int 1)) (fCons (fC (.int 1)) fNil))) (fC (.int 200)))) (fTup (fCons (fC (.int 1)) (fCons (fC (.int 1)) fNil)))) fNil))))))
  (fFor (.nm 13) (fItS (fVar 12)) (fIfS (fNot (fTru (fOwn 2 (m_law_sameU 6) (fCons (fOwn 3 m_is_way (fCons (fVar 4) (fCons (fVar 5) (fCons (fVar 13) fNil)))) (fCons (fOwn 3 m_law_is_wayU (fCons (fVar 4) (fCons (fVar 5) (fCons (fVar 13) fNil)))) fNil))))) (fRet (fC (.bl false))) fNx))))))))))))))))
  (fRet (fC (.bl true))))
def m_law_part_oneU : List Y → Sto → Res Y := wrap false 16 b_law_part_oneU
set_option maxHeartbeats 4000000 in
theorem fn_law_part_oneU {w : World} {K : PySem.W.Frag} {mg : Str → Option Value} {base : Heap} (blt : ∀ (j : Nat) (x : Str), bls[j]? = some x → mg x = none) (d_law_someU : Def Pw w K mg base "_law_some" 2 2 m_law_someU) (d_law_rollU : Def Pw w K mg base "_law_roll" 2 1 m_law_rollU) (d_law_tuplesU : Def Pw w K mg base "_law_tuples" 2 1 m_law_tuplesU) (d_law_wordU : Def Pw w K mg base "_law_word" 2 2 m_law_wordU) (d_count_ways : Def Pw w K mg base "count_ways" 3 5 m_count_ways) (d_count_back : Def Pw w K mg base "count_back" 2 3 m_count_back) (d_law_sameU : Def Pw w K mg base "_law_same" 2 7 (m_law_sameU 6)) (d_law_endU : Def Pw w K mg base "_law_end" 2 2 m_law_endU) (d_is_way : Def Pw w K mg base "is_way" 3 5 m_is_way) (d_law_is_wayU : Def Pw w K mg base "_law_is_way" 3 3 m_law_is_wayU) {f : Addr} {fd : FuncData} (F : Fun K "_law_part_one" "_law_part_one" st_law_part_oneU f fd) : FnOk Pw w K mg base (L2.CX Pw w) 8 f fd P_law_part_oneU (spM K mg 1 m_law_part_oneU) :=
  fn_mk (k := 7) false F sc_law_part_oneU (fun cdv A outer s H E hr => by
    have O := okS (P := Pw) (w := w) (K := K) (base := base) (outer := outer) (H := H) (E := E) (vl := [(1, "turn"), (2, "signs"), (3, "many"), (0, "cup"), (4, "one"), (5, "other"), (6, "ways"), (7, "due"), (8, "told"), (9, "walk"), (10, "at"), (11, "odd"), (12, "near"), (13, "value")]) (wl := [(1, "turn"), (2, "signs"), (3, "many"), (0, "cup"), (4, "one"), (5, "other"), (6, "ways"), (7, "due"), (8, "told"), (9, "walk"), (10, "at"), (11, "odd"), (12, "near"), (13, "value")]) (gl := ["range", "_law_some", "_law_roll", "_law_word", "_law_tuples", "len", "count_ways", "count_back", "_law_same", "tuple", "_law_end", "list", "is_way", "_law_is_way"]) sc_law_part_oneU hr (by decide +kernel) blt
    exact (rss_cons (rs_for O.o passD (ri_rng1 O.o 0 (ra_cons re_int ra_nil)) (rg_nm O.o 0) (rss_cons (rs_asg O.o (re_own O d_law_someU 1 (ra_cons (re_var O.o 3) (ra_cons (re_lst false (ra_cons (re_tup (ra_cons re_int (ra_cons re_int ra_nil))) (ra_cons (re_tup (ra_cons re_int (ra_cons re_int ra_nil))) (ra_cons (re_tup (ra_cons re_int (ra_cons re_int ra_nil))) (ra_cons (re_tup (ra_cons re_int (ra_cons re_int ra_nil))) ra_nil))))) ra_nil))) (rg_tp O.o (rg_cons (rg_nm O.o 1) (rg_cons (rg_nm O.o 2) rg_nil))))
  (rss_cons (rs_set O.o 2 (re_own O d_law_rollU 2 (ra_cons (re_var O.o 3) (ra_cons (re_add false (re_var O.o 2) re_int) ra_nil))))
  (rss_cons (rs_asg O.o (re_tup (ra_cons (re_own O d_law_wordU 3 (ra_cons (re_var O.o 3) (ra_cons (re_var O.o 1) ra_nil))) (ra_cons (re_own O d_law_wordU 3 (ra_cons (re_var O.o 3) (ra_cons (re_var O.o 1) ra_nil))) ra_nil))) (rg_tp O.o (rg_cons (rg_nm O.o 4) (rg_cons (rg_nm O.o 5) rg_nil))))
  (rss_cons (rs_set O.o 6 (re_own O d_law_tuplesU 4 (ra_cons (re_var O.o 1) (ra_cons (re_var O.o 2) ra_nil))))
  (rss_cons (rs_set O.o 7 (re_len O.o 5 (ra_cons (re_lcO false O [("way", 14)] [(14, "way"), (4, "one"), (5, "other")] [(14, "way")] ["_law_end"] (ri_seq (re_var O.o 6)) (by decide +kernel) (by decide +kernel) (by decide +kernel) (fun s H C cl fp O1 => ⟨(rg_nm O1.o 0), (rts_one (rt_eq O1.o (re_own O1 d_law_endU 0 (ra_cons (re_var O1.o 1) (ra_cons (re_var O1.o 0) ra_nil))) (re_var O1.o 2))), (re_var O1.o 0)⟩)) ra_nil)))
  (rss_cons (rs_set O.o 8 (re_lst false (ra_cons (re_own O d_count_ways 6 (ra_cons (re_var O.o 4) (ra_cons (re_var O.o 5) (ra_cons (re_var O.o 2) ra_nil)))) (ra_cons (re_own O d_count_ways 6 (ra_cons (re_var O.o 5) (ra_cons (re_var O.o 4) (ra_cons (re_var O.o 2) ra_nil)))) (ra_cons (re_own O d_count_back 7 (ra_cons (re_var O.o 1) (ra_cons (re_var O.o 2) ra_nil))) ra_nil)))))
  (rss_cons (rs_if (rt_not (rt_tru (re_own O d_law_sameU 8 (ra_cons (re_var O.o 8) (ra_cons (re_lst false (ra_cons (re_var O.o 7) (ra_cons (re_var O.o 7) (ra_cons (re_len O.o 5 (ra_cons (re_lcO false O [("way", 14)] [(14, "way"), (4, "one")] [(14, "way")] ["_law_end"] (ri_seq (re_var O.o 6)) (by decide +kernel) (by decide +kernel) (by decide +kernel) (fun s H C cl fp O1 => ⟨(rg_nm O1.o 0), (rts_one (rt_eq O1.o (re_own O1 d_law_endU 0 (ra_cons (re_var O1.o 1) (ra_cons (re_var O1.o 0) ra_nil))) (re_var O1.o 1))), (re_var O1.o 0)⟩)) ra_nil)) ra_nil)))) ra_nil))))) (rss_one (rs_ret re_bl)) rss_nil)
  (rss_cons (rs_set O.o 1 (re_own O d_law_someU 1 (ra_cons (re_var O.o 3) (ra_cons (re_lst false (ra_cons re_int (ra_cons re_int (ra_cons re_int ra_nil)))) ra_nil))))
  (rss_cons (rs_asg O.o (re_tup (ra_cons (re_own O d_law_wordU 3 (ra_cons (re_var O.o 3) (ra_cons (re_var O.o 1) ra_nil))) (ra_cons (re_tupc O.o 9 (ra_cons (re_lcO false O [("step", 15)] [(0, "cup"), (2, "signs"), (15, "step")] [(15, "step")] ["_law_roll"] (ri_rng1 O.o 0 (ra_cons (re_own O d_law_someU 1 (ra_cons (re_var O.o 3) (ra_cons (re_lst false (ra_cons re_int (ra_cons re_int (ra_cons re_int ra_nil)))) ra_nil))) ra_nil)) (by decide +kernel) (by decide +kernel) (by decide +kernel) (fun s H C cl fp O1 => ⟨(rg_nm O1.o 0), rts_nil, (re_add false re_int (re_own O1 d_law_rollU 0 (ra_cons (re_var O1.o 0) (ra_cons (re_var O1.o 1) ra_nil))))⟩)) ra_nil)) ra_nil))) (rg_tp O.o (rg_cons (rg_nm O.o 4) (rg_cons (rg_nm O.o 9) rg_nil))))
  (rss_cons (rs_asg O.o (re_tup (ra_cons (re_own O d_law_endU 10 (ra_cons (re_var O.o 4) (ra_cons (re_var O.o 9) ra_nil))) (ra_cons (re_own O d_law_rollU 2 (ra_cons (re_var O.o 3) (ra_cons (re_add false (re_len O.o 5 (ra_cons (re_var O.o 9) ra_nil)) re_int) ra_nil))) ra_nil))) (rg_tp O.o (rg_cons (rg_nm O.o 5) (rg_cons (rg_nm O.o 10) rg_nil))))
  (rss_cons (rs_set O.o 11 (re_lst false (ra_cons re_int (ra_cons (re_add false (re_var O.o 1) re_int) (ra_cons (re_neg re_int) (ra_cons re_bl (ra_cons re_non (ra_cons re_str (ra_cons (re_tup (ra_cons re_int ra_nil)) (ra_cons (re_add false re_int (re_own O d_law_rollU 2 (ra_cons (re_var O.o 3) (ra_cons (re_var O.o 1) ra_nil)))) ra_nil))))))))))
  (rss_cons (rs_set O.o 12 (re_add false (re_lst false (ra_cons (re_var O.o 9) (ra_cons (re_rev false (re_var O.o 9)) (ra_cons (re_sl false (re_var O.o 9) ro_none (ro_some (re_var O.o 10))) (ra_cons (re_listc false O.o 11 (ra_cons (re_var O.o 9) ra_nil)) (ra_cons re_non (ra_cons (re_tup ra_nil) (ra_cons (re_add false (re_var O.o 9) (re_var O.o 9)) ra_nil)))))))) (re_lcO false O [("step", 15)] [(9, "walk"), (10, "at"), (15, "step")] [(15, "step")] [] (ri_seq (re_var O.o 11)) (by decide +kernel) (by decide +kernel) (by decide +kernel) (fun s H C cl fp O1 => ⟨(rg_nm O1.o 0), rts_nil, (re_add false (re_add false (re_sl false (re_var O1.o 0) ro_none (ro_some (re_var O1.o 1))) (re_tup (ra_cons (re_var O1.o 2) ra_nil))) (re_sl false (re_var O1.o 0) (ro_some (re_var O1.o 1)) ro_none))⟩))))
  (rss_cons (rs_set O.o 12 (re_add false (re_var O.o 12) (re_lst false (ra_cons (re_add false (re_add false (re_sl false (re_var O.o 9) ro_none (ro_some (re_var O.o 10))) (re_tup (ra_cons (re_var O.o 1) (ra_cons (re_var O.o 1) ra_nil)))) (re_sl false (re_var O.o 9) (ro_some (re_var O.o 10)) ro_none)) (ra_cons (re_add false (re_var O.o 9) (re_mul false (re_tup (ra_cons re_int (ra_cons re_int ra_nil))) (re_fdiv (re_sub re_int (re_len O.o 5 (ra_cons (re_var O.o 9) ra_nil))) re_int))) (ra_cons (re_add false (re_add false (re_var O.o 9) (re_mul false (re_tup (ra_cons re_int (ra_cons re_int ra_nil))) re_int)) (re_tup (ra_cons re_int (ra_cons re_int ra_nil)))) ra_nil))))))
  (rss_one (rs_for O.o passD (ri_seq (re_var O.o 12)) (rg_nm O.o 13) (rss_one (rs_if (rt_not (rt_tru (re_own O d_law_sameU 8 (ra_cons (re_own O d_is_way 12 (ra_cons (re_var O.o 4) (ra_cons (re_var O.o 5) (ra_cons (re_var O.o 13) ra_nil)))) (ra_cons (re_own O d_law_is_wayU 13 (ra_cons (re_var O.o 4) (ra_cons (re_var O.o 5) (ra_cons (re_var O.o 13) ra_nil)))) ra_nil))))) (rss_one (rs_ret re_bl)) rss_nil))))))))))))))))))
  (rss_one (rs_ret re_bl))))
/-! ### _law_unlike -/
abbrev st_law_unlikeU : Stmt := topS 33
abbrev N_law_unlikeU : List Str := ["one", "other", "at"]
abbrev P_law_unlikeU : List Str := ["one", "other"]
theorem sc_law_unlikeU : FnScope N_law_unlikeU P_law_unlikeU (defScope st_law_unlikeU) := ⟨rfl, rfl, rfl, by decide +kernel, rfl, by decide +kernel, by decide +kernel⟩
def b_law_unlikeU : FS :=
  (fRet (fLc false [2] (fIt sRng1 (fCons (fCall sLen (fCons (fVar 0) fNil)) fNil)) (.nm 2) (fTest (fBin sNe (fBin sIx (fVar 0) (fVar 2)) (fBin sIx (fVar 1) (fVar 2)))) (fBin (sAdd false) (fVar 2) (fC (.int 1)))))
def m_law_unlikeU : List Y → Sto → Res Y := wrap false 3 b_law_unlikeU
set_option maxHeartbeats 4000000 in
theorem fn_law_unlikeU {w : World} {K : PySem.W.Frag} {mg : Str → Option Value} {base : Heap} (blt : ∀ (j : Nat) (x : Str), bls[j]? = some x → mg x = none) {f : Addr} {fd : FuncData} (F : Fun K "_law_unlike" "_law_unlike" st_law_unlikeU f fd) : FnOk Pw w K mg base (L2.CX Pw w) 1 f fd P_law_unlikeU (spM K mg 2 m_law_unlikeU) :=
  fn_mk (k := 0) false F sc_law_unlikeU (fun cdv A outer s H E hr => by
    have O := okS (P := Pw) (w := w) (K := K) (base := base) (outer := outer) (H := H) (E := E) (vl := [(0, "one")]) (wl := [(0, "one")]) (gl := ["range", "len"]) sc_law_unlikeU hr (by decide +kernel) blt
    exact (rss_one (rs_ret (re_lcO false O [("at", 2)] [(2, "at"), (0, "one"), (1, "other")] [(2, "at")] [] (ri_rng1 O.o 0 (ra_cons (re_len O.o 1 (ra_cons (re_var O.o 0) ra_nil)) ra_nil)) (by decide +kernel) (by decide +kernel) (by decide +kernel) (fun s H C cl fp O1 => ⟨(rg_nm O1.o 0), (rts_one (rt_ne O1.o (re_ix (re_var O1.o 1) (re_var O1.o 0)) (re_ix (re_var O1.o 2) (re_var O1.o 0)))), (re_add false (re_var O1.o 0) re_int)⟩)))))
/-! ### _law_power -/
abbrev st_law_powerU : Stmt := topS 35
abbrev N_law_powerU : List Str := ["number", "many", "found", "turn"]
abbrev P_law_powerU : List Str := ["number", "many"]
theorem sc_law_powerU : FnScope N_law_powerU P_law_powerU (defScope st_law_powerU) := ⟨rfl, rfl, rfl, by decide +kernel, rfl, by decide +kernel, by decide +kernel⟩
def b_law_powerU : FS :=
  (fSeq (fSet 2 (fC (.int 1)))
  (fSeq (fFor (.nm 3) (fIt sRng1 (fCons (fVar 1) fNil)) (fSet 2 (fBin (sMul false) (fVar 2) (fVar 0))))
  (fRet (fVar 2))))
def m_law_powerU : List Y → Sto → Res Y := wrap false 4 b_law_powerU
set_option maxHeartbeats 4000000 in
theorem fn_law_powerU {w : World} {K : PySem.W.Frag} {mg : Str → Option Value} {base : Heap} (blt : ∀ (j : Nat) (x : Str), bls[j]? = some x → mg x = none) {f : Addr} {fd : FuncData} (F : Fun K "_law_power" "_law_power" st_law_powerU f fd) : FnOk Pw w K mg base (L2.CX Pw w) 1 f fd P_law_powerU (spM K mg 2 m_law_powerU) :=
  fn_mk (k := 0) false F sc_law_powerU (fun cdv A outer s H E hr => by
    have O := okS (P := Pw) (w := w) (K := K) (base := base) (outer := outer) (H := H) (E := E) (vl := [(2, "found"), (3, "turn"), (1, "many"), (0, "number")]) (wl := [(2, "found"), (3, "turn"), (1, "many"), (0, "number")]) (gl := ["range"]) sc_law_powerU hr (by decide +kernel) blt
    exact (rss_cons (rs_set O.o 0 re_int)
  (rss_cons (rs_for O.o passD (ri_rng1 O.o 0 (ra_cons (re_var O.o 2) ra_nil)) (rg_nm O.o 1) (rss_one (rs_set O.o 0 (re_mul false (re_var O.o 0) (re_var O.o 3)))))
  (rss_one (rs_ret (re_var O.o 0))))))
/-! ### _law_twos -/
abbrev st_law_twosU : Stmt := topS 34
abbrev N_law_twosU : List Str := ["many", "found", "turn"]
abbrev P_law_twosU : List Str := ["many"]
theorem sc_law_twosU : FnScope N_law_twosU P_law_twosU (defScope st_law_twosU) := ⟨rfl, rfl, rfl, by decide +kernel, rfl, by decide +kernel, by decide +kernel⟩
def b_law_twosU : FS :=
  (fSeq (fSet 1 (fC (.int 1)))
  (fSeq (fFor (.nm 2) (fIt sRng1 (fCons (fVar 0) fNil)) (fSet 1 (fBin (sMul false) (fVar 1) (fC (.int 2)))))
  (fRet (fVar 1))))
def m_law_twosU : List Y → Sto → Res Y := wrap false 3 b_law_twosU
set_option maxHeartbeats 4000000 in
theorem fn_law_twosU {w : World} {K : PySem.W.Frag} {mg : Str → Option Value} {base : Heap} (blt : ∀ (j : Nat) (x : Str), bls[j]? = some x → mg x = none) {f : Addr} {fd : FuncData} (F : Fun K "_law_twos" "_law_twos" st_law_twosU f fd) : FnOk Pw w K mg base (L2.CX Pw w) 1 f fd P_law_twosU (spM K mg 1 m_law_twosU) :=
  fn_mk (k := 0) false F sc_law_twosU (fun cdv A outer s H E hr => by
    have O := okS (P := Pw) (w := w) (K := K) (base := base) (outer := outer) (H := H) (E := E) (vl := [(1, "found"), (2, "turn"), (0, "many")]) (wl := [(1, "found"), (2, "turn"), (0, "many")]) (gl := ["range"]) sc_law_twosU hr (by decide +kernel) blt
    exact (rss_cons (rs_set O.o 0 re_int)
  (rss_cons (rs_for O.o passD (ri_rng1 O.o 0 (ra_cons (re_var O.o 2) ra_nil)) (rg_nm O.o 1) (rss_one (rs_set O.o 0 (re_mul false (re_var O.o 0) re_int))))
  (rss_one (rs_ret (re_var O.o 0))))))
/-! ### _law_choose -/
abbrev st_law_chooseU : Stmt := topS 36
abbrev N_law_chooseU : List Str := ["many", "some", "found", "turn"]
abbrev P_law_chooseU : List Str := ["many", "some"]
theorem sc_law_chooseU : FnScope N_law_chooseU P_law_chooseU (defScope st_law_chooseU) := ⟨rfl, rfl, rfl, by decide +kernel, rfl, by decide +kernel, by decide +kernel⟩
def b_law_chooseU : FS :=
  (fSeq (fSet 2 (fC (.int 1)))
  (fSeq (fFor (.nm 3) (fIt sRng1 (fCons (fVar 1) fNil)) (fSet 2 (fCall sInt (fCons (fBin sFdiv (fBin (sMul false) (fVar 2) (fBin sSub (fVar 0) (fVar 3))) (fBin (sAdd false) (fVar 3) (fC (.int 1)))) fNil))))
  (fRet (fVar 2))))
def m_law_chooseU : List Y → Sto → Res Y := wrap false 4 b_law_chooseU
set_option maxHeartbeats 4000000 in
theorem fn_law_chooseU {w : World} {K : PySem.W.Frag} {mg : Str → Option Value} {base : Heap} (blt : ∀ (j : Nat) (x : Str), bls[j]? = some x → mg x = none) {f : Addr} {fd : FuncData} (F : Fun K "_law_choose" "_law_choose" st_law_chooseU f fd) : FnOk Pw w K mg base (L2.CX Pw w) 1 f fd P_law_chooseU (spM K mg 2 m_law_chooseU) :=
  fn_mk (k := 0) false F sc_law_chooseU (fun cdv A outer s H E hr => by
    have O := okS (P := Pw) (w := w) (K := K) (base := base) (outer := outer) (H := H) (E := E) (vl := [(2, "found"), (3, "turn"), (1, "some"), (0, "many")]) (wl := [(2, "found"), (3, "turn"), (1, "some"), (0, "many")]) (gl := ["range", "int"]) sc_law_chooseU hr (by decide +kernel) blt
    exact (rss_cons (rs_set O.o 0 re_int)
  (rss_cons (rs_for O.o passD (ri_rng1 O.o 0 (ra_cons (re_var O.o 2) ra_nil)) (rg_nm O.o 1) (rss_one (rs_set O.o 0 (re_intc O.o 1 (ra_cons (re_fdiv (re_mul false (re_var O.o 0) (re_sub (re_var O.o 3) (re_var O.o 1))) (re_add false (re_var O.o 1) re_int)) ra_nil)))))
  (rss_one (rs_ret (re_var O.o 0))))))
/-! ### _law_sum -/
abbrev st_law_sumU : Stmt := topS 37
abbrev N_law_sumU : List Str := ["signs", "far", "many", "found", "size", "weight", "inner", "sets"]
abbrev P_law_sumU : List Str := ["signs", "far", "many"]
theorem sc_law_sumU : FnScope N_law_sumU P_law_sumU (defScope st_law_sumU) := ⟨rfl, rfl, rfl, by decide +kernel, rfl, by decide +kernel, by decide +kernel⟩
def b_law_sumU : FS :=
  (fSeq (fSet 3 (fC (.int 0)))
  (fSeq (fFor (.nm 4) (fIt sRng1 (fCons (fBin (sAdd false) (fVar 0) (fC (.int 1))) fNil)) (fSeq (fSet 5 (fC (.int 0)))
  (fSeq (fFor (.nm 6) (fIt sRng2 (fCons (fCall sMax2 (fCons (fC (.int 0)) (fCons (fBin sSub (fVar 4) (fBin sSub (fVar 0) (fVar 1))) fNil))) (fCons (fBin (sAdd false) (fCall sMin2 (fCons (fVar 4) (fCons (fVar 1) fNil))) (fC (.int 1))) fNil))) (fSeq (fSet 7 (fBin (sMul false) (fOwn 2 m_law_chooseU (fCons (fVar 1) (fCons (fVar 6) fNil))) (fOwn 2 m_law_chooseU (fCons (fBin sSub (fVar 0) (fVar 1)) (fCons (fBin sSub (fVar 4) (fVar 6)) fNil)))))
  (fSet 5 (fBin (sAdd false) (fVar 5) (fIf (fTest (fBin sEq (fBin sMod (fCall sInt (fCons (fVar 6) fNil)) (fC (.int 2))) (fC (.int 0)))) (fVar 7) (fUn sNeg (fVar 7)))))))
  (fSet 3 (fBin (sAdd false) (fVar 3) (fBin (sMul false) (fVar 5) (fOwn 2 m_law_powerU (fCons (fBin sSub (fVar 0) (fBin (sMul false) (fC (.int 2)) (fVar 4))) (fCons (fVar 2) fNil)))))))))
  (fRet (fCall sInt (fCons (fBin sFdiv (fVar 3) (fOwn 1 m_law_twosU (fCons (fVar 0) fNil))) fNil)))))
def m_law_sumU : List Y → Sto → Res Y := wrap false 8 b_law_sumU
set_option maxHeartbeats 4000000 in
theorem fn_law_sumU {w : World} {K : PySem.W.Frag} {mg : Str → Option Value} {base : Heap} (blt : ∀ (j : Nat) (x : Str), bls[j]? = some x → mg x = none) (d_law_twosU : Def Pw w K mg base "_law_twos" 1 1 m_law_twosU) (d_law_chooseU : Def Pw w K mg base "_law_choose" 2 1 m_law_chooseU) (d_law_powerU : Def Pw w K mg base "_law_power" 2 1 m_law_powerU) {f : Addr} {fd : FuncData} (F : Fun K "_law_sum" "_law_sum" st_law_sumU f fd) : FnOk Pw w K mg base (L2.CX Pw w) 2 f fd P_law_sumU (spM K mg 3 m_law_sumU) :=
  fn_mk (k := 1) false F sc_law_sumU (fun cdv A outer s H E hr => by
    have O := okS (P := Pw) (w := w) (K := K) (base := base) (outer := outer) (H := H) (E := E) (vl := [(3, "found"), (4, "size"), (0, "signs"), (5, "weight"), (6, "inner"), (1, "far"), (7, "sets"), (2, "many")]) (wl := [(3, "found"), (4, "size"), (0, "signs"), (5, "weight"), (6, "inner"), (1, "far"), (7, "sets"), (2, "many")]) (gl := ["range", "max", "min", "_law_choose", "int", "_law_power", "_law_twos"]) sc_law_sumU hr (by decide +kernel) blt
    exact (rss_cons (rs_set O.o 0 re_int)
  (rss_cons (rs_for O.o passD (ri_rng1 O.o 0 (ra_cons (re_add false (re_var O.o 2) re_int) ra_nil)) (rg_nm O.o 1) (rss_cons (rs_set O.o 3 re_int)
  (rss_cons (rs_for O.o passD (ri_rng2 O.o 0 (ra_cons (re_max2 O.o 1 (ra_cons re_int (ra_cons (re_sub (re_var O.o 1) (re_sub (re_var O.o 2) (re_var O.o 5))) ra_nil))) (ra_cons (re_add false (re_min2 O.o 2 (ra_cons (re_var O.o 1) (ra_cons (re_var O.o 5) ra_nil))) re_int) ra_nil))) (rg_nm O.o 4) (rss_cons (rs_set O.o 6 (re_mul false (re_own O d_law_chooseU 3 (ra_cons (re_var O.o 5) (ra_cons (re_var O.o 4) ra_nil))) (re_own O d_law_chooseU 3 (ra_cons (re_sub (re_var O.o 2) (re_var O.o 5)) (ra_cons (re_sub (re_var O.o 1) (re_var O.o 4)) ra_nil)))))
  (rss_one (rs_set O.o 3 (re_add false (re_var O.o 3) (re_if (rt_eq O.o (re_mod (re_intc O.o 4 (ra_cons (re_var O.o 4) ra_nil)) re_int) re_int) (re_var O.o 6) (re_neg (re_var O.o 6))))))))
  (rss_one (rs_set O.o 0 (re_add false (re_var O.o 0) (re_mul false (re_var O.o 3) (re_own O d_law_powerU 5 (ra_cons (re_sub (re_var O.o 2) (re_mul false re_int (re_var O.o 1))) (ra_cons (re_var O.o 7) ra_nil))))))))))
  (rss_one (rs_ret (re_intc O.o 4 (ra_cons (re_fdiv (re_var O.o 0) (re_own O d_law_twosU 6 (ra_cons (re_var O.o 2) ra_nil))) ra_nil)))))))
/-! ### unlike_places -/
abbrev st_unlike_places : Stmt := topS 13
abbrev N_unlike_places : List Str := ["one", "other"]
abbrev P_unlike_places : List Str := ["one", "other"]
theorem sc_unlike_places : FnScope N_unlike_places P_unlike_places (defScope st_unlike_places) := ⟨rfl, rfl, rfl, by decide +kernel, rfl, by decide +kernel, by decide +kernel⟩
def b_unlike_places : FS :=
  (fSeq (fDrop (fOwn 2 m_need_words (fCons (fVar 0) (fCons (fVar 1) fNil))))
  (fRet (fCall sTuple (fCons (fOwn 2 m_unlike_in (fCons (fVar 0) (fCons (fVar 1) fNil))) fNil))))
def m_unlike_places : List Y → Sto → Res Y := wrap false 2 b_unlike_places
set_option maxHeartbeats 4000000 in
theorem fn_unlike_places {w : World} {K : PySem.W.Frag} {mg : Str → Option Value} {base : Heap} (blt : ∀ (j : Nat) (x : Str), bls[j]? = some x → mg x = none) (d_need_words : Def Pw w K mg base "need_words" 2 4 m_need_words) (d_unlike_in : Def Pw w K mg base "unlike_in" 2 1 m_unlike_in) {f : Addr} {fd : FuncData} (F : Fun K "unlike_places" "unlike_places" st_unlike_places f fd) : FnOk Pw w K mg base (L2.CX Pw w) 5 f fd P_unlike_places (spM K mg 2 m_unlike_places) :=
  fn_mk (k := 4) false F sc_unlike_places (fun cdv A outer s H E hr => by
    have O := okS (P := Pw) (w := w) (K := K) (base := base) (outer := outer) (H := H) (E := E) (vl := [(0, "one"), (1, "other")]) (wl := [(0, "one"), (1, "other")]) (gl := ["need_words", "tuple", "unlike_in"]) sc_unlike_places hr (by decide +kernel) blt
    exact (rss_cons (rs_expr (re_own O d_need_words 0 (ra_cons (re_var O.o 0) (ra_cons (re_var O.o 1) ra_nil))))
  (rss_one (rs_ret (re_tupc O.o 1 (ra_cons (re_own O d_unlike_in 2 (ra_cons (re_var O.o 0) (ra_cons (re_var O.o 1) ra_nil))) ra_nil))))))
/-! ### _law_part_two -/
abbrev st_law_part_twoU : Stmt := topS 39
abbrev N_law_part_twoU : List Str := ["cup", "turn", "signs", "many", "one", "other", "far", "every", "apart", "goal", "at", "sign"]
abbrev P_law_part_twoU : List Str := ["cup"]
theorem sc_law_part_twoU : FnScope N_law_part_twoU P_law_part_twoU (defScope st_law_part_twoU) := ⟨rfl, rfl, rfl, by decide +kernel, rfl, by decide +kernel, by decide +kernel⟩
def b_law_part_twoU : FS :=
  (fSeq (fFor (.nm 1) (fIt sRng1 (fCons (fC (.int 3)) fNil)) (fSeq (fSet 2 (fOwn 2 m_law_someU (fCons (fVar 0) (fCons (fLst false (fCons (fC (.int 1)) (fCons (fC (.int 2)) (fCons (fC (.int 3)) (fCons (fC (.int 8)) (fCons (fC (.int 16)) (fCons (fBin (sAdd false) (fC (.int 1)) (fOwn 2 m_law_rollU (fCons (fVar 0) (fCons (fC (.int 16)) fNil)))) fNil))))))) fNil))))
  (fSeq (fSet 3 (fOwn 2 m_law_someU (fCons (fVar 0) (fCons (fLst false (fCons (fC (.int 0)) (fCons (fC (.int 1)) (fCons (fC (.int 2)) (fCons (fC (.int 7)) (fCons (fC (.int 40)) (fCons (fOwn 2 m_law_rollU (fCons (fVar 0) (fCons (fC (.int 401)) fNil))) (fCons (fC (.int 399)) (fCons (fC (.int 400)) fNil))))))))) fNil))))
  (fSeq (fPar 4 5 (fCons (fOwn 2 m_law_wordU (fCons (fVar 0) (fCons (fVar 2) fNil))) (fCons (fOwn 2 m_law_wordU (fCons (fVar 0) (fCons (fVar 2) fNil))) fNil)))
  (fSeq (fSet 6 (fCall sLen (fCons (fOwn 2 m_law_unlikeU (fCons (fVar 4) (fCons (fVar 5) fNil))) fNil)))
  (fSeq (fIfS (fNot (fTru (fOwn 2 (m_law_sameU 6) (fCons (fLst false (fCons (fOwn 3 m_count_ways (fCons (fVar 4) (fCons (fVar 5) (fCons (fVar 3) fNil)))) (fCons (fOwn 2 m_count_back (fCons (fVar 2) (fCons (fVar 3) fNil))) fNil))) (fCons (fLst false (fCons (fOwn 3 m_law_sumU (fCons (fVar 2) (fCons (fVar 6) (fCons (fVar 3) fNil)))) (fCons (fOwn 3 m_law_sumU (fCons (fVar 2) (fCons (fC (.int 0)) (fCons (fVar 3) fNil)))) fNil))) fNil))))) (fRet (fC (.bl false))) fNx)
  (fSeq (fIfS (fAnd (fTest (fBin sEq (fBin sMod (fCall sInt (fCons (fBin (sAdd false) (fVar 6) (fVar 3)) fNil)) (fC (.int 2))) (fC (.int 1)))) (fTest (fBin sNe (fOwn 3 m_count_ways (fCons (fVar 4) (fCons (fVar 5) (fCons (fVar 3) fNil)))) (fC (.int 0))))) (fRet (fC (.bl false))) fNx)
  (fSeq (fSet 7 (fC (.int 0)))
  (fSeq (fFor (.nm 8) (fIt sRng1 (fCons (fBin (sAdd false) (fVar 2) (fC (.int 1))) fNil)) (fSeq (fSet 9 (fCall sTuple (fCons (fLc false [10, 11] (fIt (itS1 (enumL 0)) (fCons (fVar 4) fNil)) (.tp [(.nm 10), (.nm 11)]) fYes (fIf (fTest (fBin sLt (fVar 10) (fVar 8))) (fBin sSub (fC (.int 1)) (fVar 11)) (fVar 11))) fNil)))
  (fSet 7 (fBin (sAdd false) (fVar 7) (fBin (sMul false) (fOwn 2 m_law_chooseU (fCons (fVar 2) (fCons (fVar 8) fNil))) (fOwn 3 m_count_ways (fCons (fVar 4) (fCons (fVar 9) (fCons (fVar 3) fNil)))))))))
  (fIfS (fOr (fTest (fBin sNe (fVar 7) (fOwn 2 m_law_powerU (fCons (fVar 2) (fCons (fVar 3) fNil))))) (fTest (fBin sNe (fCall sLen (fCons (fOwn 2 m_unlike_places (fCons (fVar 4) (fCons (fVar 5) fNil))) fNil)) (fVar 6)))) (fRet (fC (.bl false))) fNx))))))))))
  (fRet (fC (.bl true))))
def m_law_part_twoU : List Y → Sto → Res Y := wrap false 12 b_law_part_twoU
set_option maxHeartbeats 4000000 in
theorem fn_law_part_twoU {w : World} {K : PySem.W.Frag} {mg : Str → Option Value} {base : Heap} (blt : ∀ (j : Nat) (x : Str), bls[j]? = some x → mg x = none) (d_law_someU : Def Pw w K mg base "_law_some" 2 2 m_law_someU) (d_law_wordU : Def Pw w K mg base "_law_word" 2 2 m_law_wordU) (d_law_unlikeU : Def Pw w K mg base "_law_unlike" 2 1 m_law_unlikeU) (d_law_sameU : Def Pw w K mg base "_law_same" 2 7 (m_law_sameU 6)) (d_law_rollU : Def Pw w K mg base "_law_roll" 2 1 m_law_rollU) (d_count_ways : Def Pw w K mg base "count_ways" 3 5 m_count_ways) (d_law_powerU : Def Pw w K mg base "_law_power" 2 1 m_law_powerU) (d_count_back : Def Pw w K mg base "count_back" 2 3 m_count_back) (d_law_sumU : Def Pw w K mg base "_law_sum" 3 2 m_law_sumU) (d_law_chooseU : Def Pw w K mg base "_law_choose" 2 1 m_law_chooseU) (d_unlike_places : Def Pw w K mg base "unlike_places" 2 5 m_unlike_places) {f : Addr} {fd : FuncData} (F : Fun K "_law_part_two" "_law_part_two" st_law_part_twoU f fd) : FnOk Pw w K mg base (L2.CX Pw w) 8 f fd P_law_part_twoU (spM K mg 1 m_law_part_twoU) :=
  fn_mk (k := 7) false F sc_law_part_twoU (fun cdv A outer s H E hr => by
    have O := okS (P := Pw) (w := w) (K := K) (base := base) (outer := outer) (H := H) (E := E) (vl := [(1, "turn"), (2, "signs"), (0, "cup"), (3, "many"), (4, "one"), (5, "other"), (6, "far"), (7, "every"), (8, "apart"), (9, "goal")]) (wl := [(1, "turn"), (2, "signs"), (0, "cup"), (3, "many"), (4, "one"), (5, "other"), (6, "far"), (7, "every"), (8, "apart"), (9, "goal")]) (gl := ["range", "_law_some", "_law_roll", "_law_word", "len", "_law_unlike", "_law_same", "count_ways", "count_back", "_law_sum", "int", "tuple", "enumerate", "_law_choose", "_law_power", "unlike_places"]) sc_law_part_twoU hr (by decide +kernel) blt
    exact (rss_cons (rs_for O.o passD (ri_rng1 O.o 0 (ra_cons re_int ra_nil)) (rg_nm O.o 0) (rss_cons (rs_set O.o 1 (re_own O d_law_someU 1 (ra_cons (re_var O.o 2) (ra_cons (re_lst false (ra_cons re_int (ra_cons re_int (ra_cons re_int (ra_cons re_int (ra_cons re_int (ra_cons (re_add false re_int (re_own O d_law_rollU 2 (ra_cons (re_var O.o 2) (ra_cons re_int ra_nil)))) ra_nil))))))) ra_nil))))
  (rss_cons (rs_set O.o 3 (re_own O d_law_someU 1 (ra_cons (re_var O.o 2) (ra_cons (re_lst false (ra_cons re_int (ra_cons re_int (ra_cons re_int (ra_cons re_int (ra_cons re_int (ra_cons (re_own O d_law_rollU 2 (ra_cons (re_var O.o 2) (ra_cons re_int ra_nil))) (ra_cons re_int (ra_cons re_int ra_nil))))))))) ra_nil))))
  (rss_cons (rs_par O.o 4 5 (ra_cons (re_own O d_law_wordU 3 (ra_cons (re_var O.o 2) (ra_cons (re_var O.o 1) ra_nil))) (ra_cons (re_own O d_law_wordU 3 (ra_cons (re_var O.o 2) (ra_cons (re_var O.o 1) ra_nil))) ra_nil)))
  (rss_cons (rs_set O.o 6 (re_len O.o 4 (ra_cons (re_own O d_law_unlikeU 5 (ra_cons (re_var O.o 4) (ra_cons (re_var O.o 5) ra_nil))) ra_nil)))
  (rss_cons (rs_if (rt_not (rt_tru (re_own O d_law_sameU 6 (ra_cons (re_lst false (ra_cons (re_own O d_count_ways 7 (ra_cons (re_var O.o 4) (ra_cons (re_var O.o 5) (ra_cons (re_var O.o 3) ra_nil)))) (ra_cons (re_own O d_count_back 8 (ra_cons (re_var O.o 1) (ra_cons (re_var O.o 3) ra_nil))) ra_nil))) (ra_cons (re_lst false (ra_cons (re_own O d_law_sumU 9 (ra_cons (re_var O.o 1) (ra_cons (re_var O.o 6) (ra_cons (re_var O.o 3) ra_nil)))) (ra_cons (re_own O d_law_sumU 9 (ra_cons (re_var O.o 1) (ra_cons re_int (ra_cons (re_var O.o 3) ra_nil)))) ra_nil))) ra_nil))))) (rss_one (rs_ret re_bl)) rss_nil)
  (rss_cons (rs_if (rt_w (rw_and (rt_eq O.o (re_mod (re_intc O.o 10 (ra_cons (re_add false (re_var O.o 6) (re_var O.o 3)) ra_nil)) re_int) re_int) (rw_and1 (rt_ne O.o (re_own O d_count_ways 7 (ra_cons (re_var O.o 4) (ra_cons (re_var O.o 5) (ra_cons (re_var O.o 3) ra_nil)))) re_int)))) (rss_one (rs_ret re_bl)) rss_nil)
  (rss_cons (rs_set O.o 7 re_int)
  (rss_cons (rs_for O.o passD (ri_rng1 O.o 0 (ra_cons (re_add false (re_var O.o 1) re_int) ra_nil)) (rg_nm O.o 8) (rss_cons (rs_set O.o 9 (re_tupc O.o 11 (ra_cons (re_lcO false O [("at", 10), ("sign", 11)] [(10, "at"), (8, "apart"), (11, "sign")] [(10, "at"), (11, "sign")] [] (ri_enum O.o 12 (ra_cons (re_var O.o 4) ra_nil)) (by decide +kernel) (by decide +kernel) (by decide +kernel) (fun s H C cl fp O1 => ⟨(rg_tp O1.o (rg_cons (rg_nm O1.o 0) (rg_cons (rg_nm O1.o 1) rg_nil))), rts_nil, (re_if (rt_lt (re_var O1.o 0) (re_var O1.o 1)) (re_sub re_int (re_var O1.o 2)) (re_var O1.o 2))⟩)) ra_nil)))
  (rss_one (rs_set O.o 7 (re_add false (re_var O.o 7) (re_mul false (re_own O d_law_chooseU 13 (ra_cons (re_var O.o 1) (ra_cons (re_var O.o 8) ra_nil))) (re_own O d_count_ways 7 (ra_cons (re_var O.o 4) (ra_cons (re_var O.o 9) (ra_cons (re_var O.o 3) ra_nil))))))))))
  (rss_one (rs_if (rt_w (rw_or (rt_ne O.o (re_var O.o 7) (re_own O d_law_powerU 14 (ra_cons (re_var O.o 1) (ra_cons (re_var O.o 3) ra_nil)))) (rw_or1 (rt_ne O.o (re_len O.o 4 (ra_cons (re_own O d_unlike_places 15 (ra_cons (re_var O.o 4) (ra_cons (re_var O.o 5) ra_nil))) ra_nil)) (re_var O.o 6))))) (rss_one (rs_ret re_bl)) rss_nil)))))))))))
  (rss_one (rs_ret re_bl))))
/-! ### law -/
abbrev st_law : Stmt := topS 41
abbrev N_law : List Str := ["script", "cup"]
abbrev P_law : List Str := ["script"]
theorem sc_law : FnScope N_law P_law (defScope st_law) := ⟨rfl, rfl, rfl, by decide +kernel, rfl, by decide +kernel, by decide +kernel⟩
def b_law : FS :=
  (fSeq (fSet 1 (fOwn 1 m_law_cupU (fCons (fVar 0) fNil)))
  (fSeq (fIfS (fNot (fTru (fOwn 0 m_law_rows_rightU fNil))) (fRet (fC (.bl false))) fNx)
  (fRet (fAndV (fOwn 1 m_law_part_oneU (fCons (fVar 1) fNil)) (fOwn 1 m_law_part_twoU (fCons (fVar 1) fNil))))))
def m_law : List Y → Sto → Res Y := wrap false 2 b_law
set_option maxHeartbeats 4000000 in
theorem fn_law {w : World} {K : PySem.W.Frag} {mg : Str → Option Value} {base : Heap} (blt : ∀ (j : Nat) (x : Str), bls[j]? = some x → mg x = none) (d_law_cupU : Def Pw w K mg base "_law_cup" 1 1 m_law_cupU) (d_law_rows_rightU : Def Pw w K mg base "_law_rows_right" 0 8 m_law_rows_rightU) (d_law_part_oneU : Def Pw w K mg base "_law_part_one" 1 8 m_law_part_oneU) (d_law_part_twoU : Def Pw w K mg base "_law_part_two" 1 8 m_law_part_twoU) {f : Addr} {fd : FuncData} (F : Fun K "law" "law" st_law f fd) : FnOk Pw w K mg base (L2.CX Pw w) 9 f fd P_law (spM K mg 1 m_law) :=
  fn_mk (k := 8) false F sc_law (fun cdv A outer s H E hr => by
    have O := okS (P := Pw) (w := w) (K := K) (base := base) (outer := outer) (H := H) (E := E) (vl := [(1, "cup"), (0, "script")]) (wl := [(1, "cup"), (0, "script")]) (gl := ["_law_cup", "_law_rows_right", "_law_part_one", "_law_part_two"]) sc_law hr (by decide +kernel) blt
    exact (rss_cons (rs_set O.o 0 (re_own O d_law_cupU 0 (ra_cons (re_var O.o 1) ra_nil)))
  (rss_cons (rs_if (rt_not (rt_tru (re_own0 O d_law_rows_rightU 1))) (rss_one (rs_ret re_bl)) rss_nil)
  (rss_one (rs_ret (re_and (re_own O d_law_part_oneU 2 (ra_cons (re_var O.o 0) ra_nil)) (re_one (re_own O d_law_part_twoU 3 (ra_cons (re_var O.o 0) ra_nil)))))))))
/-! ### all together -/
theorem all_mk {w : World} {K : PySem.W.Frag} {h : Heap} {mg : Str → Option Value} {fa : Addr} (hlaw : ∀ ns : List Int, ns.length ≤ 63 → m_law [.v (.scr (ns.map D.int))] [] = .ok (.v (.bl true)) []) (X : K.In h) (G : h.Ns mainGlobals mg) (hfa : mg "law" = some (.ref fa))
    {f0 : Addr} {od0 an0 : Option Addr} {sl0 : Array (Option Value)} {oc0 kV0 dc0 pm0 cd0 ct0 : Value}
    {f1 : Addr} {od1 an1 : Option Addr} {sl1 : Array (Option Value)} {oc1 kV1 dc1 pm1 cd1 ct1 : Value}
    {f2 : Addr} {od2 an2 : Option Addr} {sl2 : Array (Option Value)} {oc2 kV2 dc2 pm2 cd2 ct2 : Value}
    {f3 : Addr} {od3 an3 : Option Addr} {sl3 : Array (Option Value)} {oc3 kV3 dc3 pm3 cd3 ct3 : Value}
    {f4 : Addr} {od4 an4 : Option Addr} {sl4 : Array (Option Value)} {oc4 kV4 dc4 pm4 cd4 ct4 : Value}
    {f5 : Addr} {od5 an5 : Option Addr} {sl5 : Array (Option Value)} {oc5 kV5 dc5 pm5 cd5 ct5 : Value}
    {f6 : Addr} {od6 an6 : Option Addr} {sl6 : Array (Option Value)} {oc6 kV6 dc6 pm6 cd6 ct6 : Value}
    {f7 : Addr} {od7 an7 : Option Addr} {sl7 : Array (Option Value)} {oc7 kV7 dc7 pm7 cd7 ct7 : Value}
    {f8 : Addr} {od8 an8 : Option Addr} {sl8 : Array (Option Value)} {oc8 kV8 dc8 pm8 cd8 ct8 : Value}
    {f9 : Addr} {od9 an9 : Option Addr} {sl9 : Array (Option Value)} {oc9 kV9 dc9 pm9 cd9 ct9 : Value}
    {f10 : Addr} {od10 an10 : Option Addr} {sl10 : Array (Option Value)} {oc10 kV10 dc10 pm10 cd10 ct10 : Value}
    {f11 : Addr} {od11 an11 : Option Addr} {sl11 : Array (Option Value)} {oc11 kV11 dc11 pm11 cd11 ct11 : Value}
    {f12 : Addr} {od12 an12 : Option Addr} {sl12 : Array (Option Value)} {oc12 kV12 dc12 pm12 cd12 ct12 : Value}
    {f13 : Addr} {od13 an13 : Option Addr} {sl13 : Array (Option Value)} {oc13 kV13 dc13 pm13 cd13 ct13 : Value}
    {f14 : Addr} {od14 an14 : Option Addr} {sl14 : Array (Option Value)} {oc14 kV14 dc14 pm14 cd14 ct14 : Value}
    {f15 : Addr} {od15 an15 : Option Addr} {sl15 : Array (Option Value)} {oc15 kV15 dc15 pm15 cd15 ct15 : Value}
    {f16 : Addr} {od16 an16 : Option Addr} {sl16 : Array (Option Value)} {oc16 kV16 dc16 pm16 cd16 ct16 : Value}
    {f17 : Addr} {od17 an17 : Option Addr} {sl17 : Array (Option Value)} {oc17 kV17 dc17 pm17 cd17 ct17 : Value}
    {f18 : Addr} {od18 an18 : Option Addr} {sl18 : Array (Option Value)} {oc18 kV18 dc18 pm18 cd18 ct18 : Value}
    {f19 : Addr} {od19 an19 : Option Addr} {sl19 : Array (Option Value)} {oc19 kV19 dc19 pm19 cd19 ct19 : Value}
    {f20 : Addr} {od20 an20 : Option Addr} {sl20 : Array (Option Value)} {oc20 kV20 dc20 pm20 cd20 ct20 : Value}
    {f21 : Addr} {od21 an21 : Option Addr} {sl21 : Array (Option Value)} {oc21 kV21 dc21 pm21 cd21 ct21 : Value}
    {f22 : Addr} {od22 an22 : Option Addr} {sl22 : Array (Option Value)} {oc22 kV22 dc22 pm22 cd22 ct22 : Value}
    {f23 : Addr} {od23 an23 : Option Addr} {sl23 : Array (Option Value)} {oc23 kV23 dc23 pm23 cd23 ct23 : Value}
    {f24 : Addr} {od24 an24 : Option Addr} {sl24 : Array (Option Value)} {oc24 kV24 dc24 pm24 cd24 ct24 : Value}
    {f25 : Addr} {od25 an25 : Option Addr} {sl25 : Array (Option Value)} {oc25 kV25 dc25 pm25 cd25 ct25 : Value}
    {f26 : Addr} {od26 an26 : Option Addr} {sl26 : Array (Option Value)} {oc26 kV26 dc26 pm26 cd26 ct26 : Value}
    {f27 : Addr} {od27 an27 : Option Addr} {sl27 : Array (Option Value)} {oc27 kV27 dc27 pm27 cd27 ct27 : Value}
    {f28 : Addr} {od28 an28 : Option Addr} {sl28 : Array (Option Value)} {oc28 kV28 dc28 pm28 cd28 ct28 : Value}
    {f29 : Addr} {od29 an29 : Option Addr} {sl29 : Array (Option Value)} {oc29 kV29 dc29 pm29 cd29 ct29 : Value}
    {f30 : Addr} {od30 an30 : Option Addr} {sl30 : Array (Option Value)} {oc30 kV30 dc30 pm30 cd30 ct30 : Value}
    {f31 : Addr} {od31 an31 : Option Addr} {sl31 : Array (Option Value)} {oc31 kV31 dc31 pm31 cd31 ct31 : Value}
    {f32 : Addr} {od32 an32 : Option Addr} {sl32 : Array (Option Value)} {oc32 kV32 dc32 pm32 cd32 ct32 : Value}
    (a0 : PySem.W.nsIn K mainGlobals "_law_cup" = some (some (.ref f0))) (l0 : K.lookup f0 = some ⟨oc0, od0, .func (PySem.W.fnOf "_law_cup" "_law_cup" (defArgs st_law_cupU) (defBody st_law_cupU) (defScope st_law_cupU) .none kV0 dc0 pm0 an0 cd0 ct0), sl0⟩) (q0 : PySem.W.codeIn K cd0 "_law_cup" = true) (k0 : PySem.W.keepIn K (.ref f0) = true)
    (a1 : PySem.W.nsIn K mainGlobals "_law_same" = some (some (.ref f1))) (l1 : K.lookup f1 = some ⟨oc1, od1, .func (PySem.W.fnOf "_law_same" "_law_same" (defArgs st_law_sameU) (defBody st_law_sameU) (defScope st_law_sameU) .none kV1 dc1 pm1 an1 cd1 ct1), sl1⟩) (q1 : PySem.W.codeIn K cd1 "_law_same" = true) (k1 : PySem.W.keepIn K (.ref f1) = true)
    (a2 : PySem.W.nsIn K mainGlobals "is_tuple_of" = some (some (.ref f2))) (l2 : K.lookup f2 = some ⟨oc2, od2, .func (PySem.W.fnOf "is_tuple_of" "is_tuple_of" (defArgs st_is_tuple_of) (defBody st_is_tuple_of) (defScope st_is_tuple_of) .none kV2 dc2 pm2 an2 cd2 ct2), sl2⟩) (q2 : PySem.W.codeIn K cd2 "is_tuple_of" = true) (k2 : PySem.W.keepIn K (.ref f2) = true)
    (a3 : PySem.W.nsIn K mainGlobals "fits_whole" = some (some (.ref f3))) (l3 : K.lookup f3 = some ⟨oc3, od3, .func (PySem.W.fnOf "fits_whole" "fits_whole" (defArgs st_fits_whole) (defBody st_fits_whole) (defScope st_fits_whole) .none kV3 dc3 pm3 an3 cd3 ct3), sl3⟩) (q3 : PySem.W.codeIn K cd3 "fits_whole" = true) (k3 : PySem.W.keepIn K (.ref f3) = true)
    (a4 : PySem.W.nsIn K mainGlobals "fits_word" = some (some (.ref f4))) (l4 : K.lookup f4 = some ⟨oc4, od4, .func (PySem.W.fnOf "fits_word" "fits_word" (defArgs st_fits_word) (defBody st_fits_word) (defScope st_fits_word) .none kV4 dc4 pm4 an4 cd4 ct4), sl4⟩) (q4 : PySem.W.codeIn K cd4 "fits_word" = true) (k4 : PySem.W.keepIn K (.ref f4) = true)
    (a5 : PySem.W.nsIn K mainGlobals "need_word" = some (some (.ref f5))) (l5 : K.lookup f5 = some ⟨oc5, od5, .func (PySem.W.fnOf "need_word" "need_word" (defArgs st_need_word) (defBody st_need_word) (defScope st_need_word) .none kV5 dc5 pm5 an5 cd5 ct5), sl5⟩) (q5 : PySem.W.codeIn K cd5 "need_word" = true) (k5 : PySem.W.keepIn K (.ref f5) = true)
    (a6 : PySem.W.nsIn K mainGlobals "need_words" = some (some (.ref f6))) (l6 : K.lookup f6 = some ⟨oc6, od6, .func (PySem.W.fnOf "need_words" "need_words" (defArgs st_need_words) (defBody st_need_words) (defScope st_need_words) .none kV6 dc6 pm6 an6 cd6 ct6), sl6⟩) (q6 : PySem.W.codeIn K cd6 "need_words" = true) (k6 : PySem.W.keepIn K (.ref f6) = true)
    (a7 : PySem.W.nsIn K mainGlobals "fits_steps" = some (some (.ref f7))) (l7 : K.lookup f7 = some ⟨oc7, od7, .func (PySem.W.fnOf "fits_steps" "fits_steps" (defArgs st_fits_steps) (defBody st_fits_steps) (defScope st_fits_steps) .none kV7 dc7 pm7 an7 cd7 ct7), sl7⟩) (q7 : PySem.W.codeIn K cd7 "fits_steps" = true) (k7 : PySem.W.keepIn K (.ref f7) = true)
    (a8 : PySem.W.nsIn K mainGlobals "turned_at" = some (some (.ref f8))) (l8 : K.lookup f8 = some ⟨oc8, od8, .func (PySem.W.fnOf "turned_at" "turned_at" (defArgs st_turned_at) (defBody st_turned_at) (defScope st_turned_at) .none kV8 dc8 pm8 an8 cd8 ct8), sl8⟩) (q8 : PySem.W.codeIn K cd8 "turned_at" = true) (k8 : PySem.W.keepIn K (.ref f8) = true)
    (a9 : PySem.W.nsIn K mainGlobals "ended_by" = some (some (.ref f9))) (l9 : K.lookup f9 = some ⟨oc9, od9, .func (PySem.W.fnOf "ended_by" "ended_by" (defArgs st_ended_by) (defBody st_ended_by) (defScope st_ended_by) .none kV9 dc9 pm9 an9 cd9 ct9), sl9⟩) (q9 : PySem.W.codeIn K cd9 "ended_by" = true) (k9 : PySem.W.keepIn K (.ref f9) = true)
    (a10 : PySem.W.nsIn K mainGlobals "is_way" = some (some (.ref f10))) (l10 : K.lookup f10 = some ⟨oc10, od10, .func (PySem.W.fnOf "is_way" "is_way" (defArgs st_is_way) (defBody st_is_way) (defScope st_is_way) .none kV10 dc10 pm10 an10 cd10 ct10), sl10⟩) (q10 : PySem.W.codeIn K cd10 "is_way" = true) (k10 : PySem.W.keepIn K (.ref f10) = true)
    (a11 : PySem.W.nsIn K mainGlobals "need_many" = some (some (.ref f11))) (l11 : K.lookup f11 = some ⟨oc11, od11, .func (PySem.W.fnOf "need_many" "need_many" (defArgs st_need_many) (defBody st_need_many) (defScope st_need_many) .none kV11 dc11 pm11 an11 cd11 ct11), sl11⟩) (q11 : PySem.W.codeIn K cd11 "need_many" = true) (k11 : PySem.W.keepIn K (.ref f11) = true)
    (a12 : PySem.W.nsIn K mainGlobals "counts_by" = some (some (.ref f12))) (l12 : K.lookup f12 = some ⟨oc12, od12, .func (PySem.W.fnOf "counts_by" "counts_by" (defArgs st_counts_by) (defBody st_counts_by) (defScope st_counts_by) .none kV12 dc12 pm12 an12 cd12 ct12), sl12⟩) (q12 : PySem.W.codeIn K cd12 "counts_by" = true) (k12 : PySem.W.keepIn K (.ref f12) = true)
    (a13 : PySem.W.nsIn K mainGlobals "count_back" = some (some (.ref f13))) (l13 : K.lookup f13 = some ⟨oc13, od13, .func (PySem.W.fnOf "count_back" "count_back" (defArgs st_count_back) (defBody st_count_back) (defScope st_count_back) .none kV13 dc13 pm13 an13 cd13 ct13), sl13⟩) (q13 : PySem.W.codeIn K cd13 "count_back" = true) (k13 : PySem.W.keepIn K (.ref f13) = true)
    (a14 : PySem.W.nsIn K mainGlobals "_law_rows_right" = some (some (.ref f14))) (l14 : K.lookup f14 = some ⟨oc14, od14, .func (PySem.W.fnOf "_law_rows_right" "_law_rows_right" (defArgs st_law_rows_rightU) (defBody st_law_rows_rightU) (defScope st_law_rows_rightU) .none kV14 dc14 pm14 an14 cd14 ct14), sl14⟩) (q14 : PySem.W.codeIn K cd14 "_law_rows_right" = true) (k14 : PySem.W.keepIn K (.ref f14) = true)
    (a15 : PySem.W.nsIn K mainGlobals "_law_roll" = some (some (.ref f15))) (l15 : K.lookup f15 = some ⟨oc15, od15, .func (PySem.W.fnOf "_law_roll" "_law_roll" (defArgs st_law_rollU) (defBody st_law_rollU) (defScope st_law_rollU) .none kV15 dc15 pm15 an15 cd15 ct15), sl15⟩) (q15 : PySem.W.codeIn K cd15 "_law_roll" = true) (k15 : PySem.W.keepIn K (.ref f15) = true)
    (a16 : PySem.W.nsIn K mainGlobals "_law_some" = some (some (.ref f16))) (l16 : K.lookup f16 = some ⟨oc16, od16, .func (PySem.W.fnOf "_law_some" "_law_some" (defArgs st_law_someU) (defBody st_law_someU) (defScope st_law_someU) .none kV16 dc16 pm16 an16 cd16 ct16), sl16⟩) (q16 : PySem.W.codeIn K cd16 "_law_some" = true) (k16 : PySem.W.keepIn K (.ref f16) = true)
    (a17 : PySem.W.nsIn K mainGlobals "_law_tuples" = some (some (.ref f17))) (l17 : K.lookup f17 = some ⟨oc17, od17, .func (PySem.W.fnOf "_law_tuples" "_law_tuples" (defArgs st_law_tuplesU) (defBody st_law_tuplesU) (defScope st_law_tuplesU) .none kV17 dc17 pm17 an17 cd17 ct17), sl17⟩) (q17 : PySem.W.codeIn K cd17 "_law_tuples" = true) (k17 : PySem.W.keepIn K (.ref f17) = true)
    (a18 : PySem.W.nsIn K mainGlobals "_law_word" = some (some (.ref f18))) (l18 : K.lookup f18 = some ⟨oc18, od18, .func (PySem.W.fnOf "_law_word" "_law_word" (defArgs st_law_wordU) (defBody st_law_wordU) (defScope st_law_wordU) .none kV18 dc18 pm18 an18 cd18 ct18), sl18⟩) (q18 : PySem.W.codeIn K cd18 "_law_word" = true) (k18 : PySem.W.keepIn K (.ref f18) = true)
    (a19 : PySem.W.nsIn K mainGlobals "unlike_in" = some (some (.ref f19))) (l19 : K.lookup f19 = some ⟨oc19, od19, .func (PySem.W.fnOf "unlike_in" "unlike_in" (defArgs st_unlike_in) (defBody st_unlike_in) (defScope st_unlike_in) .none kV19 dc19 pm19 an19 cd19 ct19), sl19⟩) (q19 : PySem.W.codeIn K cd19 "unlike_in" = true) (k19 : PySem.W.keepIn K (.ref f19) = true)
    (a20 : PySem.W.nsIn K mainGlobals "count_ways" = some (some (.ref f20))) (l20 : K.lookup f20 = some ⟨oc20, od20, .func (PySem.W.fnOf "count_ways" "count_ways" (defArgs st_count_ways) (defBody st_count_ways) (defScope st_count_ways) .none kV20 dc20 pm20 an20 cd20 ct20), sl20⟩) (q20 : PySem.W.codeIn K cd20 "count_ways" = true) (k20 : PySem.W.keepIn K (.ref f20) = true)
    (a21 : PySem.W.nsIn K mainGlobals "_law_turn" = some (some (.ref f21))) (l21 : K.lookup f21 = some ⟨oc21, od21, .func (PySem.W.fnOf "_law_turn" "_law_turn" (defArgs st_law_turnU) (defBody st_law_turnU) (defScope st_law_turnU) .none kV21 dc21 pm21 an21 cd21 ct21), sl21⟩) (q21 : PySem.W.codeIn K cd21 "_law_turn" = true) (k21 : PySem.W.keepIn K (.ref f21) = true)
    (a22 : PySem.W.nsIn K mainGlobals "_law_end" = some (some (.ref f22))) (l22 : K.lookup f22 = some ⟨oc22, od22, .func (PySem.W.fnOf "_law_end" "_law_end" (defArgs st_law_endU) (defBody st_law_endU) (defScope st_law_endU) .none kV22 dc22 pm22 an22 cd22 ct22), sl22⟩) (q22 : PySem.W.codeIn K cd22 "_law_end" = true) (k22 : PySem.W.keepIn K (.ref f22) = true)
    (a23 : PySem.W.nsIn K mainGlobals "_law_is_way" = some (some (.ref f23))) (l23 : K.lookup f23 = some ⟨oc23, od23, .func (PySem.W.fnOf "_law_is_way" "_law_is_way" (defArgs st_law_is_wayU) (defBody st_law_is_wayU) (defScope st_law_is_wayU) .none kV23 dc23 pm23 an23 cd23 ct23), sl23⟩) (q23 : PySem.W.codeIn K cd23 "_law_is_way" = true) (k23 : PySem.W.keepIn K (.ref f23) = true)
    (a24 : PySem.W.nsIn K mainGlobals "_law_part_one" = some (some (.ref f24))) (l24 : K.lookup f24 = some ⟨oc24, od24, .func (PySem.W.fnOf "_law_part_one" "_law_part_one" (defArgs st_law_part_oneU) (defBody st_law_part_oneU) (defScope st_law_part_oneU) .none kV24 dc24 pm24 an24 cd24 ct24), sl24⟩) (q24 : PySem.W.codeIn K cd24 "_law_part_one" = true) (k24 : PySem.W.keepIn K (.ref f24) = true)
    (a25 : PySem.W.nsIn K mainGlobals "_law_unlike" = some (some (.ref f25))) (l25 : K.lookup f25 = some ⟨oc25, od25, .func (PySem.W.fnOf "_law_unlike" "_law_unlike" (defArgs st_law_unlikeU) (defBody st_law_unlikeU) (defScope st_law_unlikeU) .none kV25 dc25 pm25 an25 cd25 ct25), sl25⟩) (q25 : PySem.W.codeIn K cd25 "_law_unlike" = true) (k25 : PySem.W.keepIn K (.ref f25) = true)
    (a26 : PySem.W.nsIn K mainGlobals "_law_power" = some (some (.ref f26))) (l26 : K.lookup f26 = some ⟨oc26, od26, .func (PySem.W.fnOf "_law_power" "_law_power" (defArgs st_law_powerU) (defBody st_law_powerU) (defScope st_law_powerU) .none kV26 dc26 pm26 an26 cd26 ct26), sl26⟩) (q26 : PySem.W.codeIn K cd26 "_law_power" = true) (k26 : PySem.W.keepIn K (.ref f26) = true)
    (a27 : PySem.W.nsIn K mainGlobals "_law_twos" = some (some (.ref f27))) (l27 : K.lookup f27 = some ⟨oc27, od27, .func (PySem.W.fnOf "_law_twos" "_law_twos" (defArgs st_law_twosU) (defBody st_law_twosU) (defScope st_law_twosU) .none kV27 dc27 pm27 an27 cd27 ct27), sl27⟩) (q27 : PySem.W.codeIn K cd27 "_law_twos" = true) (k27 : PySem.W.keepIn K (.ref f27) = true)
    (a28 : PySem.W.nsIn K mainGlobals "_law_choose" = some (some (.ref f28))) (l28 : K.lookup f28 = some ⟨oc28, od28, .func (PySem.W.fnOf "_law_choose" "_law_choose" (defArgs st_law_chooseU) (defBody st_law_chooseU) (defScope st_law_chooseU) .none kV28 dc28 pm28 an28 cd28 ct28), sl28⟩) (q28 : PySem.W.codeIn K cd28 "_law_choose" = true) (k28 : PySem.W.keepIn K (.ref f28) = true)
    (a29 : PySem.W.nsIn K mainGlobals "_law_sum" = some (some (.ref f29))) (l29 : K.lookup f29 = some ⟨oc29, od29, .func (PySem.W.fnOf "_law_sum" "_law_sum" (defArgs st_law_sumU) (defBody st_law_sumU) (defScope st_law_sumU) .none kV29 dc29 pm29 an29 cd29 ct29), sl29⟩) (q29 : PySem.W.codeIn K cd29 "_law_sum" = true) (k29 : PySem.W.keepIn K (.ref f29) = true)
    (a30 : PySem.W.nsIn K mainGlobals "unlike_places" = some (some (.ref f30))) (l30 : K.lookup f30 = some ⟨oc30, od30, .func (PySem.W.fnOf "unlike_places" "unlike_places" (defArgs st_unlike_places) (defBody st_unlike_places) (defScope st_unlike_places) .none kV30 dc30 pm30 an30 cd30 ct30), sl30⟩) (q30 : PySem.W.codeIn K cd30 "unlike_places" = true) (k30 : PySem.W.keepIn K (.ref f30) = true)
    (a31 : PySem.W.nsIn K mainGlobals "_law_part_two" = some (some (.ref f31))) (l31 : K.lookup f31 = some ⟨oc31, od31, .func (PySem.W.fnOf "_law_part_two" "_law_part_two" (defArgs st_law_part_twoU) (defBody st_law_part_twoU) (defScope st_law_part_twoU) .none kV31 dc31 pm31 an31 cd31 ct31), sl31⟩) (q31 : PySem.W.codeIn K cd31 "_law_part_two" = true) (k31 : PySem.W.keepIn K (.ref f31) = true)
    (a32 : PySem.W.nsIn K mainGlobals "law" = some (some (.ref f32))) (l32 : K.lookup f32 = some ⟨oc32, od32, .func (PySem.W.fnOf "law" "law" (defArgs st_law) (defBody st_law) (defScope st_law) .none kV32 dc32 pm32 an32 cd32 ct32), sl32⟩) (q32 : PySem.W.codeIn K cd32 "law" = true) (k32 : PySem.W.keepIn K (.ref f32) = true)
    {t_SIGNS : Tok} (e_SIGNS : PySem.W.nsIn K mainGlobals "SIGNS" = some (some (.int 16 t_SIGNS)))
    {t_STEPS : Tok} (e_STEPS : PySem.W.nsIn K mainGlobals "STEPS" = some (some (.int 400 t_STEPS)))
    (z_len : PySem.W.nsIn K mainGlobals "len" = some none)
    (z_range : PySem.W.nsIn K mainGlobals "range" = some none)
    (z_isinstance : PySem.W.nsIn K mainGlobals "isinstance" = some none)
    (z_abs : PySem.W.nsIn K mainGlobals "abs" = some none)
    (z_sum : PySem.W.nsIn K mainGlobals "sum" = some none)
    (z_min : PySem.W.nsIn K mainGlobals "min" = some none)
    (z_max : PySem.W.nsIn K mainGlobals "max" = some none)
    (z_all : PySem.W.nsIn K mainGlobals "all" = some none)
    (z_any : PySem.W.nsIn K mainGlobals "any" = some none)
    (z_sorted : PySem.W.nsIn K mainGlobals "sorted" = some none)
    (z_int : PySem.W.nsIn K mainGlobals "int" = some none)
    (z_str : PySem.W.nsIn K mainGlobals "str" = some none)
    (z_list : PySem.W.nsIn K mainGlobals "list" = some none)
    (z_tuple : PySem.W.nsIn K mainGlobals "tuple" = some none)
    (z_dict : PySem.W.nsIn K mainGlobals "dict" = some none)
    (z_set : PySem.W.nsIn K mainGlobals "set" = some none)
    (z_zip : PySem.W.nsIn K mainGlobals "zip" = some none)
    (z_enumerate : PySem.W.nsIn K mainGlobals "enumerate" = some none)
    (z_bool : PySem.W.nsIn K mainGlobals "bool" = some none)
    (z_type : PySem.W.nsIn K mainGlobals "type" = some none)
    (z_reversed : PySem.W.nsIn K mainGlobals "reversed" = some none)
    (z_super : PySem.W.nsIn K mainGlobals "super" = some none) :
    ∃ fd : FuncData, (∀ (s : Shared) (v : Value), BindsTo s fd ⟨[v], []⟩ [("script", v)]) ∧ ∀ base : Heap, K.In base → base.Ns mainGlobals mg → FnOk Pw w K mg base (L2.CX Pw w) 9 fa fd ["script"] (spL K 63) := by
  have e := hfa.symm.trans (PySem.W.mg_of X G a32)
  cases e
  have blt : ∀ (j : Nat) (x : Str), bls[j]? = some x → mg x = none := blt_of X G (List.forall_mem_cons.mpr ⟨z_len, (List.forall_mem_cons.mpr ⟨z_range, (List.forall_mem_cons.mpr ⟨z_isinstance, (List.forall_mem_cons.mpr ⟨z_abs, (List.forall_mem_cons.mpr ⟨z_sum, (List.forall_mem_cons.mpr ⟨z_min, (List.forall_mem_cons.mpr ⟨z_max, (List.forall_mem_cons.mpr ⟨z_all, (List.forall_mem_cons.mpr ⟨z_any, (List.forall_mem_cons.mpr ⟨z_sorted, (List.forall_mem_cons.mpr ⟨z_int, (List.forall_mem_cons.mpr ⟨z_str, (List.forall_mem_cons.mpr ⟨z_list, (List.forall_mem_cons.mpr ⟨z_tuple, (List.forall_mem_cons.mpr ⟨z_dict, (List.forall_mem_cons.mpr ⟨z_set, (List.forall_mem_cons.mpr ⟨z_zip, (List.forall_mem_cons.mpr ⟨z_enumerate, (List.forall_mem_cons.mpr ⟨z_bool, (List.forall_mem_cons.mpr ⟨z_type, (List.forall_mem_cons.mpr ⟨z_reversed, (List.forall_mem_cons.mpr ⟨z_super, (fun _ h => absurd h List.not_mem_nil)⟩)⟩)⟩)⟩)⟩)⟩)⟩)⟩)⟩)⟩)⟩)⟩)⟩)⟩)⟩)⟩)⟩)⟩)⟩)⟩)⟩)⟩)
  have c_SIGNS : ∃ t, mg "SIGNS" = some (.int 16 t) := ⟨_, PySem.W.mg_of X G e_SIGNS⟩
  have c_STEPS : ∃ t, mg "STEPS" = some (.int 400 t) := ⟨_, PySem.W.mg_of X G e_STEPS⟩
  have F0 := fun_mk (st := st_law_cupU) l0 q0 k0
  have F1 := fun_mk (st := st_law_sameU) l1 q1 k1
  have F2 := fun_mk (st := st_is_tuple_of) l2 q2 k2
  have F3 := fun_mk (st := st_fits_whole) l3 q3 k3
  have F4 := fun_mk (st := st_fits_word) l4 q4 k4
  have F5 := fun_mk (st := st_need_word) l5 q5 k5
  have F6 := fun_mk (st := st_need_words) l6 q6 k6
  have F7 := fun_mk (st := st_fits_steps) l7 q7 k7
  have F8 := fun_mk (st := st_turned_at) l8 q8 k8
  have F9 := fun_mk (st := st_ended_by) l9 q9 k9
  have F10 := fun_mk (st := st_is_way) l10 q10 k10
  have F11 := fun_mk (st := st_need_many) l11 q11 k11
  have F12 := fun_mk (st := st_counts_by) l12 q12 k12
  have F13 := fun_mk (st := st_count_back) l13 q13 k13
  have F14 := fun_mk (st := st_law_rows_rightU) l14 q14 k14
  have F15 := fun_mk (st := st_law_rollU) l15 q15 k15
  have F16 := fun_mk (st := st_law_someU) l16 q16 k16
  have F17 := fun_mk (st := st_law_tuplesU) l17 q17 k17
  have F18 := fun_mk (st := st_law_wordU) l18 q18 k18
  have F19 := fun_mk (st := st_unlike_in) l19 q19 k19
  have F20 := fun_mk (st := st_count_ways) l20 q20 k20
  have F21 := fun_mk (st := st_law_turnU) l21 q21 k21
  have F22 := fun_mk (st := st_law_endU) l22 q22 k22
  have F23 := fun_mk (st := st_law_is_wayU) l23 q23 k23
  have F24 := fun_mk (st := st_law_part_oneU) l24 q24 k24
  have F25 := fun_mk (st := st_law_unlikeU) l25 q25 k25
  have F26 := fun_mk (st := st_law_powerU) l26 q26 k26
  have F27 := fun_mk (st := st_law_twosU) l27 q27 k27
  have F28 := fun_mk (st := st_law_chooseU) l28 q28 k28
  have F29 := fun_mk (st := st_law_sumU) l29 q29 k29
  have F30 := fun_mk (st := st_unlike_places) l30 q30 k30
  have F31 := fun_mk (st := st_law_part_twoU) l31 q31 k31
  have F32 := fun_mk (st := st_law) l32 q32 k32
  refine ⟨PySem.W.fnOf "law" "law" (defArgs st_law) (defBody st_law) (defScope st_law) .none kV32 dc32 pm32 an32 cd32 ct32, fun s v => .of_eq rfl, fun base _ _ => ?_⟩
  have d_law_cupU := def_of (fn_law_cupU (w := w) (base := base) blt F0) (PySem.W.mg_of X G a0) k0 (F0.binds (ps := P_law_cupU) fun _ _ _ _ _ _ us hl => match us, hl with | [_], _ => rfl)
  have d_law_sameU := fn_law_sameU (w := w) (base := base) blt F1 (PySem.W.mg_of X G a1) 6
  have d_is_tuple_of := def_of (fn_is_tuple_of (w := w) (base := base) blt F2) (PySem.W.mg_of X G a2) k2 (F2.binds (ps := P_is_tuple_of) fun _ _ _ _ _ _ us hl => match us, hl with | [_, _, _], _ => rfl)
  have d_fits_whole := def_of (fn_fits_whole (w := w) (base := base) blt F3) (PySem.W.mg_of X G a3) k3 (F3.binds (ps := P_fits_whole) fun _ _ _ _ _ _ us hl => match us, hl with | [_, _, _], _ => rfl)
  have d_fits_word := def_of (fn_fits_word (w := w) (base := base) blt c_SIGNS d_is_tuple_of d_fits_whole F4) (PySem.W.mg_of X G a4) k4 (F4.binds (ps := P_fits_word) fun _ _ _ _ _ _ us hl => match us, hl with | [_], _ => rfl)
  have d_need_word := def_of (fn_need_word (w := w) (base := base) blt d_fits_word F5) (PySem.W.mg_of X G a5) k5 (F5.binds (ps := P_need_word) fun _ _ _ _ _ _ us hl => match us, hl with | [_], _ => rfl)
  have d_need_words := def_of (fn_need_words (w := w) (base := base) blt d_need_word d_fits_word F6) (PySem.W.mg_of X G a6) k6 (F6.binds (ps := P_need_words) fun _ _ _ _ _ _ us hl => match us, hl with | [_, _], _ => rfl)
  have d_fits_steps := def_of (fn_fits_steps (w := w) (base := base) blt d_is_tuple_of d_fits_whole F7) (PySem.W.mg_of X G a7) k7 (F7.binds (ps := P_fits_steps) fun _ _ _ _ _ _ us hl => match us, hl with | [_, _, _], _ => rfl)
  have d_turned_at := def_of (fn_turned_at (w := w) (base := base) blt F8) (PySem.W.mg_of X G a8) k8 (F8.binds (ps := P_turned_at) fun _ _ _ _ _ _ us hl => match us, hl with | [_, _], _ => rfl)
  have d_ended_by := def_of (fn_ended_by (w := w) (base := base) blt d_turned_at F9) (PySem.W.mg_of X G a9) k9 (F9.binds (ps := P_ended_by) fun _ _ _ _ _ _ us hl => match us, hl with | [_, _], _ => rfl)
  have d_is_way := def_of (fn_is_way (w := w) (base := base) blt c_STEPS d_need_words d_fits_steps d_ended_by F10) (PySem.W.mg_of X G a10) k10 (F10.binds (ps := P_is_way) fun _ _ _ _ _ _ us hl => match us, hl with | [_, _, _], _ => rfl)
  have d_need_many := def_of (fn_need_many (w := w) (base := base) blt d_fits_whole F11) (PySem.W.mg_of X G a11) k11 (F11.binds (ps := P_need_many) fun _ _ _ _ _ _ us hl => match us, hl with | [_, _], _ => rfl)
  have d_counts_by := def_of (fn_counts_by (w := w) (base := base) blt F12) (PySem.W.mg_of X G a12) k12 (F12.binds (ps := P_counts_by) fun _ _ _ _ _ _ us hl => match us, hl with | [_, _], _ => rfl)
  have d_count_back := def_of (fn_count_back (w := w) (base := base) blt c_STEPS d_need_many d_fits_whole d_counts_by F13) (PySem.W.mg_of X G a13) k13 (F13.binds (ps := P_count_back) fun _ _ _ _ _ _ us hl => match us, hl with | [_, _], _ => rfl)
  have d_law_rows_rightU := def_of (fn_law_rows_rightU (w := w) (base := base) blt d_law_sameU d_is_way d_count_back F14) (PySem.W.mg_of X G a14) k14 (F14.binds (ps := P_law_rows_rightU) fun _ _ _ _ _ _ us hl => match us, hl with | [], _ => rfl)
  have d_law_rollU := def_of (fn_law_rollU (w := w) (base := base) blt F15) (PySem.W.mg_of X G a15) k15 (F15.binds (ps := P_law_rollU) fun _ _ _ _ _ _ us hl => match us, hl with | [_, _], _ => rfl)
  have d_law_someU := def_of (fn_law_someU (w := w) (base := base) blt d_law_rollU F16) (PySem.W.mg_of X G a16) k16 (F16.binds (ps := P_law_someU) fun _ _ _ _ _ _ us hl => match us, hl with | [_, _], _ => rfl)
  have d_law_tuplesU := def_of (fn_law_tuplesU (w := w) (base := base) blt F17) (PySem.W.mg_of X G a17) k17 (F17.binds (ps := P_law_tuplesU) fun _ _ _ _ _ _ us hl => match us, hl with | [_, _], _ => rfl)
  have d_law_wordU := def_of (fn_law_wordU (w := w) (base := base) blt d_law_rollU F18) (PySem.W.mg_of X G a18) k18 (F18.binds (ps := P_law_wordU) fun _ _ _ _ _ _ us hl => match us, hl with | [_, _], _ => rfl)
  have d_unlike_in := def_of (fn_unlike_in (w := w) (base := base) blt F19) (PySem.W.mg_of X G a19) k19 (F19.binds (ps := P_unlike_in) fun _ _ _ _ _ _ us hl => match us, hl with | [_, _], _ => rfl)
  have d_count_ways := def_of (fn_count_ways (w := w) (base := base) blt c_STEPS d_need_words d_need_many d_counts_by d_unlike_in F20) (PySem.W.mg_of X G a20) k20 (F20.binds (ps := P_count_ways) fun _ _ _ _ _ _ us hl => match us, hl with | [_, _, _], _ => rfl)
  have d_law_turnU := def_of (fn_law_turnU (w := w) (base := base) blt F21) (PySem.W.mg_of X G a21) k21 (F21.binds (ps := P_law_turnU) fun _ _ _ _ _ _ us hl => match us, hl with | [_, _], _ => rfl)
  have d_law_endU := def_of (fn_law_endU (w := w) (base := base) blt d_law_turnU F22) (PySem.W.mg_of X G a22) k22 (F22.binds (ps := P_law_endU) fun _ _ _ _ _ _ us hl => match us, hl with | [_, _], _ => rfl)
  have d_law_is_wayU := def_of (fn_law_is_wayU (w := w) (base := base) blt d_law_endU F23) (PySem.W.mg_of X G a23) k23 (F23.binds (ps := P_law_is_wayU) fun _ _ _ _ _ _ us hl => match us, hl with | [_, _, _], _ => rfl)
  have d_law_part_oneU := def_of (fn_law_part_oneU (w := w) (base := base) blt d_law_someU d_law_rollU d_law_tuplesU d_law_wordU d_count_ways d_count_back d_law_sameU d_law_endU d_is_way d_law_is_wayU F24) (PySem.W.mg_of X G a24) k24 (F24.binds (ps := P_law_part_oneU) fun _ _ _ _ _ _ us hl => match us, hl with | [_], _ => rfl)
  have d_law_unlikeU := def_of (fn_law_unlikeU (w := w) (base := base) blt F25) (PySem.W.mg_of X G a25) k25 (F25.binds (ps := P_law_unlikeU) fun _ _ _ _ _ _ us hl => match us, hl with | [_, _], _ => rfl)
  have d_law_powerU := def_of (fn_law_powerU (w := w) (base := base) blt F26) (PySem.W.mg_of X G a26) k26 (F26.binds (ps := P_law_powerU) fun _ _ _ _ _ _ us hl => match us, hl with | [_, _], _ => rfl)
  have d_law_twosU := def_of (fn_law_twosU (w := w) (base := base) blt F27) (PySem.W.mg_of X G a27) k27 (F27.binds (ps := P_law_twosU) fun _ _ _ _ _ _ us hl => match us, hl with | [_], _ => rfl)
  have d_law_chooseU := def_of (fn_law_chooseU (w := w) (base := base) blt F28) (PySem.W.mg_of X G a28) k28 (F28.binds (ps := P_law_chooseU) fun _ _ _ _ _ _ us hl => match us, hl with | [_, _], _ => rfl)
  have d_law_sumU := def_of (fn_law_sumU (w := w) (base := base) blt d_law_twosU d_law_chooseU d_law_powerU F29) (PySem.W.mg_of X G a29) k29 (F29.binds (ps := P_law_sumU) fun _ _ _ _ _ _ us hl => match us, hl with | [_, _, _], _ => rfl)
  have d_unlike_places := def_of (fn_unlike_places (w := w) (base := base) blt d_need_words d_unlike_in F30) (PySem.W.mg_of X G a30) k30 (F30.binds (ps := P_unlike_places) fun _ _ _ _ _ _ us hl => match us, hl with | [_, _], _ => rfl)
  have d_law_part_twoU := def_of (fn_law_part_twoU (w := w) (base := base) blt d_law_someU d_law_wordU d_law_unlikeU d_law_sameU d_law_rollU d_count_ways d_law_powerU d_count_back d_law_sumU d_law_chooseU d_unlike_places F31) (PySem.W.mg_of X G a31) k31 (F31.binds (ps := P_law_part_twoU) fun _ _ _ _ _ _ us hl => match us, hl with | [_], _ => rfl)
  exact law_fn (fn_law (base := base) blt d_law_cupU d_law_rows_rightU d_law_part_oneU d_law_part_twoU F32) hlaw
end Sg

namespace Sg
/-! ### sums -/
def sm : Nat → (Nat → Int) → Int
  | 0, _ => 0
  | n + 1, f => sm n f + f n
theorem sm_add (f g : Nat → Int) : ∀ n, sm n (fun i => f i + g i) = sm n f + sm n g
  | 0 => rfl
  | n + 1 => by simp only [sm, sm_add f g n]; omega
theorem sm_mul (c : Int) (f : Nat → Int) : ∀ n, sm n (fun i => c * f i) = c * sm n f
  | 0 => by simp [sm]
  | n + 1 => by simp only [sm, sm_mul c f n, Int.mul_add]
theorem sm_congr {f g : Nat → Int} : ∀ {n : Nat}, (∀ i, i < n → f i = g i) → sm n f = sm n g
  | 0, _ => rfl
  | n + 1, h => by simp only [sm]; rw [sm_congr fun i hi => h i (by omega), h n (by omega)]
theorem sm_first (f : Nat → Int) : ∀ n, sm (n + 1) f = f 0 + sm n (fun i => f (i + 1))
  | 0 => by simp [sm]
  | n + 1 => by
    have ih := sm_first f n
    simp only [sm] at ih ⊢
    omega
theorem sm_swap (f : Nat → Nat → Int) (m : Nat) : ∀ n, sm n (fun i => sm m (f i)) = sm m (fun j => sm n (fun i => f i j))
  | 0 => by induction m with
    | zero => rfl
    | succ m ih => simp only [sm] at ih ⊢; rw [← ih]; rfl
  | n + 1 => by simp only [sm, sm_swap f m n]; rw [← sm_add]
/-! ### walks -/
def A (n : Nat) : Nat → Nat → Int
  | 0, d => if d = 0 then 1 else 0
  | k + 1, d => (if 0 < d then A n k (d - 1) * (d : Int) else 0) + (if d < n then A n k (d + 1) * ((n : Int) - d) else 0)
theorem A_odd (n : Nat) : ∀ (k d : Nat), (d + k) % 2 = 1 → A n k d = 0
  | 0, d, h => by unfold A; rw [if_neg (by omega)]
  | k + 1, d, h => by
    unfold A
    have h1 : 0 < d → A n k (d - 1) = 0 := fun hd => A_odd n k (d - 1) (by omega)
    have h2 : A n k (d + 1) = 0 := A_odd n k (d + 1) (by omega)
    rw [h2, Int.zero_mul]
    by_cases hd : 0 < d
    · rw [if_pos hd, h1 hd]; simp
    · rw [if_neg hd]; simp
def dist : List Int → List Int → Nat
  | a :: w, b :: o => (if a = b then 0 else 1) + dist w o
  | _, _ => 0
def turn : List Int → Nat → List Int
  | [], _ => []
  | a :: w, 0 => (1 - a) :: w
  | a :: w, p + 1 => a :: turn w p
def isW (w : List Int) : Prop := ∀ x ∈ w, x = 0 ∨ x = 1
theorem dist_self : ∀ w : List Int, dist w w = 0
  | [] => rfl
  | a :: w => by simp [dist, dist_self w]
theorem dist_comm : ∀ w o : List Int, dist w o = dist o w
  | [], [] => rfl
  | [], _ :: _ => rfl
  | _ :: _, [] => rfl
  | a :: w, b :: o => by
    simp only [dist, dist_comm w o]
    by_cases h : a = b
    · simp [h]
    · rw [if_neg h, if_neg fun q => h q.symm]
theorem dist_zero : ∀ {w o : List Int}, w.length = o.length → (dist w o = 0 ↔ w = o)
  | [], [], _ => by simp [dist]
  | [], _ :: _, h => by simp at h
  | _ :: _, [], h => by simp at h
  | a :: w, b :: o, h => by
    have ih := dist_zero (w := w) (o := o) (by simpa using h)
    simp only [dist, List.cons.injEq, ← ih]
    by_cases h : a = b
    · simp [h]
    · simp [h]
theorem dist_le : ∀ w o : List Int, dist w o ≤ w.length
  | [], [] => Nat.le_refl _
  | [], _ :: _ => Nat.le_refl _
  | _ :: _, [] => Nat.zero_le _
  | a :: w, b :: o => by
    have := dist_le w o
    simp only [dist, List.length_cons]
    split <;> omega
theorem turn_len : ∀ (w : List Int) (p : Nat), (turn w p).length = w.length
  | [], _ => rfl
  | _ :: _, 0 => rfl
  | a :: w, p + 1 => by simp [turn, turn_len w p]
theorem turn_isW : ∀ {w : List Int} {p : Nat}, isW w → isW (turn w p)
  | [], _, h => h
  | a :: w, 0, h => fun x hx => by
    rcases List.mem_cons.mp hx with rfl | hx
    · rcases h a List.mem_cons_self with q | q <;> rw [q] <;> decide
    · exact h x (List.mem_cons_of_mem _ hx)
  | a :: w, p + 1, h => fun x hx => by
    rcases List.mem_cons.mp hx with rfl | hx
    · exact h x List.mem_cons_self
    · exact turn_isW (w := w) (p := p) (fun y hy => h y (List.mem_cons_of_mem _ hy)) x hx
theorem turn_turn : ∀ (w : List Int) (p : Nat), turn (turn w p) p = w
  | [], _ => rfl
  | a :: w, 0 => by simp only [turn]; congr 1; omega
  | a :: w, p + 1 => by simp [turn, turn_turn w p]
theorem turn_eq {w o : List Int} {p : Nat} : turn w p = o ↔ w = turn o p :=
  ⟨fun h => by rw [← h, turn_turn], fun h => by rw [h, turn_turn]⟩
theorem key_sum : ∀ (w o : List Int) (g : Nat → Int), w.length = o.length → isW w → isW o →
    sm o.length (fun p => g (dist w (turn o p))) = (dist w o : Int) * g (dist w o - 1) + ((o.length : Int) - dist w o) * g (dist w o + 1)
  | [], [], g, _, _, _ => by simp [sm, dist]
  | [], _ :: _, _, h, _, _ => by simp at h
  | _ :: _, [], _, h, _, _ => by simp at h
  | a :: w, b :: o, g, h, hw, ho => by
    have hl : w.length = o.length := by simpa using h
    have hw' : isW w := fun x hx => hw x (List.mem_cons_of_mem _ hx)
    have ho' : isW o := fun x hx => ho x (List.mem_cons_of_mem _ hx)
    rw [List.length_cons, sm_first]
    by_cases hab : a = b
    · subst hab
      have h1 : ¬ a = 1 - a := by rcases hw a List.mem_cons_self with q | q <;> rw [q] <;> decide
      have ih := key_sum w o g hl hw' ho'
      have e : ∀ p, dist (a :: w) (turn (a :: o) (p + 1)) = dist w (turn o p) := fun p => by simp [turn, dist]
      have e0 : dist (a :: w) (turn (a :: o) 0) = 1 + dist w o := by simp [turn, dist, h1]
      have e1 : dist (a :: w) (a :: o) = dist w o := by simp [dist]
      simp only [e, e0, e1, ih]
      rw [Nat.add_comm 1, Int.natCast_add, Int.natCast_one]
      generalize g (dist w o - 1) = x
      generalize g (dist w o + 1) = y
      generalize (dist w o : Int) = d
      generalize (o.length : Int) = n
      have q1 : (n + 1 - d) * y = (n - d) * y + y := by rw [show n + 1 - d = (n - d) + 1 by omega, Int.add_mul, Int.one_mul]
      rw [q1]; omega
    · have h1 : a = 1 - b := by
        rcases hw a List.mem_cons_self with q | q <;> rcases ho b List.mem_cons_self with q' | q' <;> omega
      have ih := key_sum w o (fun x => g (1 + x)) hl hw' ho'
      have e : ∀ p, dist (a :: w) (turn (b :: o) (p + 1)) = 1 + dist w (turn o p) := fun p => by simp [turn, dist, hab]
      have e0 : dist (a :: w) (turn (b :: o) 0) = dist w o := by simp [turn, dist, h1]
      have e1 : dist (a :: w) (b :: o) = 1 + dist w o := by simp [dist, hab]
      simp only [e, e0, e1, ih]
      have z : (dist w o : Int) * g (1 + (dist w o - 1)) = (dist w o : Int) * g (dist w o) := by
        by_cases hz : dist w o = 0
        · rw [hz]; simp
        · rw [show 1 + (dist w o - 1) = dist w o by omega]
      rw [z, show 1 + dist w o - 1 = dist w o by omega, show 1 + (dist w o + 1) = 1 + dist w o + 1 by omega, Int.natCast_add, Int.natCast_add, Int.natCast_one]
      generalize g (dist w o) = x
      generalize g (1 + dist w o + 1) = y
      generalize (dist w o : Int) = d
      generalize (o.length : Int) = n
      rw [Int.add_mul, Int.one_mul, show n + 1 - (1 + d) = n - d by omega]; omega
theorem A_step {w o : List Int} {n k : Nat} (hn : o.length = n) (h : w.length = o.length) (hw : isW w) (ho : isW o) : sm n (fun p => A n k (dist w (turn o p))) = A n (k + 1) (dist w o) := by
  have e := key_sum w o (A n k) h hw ho
  rw [hn] at e
  rw [e]
  have hd : dist w o ≤ n := by rw [← hn, ← h]; exact dist_le w o
  show _ = (if 0 < dist w o then A n k (dist w o - 1) * (dist w o : Int) else 0) + (if dist w o < n then A n k (dist w o + 1) * ((n : Int) - dist w o) else 0)
  rw [Int.mul_comm (dist w o : Int), Int.mul_comm ((n : Int) - dist w o)]
  congr 1
  · split
    · rfl
    · rw [show dist w o = 0 by omega]; simp
  · split
    · rfl
    · rw [show dist w o = n by omega]; simp
/-! ### all ways -/
def ups (n : Nat) : List Int := (List.range n).map fun (i : Nat) => 1 + (i : Int)
def ways (n : Nat) : Nat → List (List Int)
  | 0 => [[]]
  | k + 1 => (ways n k).flatMap fun w => (ups n).map fun p => w ++ [p]
def endW (w : List Int) (way : List Int) : List Int := way.foldl (fun x p => turn x (p - 1).toNat) w
def cnt (l : List (List Int)) (w o : List Int) : Nat := (l.filter fun way => decide (endW w way = o)).length
theorem cnt_append (a b : List (List Int)) (w o : List Int) : cnt (a ++ b) w o = cnt a w o + cnt b w o := by simp [cnt]
theorem cnt_one {n : Nat} (way w o : List Int) : (cnt ((ups n).map fun p => way ++ [p]) w o : Int) = sm n (fun p => if endW w way = turn o p then 1 else 0) := by
  unfold ups
  induction n with
  | zero => rfl
  | succ n ih =>
    rw [List.range_succ, List.map_append, List.map_append, cnt_append, Int.natCast_add, ih]
    simp only [sm]
    congr 1
    simp only [cnt, List.map_cons, List.map_nil]
    have : endW w (way ++ [1 + (n : Int)]) = turn (endW w way) n := by
      simp only [endW, List.foldl_append, List.foldl_cons, List.foldl_nil]
      congr 1; omega
    by_cases h : endW w way = turn o n
    · rw [List.filter_cons_of_pos (by rw [this]; exact decide_eq_true (turn_eq.mpr h)), if_pos h]; rfl
    · rw [List.filter_cons_of_neg (by rw [this, decide_eq_true_eq, turn_eq]; exact h), if_neg h]; rfl
theorem cnt_flat {n : Nat} (w o : List Int) : ∀ l : List (List Int), (cnt (l.flatMap fun way => (ups n).map fun p => way ++ [p]) w o : Int) = sm n (fun p => (cnt l w (turn o p) : Int))
  | [] => by
    have : ∀ n, sm n (fun p => ((cnt [] w (turn o p) : Nat) : Int)) = 0 := fun n => by
      induction n with
      | zero => rfl
      | succ n ih => simp only [sm, ih]; rfl
    rw [this]; rfl
  | way :: l => by
    rw [List.flatMap_cons, cnt_append, Int.natCast_add, cnt_one, cnt_flat w o l, ← sm_add]
    refine sm_congr fun p hp => ?_
    unfold cnt
    by_cases h : endW w way = turn o p
    · rw [if_pos h, List.filter_cons_of_pos (by simp [h]), List.length_cons, Int.natCast_add]; omega
    · rw [if_neg h, List.filter_cons_of_neg (by simp [h])]; omega
theorem cnt_A {n : Nat} {w : List Int} (hw : isW w) (hl : w.length = n) : ∀ (k : Nat) (o : List Int), isW o → o.length = n → (cnt (ways n k) w o : Int) = A n k (dist w o)
  | 0, o, ho, hn => by
    show ((List.filter (fun way => decide (endW w way = o)) [[]]).length : Int) = if dist w o = 0 then 1 else 0
    have hz := dist_zero (w := w) (o := o) (by omega)
    by_cases h : w = o
    · rw [if_pos (hz.mpr h), List.filter_cons_of_pos (by simp [endW, h])]; rfl
    · rw [if_neg (fun q => h (hz.mp q)), List.filter_cons_of_neg (by simp [endW, h])]; rfl
  | k + 1, o, ho, hn => by
    rw [ways, cnt_flat, ← A_step hn (by omega) hw ho]
    exact sm_congr fun p hp => cnt_A hw hl k (turn o p) (turn_isW ho) (by rw [turn_len]; exact hn)
end Sg

namespace Sg
/-- found * (m - j) // (j + 1), k times -/
def chQ (m : Int) : Nat → Int
  | 0 => 1
  | k + 1 => (chQ m k * (m - k)).fdiv (k + 1)
/-- the weight's terms, from inner lo on, many of them -/
def wtS (n d s : Nat) : Nat → Int
  | 0 => 0
  | t + 1 =>
    let i := (s - (n - d)) + t
    wtS n d s t + (if i % 2 = 0 then chQ d i * chQ (n - d : Nat) (s - i) else -(chQ d i * chQ (n - d : Nat) (s - i)))
def wt (n d s : Nat) : Int := wtS n d s (min s d + 1 - (s - (n - d)))
def tab1 (n : Nat) : Bool := (List.range (n + 1)).all fun d => (List.range (n + 1)).all fun s =>
  decide ((if 0 < d then wt n (d - 1) s * (d : Int) else 0) + (if d < n then wt n (d + 1) s * ((n : Int) - d) else 0) = ((n : Int) - 2 * s) * wt n d s)
def tab2 (n : Nat) : Bool := (List.range (n + 1)).all fun d => decide (sm (n + 1) (fun s => wt n d s) = if d = 0 then 2 ^ n else 0)
def tab3 (n : Nat) : Bool := (List.range (n + 1)).all fun d => (List.range (n + 1)).all fun s => decide ((wt n d s).natAbs < 1000000000000)
def tab4 (n : Nat) : Bool := (List.range (n + 1)).all fun d => decide ((chQ n d).natAbs < 1000000000000) && (decide (n ≤ d) || decide (chQ n (d + 1) * ((d : Int) + 1) = chQ n d * ((n : Int) - d)))
theorem tabs : (List.range 17).all (fun n => tab1 n && tab2 n && tab3 n && tab4 n) = true := by decide +kernel
theorem tab_at {n : Nat} (h : n ≤ 16) : tab1 n = true ∧ tab2 n = true ∧ tab3 n = true ∧ tab4 n = true := by
  have := List.all_eq_true.mp tabs n (List.mem_range.mpr (by omega))
  simp only [Bool.and_eq_true] at this
  exact ⟨this.1.1.1, this.1.1.2, this.1.2, this.2⟩
theorem rng_all {n : Nat} {p : Nat → Bool} (h : (List.range (n + 1)).all p = true) {d : Nat} (hd : d ≤ n) : p d = true := List.all_eq_true.mp h d (List.mem_range.mpr (by omega))
theorem wt_rec {n d s : Nat} (hn : n ≤ 16) (hd : d ≤ n) (hs : s ≤ n) : (if 0 < d then wt n (d - 1) s * (d : Int) else 0) + (if d < n then wt n (d + 1) s * ((n : Int) - d) else 0) = ((n : Int) - 2 * s) * wt n d s :=
  of_decide_eq_true (rng_all (rng_all (tab_at hn).1 hd) hs)
theorem wt_sum {n d : Nat} (hn : n ≤ 16) (hd : d ≤ n) : sm (n + 1) (fun s => wt n d s) = if d = 0 then 2 ^ n else 0 := of_decide_eq_true (rng_all (tab_at hn).2.1 hd)
theorem wt_le {n d s : Nat} (hn : n ≤ 16) (hd : d ≤ n) (hs : s ≤ n) : (wt n d s).natAbs < 1000000000000 := of_decide_eq_true (rng_all (rng_all (tab_at hn).2.2.1 hd) hs)
theorem ch_le {n d : Nat} (hn : n ≤ 16) (hd : d ≤ n) : (chQ n d).natAbs < 1000000000000 := by
  have := rng_all (tab_at hn).2.2.2 hd
  simp only [Bool.and_eq_true, decide_eq_true_eq] at this
  exact this.1
theorem ch_rec {n d : Nat} (hn : n ≤ 16) (hd : d < n) : chQ n (d + 1) * ((d : Int) + 1) = chQ n d * ((n : Int) - d) := by
  have := rng_all (tab_at hn).2.2.2 (Nat.le_of_lt hd)
  simp only [Bool.and_eq_true, Bool.or_eq_true, decide_eq_true_eq] at this
  rcases this.2 with h | h
  · omega
  · exact h
/-- walks by weights -/
theorem A_wt {n : Nat} (hn : n ≤ 16) : ∀ (k d : Nat), d ≤ n → A n k d * 2 ^ n = sm (n + 1) (fun s => wt n d s * ((n : Int) - 2 * s) ^ k)
  | 0, d, hd => by
    have e : sm (n + 1) (fun s => wt n d s * ((n : Int) - 2 * s) ^ 0) = sm (n + 1) (fun s => wt n d s) := sm_congr fun s _ => by simp
    rw [e, wt_sum hn hd]
    unfold A
    by_cases h : d = 0 <;> simp [h]
  | k + 1, d, hd => by
    have e : sm (n + 1) (fun s => wt n d s * ((n : Int) - 2 * s) ^ (k + 1)) = sm (n + 1) (fun s => (if 0 < d then (d : Int) * (wt n (d - 1) s * ((n : Int) - 2 * s) ^ k) else 0) + (if d < n then ((n : Int) - d) * (wt n (d + 1) s * ((n : Int) - 2 * s) ^ k) else 0)) := sm_congr fun s hs => by
      have r := wt_rec (s := s) hn hd (by omega)
      rw [Int.pow_succ, ← Int.mul_assoc, Int.mul_right_comm, Int.mul_comm (wt n d s), ← r, Int.add_mul]
      congr 1
      · split
        · rw [Int.mul_right_comm, Int.mul_comm]
        · simp
      · split
        · rw [Int.mul_right_comm, Int.mul_comm]
        · simp
    rw [e, sm_add]
    unfold A
    rw [Int.add_mul]
    congr 1
    · by_cases h : 0 < d
      · simp only [if_pos h]
        rw [sm_mul, ← A_wt hn k (d - 1) (by omega), Int.mul_right_comm, Int.mul_comm]
      · simp only [if_neg h]
        have : ∀ m, sm m (fun _ => (0 : Int)) = 0 := fun m => by
          induction m with
          | zero => rfl
          | succ m ih => simp only [sm, ih]; rfl
        rw [this]; simp
    · by_cases h : d < n
      · simp only [if_pos h]
        rw [sm_mul, ← A_wt hn k (d + 1) (by omega), Int.mul_right_comm, Int.mul_comm]
      · simp only [if_neg h]
        have : ∀ m, sm m (fun _ => (0 : Int)) = 0 := fun m => by
          induction m with
          | zero => rfl
          | succ m ih => simp only [sm, ih]; rfl
        rw [this]; simp
/-- all ends together -/
theorem ch_sum {n : Nat} (hn : n ≤ 16) : ∀ k : Nat, sm (n + 1) (fun d => chQ n d * A n k d) = (n : Int) ^ k
  | 0 => by
    rw [sm_first]
    have : ∀ m, sm m (fun d => chQ n (d + 1) * A n 0 (d + 1)) = 0 := fun m => by
      induction m with
      | zero => rfl
      | succ m ih => simp only [sm, ih]; simp [A]
    rw [this]; simp [A, chQ]
  | k + 1 => by
    have e : sm (n + 1) (fun d => chQ n d * A n (k + 1) d) = sm (n + 1) (fun d => chQ n d * (if 0 < d then A n k (d - 1) * (d : Int) else 0)) + sm (n + 1) (fun d => chQ n d * (if d < n then A n k (d + 1) * ((n : Int) - d) else 0)) := by
      rw [← sm_add]
      exact sm_congr fun d _ => by rw [← Int.mul_add]; rfl
    have e1 : sm (n + 1) (fun d => chQ n d * (if 0 < d then A n k (d - 1) * (d : Int) else 0)) = sm n (fun d => ((n : Int) - d) * (chQ n d * A n k d)) := by
      rw [sm_first]
      simp only [Nat.lt_irrefl, if_false, Int.mul_zero, Int.zero_add]
      refine sm_congr fun d hd => ?_
      rw [if_pos (Nat.succ_pos d), Nat.add_sub_cancel, Int.natCast_add, Int.natCast_one, Int.mul_comm (A n k d), ← Int.mul_assoc, ch_rec hn hd, Int.mul_comm (chQ n d), Int.mul_assoc]
    have e2 : sm (n + 1) (fun d => chQ n d * (if d < n then A n k (d + 1) * ((n : Int) - d) else 0)) = sm n (fun d => ((d : Int) + 1) * (chQ n (d + 1) * A n k (d + 1))) := by
      simp only [sm, Nat.lt_irrefl, if_false, Int.mul_zero, Int.add_zero]
      refine sm_congr fun d hd => ?_
      rw [if_pos hd, Int.mul_comm (A n k (d + 1)), ← Int.mul_assoc, ← ch_rec hn hd, Int.mul_comm (chQ n (d + 1)), Int.mul_assoc]
    have e3 : sm n (fun d => ((n : Int) - d) * (chQ n d * A n k d)) = sm (n + 1) (fun d => ((n : Int) - d) * (chQ n d * A n k d)) := by simp [sm]
    have e4 : sm n (fun d => ((d : Int) + 1) * (chQ n (d + 1) * A n k (d + 1))) = sm (n + 1) (fun d => (d : Int) * (chQ n d * A n k d)) := by
      rw [sm_first]
      simp only [Int.natCast_zero, Int.zero_mul, Int.zero_add]
      exact sm_congr fun d _ => by rw [Int.natCast_add, Int.natCast_one]
    rw [e, e1, e2, e3, e4, ← sm_add, Int.pow_succ, ← ch_sum hn k, Int.mul_comm _ (n : Int), ← sm_mul]
    exact sm_congr fun d _ => by rw [← Int.add_mul]; congr 1; omega
end Sg

namespace Sg
open PySem PySem.Spec PyProof.Rows L2
theorem roll11 {many : Int} (hm : 0 < many ∧ many < 1000000000) {S : Sto} (hS : CupOk S) : ∃ (r : Int) (S' : Sto), m_law_rollU [.ref 0, .v (.int many)] S = .ok (.v (.int r)) S' ∧ CupOk S' ∧ 0 ≤ r ∧ r < many :=
  roll_ok (k1 := 27014) (k2 := 6899) (p1 := 2147483423) (k3 := 1621) (p2 := 2147483587) (k4 := 2399) (by decide) (by decide) (by decide) (by decide) hm hS
theorem cup11 (ns : List Int) (hl : ns.length ≤ 63) : ∃ S', m_law_cupU [.v (.scr (ns.map D.int))] [] = .ok (.ref 0) S' ∧ CupOk S' :=
  cup_ok (d := 73) (k1 := 991) (k2 := 5347) (p := 2099900749) (c := 853) (by decide) (by decide) (by decide) (by decide) ns hl
theorem mSame_eq : m_law_sameU = mSame := by
  funext n
  induction n with
  | zero => rfl
  | succ n ih => show wrap false 3 (b_law_sameU (m_law_sameU n)) = wrap false 3 (bSame (mSame n)); rw [ih]; rfl
theorem same6 {S : Sto} (d : D) (h1 : D.sg d = true) (h2 : D.dep d < 6) : m_law_sameU 6 [.v d, .v d] S = .ok (.v (.bl true)) S := by rw [mSame_eq]; exact same_refl 6 d h1 h2
def fw (v : D) (lo hi : Int) : Bool := match v with
  | .int i => decide (lo ≤ i ∧ i ≤ hi)
  | _ => false
theorem fits_whole_ok {v : D} (h : vg v) {lo hi : Int} {S : Sto} : m_fits_whole [.v v, .v (.int lo), .v (.int hi)] S = .ok (.v (.bl (fw v lo hi))) S := by
  cases v with
  | int i =>
    simp [m_fits_whole, wrap, b_fits_whole, startE, sIsi, tyY, tyD, tyOk, isSub, fw]
    by_cases h1 : lo ≤ i <;> by_cases h2 : i ≤ hi <;> simp [h1, h2]
  | non => simp [m_fits_whole, wrap, b_fits_whole, startE, sIsi, tyY, tyD, tyOk, isSub, fw]
  | bl b => simp [m_fits_whole, wrap, b_fits_whole, startE, sIsi, tyY, tyD, tyOk, isSub, fw]
  | str b => simp [m_fits_whole, wrap, b_fits_whole, startE, sIsi, tyY, tyD, tyOk, isSub, fw]
  | tup b => simp [m_fits_whole, wrap, b_fits_whole, startE, sIsi, tyY, tyD, tyOk, isSub, fw]
  | lst b => simp [m_fits_whole, wrap, b_fits_whole, startE, sIsi, tyY, tyD, tyOk, isSub, fw]
  | _ => exact absurd h.1 (by simp [D.pln])
def tof (v : D) (a b : Int) : Bool := match v with
  | .tup ds => decide (a ≤ ds.length ∧ ds.length ≤ b)
  | _ => false
theorem is_tuple_of_ok {v : D} (h : vg v) {a b : Int} {S : Sto} : m_is_tuple_of [.v v, .v (.int a), .v (.int b)] S = .ok (.v (.bl (tof v a b))) S := by
  cases v with
  | tup ds =>
    simp [m_is_tuple_of, wrap, b_is_tuple_of, startE, sIsi, tyY, tyD, tyOk, isSub, tof]
    by_cases h1 : a ≤ ds.length <;> by_cases h2 : (ds.length : Int) ≤ b <;> simp [h1, h2]
  | non => simp [m_is_tuple_of, wrap, b_is_tuple_of, startE, sIsi, tyY, tyD, tyOk, isSub, tof]
  | bl b => simp [m_is_tuple_of, wrap, b_is_tuple_of, startE, sIsi, tyY, tyD, tyOk, isSub, tof]
  | str b => simp [m_is_tuple_of, wrap, b_is_tuple_of, startE, sIsi, tyY, tyD, tyOk, isSub, tof]
  | int b => simp [m_is_tuple_of, wrap, b_is_tuple_of, startE, sIsi, tyY, tyD, tyOk, isSub, tof]
  | lst b => simp [m_is_tuple_of, wrap, b_is_tuple_of, startE, sIsi, tyY, tyD, tyOk, isSub, tof]
  | _ => exact absurd h.1 (by simp [D.pln])
def isWord (ws : List Int) : Prop := 1 ≤ ws.length ∧ ws.length ≤ 16 ∧ ∀ x ∈ ws, x = 0 ∨ x = 1
theorem fits_word_ok {ws : List Int} (h : isWord ws) {S : Sto} : m_fits_word [.v (.tup (ws.map D.int))] S = .ok (.v (.bl true)) S := by
  have e1 := is_tuple_of_ok (vg_tup_ints ws) (a := 1) (b := 16) (S := S)
  have ht : tof (.tup (ws.map D.int)) 1 16 = true := by
    have := h.1; have := h.2.1
    simp [tof]; omega
  have e2 : fCall sAll (fCons (fLc false [1] (fItS (fVar 0)) (.nm 1) fYes (fOwn 3 m_fits_whole (fCons (fVar 1) (fCons (fC (.int 0)) (fCons (fC (.int 1)) fNil))))) fNil) [some (.v (.tup (ws.map D.int))), none] S = .ok (.v (.bl (ws.all fun x => fw (.int x) 0 1))) S :=
    all_lc ws D.int (fun x => fw (.int x) 0 1) (ds := ws.map D.int) (by simp) rfl (by have := h.2.1; omega) fun x hx => ⟨_, rfl, by simp [wipeE, fits_whole_ok (vg_int x)]⟩
  have e3 : (ws.all fun x => fw (.int x) 0 1) = true := List.all_eq_true.mpr fun x hx => by
    rcases h.2.2 x hx with rfl | rfl <;> decide
  rw [e3] at e2
  simp [m_fits_word, wrap, b_fits_word, startE, e1, ht, -ev_call, e2]
theorem law_word_ok {n : Nat} (hn : 1 ≤ n ∧ n ≤ 16) {S : Sto} (hS : CupOk S) : ∃ ws S', m_law_wordU [.ref 0, .v (.int n)] S = .ok (.v (.tup (ws.map D.int))) S' ∧ CupOk S' ∧ ws.length = n ∧ isWord ws := by
  obtain ⟨out, S', e, hS', ws, rfl, hl, hw⟩ := lc_idx (env := [some (.ref 0), some (.v (.int n)), none]) (S := S) (vs := [2]) (fi := fIt sRng1 (fCons (fVar 1) fNil)) (t := .nm 2) (ft := fYes) (fe := fOwn 2 m_law_rollU (fCons (fVar 0) (fCons (fC (.int 2)) fNil)))
    (fun i acc S => CupOk S ∧ ∃ ws : List Int, acc = ws.map D.int ∧ ws.length = i ∧ ∀ x ∈ ws, x = 0 ∨ x = 1) (i_rng1 (n := n) (by omega) (var_ok (by rfl))) (by simp; omega) ⟨hS, [], rfl, rfl, fun x h => absurd h List.not_mem_nil⟩
    (fun j d acc S hj hP => by
      obtain ⟨hS, ws, rfl, hl, hw⟩ := hP
      obtain ⟨r, S1, e1, hS1, h0, h2⟩ := roll11 (many := 2) (by decide) hS
      refine ⟨_, true, S, rfl, rfl, (fun h => by cases h), fun _ => ⟨.int r, S1, own_ok (cons_ok (var_ok (by rfl)) (cons_ok ev_c ev_nil)) (by rfl) e1, hS1, ws ++ [r], by simp, by simp [hl], fun x hx => ?_⟩⟩
      rcases List.mem_append.mp hx with hx | hx
      · exact hw x hx
      · rw [List.mem_singleton.mp hx]; omega)
  rw [rngD_len] at hl
  have hl2 : S'.length = 1 := by obtain ⟨a, b, rfl, _⟩ := hS'; rfl
  have hl1 : S.length = 1 := by obtain ⟨a, b, rfl, _⟩ := hS; rfl
  refine ⟨ws, S', ?_, hS', hl, by omega, by omega, hw⟩
  show wrap false 3 b_law_wordU _ S = _
  rw [wrap_fin]
  have e0 : startE 3 [Y.ref 0, .v (.int n)] = [some (.ref 0), some (.v (.int n)), none] := rfl
  rw [e0]
  unfold b_law_wordU
  refine (congrArg (fin false S.length) (ret_ok (call_ok (cons_ok e ev_nil) s_tupL))).trans ?_
  rw [fin_rt, hl1, ← hl2, List.take_length]
theorem same_own {f g : FE Y} {env : Ev} {S S1 S2 : Sto} {d : D} (h1 : f env S = .ok (.v d) S1) (h2 : g env S1 = .ok (.v d) S2) (hs : D.sg d = true) (hd : D.dep d < 6) : fOwn 2 (m_law_sameU 6) (fCons f (fCons g fNil)) env S = .ok (.v (.bl true)) S2 :=
  own_ok (cons_ok h1 (cons_ok h2 ev_nil)) rfl (same6 d hs hd)
/-! ### picking -/
theorem law_some_ok {ds : List D} (h : 0 < ds.length ∧ ds.length < 1000) {S : Sto} (hS : CupOk S) : ∃ d S', m_law_someU [.ref 0, .v (.lst ds)] S = .ok (.v d) S' ∧ CupOk S' ∧ d ∈ ds := by
  obtain ⟨r, S1, e1, hS1, h0, h1⟩ := roll11 (many := (ds.length : Int)) (by omega) hS
  obtain ⟨k, rfl, _, hk⟩ := nat_of (x := r) (lo := 0) (hi := (ds.length : Int) - 1) (by omega) (by omega)
  have hr : k < ds.length := by omega
  have ha : L2.atI ds (k : Int) = some ds[k] := L2.atI_nat (List.getElem?_eq_getElem hr)
  refine ⟨ds[k], S1, ?_, hS1, List.getElem_mem hr⟩
  show wrap false 2 b_law_someU _ S = _
  rw [wrap_fin]
  have e0 : startE 2 [Y.ref 0, .v (.lst ds)] = [some (.ref 0), some (.v (.lst ds))] := rfl
  rw [e0]
  unfold b_law_someU
  refine (congrArg (fin false S.length) (ret_ok (bin_ok (var_ok (by rfl)) (own_ok (cons_ok (var_ok (by rfl)) (cons_ok (call_ok (cons_ok (var_ok (by rfl)) ev_nil) s_lenL) ev_nil)) (by rfl) e1) (s_ixL ha)))).trans ?_
  rw [fin_rt, hS.len, ← hS1.len, List.take_length]
/-! ### words -/
theorem need_word_ok {ws : List Int} (h : isWord ws) {S : Sto} : m_need_word [.v (.tup (ws.map D.int))] S = .ok (.v .non) S := by
  have e1 := fits_word_ok h (S := S)
  show wrap false 1 b_need_word _ S = _
  rw [wrap_fin]
  have e0 : startE 1 [Y.v (.tup (ws.map D.int))] = [some (.v (.tup (ws.map D.int)))] := rfl
  rw [e0]
  unfold b_need_word
  refine (congrArg (fin false S.length) (if_nx (nsame (own_ok (cons_ok (var_ok (by rfl)) ev_nil) (by rfl) e1)))).trans ?_
  rw [fin_nx, List.take_length]
theorem need_words_ok {ws os : List Int} (h : isWord ws) (ho : isWord os) (hl : ws.length = os.length) {S : Sto} : m_need_words [.v (.tup (ws.map D.int)), .v (.tup (os.map D.int))] S = .ok (.v .non) S := by
  have e1 := need_word_ok h (S := S)
  have e2 := fits_word_ok ho (S := S)
  show wrap false 2 b_need_words _ S = _
  rw [wrap_fin]
  have e0 : startE 2 [Y.v (.tup (ws.map D.int)), .v (.tup (os.map D.int))] = [some (.v (.tup (ws.map D.int))), some (.v (.tup (os.map D.int)))] := rfl
  rw [e0]
  unfold b_need_words
  have hne : sNe (.v (.int ((ws.map D.int).length : Nat))) (.v (.int ((os.map D.int).length : Nat))) S = .ok (.v (.bl false)) S := by
    rw [List.length_map, List.length_map, hl, s_neI]; simp
  refine (congrArg (fin false S.length) ((seq_nx (drop_ok (own_ok (cons_ok (var_ok (by rfl)) ev_nil) (by rfl) e1))).trans (if_nx (or_ff (nsame (own_ok (cons_ok (var_ok (by rfl)) ev_nil) (by rfl) e2)) (test_ok (bin_ok (call_ok (cons_ok (var_ok (by rfl)) ev_nil) s_lenT) (call_ok (cons_ok (var_ok (by rfl)) ev_nil) s_lenT) hne)))))).trans ?_
  rw [fin_nx, List.take_length]
theorem need_many_ok {k most : Int} (h : 0 ≤ k ∧ k ≤ most) {S : Sto} : m_need_many [.v (.int k), .v (.int most)] S = .ok (.v .non) S := by
  have e := fits_whole_ok (v := .int k) (vg_int _) (lo := 0) (hi := most) (S := S)
  have e3 : fw (.int k) 0 most = true := by simp [fw]; omega
  rw [e3] at e
  show wrap false 2 b_need_many _ S = _
  rw [wrap_fin]
  have e0 : startE 2 [Y.v (.int k), .v (.int most)] = [some (.v (.int k)), some (.v (.int most))] := rfl
  rw [e0]
  unfold b_need_many
  refine (congrArg (fin false S.length) (if_nx (nsame (own_ok (cons_ok (var_ok (by rfl)) (cons_ok ev_c (cons_ok (var_ok (by rfl)) ev_nil))) (by rfl) e)))).trans ?_
  rw [fin_nx, List.take_length]
/-! ### places that differ -/
def unl (ws os : List Int) : List Nat := (List.range ws.length).filter fun i => !decide (ws[i]? = os[i]?)
theorem unl_cons (a b : Int) (ws os : List Int) : (unl (a :: ws) (b :: os)).length = (if a = b then 0 else 1) + (unl ws os).length := by
  unfold unl
  rw [List.length_cons, List.range_succ_eq_map, List.filter_cons, List.filter_map]
  have e : ((fun i => !decide ((a :: ws)[i]? = (b :: os)[i]?)) ∘ Nat.succ) = fun i => !decide (ws[i]? = os[i]?) := by
    funext i; simp
  rw [e]
  by_cases h : a = b <;> simp [h] <;> omega
theorem unl_dist : ∀ ws os : List Int, ws.length = os.length → (unl ws os).length = dist ws os
  | [], [], _ => rfl
  | [], _ :: _, h => by simp at h
  | _ :: _, [], h => by simp at h
  | a :: ws, b :: os, h => by rw [unl_cons, unl_dist ws os (by simpa using h)]; rfl
theorem unl_lc {ws os : List Int} (hw : ws.length ≤ 1000) (hl : ws.length = os.length) {S : Sto} : fLc false [2] (fIt sRng1 (fCons (fCall sLen (fCons (fVar 0) fNil)) fNil)) (.nm 2) (fTest (fBin sNe (fBin sIx (fVar 0) (fVar 2)) (fBin sIx (fVar 1) (fVar 2)))) (fBin (sAdd false) (fVar 2) (fC (.int 1))) [some (.v (.tup (ws.map D.int))), some (.v (.tup (os.map D.int))), none] S = .ok (.v (.lst ((unl ws os).map fun (i : Nat) => D.int (0 + (i : Int) + 1)))) S := by
  have hi : fIt sRng1 (fCons (fCall sLen (fCons (fVar 0) fNil)) fNil) [some (.v (.tup (ws.map D.int))), some (.v (.tup (os.map D.int))), none] S = .ok (rngD 0 ws.length) S := i_rng1 hw (call_ok (cons_ok (var_ok (by rfl)) ev_nil) (by rw [s_lenT, List.length_map])) (f := fCall sLen (fCons (fVar 0) fNil))
  refine lc_map (m := false) (List.range ws.length) (fun (i : Nat) => D.int (0 + i)) (fun i => !decide (ws[i]? = os[i]?)) (fun (i : Nat) => D.int (0 + (i : Int) + 1)) hi rfl (by rw [List.length_range]; omega) fun i hi => ?_
  have h1 : i < ws.length := List.mem_range.mp hi
  have h2 : i < os.length := by omega
  have g1 : L2.atI (ws.map D.int) (0 + (i : Int)) = some (.int ws[i]) := by rw [Int.zero_add]; exact L2.atI_nat (by rw [List.getElem?_map, List.getElem?_eq_getElem h1]; rfl)
  have g2 : L2.atI (os.map D.int) (0 + (i : Int)) = some (.int os[i]) := by rw [Int.zero_add]; exact L2.atI_nat (by rw [List.getElem?_map, List.getElem?_eq_getElem h2]; rfl)
  refine ⟨_, rfl, test_ok (bin_ok (bin_ok (var_ok (by rfl)) (var_ok (by rfl)) (s_ixT g1)) (bin_ok (var_ok (by rfl)) (var_ok (by rfl)) (s_ixT g2)) ?_), fun _ => bin_ok (var_ok (by rfl)) ev_c s_add⟩
  rw [s_neI, List.getElem?_eq_getElem h1, List.getElem?_eq_getElem h2]
  simp
theorem unlike_in_ok {ws os : List Int} (hw : ws.length ≤ 1000) (hl : ws.length = os.length) {S : Sto} : m_unlike_in [.v (.tup (ws.map D.int)), .v (.tup (os.map D.int))] S = .ok (.v (.lst ((unl ws os).map fun (i : Nat) => D.int (0 + (i : Int) + 1)))) S := by
  show wrap false 3 b_unlike_in _ S = _
  rw [wrap_fin]
  unfold b_unlike_in
  exact (congrArg (fin false S.length) (ret_ok (unl_lc hw hl))).trans fin_rtS
theorem law_unlike_ok {ws os : List Int} (hw : ws.length ≤ 1000) (hl : ws.length = os.length) {S : Sto} : m_law_unlikeU [.v (.tup (ws.map D.int)), .v (.tup (os.map D.int))] S = .ok (.v (.lst ((unl ws os).map fun (i : Nat) => D.int (0 + (i : Int) + 1)))) S := by
  show wrap false 3 b_law_unlikeU _ S = _
  rw [wrap_fin]
  unfold b_law_unlikeU
  exact (congrArg (fin false S.length) (ret_ok (unl_lc hw hl))).trans fin_rtS
end Sg

namespace Sg
open PySem PySem.Spec PyProof.Rows L2
theorem turn_cut : ∀ (ws : List Int) (i : Nat) (h : i < ws.length), turn ws i = ws.take i ++ [1 - ws[i]] ++ ws.drop (i + 1)
  | [], _, h => absurd h (Nat.not_lt_zero _)
  | a :: ws, 0, _ => by simp [turn]
  | a :: ws, i + 1, h => by
    have ih := turn_cut ws i (by simpa using h)
    simp only [turn, ih, List.take_succ_cons, List.drop_succ_cons, List.getElem_cons_succ, List.cons_append]
theorem turned_at_ok {ws : List Int} (hw : ws.length ≤ 1000) {i : Nat} (hi : i < ws.length) {S : Sto} : m_turned_at [.v (.tup (ws.map D.int)), .v (.int ((i : Int) + 1))] S = .ok (.v (.tup ((turn ws i).map D.int))) S := by
  show wrap false 2 b_turned_at _ S = _
  rw [wrap_fin]
  have e0 : startE 2 [Y.v (.tup (ws.map D.int)), .v (.int ((i : Int) + 1))] = [some (.v (.tup (ws.map D.int))), some (.v (.int ((i : Int) + 1)))] := rfl
  rw [e0]
  unfold b_turned_at
  have hs : (fBin sSub (fVar 1) (fC (.int 1))) [some (.v (.tup (ws.map D.int))), some (.v (.int ((i : Int) + 1)))] S = .ok (.v (.int (i : Int))) S := bin_ok (var_ok rfl) ev_c (by rw [s_sub, show (i : Int) + 1 - 1 = i by omega])
  have ha : L2.atI (ws.map D.int) (i : Int) = some (.int ws[i]) := L2.atI_nat (by rw [List.getElem?_map, List.getElem?_eq_getElem hi]; rfl)
  have h1 : (fSl false (fVar 0) fNoP (fPart (fBin sSub (fVar 1) (fC (.int 1))))) [some (.v (.tup (ws.map D.int))), some (.v (.int ((i : Int) + 1)))] S = .ok (.v (.tup ((ws.take i).map D.int))) S :=
    sl_ok (var_ok rfl) ev_nop (part_ok hs) (by rw [s_slT, cut_take, List.map_take])
  have h2 : (fTup (fCons (fBin sSub (fC (.int 1)) (fBin sIx (fVar 0) (fBin sSub (fVar 1) (fC (.int 1))))) fNil)) [some (.v (.tup (ws.map D.int))), some (.v (.int ((i : Int) + 1)))] S = .ok (.v (.tup ([1 - ws[i]].map D.int))) S :=
    tup_ok (cons_ok (bin_ok ev_c (bin_ok (var_ok rfl) hs (s_ixT ha)) s_sub) ev_nil) rfl (by simp)
  have h3 : (fSl false (fVar 0) (fPart (fVar 1)) fNoP) [some (.v (.tup (ws.map D.int))), some (.v (.int ((i : Int) + 1)))] S = .ok (.v (.tup ((ws.drop (i + 1)).map D.int))) S :=
    sl_ok (var_ok rfl) (part_ok (var_ok rfl)) ev_nop (by rw [s_slT, show (i : Int) + 1 = ((i + 1 : Nat) : Int) by omega, cut_drop, List.map_drop])
  have e : (turn ws i).map D.int = (ws.take i).map D.int ++ [1 - ws[i]].map D.int ++ (ws.drop (i + 1)).map D.int := by rw [turn_cut ws i hi, List.map_append, List.map_append]
  rw [e]
  refine (congrArg (fin false S.length) (ret_ok (bin_ok (bin_ok h1 h2 (s_catT (okLen_of ?_))) h3 (s_catT (okLen_of ?_))))).trans fin_rtS
  · simp only [List.length_map, List.length_take, List.length_singleton]; omega
  · simp only [List.length_append, List.length_map, List.length_take, List.length_drop, List.length_singleton]; omega
theorem numb_turn : ∀ (ws : List Int) (k i : Nat), (numb k ws).map (fun q => if q.1 + 1 = ((k + i : Nat) : Int) + 1 then 1 - q.2 else q.2) = turn ws i
  | [], _, _ => rfl
  | a :: ws, k, 0 => by
    rw [numb, List.map_cons, if_pos (by omega), turn]
    congr 1
    have : ∀ (us : List Int) (j : Nat), k < j → (numb j us).map (fun q => if q.1 + 1 = ((k + 0 : Nat) : Int) + 1 then 1 - q.2 else q.2) = us := fun us => by
      induction us with
      | nil => intro _ _; rfl
      | cons u us ih => intro j hj; rw [numb, List.map_cons, if_neg (by omega), ih (j + 1) (by omega)]
    exact this ws (k + 1) (by omega)
  | a :: ws, k, i + 1 => by
    rw [numb, List.map_cons, if_neg (by omega), turn]
    congr 1
    have ih := numb_turn ws (k + 1) i
    rw [show k + 1 + i = k + (i + 1) by omega] at ih
    exact ih
theorem law_turn_ok {ws : List Int} (hw : ws.length ≤ 1000) {i : Nat} (hi : i < ws.length) {S : Sto} : m_law_turnU [.v (.tup (ws.map D.int)), .v (.int ((i : Int) + 1))] S = .ok (.v (.tup ((turn ws i).map D.int))) S := by
  show wrap false 4 b_law_turnU _ S = _
  rw [wrap_fin]
  have e0 : startE 4 [Y.v (.tup (ws.map D.int)), .v (.int ((i : Int) + 1))] = [some (.v (.tup (ws.map D.int))), some (.v (.int ((i : Int) + 1))), none, none] := rfl
  rw [e0]
  unfold b_law_turnU
  have e2 : fCall sTuple (fCons (fLc false [2, 3] (fIt (itS1 (enumL 0)) (fCons (fVar 0) fNil)) (.tp [(.nm 2), (.nm 3)]) fYes (fIf (fTest (fBin sEq (fBin (sAdd false) (fVar 2) (fC (.int 1))) (fVar 1))) (fBin sSub (fC (.int 1)) (fVar 3)) (fVar 3))) fNil) [some (.v (.tup (ws.map D.int))), some (.v (.int ((i : Int) + 1))), none, none] S = .ok (.v (.tup ((numb 0 ws).map fun q => D.int (if q.1 + 1 = ((0 + i : Nat) : Int) + 1 then 1 - q.2 else q.2)))) S := by
    refine tup_lcy (numb 0 ws) (fun p => D.tup [.int p.1, .int p.2]) (fun q => D.int (if q.1 + 1 = ((0 + i : Nat) : Int) + 1 then 1 - q.2 else q.2)) (ds := enumL 0 (ws.map D.int)) (by simp [itS1]) (enumL_numb _ _) (by rw [len_numb]; omega) fun p hp => ⟨_, rfl, ?_⟩
    have ht : fTest (fBin sEq (fBin (sAdd false) (fVar 2) (fC (.int 1))) (fVar 1)) [some (.v (.tup (ws.map D.int))), some (.v (.int ((i : Int) + 1))), some (.v (.int p.1)), some (.v (.int p.2))] S = .ok (decide (p.1 + 1 = (i : Int) + 1)) S := test_ok (bin_ok (bin_ok (var_ok rfl) ev_c s_add) (var_ok rfl) s_eqI)
    rw [Nat.zero_add]
    by_cases h : p.1 + 1 = (i : Int) + 1
    · rw [if_pos h]
      exact (if_t (ht.trans (by rw [decide_eq_true h]))).trans (bin_ok ev_c (var_ok rfl) s_sub)
    · rw [if_neg h]
      exact (if_f (ht.trans (by rw [decide_eq_false h]))).trans (var_ok rfl)
  have e3 : ((numb 0 ws).map fun q => D.int (if q.1 + 1 = ((0 + i : Nat) : Int) + 1 then 1 - q.2 else q.2)) = (turn ws i).map D.int := by
    rw [← numb_turn ws 0 i, List.map_map]; rfl
  rw [e3] at e2
  exact (congrArg (fin false S.length) (ret_ok e2)).trans fin_rtS
/-! ### walks -/
theorem endW_cons (w : List Int) (p : Int) (ps : List Int) : endW w (p :: ps) = endW (turn w (p - 1).toNat) ps := rfl
theorem endW_len : ∀ (ps w : List Int), (endW w ps).length = w.length
  | [], _ => rfl
  | p :: ps, w => by rw [endW_cons, endW_len ps, turn_len]
theorem endW_isW : ∀ (ps : List Int) {w : List Int}, isW w → isW (endW w ps)
  | [], _, h => h
  | p :: ps, _, h => by rw [endW_cons]; exact endW_isW ps (turn_isW h)
theorem end_for {T : List Y → Sto → Res Y} {S : Sto} (hT : ∀ (ws : List Int) (i : Nat), ws.length ≤ 1000 → i < ws.length → T [.v (.tup (ws.map D.int)), .v (.int ((i : Int) + 1))] S = .ok (.v (.tup ((turn ws i).map D.int))) S) :
    ∀ (ps ws : List Int) (b c : Option Y), ws.length ≤ 1000 → (∀ p ∈ ps, 1 ≤ p ∧ p ≤ ws.length) → ∃ c', forD (.nm 2) (fSet 0 (fOwn 2 T (fCons (fVar 0) (fCons (fVar 2) fNil)))) (ps.map D.int) [some (.v (.tup (ws.map D.int))), b, c] S = .nx [some (.v (.tup ((endW ws ps).map D.int))), b, c'] S
  | [], ws, b, c, _, _ => ⟨c, rfl⟩
  | p :: ps, ws, b, c, hw, hp => by
    have h1 := hp p List.mem_cons_self
    obtain ⟨i, hi⟩ : ∃ i : Nat, p = (i : Int) + 1 := ⟨(p - 1).toNat, by omega⟩
    subst hi
    have e1 := hT ws i hw (by omega)
    obtain ⟨c', e2⟩ := end_for hT ps (turn ws i) b (some (.v (.int ((i : Int) + 1)))) (by rw [turn_len]; exact hw) (fun q hq => by rw [turn_len]; exact hp q (List.mem_cons_of_mem _ hq))
    refine ⟨c', ?_⟩
    rw [endW_cons, show ((i : Int) + 1 - 1).toNat = i by omega, ← e2]
    have e3 : fSet 0 (fOwn 2 T (fCons (fVar 0) (fCons (fVar 2) fNil))) [some (.v (.tup (ws.map D.int))), b, some (.v (.int ((i : Int) + 1)))] S = .nx [some (.v (.tup ((turn ws i).map D.int))), b, some (.v (.int ((i : Int) + 1)))] S := set_ok (own_ok (a2v rfl rfl) rfl e1)
    show (match Tg.asg (.nm 2) (D.int ((i : Int) + 1)) [some (.v (.tup (ws.map D.int))), b, c] with | none => SR.bad | some env1 => _) = _
    show (match fSet 0 (fOwn 2 T (fCons (fVar 0) (fCons (fVar 2) fNil))) [some (.v (.tup (ws.map D.int))), b, some (.v (.int ((i : Int) + 1)))] S with | .nx env2 S2 => _ | .ct env2 S2 => _ | .bk env2 S2 => _ | .rt y S2 => _ | .exc x env2 S2 => _ | .bad => _) = _
    rw [e3]
theorem ended_by_ok {ws ps : List Int} (hw : ws.length ≤ 1000) (hp : ∀ p ∈ ps, 1 ≤ p ∧ p ≤ ws.length) {S : Sto} : m_ended_by [.v (.tup (ws.map D.int)), .v (.tup (ps.map D.int))] S = .ok (.v (.tup ((endW ws ps).map D.int))) S := by
  obtain ⟨c', e⟩ := end_for (T := m_turned_at) (S := S) (fun ws i h1 h2 => turned_at_ok h1 h2) ps ws (some (.v (.tup (ps.map D.int)))) none hw hp
  show wrap false 3 b_ended_by _ S = _
  rw [wrap_fin]
  unfold b_ended_by
  exact (congrArg (fin false S.length) ((seq_nx ((for_ok (its_okT (var_ok (by rfl)))).trans e)).trans (ret_ok (var_ok (by rfl))))).trans fin_rtS
theorem law_end_ok {ws ps : List Int} (hw : ws.length ≤ 1000) (hp : ∀ p ∈ ps, 1 ≤ p ∧ p ≤ ws.length) {S : Sto} : m_law_endU [.v (.tup (ws.map D.int)), .v (.tup (ps.map D.int))] S = .ok (.v (.tup ((endW ws ps).map D.int))) S := by
  obtain ⟨c', e⟩ := end_for (T := m_law_turnU) (S := S) (fun ws i h1 h2 => law_turn_ok h1 h2) ps ws (some (.v (.tup (ps.map D.int)))) none hw hp
  show wrap false 3 b_law_endU _ S = _
  rw [wrap_fin]
  unfold b_law_endU
  exact (congrArg (fin false S.length) ((seq_nx ((for_ok (its_okT (var_ok (by rfl)))).trans e)).trans (ret_ok (var_ok (by rfl))))).trans fin_rtS
end Sg

namespace Sg
open PySem PySem.Spec PyProof.Rows L2
/-! ### is_way, two ways -/
def wayOk (ws os : List Int) (v : D) : Bool := match v with
  | .tup ds => if (ds.length : Int) ≤ 400 then (if (ds.all fun d => fw d 1 ws.length) = true then (match intsD ds with | some ps => decide (endW ws ps = os) | none => false) else false) else false
  | _ => false
theorem fw_ints {ds : List D} {lo hi : Int} (h : (ds.all fun d => fw d lo hi) = true) : ∃ ps : List Int, ds = ps.map D.int ∧ ∀ p ∈ ps, lo ≤ p ∧ p ≤ hi := by
  induction ds with
  | nil => exact ⟨[], rfl, fun p hp => absurd hp List.not_mem_nil⟩
  | cons d ds ih =>
    rw [List.all_cons, Bool.and_eq_true] at h
    obtain ⟨ps, rfl, hp⟩ := ih h.2
    cases d with
    | int i =>
      have h1 : lo ≤ i ∧ i ≤ hi := by simpa [fw] using h.1
      refine ⟨i :: ps, rfl, fun p hm => ?_⟩
      rcases List.mem_cons.mp hm with rfl | hm
      · exact h1
      · exact hp p hm
    | _ => exact absurd h.1 (by simp [fw])
theorem fits_steps_ok {ws : List Int} (hw : ws.length ≤ 1000) {v : D} (h : vg v) (hl : (tupD v).length ≤ 1000) {S : Sto} : m_fits_steps [.v (.tup (ws.map D.int)), .v v, .v (.int 400)] S = .ok (.v (.bl (tof v 0 400 && (tupD v).all fun d => fw d 1 ws.length))) S := by
  have e1 := is_tuple_of_ok h (a := 0) (b := 400) (S := S)
  show wrap false 4 b_fits_steps _ S = _
  rw [wrap_fin]
  have e0 : startE 4 [Y.v (.tup (ws.map D.int)), .v v, .v (.int 400)] = [some (.v (.tup (ws.map D.int))), some (.v v), some (.v (.int 400)), none] := rfl
  rw [e0]
  unfold b_fits_steps
  have e2 : (fOwn 3 m_is_tuple_of (fCons (fVar 1) (fCons (fC (.int 0)) (fCons (fVar 2) fNil)))) [some (.v (.tup (ws.map D.int))), some (.v v), some (.v (.int 400)), none] S = .ok (.v (.bl (tof v 0 400))) S := own_ok (cons_ok (var_ok rfl) (cons_ok ev_c (cons_ok (var_ok rfl) ev_nil))) rfl e1
  refine (congrArg (fin false S.length) (ret_ok (y := .v (.bl (tof v 0 400 && (tupD v).all fun d => fw d 1 ws.length))) (S1 := S) ?_)).trans fin_rtS
  rw [ev_andV, e2]
  cases ht : tof v 0 400 with
  | false => rfl
  | true =>
    cases v with
    | tup ds =>
      have hi := vg_items h
      have hl' : ds.length ≤ 1000 := hl
      exact all_lc ds id (fun d => fw d 1 ws.length) (ds := ds) (its_okT (var_ok rfl)) (List.map_id _).symm (by omega) fun d hd => ⟨_, rfl, own_ok (cons_ok (var_ok rfl) (cons_ok ev_c (cons_ok (call_ok (cons_ok (var_ok rfl) ev_nil) s_lenT) ev_nil))) rfl (by rw [List.length_map]; exact fits_whole_ok (hi d hd).1)⟩
    | _ => simp [tof] at ht
theorem is_way_ok {ws os : List Int} (h1 : isWord ws) (h2 : isWord os) (hl : ws.length = os.length) {v : D} (h : vg v) (hv : (tupD v).length ≤ 1000) {S : Sto} : m_is_way [.v (.tup (ws.map D.int)), .v (.tup (os.map D.int)), .v v] S = .ok (.v (.bl (wayOk ws os v))) S := by
  have hw : ws.length ≤ 1000 := by have := h1.2.1; omega
  have e1 := need_words_ok h1 h2 hl (S := S)
  have e2 := fits_steps_ok hw h hv (S := S)
  show wrap false 3 b_is_way _ S = _
  rw [wrap_fin]
  have e0 : startE 3 [Y.v (.tup (ws.map D.int)), .v (.tup (os.map D.int)), .v v] = [some (.v (.tup (ws.map D.int))), some (.v (.tup (os.map D.int))), some (.v v)] := rfl
  rw [e0]
  unfold b_is_way
  have e3 : (fOwn 3 m_fits_steps (fCons (fVar 0) (fCons (fVar 2) (fCons (fC (.int 400)) fNil)))) [some (.v (.tup (ws.map D.int))), some (.v (.tup (os.map D.int))), some (.v v)] S = .ok (.v (.bl (tof v 0 400 && (tupD v).all fun d => fw d 1 ws.length))) S := own_ok (cons_ok (var_ok rfl) (cons_ok (var_ok rfl) (cons_ok ev_c ev_nil))) rfl e2
  refine (congrArg (fin false S.length) ((seq_nx (drop_ok (own_ok (a2v (by rfl) (by rfl)) (by rfl) e1))).trans (ret_ok (y := .v (.bl (wayOk ws os v))) (S1 := S) ?_))).trans fin_rtS
  rw [ev_andV, e3]
  cases hb : (tof v 0 400 && (tupD v).all fun d => fw d 1 ws.length) with
  | false =>
    have : wayOk ws os v = false := by
      cases v with
      | tup ds =>
        simp only [wayOk]
        split
        · rename_i hq
          split
          · rename_i hq2
            have ht : tof (.tup ds) 0 400 = true := by simp [tof]; exact hq
            rw [ht, show (tupD (.tup ds)) = ds from rfl, hq2] at hb
            cases hb
          · rfl
        · rfl
      | _ => rfl
    rw [this]; rfl
  | true =>
    rw [Bool.and_eq_true] at hb
    obtain ⟨ht, ha⟩ := hb
    cases v with
    | tup ds =>
      obtain ⟨ps, rfl, hp⟩ := fw_ints (show (ds.all fun d => fw d 1 ws.length) = true from ha)
      have e4 := ended_by_ok hw hp (S := S)
      have e5 : wayOk ws os (.tup (ps.map D.int)) = decide (endW ws ps = os) := by
        simp only [wayOk]
        rw [if_pos (by simp [tof] at ht; simpa using ht), if_pos (show ((ps.map D.int).all fun d => fw d 1 ws.length) = true from ha), intsD_map]
      rw [e5]
      refine bin_ok (own_ok (a2v rfl rfl) rfl e4) (var_ok rfl) ?_
      rw [s_eq rfl rfl (eqk_intsT _) (eqk_intsT _), eqv_intsT]
    | _ => simp [tof] at ht
def badStep (n : Int) (d : D) : Bool := !fw d 1 n
theorem law_is_way_ok {ws os : List Int} (hw : ws.length ≤ 1000) {v : D} (h : vg v) (hv : (tupD v).length ≤ 1000) {S : Sto} : m_law_is_wayU [.v (.tup (ws.map D.int)), .v (.tup (os.map D.int)), .v v] S = .ok (.v (.bl (wayOk ws os v))) S := by
  show wrap false 4 b_law_is_wayU _ S = _
  rw [wrap_fin]
  have e0 : startE 4 [Y.v (.tup (ws.map D.int)), .v (.tup (os.map D.int)), .v v] = [some (.v (.tup (ws.map D.int))), some (.v (.tup (os.map D.int))), some (.v v), none] := rfl
  rw [e0]
  unfold b_law_is_wayU
  by_cases hv2 : ∃ ds, v = .tup ds
  · obtain ⟨ds, rfl⟩ := hv2
    have hl' : ds.length ≤ 1000 := hv
    have hi := vg_items h
    have t1 : (fNot (fTru (fCall sIsi (fCons (fVar 2) (fCons (fC (.ty "tuple")) fNil))))) [some (.v (.tup (ws.map D.int))), some (.v (.tup (os.map D.int))), some (.v (.tup ds)), none] S = .ok false S := not_ok (b := true) (tru_ok (call_ok (cons_ok (var_ok rfl) (cons_ok ev_c ev_nil)) rfl))
    have t2 : (fTest (fBin sGt (fCall sLen (fCons (fVar 2) fNil)) (fC (.int 400)))) [some (.v (.tup (ws.map D.int))), some (.v (.tup (os.map D.int))), some (.v (.tup ds)), none] S = .ok (decide (400 < (ds.length : Int))) S := test_ok (bin_ok (call_ok (cons_ok (var_ok rfl) ev_nil) s_lenT) ev_c s_gt)
    by_cases h4 : (ds.length : Int) ≤ 400
    · rw [decide_eq_false (by omega)] at t2
      have e1 : fLc false [3] (fItS (fVar 2)) (.nm 3) (fOr (fTru (fCall sIsi (fCons (fVar 3) (fCons (fC (.ty "bool")) fNil)))) (fOr (fNot (fTru (fCall sIsi (fCons (fVar 3) (fCons (fC (.ty "int")) fNil))))) (fNot (fTest (fChain sLe sLe (fC (.int 1)) (fVar 3) (fCall sLen (fCons (fVar 0) fNil))))))) (fC (.int 1)) [some (.v (.tup (ws.map D.int))), some (.v (.tup (os.map D.int))), some (.v (.tup ds)), none] S = newL false ((ds.filter (badStep ws.length)).map fun _ => D.int 1) S := by
        refine lc_map ds id (badStep ws.length) (fun _ => D.int 1) (ds := ds) (its_okT (var_ok rfl)) (List.map_id _).symm (by omega) fun d hd => ⟨_, rfl, ?_, fun _ => rfl⟩
        have hd' := (hi d hd).1
        cases d with
        | int i =>
          by_cases h1 : 1 ≤ i <;> by_cases h2 : i ≤ ws.length <;> simp [wipeE, sIsi, tyY, tyD, tyOk, isSub, badStep, fw, h1, h2]
        | bl i => simp [wipeE, sIsi, tyY, tyD, tyOk, isSub, badStep, fw]
        | non => simp [wipeE, sIsi, tyY, tyD, tyOk, isSub, badStep, fw]
        | str i => simp [wipeE, sIsi, tyY, tyD, tyOk, isSub, badStep, fw]
        | tup i => simp [wipeE, sIsi, tyY, tyD, tyOk, isSub, badStep, fw]
        | lst i => simp [wipeE, sIsi, tyY, tyD, tyOk, isSub, badStep, fw]
        | _ => exact absurd hd'.1 (by simp [D.pln])
      have e2 := s_ne (S := S) (x := .v (.lst ((ds.filter (badStep ws.length)).map fun _ => D.int 1))) (y := .v (.lst [])) rfl rfl (eqk_lst fun d hd => by
        obtain ⟨_, _, rfl⟩ := List.mem_map.mp hd; simp [D.pln, D.dep]) eqk_nilL
      rw [eqv_nil] at e2
      have t3 : (fTest (fBin sNe (fLc false [3] (fItS (fVar 2)) (.nm 3) (fOr (fTru (fCall sIsi (fCons (fVar 3) (fCons (fC (.ty "bool")) fNil)))) (fOr (fNot (fTru (fCall sIsi (fCons (fVar 3) (fCons (fC (.ty "int")) fNil))))) (fNot (fTest (fChain sLe sLe (fC (.int 1)) (fVar 3) (fCall sLen (fCons (fVar 0) fNil))))))) (fC (.int 1))) (fLst false fNil))) [some (.v (.tup (ws.map D.int))), some (.v (.tup (os.map D.int))), some (.v (.tup ds)), none] S = .ok (!((ds.filter (badStep ws.length)).map fun _ => D.int 1).isEmpty) S := test_ok (bin_ok e1 (lst_ok ev_nil rfl (by simp)) e2)
      cases ha : (ds.all fun d => fw d 1 ws.length) with
      | true =>
        obtain ⟨ps, rfl, hp⟩ := fw_ints ha
        have hf : (ps.map D.int).filter (badStep ws.length) = [] := List.filter_eq_nil_iff.mpr fun d hd => by
          have := List.all_eq_true.mp ha d hd
          simp [badStep, this]
        rw [hf] at t3
        have e4 := law_end_ok hw hp (S := S)
        have e5 : wayOk ws os (.tup (ps.map D.int)) = decide (endW ws ps = os) := by
          simp only [wayOk]
          rw [if_pos h4, if_pos ha, intsD_map]
        rw [e5]
        refine (congrArg (fin false S.length) ((seq_nx (if_nx (or_ff t1 t2))).trans ((seq_nx (if_nx t3)).trans (ret_ok (y := .v (.bl (decide (endW ws ps = os)))) (S1 := S) (bin_ok (own_ok (a2v (by rfl) (by rfl)) (by rfl) e4) (var_ok (by rfl)) ?_))))).trans fin_rtS
        rw [s_eq rfl rfl (eqk_intsT _) (eqk_intsT _), eqv_intsT]
      | false =>
        have hf : ((ds.filter (badStep ws.length)).map fun _ => D.int 1).isEmpty = false := by
          rw [List.all_eq_false] at ha
          obtain ⟨d, hd, hq⟩ := ha
          have : d ∈ ds.filter (badStep ws.length) := List.mem_filter.mpr ⟨hd, by simp [badStep]; simpa using hq⟩
          cases hc : ds.filter (badStep ws.length) with
          | nil => rw [hc] at this; exact absurd this List.not_mem_nil
          | cons _ _ => rfl
        rw [hf] at t3
        have e5 : wayOk ws os (.tup ds) = false := by
          simp only [wayOk]
          rw [if_pos h4, ha]; rfl
        rw [e5]
        exact (congrArg (fin false S.length) ((seq_nx (if_nx (or_ff t1 t2))).trans (seq_rt ((ifs_t t3).trans (ret_ok ev_c))))).trans fin_rtS
    · rw [decide_eq_true (by omega)] at t2
      have e5 : wayOk ws os (.tup ds) = false := by simp only [wayOk]; rw [if_neg h4]
      rw [e5]
      have t4 : fOr (fNot (fTru (fCall sIsi (fCons (fVar 2) (fCons (fC (.ty "tuple")) fNil))))) (fTest (fBin sGt (fCall sLen (fCons (fVar 2) fNil)) (fC (.int 400)))) [some (.v (.tup (ws.map D.int))), some (.v (.tup (os.map D.int))), some (.v (.tup ds)), none] S = .ok true S := by rw [ev_or, t1]; exact t2
      exact (congrArg (fin false S.length) (seq_rt ((ifs_t t4).trans (ret_ok ev_c)))).trans fin_rtS
  · have e5 : wayOk ws os v = false := by
      cases v with
      | tup ds => exact absurd ⟨ds, rfl⟩ hv2
      | _ => rfl
    rw [e5]
    have t1 : (fNot (fTru (fCall sIsi (fCons (fVar 2) (fCons (fC (.ty "tuple")) fNil))))) [some (.v (.tup (ws.map D.int))), some (.v (.tup (os.map D.int))), some (.v v), none] S = .ok true S := by
      refine not_ok (b := false) (tru_ok (call_ok (cons_ok (var_ok rfl) (cons_ok ev_c ev_nil)) ?_))
      cases v with
      | tup ds => exact absurd ⟨ds, rfl⟩ hv2
      | non => rfl
      | bl b => rfl
      | int b => rfl
      | str b => rfl
      | lst b => rfl
      | _ => exact absurd h.1 (by simp [D.pln])
    have t4 : fOr (fNot (fTru (fCall sIsi (fCons (fVar 2) (fCons (fC (.ty "tuple")) fNil))))) (fTest (fBin sGt (fCall sLen (fCons (fVar 2) fNil)) (fC (.int 400)))) [some (.v (.tup (ws.map D.int))), some (.v (.tup (os.map D.int))), some (.v v), none] S = .ok true S := by rw [ev_or, t1]; rfl
    exact (congrArg (fin false S.length) (seq_rt ((ifs_t t4).trans (ret_ok ev_c)))).trans fin_rtS
end Sg

namespace Sg
open PySem PySem.Spec PyProof.Rows L2
/-! ### counts of walks -/
def rowA (n k : Nat) : List Int := (List.range (n + 1)).map fun d => A n k d
theorem rowA_len (n k : Nat) : (rowA n k).length = n + 1 := by simp [rowA]
theorem rowA_get {n k d : Nat} (h : d ≤ n) : (rowA n k)[d]? = some (A n k d) := by
  unfold rowA
  rw [List.getElem?_map, List.getElem?_range (by omega)]; rfl
theorem rowA_at {n k d : Nat} (h : d ≤ n) : L2.atI ((rowA n k).map D.int) (d : Int) = some (.int (A n k d)) := L2.atI_nat (by rw [List.getElem?_map, rowA_get h]; rfl)
theorem row0 (n : Nat) : rowA n 0 = [1] ++ List.replicate n 0 := by
  have e : ∀ m, (List.map (fun d => A n 0 d) (List.map Nat.succ (List.range m))) = List.replicate m 0 := fun m => by
    induction m with
    | zero => rfl
    | succ m ih => rw [List.range_succ, List.map_append, List.map_append, ih, List.replicate_succ']; rfl
  unfold rowA
  rw [List.range_succ_eq_map, List.map_cons, e]
  rfl
theorem rep_repl (n : Nat) : rep (n : Int) [D.int 0] = (List.replicate n 0).map D.int := by
  unfold rep
  rw [Int.toNat_natCast]
  induction n with
  | zero => rfl
  | succ n ih => rw [List.replicate_succ, List.flatten_cons, ih]; rfl
theorem s_repL {x : D} {n : Nat} (hn : n ≤ 1000) {S : Sto} : sMul false (.v (.lst [x])) (.v (.int (n : Int))) S = .ok (.v (.lst (rep (n : Int) [x]))) S := by
  have h : okRep (n : Int) [x].length = true := by
    unfold okRep
    rw [Bool.and_eq_true]
    exact ⟨decide_eq_true (by omega), okLen_of (by rw [List.length_singleton, Int.toNat_natCast]; omega)⟩
  simp only [sMul, getL_v]
  rw [if_pos h]
  rfl
theorem app_ref {B : Sto} {ds : List D} {d : D} (h : ds.length < 16777216) : sApp (.ref B.length) [.v d] (B ++ [.lst ds]) = .ok (.v .non) (B ++ [.lst (ds ++ [d])]) := by
  have e : (B ++ [O.lst ds])[B.length]? = some (.lst ds) := by simp
  have e2 : stL (.ref B.length) (B ++ [O.lst ds]) = some (B.length, ds) := by simp [stL]
  simp only [sApp, thaw1_v, Res.bind, e2]
  rw [if_pos (okLen_of (by omega))]
  congr 1
  rw [List.set_append_right _ _ (Nat.le_refl _), Nat.sub_self]; rfl
theorem isSt_ref {B : Sto} {ds : List D} : isSt (.ref B.length) (B ++ [O.lst ds]) = true := by simp [isSt, stL]
theorem met_ok {chk : Y → Sto → Bool} {sem : Y → List Y → Sto → Res Y} {fo : FE Y} {fs : FE (List Y)} {env : Ev} {S S1 S2 : Sto} {o : Y} {ys : List Y} {r : Res Y} (h : fo env S = .ok o S1) (hc : chk o S1 = true) (h2 : fs env S1 = .ok ys S2) (h3 : sem o ys S2 = r) : fMet chk sem fo fs env S = r := by
  unfold fMet
  rw [h]; simp only [Res.bind, hc, if_true, h2, h3]
abbrev near03 : FE Y := (fIf (fTest (fBin sGt (fVar 5) (fC (.int 0)))) (fBin (sMul false) (fBin sIx (fVar 2) (fBin sSub (fVar 5) (fC (.int 1)))) (fVar 5)) (fC (.int 0)))
abbrev far03 : FE Y := (fIf (fTest (fBin sLt (fVar 5) (fVar 0))) (fBin (sMul false) (fBin sIx (fVar 2) (fBin (sAdd false) (fVar 5) (fC (.int 1)))) (fBin sSub (fVar 0) (fVar 5))) (fC (.int 0)))
theorem inner03 {n k : Nat} (hn : n ≤ 1000) {B : Sto} {a1 a3 a5 a6 : Option Y} : ∃ o5 o6, forD (.nm 5) (fSeq (fSet 6 near03) (fDrop (fMet isSt sApp (fVar 4) (fCons (fBin (sAdd false) (fVar 6) far03) fNil)))) (rngD 0 (n + 1)) [some (.v (.int (n : Int))), a1, some (.v (.lst ((rowA n k).map D.int))), a3, some (.ref B.length), a5, a6] (B ++ [.lst []])
    = .nx [some (.v (.int (n : Int))), a1, some (.v (.lst ((rowA n k).map D.int))), a3, some (.ref B.length), o5, o6] (B ++ [.lst ((rowA n (k + 1)).map D.int)]) := by
  obtain ⟨env', S', e, o5, o6, he, hs⟩ := forD_inv (t := .nm 5) (F := (fSeq (fSet 6 near03) (fDrop (fMet isSt sApp (fVar 4) (fCons (fBin (sAdd false) (fVar 6) far03) fNil)))))
    (fun i env S => ∃ o5 o6, env = [some (.v (.int (n : Int))), a1, some (.v (.lst ((rowA n k).map D.int))), a3, some (.ref B.length), o5, o6] ∧ S = B ++ [.lst (((rowA n (k + 1)).take i).map D.int)]) 0 (rngD 0 (n + 1)) 0 [some (.v (.int (n : Int))), a1, some (.v (.lst ((rowA n k).map D.int))), a3, some (.ref B.length), a5, a6] (B ++ [.lst []])
    (fun j d env S hj hI => by
      obtain ⟨hj1, rfl⟩ := rngD_get hj
      obtain ⟨o5, o6, rfl, rfl⟩ := hI
      simp only [Nat.zero_add, Int.zero_add]
      have hjn : j ≤ n := by omega
      have x1 : near03 [some (.v (.int (n : Int))), a1, some (.v (.lst ((rowA n k).map D.int))), a3, some (.ref B.length), some (.v (.int (j : Int))), o6] (B ++ [.lst (((rowA n (k + 1)).take j).map D.int)]) = .ok (.v (.int (if 0 < j then A n k (j - 1) * (j : Int) else 0))) (B ++ [.lst (((rowA n (k + 1)).take j).map D.int)]) := by
        have ht : fTest (fBin sGt (fVar 5) (fC (.int 0))) [some (.v (.int (n : Int))), a1, some (.v (.lst ((rowA n k).map D.int))), a3, some (.ref B.length), some (.v (.int (j : Int))), o6] (B ++ [.lst (((rowA n (k + 1)).take j).map D.int)]) = .ok (decide ((0 : Int) < j)) (B ++ [.lst (((rowA n (k + 1)).take j).map D.int)]) := test_ok (bin_ok (var_ok rfl) ev_c s_gt)
        by_cases h : 0 < j
        · rw [if_pos h]
          rw [decide_eq_true (by omega)] at ht
          exact (if_t ht).trans (bin_ok (bin_ok (var_ok rfl) (bin_ok (var_ok rfl) ev_c (by rw [s_sub, show (j : Int) - 1 = ((j - 1 : Nat) : Int) by omega])) (s_ixL (rowA_at (by omega)))) (var_ok rfl) (s_mul (okMul_r (by omega))))
        · rw [if_neg h]
          rw [decide_eq_false (by omega)] at ht
          exact (if_f ht).trans ev_c
      have x2 : far03 [some (.v (.int (n : Int))), a1, some (.v (.lst ((rowA n k).map D.int))), a3, some (.ref B.length), some (.v (.int (j : Int))), some (.v (.int (if 0 < j then A n k (j - 1) * (j : Int) else 0)))] (B ++ [.lst (((rowA n (k + 1)).take j).map D.int)]) = .ok (.v (.int (if j < n then A n k (j + 1) * ((n : Int) - j) else 0))) (B ++ [.lst (((rowA n (k + 1)).take j).map D.int)]) := by
        have ht : fTest (fBin sLt (fVar 5) (fVar 0)) [some (.v (.int (n : Int))), a1, some (.v (.lst ((rowA n k).map D.int))), a3, some (.ref B.length), some (.v (.int (j : Int))), some (.v (.int (if 0 < j then A n k (j - 1) * (j : Int) else 0)))] (B ++ [.lst (((rowA n (k + 1)).take j).map D.int)]) = .ok (decide ((j : Int) < n)) (B ++ [.lst (((rowA n (k + 1)).take j).map D.int)]) := test_ok (bin_ok (var_ok rfl) (var_ok rfl) s_lt)
        by_cases h : j < n
        · rw [if_pos h]
          rw [decide_eq_true (by omega)] at ht
          exact (if_t ht).trans (bin_ok (bin_ok (var_ok rfl) (bin_ok (var_ok rfl) ev_c (by rw [s_add, show (j : Int) + 1 = ((j + 1 : Nat) : Int) by omega])) (s_ixL (rowA_at (by omega)))) (bin_ok (var_ok rfl) (var_ok rfl) s_sub) (s_mul (okMul_r (by omega))))
        · rw [if_neg h]
          rw [decide_eq_false (by omega)] at ht
          exact (if_f ht).trans ev_c
      have hl : (((rowA n (k + 1)).take j).map D.int).length < 16777216 := by rw [List.length_map, List.length_take, rowA_len]; omega
      have x3 : fDrop (fMet isSt sApp (fVar 4) (fCons (fBin (sAdd false) (fVar 6) far03) fNil)) [some (.v (.int (n : Int))), a1, some (.v (.lst ((rowA n k).map D.int))), a3, some (.ref B.length), some (.v (.int (j : Int))), some (.v (.int (if 0 < j then A n k (j - 1) * (j : Int) else 0)))] (B ++ [.lst (((rowA n (k + 1)).take j).map D.int)]) = .nx [some (.v (.int (n : Int))), a1, some (.v (.lst ((rowA n k).map D.int))), a3, some (.ref B.length), some (.v (.int (j : Int))), some (.v (.int (if 0 < j then A n k (j - 1) * (j : Int) else 0)))] (B ++ [.lst (((rowA n (k + 1)).take (j + 1)).map D.int)]) := by
        refine drop_ok (y := .v .non) (met_ok (var_ok rfl) isSt_ref (cons_ok (bin_ok (var_ok rfl) x2 s_add) ev_nil) ((app_ref hl).trans ?_))
        rw [List.take_add_one, rowA_get hjn, List.map_append]; rfl
      exact ⟨_, rfl, _, _, (seq_nx (set_ok x1)).trans x3, _, _, rfl, rfl⟩) ⟨a5, a6, rfl, rfl⟩
  rw [rngD_len, Nat.zero_add] at hs
  rw [he, hs, List.take_of_length_le (by rw [rowA_len]; exact Nat.le_refl _)] at e
  exact ⟨o5, o6, e⟩
end Sg

namespace Sg
open PySem PySem.Spec PyProof.Rows L2
abbrev body03 : FS := (fSeq (fSet 4 (fLst true fNil))
  (fSeq (fFor (.nm 5) (fIt sRng1 (fCons (fBin (sAdd false) (fVar 0) (fC (.int 1))) fNil)) (fSeq (fSet 6 near03) (fDrop (fMet isSt sApp (fVar 4) (fCons (fBin (sAdd false) (fVar 6) far03) fNil)))))
  (fSet 2 (fFrz (fVar 4)))))
theorem lst_new {B : Sto} {env : Ev} : fLst true fNil env B = .ok (.ref B.length) (B ++ [.lst []]) := rfl
theorem frz_ref {B : Sto} {ds : List D} {f : FE Y} {env : Ev} (h : f env (B ++ [.lst ds]) = .ok (.ref B.length) (B ++ [.lst ds])) : fFrz f env (B ++ [.lst ds]) = .ok (.v (.lst ds)) (B ++ [.gone]) := by
  have e : (B ++ [O.lst ds])[B.length]? = some (.lst ds) := by simp
  rw [ev_frz, h]
  simp only [Res.bind, frz, e]
  congr 1
  rw [List.set_append_right _ _ (Nat.le_refl _), Nat.sub_self]; rfl
theorem i_rng1s {n : Nat} (hn : n ≤ 999) {env : Ev} {S : Sto} {f : FE Y} (h : f env S = .ok (.v (.int (n : Int))) S) : fIt sRng1 (fCons (fBin (sAdd false) f (fC (.int 1))) fNil) env S = .ok (rngD 0 (n + 1)) S :=
  i_rng1 (n := n + 1) (Nat.succ_le_succ hn) (bin_ok h ev_c (by rw [s_add]; rfl))
theorem step03 {n k : Nat} (hn : n ≤ 999) {B : Sto} {a1 a3 a4 a5 a6 : Option Y} : ∃ o4 o5 o6, body03 [some (.v (.int (n : Int))), a1, some (.v (.lst ((rowA n k).map D.int))), a3, a4, a5, a6] B = .nx [some (.v (.int (n : Int))), a1, some (.v (.lst ((rowA n (k + 1)).map D.int))), a3, o4, o5, o6] (B ++ [.gone]) := by
  obtain ⟨o5, o6, e⟩ := inner03 (n := n) (k := k) (by omega) (B := B) (a1 := a1) (a3 := a3) (a5 := a5) (a6 := a6)
  refine ⟨some (.ref B.length), o5, o6, ?_⟩
  exact (seq_nx (set_ok lst_new)).trans ((seq_nx ((for_ok (i_rng1s (n := n) (by omega) (var_ok (by rfl)))).trans e)).trans (set_ok (frz_ref (var_ok (by rfl)))))
theorem counts_by_ok {n k : Nat} (hn : n ≤ 999) (hk : k ≤ 1000) {S : Sto} : m_counts_by [.v (.int (n : Int)), .v (.int (k : Int))] S = .ok (.v (.lst ((rowA n k).map D.int))) S := by
  show wrap false 7 b_counts_by _ S = _
  rw [wrap_fin]
  have e0 : startE 7 [Y.v (.int (n : Int)), .v (.int (k : Int))] = [some (.v (.int (n : Int))), some (.v (.int (k : Int))), none, none, none, none, none] := rfl
  rw [e0]
  unfold b_counts_by
  have e1 : (fBin (sAdd false) (fLst false (fCons (fC (.int 1)) fNil)) (fBin (sMul false) (fLst false (fCons (fC (.int 0)) fNil)) (fVar 0))) [some (.v (.int (n : Int))), some (.v (.int (k : Int))), none, none, none, none, none] S = .ok (.v (.lst ((rowA n 0).map D.int))) S := by
    rw [row0, List.map_append]
    refine bin_ok (y := .v (.lst [.int 1])) (lst_ok (cons_ok ev_c ev_nil) rfl (by simp)) (bin_ok (lst_ok (cons_ok ev_c ev_nil) rfl (by simp)) (var_ok rfl) (s_repL (n := n) (by omega))) ?_
    rw [rep_repl, s_catL (okLen_of (by simp; omega))]; rfl
  obtain ⟨env', S', e2, o3, o4, o5, o6, J, he, hs⟩ := forD_inv (t := .nm 3) (F := body03)
    (fun j env S' => ∃ (o3 o4 o5 o6 : Option Y) (J : Sto), env = [some (.v (.int (n : Int))), some (.v (.int (k : Int))), some (.v (.lst ((rowA n j).map D.int))), o3, o4, o5, o6] ∧ S' = S ++ J) 0 (rngD 0 k) 0 [some (.v (.int (n : Int))), some (.v (.int (k : Int))), some (.v (.lst ((rowA n 0).map D.int))), none, none, none, none] S
    (fun j d env S1 hj hI => by
      obtain ⟨o3, o4, o5, o6, J, rfl, rfl⟩ := hI
      simp only [Nat.zero_add]
      obtain ⟨p4, p5, p6, e⟩ := step03 (n := n) (k := j) hn (B := S ++ J) (a1 := some (.v (.int (k : Int)))) (a3 := some (.v d)) (a4 := o4) (a5 := o5) (a6 := o6)
      exact ⟨_, rfl, _, _, e, _, _, _, _, J ++ [.gone], rfl, by rw [List.append_assoc]⟩) ⟨none, none, none, none, [], rfl, by simp⟩
  rw [rngD_len, Nat.zero_add] at he
  rw [he, hs] at e2
  refine (congrArg (fin false S.length) ((seq_nx (set_ok e1)).trans ((seq_nx ((for_ok (i_rng1 (n := k) hk (var_ok (by rfl)))).trans e2)).trans (ret_ok (var_ok (by rfl)))))).trans ?_
  rw [fin_rt, List.take_left]
theorem count_ways_ok {ws os : List Int} {k : Nat} (h1 : isWord ws) (h2 : isWord os) (hl : ws.length = os.length) (hk : k ≤ 400) {S : Sto} : m_count_ways [.v (.tup (ws.map D.int)), .v (.tup (os.map D.int)), .v (.int (k : Int))] S = .ok (.v (.int (A ws.length k (dist ws os)))) S := by
  have hw := h1.2.1
  have e1 := need_words_ok h1 h2 hl (S := S)
  have e2 := need_many_ok (k := (k : Int)) (most := 400) (by omega) (S := S)
  have e3 := counts_by_ok (n := ws.length) (k := k) (by omega) (by omega) (S := S)
  have e4 := unlike_in_ok (ws := ws) (os := os) (by omega) hl (S := S)
  have hd := dist_le ws os
  show wrap false 3 b_count_ways _ S = _
  rw [wrap_fin]
  have e0 : startE 3 [Y.v (.tup (ws.map D.int)), .v (.tup (os.map D.int)), .v (.int (k : Int))] = [some (.v (.tup (ws.map D.int))), some (.v (.tup (os.map D.int))), some (.v (.int (k : Int)))] := rfl
  rw [e0]
  unfold b_count_ways
  have e5 : (fOwn 2 m_counts_by (fCons (fCall sLen (fCons (fVar 0) fNil)) (fCons (fVar 2) fNil))) [some (.v (.tup (ws.map D.int))), some (.v (.tup (os.map D.int))), some (.v (.int (k : Int)))] S = .ok (.v (.lst ((rowA ws.length k).map D.int))) S :=
    own_ok (cons_ok (call_ok (cons_ok (var_ok rfl) ev_nil) s_lenT) (cons_ok (var_ok rfl) ev_nil)) rfl (by rw [List.length_map]; exact e3)
  have e6 : (fCall sLen (fCons (fOwn 2 m_unlike_in (fCons (fVar 0) (fCons (fVar 1) fNil))) fNil)) [some (.v (.tup (ws.map D.int))), some (.v (.tup (os.map D.int))), some (.v (.int (k : Int)))] S = .ok (.v (.int (dist ws os : Nat))) S :=
    call_ok (cons_ok (own_ok (a2v rfl rfl) rfl e4) ev_nil) (by rw [s_lenL, List.length_map, unl_dist ws os hl])
  exact (congrArg (fin false S.length) ((seq_nx (drop_ok (own_ok (a2v (by rfl) (by rfl)) (by rfl) e1))).trans ((seq_nx (drop_ok (own_ok (cons_ok (var_ok (by rfl)) (cons_ok ev_c ev_nil)) (by rfl) e2))).trans (ret_ok (bin_ok e5 e6 (s_ixL (rowA_at hd))))))).trans fin_rtS
theorem count_back_ok {n k : Nat} (hn : 1 ≤ n ∧ n ≤ 16) (hk : k ≤ 400) {S : Sto} : m_count_back [.v (.int (n : Int)), .v (.int (k : Int))] S = .ok (.v (.int (A n k 0))) S := by
  have e1 := fits_whole_ok (v := .int (n : Int)) (vg_int _) (lo := 1) (hi := 16) (S := S)
  have e9 : fw (.int (n : Int)) 1 16 = true := by simp [fw]; omega
  rw [e9] at e1
  have e2 := need_many_ok (k := (k : Int)) (most := 400) (by omega) (S := S)
  have e3 := counts_by_ok (n := n) (k := k) (by omega) (by omega) (S := S)
  have ha := rowA_at (n := n) (k := k) (d := 0) (Nat.zero_le _)
  show wrap false 2 b_count_back _ S = _
  rw [wrap_fin]
  have e0 : startE 2 [Y.v (.int (n : Int)), .v (.int (k : Int))] = [some (.v (.int (n : Int))), some (.v (.int (k : Int)))] := rfl
  rw [e0]
  unfold b_count_back
  exact (congrArg (fin false S.length) ((seq_nx (if_nx (nsame (own_ok (cons_ok (var_ok (by rfl)) (cons_ok ev_c (cons_ok ev_c ev_nil))) (by rfl) e1)))).trans ((seq_nx (drop_ok (own_ok (cons_ok (var_ok (by rfl)) (cons_ok ev_c ev_nil)) (by rfl) e2))).trans (ret_ok (bin_ok (own_ok (a2v (by rfl) (by rfl)) (by rfl) e3) ev_c (s_ixL ha)))))).trans fin_rtS
/-! ### all tuples -/
def wD (w : List Int) : D := .tup (w.map D.int)
theorem ways_len (n : Nat) : ∀ k, (ways n k).length = n ^ k
  | 0 => rfl
  | k + 1 => by
    rw [ways, List.length_flatMap]
    have : ∀ l : List (List Int), (l.map fun w => ((ups n).map fun p => w ++ [p]).length).sum = l.length * n := fun l => by
      induction l with
      | nil => simp
      | cons w l ih => rw [List.map_cons, List.sum_cons, ih, List.length_map, List.length_cons, Nat.add_mul, show (ups n).length = n by simp [ups]]; omega
    rw [this, ways_len n k, Nat.pow_succ]
theorem way_len : ∀ (n k : Nat) (w : List Int), w ∈ ways n k → w.length = k ∧ ∀ p ∈ w, 1 ≤ p ∧ p ≤ n
  | n, 0, w, h => by
    rw [ways, List.mem_singleton] at h
    subst h
    exact ⟨rfl, fun p hp => absurd hp List.not_mem_nil⟩
  | n, k + 1, w, h => by
    rw [ways, List.mem_flatMap] at h
    obtain ⟨v, hv, hw⟩ := h
    obtain ⟨p, hp, rfl⟩ := List.mem_map.mp hw
    obtain ⟨h1, h2⟩ := way_len n k v hv
    refine ⟨by rw [List.length_append, h1]; rfl, fun q hq => ?_⟩
    rcases List.mem_append.mp hq with hq | hq
    · exact h2 q hq
    · rw [List.mem_singleton.mp hq]
      obtain ⟨i, hi, rfl⟩ := List.mem_map.mp hp
      have := List.mem_range.mp hi
      omega
abbrev ext03 : FS := (fSet 4 (fBin (sAdd false) (fVar 4) (fLc false [6] (fIt sRng2 (fCons (fC (.int 1)) (fCons (fBin (sAdd false) (fVar 0) (fC (.int 1))) fNil))) (.nm 6) fYes (fBin (sAdd false) (fVar 5) (fTup (fCons (fVar 6) fNil))))))
theorem flat_take {α β : Type} (f : α → List β) (l : List α) (i : Nat) {x : α} (h : l[i]? = some x) : ((l.take (i + 1)).flatMap f) = (l.take i).flatMap f ++ f x := by
  rw [List.take_add_one, h, List.flatMap_append]; simp
theorem ext_len (n : Nat) (l : List (List Int)) : (l.flatMap fun w => (ups n).map fun p => w ++ [p]).length = l.length * n := by
  induction l with
  | nil => simp
  | cons w l ih => rw [List.flatMap_cons, List.length_append, ih, List.length_map, List.length_cons, Nat.add_mul, show (ups n).length = n by simp [ups]]; omega
theorem tup_inner {n : Nat} {l : List (List Int)} (hn : n ≤ 100) (hl : l.length ≤ 10000) (hw : ∀ w ∈ l, w.length ≤ 100) {S : Sto} {a1 a2 a3 a5 a6 : Option Y} : ∃ o5, forD (.nm 5) ext03 (l.map wD) [some (.v (.int (n : Int))), a1, a2, a3, some (.v (.lst [])), a5, a6] S = .nx [some (.v (.int (n : Int))), a1, a2, a3, some (.v (.lst ((l.flatMap fun w => (ups n).map fun p => w ++ [p]).map wD))), o5, a6] S := by
  obtain ⟨env', S', e, o5, he, hs⟩ := forD_inv (t := .nm 5) (F := ext03)
    (fun i env S' => ∃ o5, env = [some (.v (.int (n : Int))), a1, a2, a3, some (.v (.lst (((l.take i).flatMap fun w => (ups n).map fun p => w ++ [p]).map wD))), o5, a6] ∧ S' = S) 0 (l.map wD) 0 [some (.v (.int (n : Int))), a1, a2, a3, some (.v (.lst [])), a5, a6] S
    (fun j d env S1 hj hI => by
      obtain ⟨o5, rfl, rfl⟩ := hI
      simp only [Nat.zero_add]
      rw [List.getElem?_map] at hj
      cases hc : l[j]? with
      | none => rw [hc] at hj; cases hj
      | some w =>
        rw [hc] at hj
        have hd : d = wD w := (Option.some.inj hj).symm
        subst hd
        have hwl := hw w (List.mem_of_getElem? hc)
        have hjl : j < l.length := (List.getElem?_eq_some_iff.mp hc).1
        have x1 : (fLc false [6] (fIt sRng2 (fCons (fC (.int 1)) (fCons (fBin (sAdd false) (fVar 0) (fC (.int 1))) fNil))) (.nm 6) fYes (fBin (sAdd false) (fVar 5) (fTup (fCons (fVar 6) fNil)))) [some (.v (.int (n : Int))), a1, a2, a3, some (.v (.lst (((l.take j).flatMap fun w => (ups n).map fun p => w ++ [p]).map wD))), some (.v (wD w)), a6] S1 = .ok (.v (.lst ((upTo n).map fun p => wD (w ++ [p])))) S1 := by
          refine lc_yes (m := false) (upTo n) D.int (fun p => wD (w ++ [p])) (i_rng2 (n := n) (by omega) (var_ok (by rfl))) rfl (by rw [len_up]; omega) fun p hp => ⟨_, rfl, ?_⟩
          refine bin_ok (var_ok (by rfl)) (tup_ok (cons_ok (var_ok (by rfl)) ev_nil) rfl (by simp)) ?_
          rw [wD, s_catT (okLen_of (by simp; omega))]
          simp [wD]
        have x2 : ((upTo n).map fun p => wD (w ++ [p])) = ((ups n).map fun p => w ++ [p]).map wD := by rw [List.map_map]; rfl
        rw [x2] at x1
        refine ⟨_, rfl, _, _, set_ok (bin_ok (var_ok (by rfl)) x1 (s_catL (okLen_of ?_))), some (.v (wD w)), ?_, rfl⟩
        · rw [List.length_map, ext_len, List.length_take, List.length_map, List.length_map, show (ups n).length = n by simp [ups], Nat.min_eq_left (by omega)]
          have : j * n ≤ 10000 * 100 := Nat.mul_le_mul (by omega) hn
          omega
        · rw [flat_take _ l j hc, List.map_append]; rfl) ⟨a5, rfl, rfl⟩
  rw [List.length_map, Nat.zero_add, List.take_length] at he
  rw [he, hs] at e
  exact ⟨o5, e⟩
theorem law_tuples_ok {n k : Nat} (hn : n ≤ 100) (hk : k ≤ 100) (hb : ∀ j, j ≤ k → n ^ j ≤ 10000) {S : Sto} : m_law_tuplesU [.v (.int (n : Int)), .v (.int (k : Int))] S = .ok (.v (.lst ((ways n k).map wD))) S := by
  show wrap false 7 b_law_tuplesU _ S = _
  rw [wrap_fin]
  have e0 : startE 7 [Y.v (.int (n : Int)), .v (.int (k : Int))] = [some (.v (.int (n : Int))), some (.v (.int (k : Int))), none, none, none, none, none] := rfl
  rw [e0]
  unfold b_law_tuplesU
  obtain ⟨env', S', e2, o3, o4, o5, he, hs⟩ := forD_inv (t := .nm 3) (F := (fSeq (fSet 4 (fLst false fNil)) (fSeq (fFor (.nm 5) (fItS (fVar 2)) ext03) (fSet 2 (fVar 4)))))
    (fun j env S' => ∃ (o3 o4 o5 : Option Y), env = [some (.v (.int (n : Int))), some (.v (.int (k : Int))), some (.v (.lst ((ways n j).map wD))), o3, o4, o5, none] ∧ S' = S) 0 (rngD 0 k) 0 [some (.v (.int (n : Int))), some (.v (.int (k : Int))), some (.v (.lst ((ways n 0).map wD))), none, none, none, none] S
    (fun j d env S1 hj hI => by
      obtain ⟨o3, o4, o5, rfl, rfl⟩ := hI
      obtain ⟨hj1, _⟩ := rngD_get hj
      simp only [Nat.zero_add]
      obtain ⟨p5, e⟩ := tup_inner (n := n) (l := ways n j) hn (by rw [ways_len]; exact hb j (by omega)) (fun w hw => by rw [(way_len n j w hw).1]; omega) (S := S1) (a1 := some (.v (.int (k : Int)))) (a2 := some (.v (.lst ((ways n j).map wD)))) (a3 := some (.v d)) (a5 := o5) (a6 := none)
      refine ⟨_, rfl, _, _, (seq_nx (set_ok (lst_ok ev_nil rfl (by simp)))).trans ((seq_nx ((for_ok (its_okL (var_ok (by rfl)))).trans e)).trans (set_ok (var_ok (by rfl)))), _, _, _, rfl, rfl⟩) ⟨none, none, none, rfl, rfl⟩
  rw [rngD_len, Nat.zero_add] at he
  rw [he, hs] at e2
  exact (congrArg (fin false S.length) ((seq_nx (set_ok (lst_ok (cons_ok (tup_ok ev_nil rfl (by simp)) ev_nil) rfl (by simp)))).trans ((seq_nx ((for_ok (i_rng1 (n := k) (by omega) (var_ok (by rfl)))).trans e2)).trans (ret_ok (var_ok (by rfl)))))).trans fin_rtS
end Sg

namespace Sg
open PySem PySem.Spec PyProof.Rows L2
theorem law_power_ok {x : Int} {k : Nat} (hx : x.natAbs < 18446744073709551616) (hk : k ≤ 1000) {S : Sto} : m_law_powerU [.v (.int x), .v (.int (k : Int))] S = .ok (.v (.int (x ^ k))) S := by
  show wrap false 4 b_law_powerU _ S = _
  rw [wrap_fin]
  have e0 : startE 4 [Y.v (.int x), .v (.int (k : Int))] = [some (.v (.int x)), some (.v (.int (k : Int))), none, none] := rfl
  rw [e0]
  unfold b_law_powerU
  obtain ⟨env', S', e1, o, he, hs⟩ := forD_inv (t := .nm 3) (F := (fSet 2 (fBin (sMul false) (fVar 2) (fVar 0))))
    (fun j env S' => ∃ o, env = [some (.v (.int x)), some (.v (.int (k : Int))), some (.v (.int (x ^ j))), o] ∧ S' = S) 0 (rngD 0 k) 0 [some (.v (.int x)), some (.v (.int (k : Int))), some (.v (.int 1)), none] S
    (fun j d env S1 hj hI => by
      obtain ⟨o, rfl, rfl⟩ := hI
      simp only [Nat.zero_add]
      exact ⟨_, rfl, _, _, set_ok (bin_ok (var_ok rfl) (var_ok rfl) (s_mul (okMul_r hx))), some (.v d), by rw [Int.pow_succ]; rfl, rfl⟩) ⟨none, by simp, rfl⟩
  rw [rngD_len, Nat.zero_add] at he
  rw [he, hs] at e1
  exact (congrArg (fin false S.length) ((seq_nx (set_ok ev_c)).trans ((seq_nx ((for_ok (i_rng1 (n := k) hk (var_ok (by rfl)))).trans e1)).trans (ret_ok (var_ok (by rfl)))))).trans fin_rtS
theorem law_twos_ok {k : Nat} (hk : k ≤ 1000) {S : Sto} : m_law_twosU [.v (.int (k : Int))] S = .ok (.v (.int (2 ^ k))) S := by
  show wrap false 3 b_law_twosU _ S = _
  rw [wrap_fin]
  have e0 : startE 3 [Y.v (.int (k : Int))] = [some (.v (.int (k : Int))), none, none] := rfl
  rw [e0]
  unfold b_law_twosU
  obtain ⟨env', S', e1, o, he, hs⟩ := forD_inv (t := .nm 2) (F := (fSet 1 (fBin (sMul false) (fVar 1) (fC (.int 2)))))
    (fun j env S' => ∃ o, env = [some (.v (.int (k : Int))), some (.v (.int (2 ^ j))), o] ∧ S' = S) 0 (rngD 0 k) 0 [some (.v (.int (k : Int))), some (.v (.int 1)), none] S
    (fun j d env S1 hj hI => by
      obtain ⟨o, rfl, rfl⟩ := hI
      simp only [Nat.zero_add]
      exact ⟨_, rfl, _, _, set_ok (bin_ok (var_ok rfl) ev_c (s_mul (okMul_r (by decide)))), some (.v d), by rw [Int.pow_succ]; rfl, rfl⟩) ⟨none, by simp, rfl⟩
  rw [rngD_len, Nat.zero_add] at he
  rw [he, hs] at e1
  exact (congrArg (fin false S.length) ((seq_nx (set_ok ev_c)).trans ((seq_nx ((for_ok (i_rng1 (n := k) hk (var_ok (by rfl)))).trans e1)).trans (ret_ok (var_ok (by rfl)))))).trans fin_rtS
theorem law_choose_ok {m k : Nat} (hm : m ≤ 1000) (hk : k ≤ 1000) {S : Sto} : m_law_chooseU [.v (.int (m : Int)), .v (.int (k : Int))] S = .ok (.v (.int (chQ m k))) S := by
  show wrap false 4 b_law_chooseU _ S = _
  rw [wrap_fin]
  have e0 : startE 4 [Y.v (.int (m : Int)), .v (.int (k : Int))] = [some (.v (.int (m : Int))), some (.v (.int (k : Int))), none, none] := rfl
  rw [e0]
  unfold b_law_chooseU
  obtain ⟨env', S', e1, o, he, hs⟩ := forD_inv (t := .nm 3) (F := (fSet 2 (fCall sInt (fCons (fBin sFdiv (fBin (sMul false) (fVar 2) (fBin sSub (fVar 0) (fVar 3))) (fBin (sAdd false) (fVar 3) (fC (.int 1)))) fNil))))
    (fun j env S' => ∃ o, env = [some (.v (.int (m : Int))), some (.v (.int (k : Int))), some (.v (.int (chQ m j))), o] ∧ S' = S) 0 (rngD 0 k) 0 [some (.v (.int (m : Int))), some (.v (.int (k : Int))), some (.v (.int 1)), none] S
    (fun j d env S1 hj hI => by
      obtain ⟨hj1, rfl⟩ := rngD_get hj
      obtain ⟨o, rfl, rfl⟩ := hI
      simp only [Nat.zero_add, Int.zero_add]
      have a1 : (fBin (sMul false) (fVar 2) (fBin sSub (fVar 0) (fVar 3))) [some (.v (.int (m : Int))), some (.v (.int (k : Int))), some (.v (.int (chQ m j))), some (.v (.int (j : Int)))] S1 = .ok (.v (.int (chQ m j * (m - j)))) S1 :=
        bin_ok (var_ok rfl) (bin_ok (var_ok rfl) (var_ok rfl) s_sub) (s_mul (okMul_r (by omega)))
      have a2 : (fBin (sAdd false) (fVar 3) (fC (.int 1))) [some (.v (.int (m : Int))), some (.v (.int (k : Int))), some (.v (.int (chQ m j))), some (.v (.int (j : Int)))] S1 = .ok (.v (.int (j + 1))) S1 :=
        bin_ok (var_ok rfl) ev_c s_add
      exact ⟨_, rfl, _, _, set_ok (call_ok (cons_ok (bin_ok a1 a2 (s_fdiv (okDiv_of (by omega) (by omega)))) ev_nil) s_int), _, rfl, rfl⟩) ⟨none, rfl, rfl⟩
  rw [rngD_len, Nat.zero_add] at he
  rw [he, hs] at e1
  exact (congrArg (fin false S.length) ((seq_nx (set_ok ev_c)).trans ((seq_nx ((for_ok (i_rng1 (n := k) hk (var_ok (by rfl)))).trans e1)).trans (ret_ok (var_ok (by rfl)))))).trans fin_rtS
/-! ### the sum by weights -/
theorem s_max {a b : Int} {S : Sto} : sMax2 [.v (.int a), .v (.int b)] S = .ok (.v (.int (if b > a then b else a))) S := rfl
theorem s_min {a b : Int} {S : Sto} : sMin2 [.v (.int a), .v (.int b)] S = .ok (.v (.int (if b < a then b else a))) S := rfl
abbrev turn03 : FS := (fSeq (fSet 7 (fBin (sMul false) (fOwn 2 m_law_chooseU (fCons (fVar 1) (fCons (fVar 6) fNil))) (fOwn 2 m_law_chooseU (fCons (fBin sSub (fVar 0) (fVar 1)) (fCons (fBin sSub (fVar 4) (fVar 6)) fNil)))))
  (fSet 5 (fBin (sAdd false) (fVar 5) (fIf (fTest (fBin sEq (fBin sMod (fCall sInt (fCons (fVar 6) fNil)) (fC (.int 2))) (fC (.int 0)))) (fVar 7) (fUn sNeg (fVar 7))))))
theorem wt_loop {n d s c : Nat} (hn : n ≤ 16) (hd : d ≤ n) (hc : c = min s d + 1 - (s - (n - d))) {S : Sto} {a2 a3 a6 a7 : Option Y} : ∃ o6 o7, forD (.nm 6) turn03 (rngD ((s - (n - d) : Nat) : Int) c) [some (.v (.int (n : Int))), some (.v (.int (d : Int))), a2, a3, some (.v (.int (s : Int))), some (.v (.int 0)), a6, a7] S = .nx [some (.v (.int (n : Int))), some (.v (.int (d : Int))), a2, a3, some (.v (.int (s : Int))), some (.v (.int (wtS n d s c))), o6, o7] S := by
  obtain ⟨env', S', e1, o6, o7, he, hs⟩ := forD_inv (t := .nm 6) (F := turn03)
    (fun j env S' => ∃ o6 o7, env = [some (.v (.int (n : Int))), some (.v (.int (d : Int))), a2, a3, some (.v (.int (s : Int))), some (.v (.int (wtS n d s j))), o6, o7] ∧ S' = S) 0 (rngD ((s - (n - d) : Nat) : Int) c) 0 [some (.v (.int (n : Int))), some (.v (.int (d : Int))), a2, a3, some (.v (.int (s : Int))), some (.v (.int 0)), a6, a7] S
    (fun j x env S1 hj hI => by
      obtain ⟨hj1, rfl⟩ := rngD_get hj
      obtain ⟨o6, o7, rfl, rfl⟩ := hI
      simp only [Nat.zero_add]
      obtain ⟨i, hi⟩ : ∃ i : Nat, i = s - (n - d) + j := ⟨_, rfl⟩
      have hi2 : ((s - (n - d) : Nat) : Int) + (j : Int) = (i : Int) := by omega
      rw [hi2]
      have hid : i ≤ d := by omega
      have his : i ≤ s := by omega
      have w1 : (fOwn 2 m_law_chooseU (fCons (fVar 1) (fCons (fVar 6) fNil))) [some (.v (.int (n : Int))), some (.v (.int (d : Int))), a2, a3, some (.v (.int (s : Int))), some (.v (.int (wtS n d s j))), some (.v (.int (i : Int))), o7] S1 = .ok (.v (.int (chQ d i))) S1 := own_ok (a2v rfl rfl) rfl (law_choose_ok (by omega) (by omega))
      have hr : m_law_chooseU [.v (.int ((n : Int) - (d : Int))), .v (.int ((s : Int) - (i : Int)))] S1 = .ok (.v (.int (chQ ((n - d : Nat) : Int) (s - i)))) S1 := by
        by_cases hq : s - i ≤ 1000
        · have e := law_choose_ok (m := n - d) (k := s - i) (by omega) hq (S := S1)
          rw [show ((n - d : Nat) : Int) = (n : Int) - (d : Int) by omega, show ((s - i : Nat) : Int) = (s : Int) - (i : Int) by omega] at e
          rw [show ((n - d : Nat) : Int) = (n : Int) - (d : Int) by omega]
          exact e
        · omega
      have w2 : (fOwn 2 m_law_chooseU (fCons (fBin sSub (fVar 0) (fVar 1)) (fCons (fBin sSub (fVar 4) (fVar 6)) fNil))) [some (.v (.int (n : Int))), some (.v (.int (d : Int))), a2, a3, some (.v (.int (s : Int))), some (.v (.int (wtS n d s j))), some (.v (.int (i : Int))), o7] S1 = .ok (.v (.int (chQ ((n - d : Nat) : Int) (s - i)))) S1 := own_ok (cons_ok (bin_ok (var_ok rfl) (var_ok rfl) s_sub) (cons_ok (bin_ok (var_ok rfl) (var_ok rfl) s_sub) ev_nil)) rfl hr
      have hch := ch_le (n := d) (d := i) (by omega) hid
      have w3 := bin_ok (sem := sMul false) w1 w2 (s_mul (okMul_l (by omega)))
      have ht : fTest (fBin sEq (fBin sMod (fCall sInt (fCons (fVar 6) fNil)) (fC (.int 2))) (fC (.int 0))) [some (.v (.int (n : Int))), some (.v (.int (d : Int))), a2, a3, some (.v (.int (s : Int))), some (.v (.int (wtS n d s j))), some (.v (.int (i : Int))), some (.v (.int (chQ d i * chQ ((n - d : Nat) : Int) (s - i))))] S1 = .ok (decide ((i : Int).fmod 2 = 0)) S1 := test_ok (bin_ok (bin_ok (call_ok (cons_ok (var_ok rfl) ev_nil) s_int) ev_c (s_mod (by decide))) ev_c s_eqI)
      have hmod : (i : Int).fmod 2 = 0 ↔ i % 2 = 0 := by
        rw [Int.fmod_eq_emod_of_nonneg _ (by omega)]; omega
      have w4 : (fIf (fTest (fBin sEq (fBin sMod (fCall sInt (fCons (fVar 6) fNil)) (fC (.int 2))) (fC (.int 0)))) (fVar 7) (fUn sNeg (fVar 7))) [some (.v (.int (n : Int))), some (.v (.int (d : Int))), a2, a3, some (.v (.int (s : Int))), some (.v (.int (wtS n d s j))), some (.v (.int (i : Int))), some (.v (.int (chQ d i * chQ ((n - d : Nat) : Int) (s - i))))] S1 = .ok (.v (.int (if i % 2 = 0 then chQ d i * chQ ((n - d : Nat) : Int) (s - i) else -(chQ d i * chQ ((n - d : Nat) : Int) (s - i))))) S1 := by
        by_cases h : i % 2 = 0
        · rw [if_pos h]
          rw [decide_eq_true (hmod.mpr h)] at ht
          exact (if_t ht).trans (var_ok rfl)
        · rw [if_neg h]
          rw [decide_eq_false (fun q => h (hmod.mp q))] at ht
          exact (if_f ht).trans (un_ok (var_ok rfl) s_neg)
      refine ⟨_, rfl, _, _, (seq_nx (set_ok w3)).trans (set_ok (bin_ok (var_ok rfl) w4 s_add)), some (.v (.int (i : Int))), some (.v (.int (chQ d i * chQ ((n - d : Nat) : Int) (s - i)))), ?_, rfl⟩
      rw [wtS, ← hi]; rfl) ⟨a6, a7, rfl, rfl⟩
  rw [rngD_len, Nat.zero_add] at he
  rw [he, hs] at e1
  exact ⟨o6, o7, e1⟩
abbrev size03 : FS := (fSeq (fSet 5 (fC (.int 0)))
  (fSeq (fFor (.nm 6) (fIt sRng2 (fCons (fCall sMax2 (fCons (fC (.int 0)) (fCons (fBin sSub (fVar 4) (fBin sSub (fVar 0) (fVar 1))) fNil))) (fCons (fBin (sAdd false) (fCall sMin2 (fCons (fVar 4) (fCons (fVar 1) fNil))) (fC (.int 1))) fNil))) turn03)
  (fSet 3 (fBin (sAdd false) (fVar 3) (fBin (sMul false) (fVar 5) (fOwn 2 m_law_powerU (fCons (fBin sSub (fVar 0) (fBin (sMul false) (fC (.int 2)) (fVar 4))) (fCons (fVar 2) fNil))))))))
theorem i_rng2g {a b : Int} {env : Ev} {S : Sto} {f g : FE Y} (ha : f env S = .ok (.v (.int a)) S) (hb : g env S = .ok (.v (.int b)) S) (h1 : okR a = true) (h2 : okR b = true) : fIt sRng2 (fCons f (fCons g fNil)) env S = .ok (rngD a (b - a).toNat) S := by
  rw [ev_it, cons_ok ha (cons_ok hb ev_nil)]
  simp only [Res.bind]
  exact s_rng2 h1 h2
theorem size_step {n d k s : Nat} (hn : n ≤ 16) (hd : d ≤ n) (hk : k ≤ 400) (hs : s ≤ n) {x : Int} {S : Sto} {a4 a5 a6 a7 : Option Y} : ∃ o5 o6 o7, size03 [some (.v (.int (n : Int))), some (.v (.int (d : Int))), some (.v (.int (k : Int))), some (.v (.int x)), some (.v (.int (s : Int))), a5, a6, a7] S = .nx [some (.v (.int (n : Int))), some (.v (.int (d : Int))), some (.v (.int (k : Int))), some (.v (.int (x + wt n d s * ((n : Int) - 2 * s) ^ k))), some (.v (.int (s : Int))), o5, o6, o7] S := by
  obtain ⟨o6, o7, e⟩ := wt_loop (s := s) hn hd rfl (S := S) (a2 := some (.v (.int (k : Int)))) (a3 := some (.v (.int x))) (a6 := a6) (a7 := a7)
  have hlo : (if ((s : Int) - ((n : Int) - (d : Int))) > 0 then (s : Int) - ((n : Int) - (d : Int)) else 0) = ((s - (n - d) : Nat) : Int) := by
    by_cases h : ((s : Int) - ((n : Int) - (d : Int))) > 0
    · rw [if_pos h]; omega
    · rw [if_neg h]; omega
  have hhi : (if (d : Int) < (s : Int) then (d : Int) else (s : Int)) + 1 = ((min s d + 1 : Nat) : Int) := by
    by_cases h : (d : Int) < (s : Int)
    · rw [if_pos h]; omega
    · rw [if_neg h]; omega
  have r1 : (fCall sMax2 (fCons (fC (.int 0)) (fCons (fBin sSub (fVar 4) (fBin sSub (fVar 0) (fVar 1))) fNil))) [some (.v (.int (n : Int))), some (.v (.int (d : Int))), some (.v (.int (k : Int))), some (.v (.int x)), some (.v (.int (s : Int))), some (.v (.int 0)), a6, a7] S = .ok (.v (.int ((s - (n - d) : Nat) : Int))) S :=
    call_ok (cons_ok ev_c (cons_ok (bin_ok (var_ok rfl) (bin_ok (var_ok rfl) (var_ok rfl) s_sub) s_sub) ev_nil)) (by rw [s_max, hlo])
  have r2 : (fBin (sAdd false) (fCall sMin2 (fCons (fVar 4) (fCons (fVar 1) fNil))) (fC (.int 1))) [some (.v (.int (n : Int))), some (.v (.int (d : Int))), some (.v (.int (k : Int))), some (.v (.int x)), some (.v (.int (s : Int))), some (.v (.int 0)), a6, a7] S = .ok (.v (.int ((min s d + 1 : Nat) : Int))) S :=
    bin_ok (call_ok (a2v rfl rfl) s_min) ev_c (by rw [s_add, hhi])
  have r3 := i_rng2g r1 r2 (okR_of (by omega) (by omega)) (okR_of (by omega) (by omega))
  rw [show (((min s d + 1 : Nat) : Int) - ((s - (n - d) : Nat) : Int)).toNat = min s d + 1 - (s - (n - d)) by omega] at r3
  have hp : m_law_powerU [.v (.int ((n : Int) - 2 * (s : Int))), .v (.int (k : Int))] S = .ok (.v (.int (((n : Int) - 2 * s) ^ k))) S := law_power_ok (by omega) (by omega)
  have hw := wt_le (s := s) hn hd hs
  exact ⟨_, _, _, (seq_nx (set_ok ev_c)).trans ((seq_nx ((for_ok r3).trans e)).trans (set_ok (bin_ok (var_ok (by rfl)) (bin_ok (var_ok (by rfl)) (own_ok (cons_ok (bin_ok (var_ok (by rfl)) (bin_ok ev_c (var_ok (by rfl)) (s_mul (okMul_l (by decide)))) s_sub) (cons_ok (var_ok (by rfl)) ev_nil)) (by rfl) hp) (s_mul (okMul_l (a := wt n d s) (by omega)))) s_add)))⟩
theorem two_div : ∀ n, n ≤ 16 → okDiv (2 ^ n) = true ∧ (2 : Int) ^ n ≠ 0 := by decide
theorem law_sum_ok {n d k : Nat} (hn : n ≤ 16) (hd : d ≤ n) (hk : k ≤ 400) {S : Sto} : m_law_sumU [.v (.int (n : Int)), .v (.int (d : Int)), .v (.int (k : Int))] S = .ok (.v (.int (A n k d))) S := by
  show wrap false 8 b_law_sumU _ S = _
  rw [wrap_fin]
  have e0 : startE 8 [Y.v (.int (n : Int)), .v (.int (d : Int)), .v (.int (k : Int))] = [some (.v (.int (n : Int))), some (.v (.int (d : Int))), some (.v (.int (k : Int))), none, none, none, none, none] := rfl
  rw [e0]
  unfold b_law_sumU
  obtain ⟨env', S', e1, o4, o5, o6, o7, he, hs⟩ := forD_inv (t := .nm 4) (F := size03)
    (fun j env S' => ∃ o4 o5 o6 o7, env = [some (.v (.int (n : Int))), some (.v (.int (d : Int))), some (.v (.int (k : Int))), some (.v (.int (sm j (fun s => wt n d s * ((n : Int) - 2 * s) ^ k)))), o4, o5, o6, o7] ∧ S' = S) 0 (rngD 0 (n + 1)) 0 [some (.v (.int (n : Int))), some (.v (.int (d : Int))), some (.v (.int (k : Int))), some (.v (.int 0)), none, none, none, none] S
    (fun j x env S1 hj hI => by
      obtain ⟨hj1, rfl⟩ := rngD_get hj
      obtain ⟨o4, o5, o6, o7, rfl, rfl⟩ := hI
      simp only [Nat.zero_add, Int.zero_add]
      obtain ⟨p5, p6, p7, e⟩ := size_step (s := j) hn hd hk (by omega) (x := sm j (fun s => wt n d s * ((n : Int) - 2 * s) ^ k)) (S := S1) (a4 := none) (a5 := o5) (a6 := o6) (a7 := o7)
      exact ⟨_, rfl, _, _, e, _, _, _, _, rfl, rfl⟩) ⟨none, none, none, none, rfl, rfl⟩
  rw [rngD_len, Nat.zero_add, ← A_wt hn k d hd] at he
  rw [he, hs] at e1
  have h2 := two_div n hn
  have e3 : (fCall sInt (fCons (fBin sFdiv (fVar 3) (fOwn 1 m_law_twosU (fCons (fVar 0) fNil))) fNil)) [some (.v (.int (n : Int))), some (.v (.int (d : Int))), some (.v (.int (k : Int))), some (.v (.int (A n k d * 2 ^ n))), o4, o5, o6, o7] S = .ok (.v (.int (A n k d))) S :=
    call_ok (cons_ok (bin_ok (var_ok rfl) (own_ok (cons_ok (var_ok rfl) ev_nil) rfl (law_twos_ok (by omega))) (s_fdiv h2.1)) ev_nil) (by rw [Int.mul_fdiv_cancel _ h2.2, s_int])
  exact (congrArg (fin false S.length) ((seq_nx (set_ok ev_c)).trans ((seq_nx ((for_ok (i_rng1s (n := n) (by omega) (var_ok (by rfl)))).trans e1)).trans (ret_ok e3)))).trans fin_rtS
end Sg

namespace Sg
open PySem PySem.Spec PyProof.Rows L2
abbrev bodyTwo : FS := (fSeq (fSet 2 (fOwn 2 m_law_someU (fCons (fVar 0) (fCons (fLst false (fCons (fC (.int 1)) (fCons (fC (.int 2)) (fCons (fC (.int 3)) (fCons (fC (.int 8)) (fCons (fC (.int 16)) (fCons (fBin (sAdd false) (fC (.int 1)) (fOwn 2 m_law_rollU (fCons (fVar 0) (fCons (fC (.int 16)) fNil)))) fNil))))))) fNil))))
  (fSeq (fSet 3 (fOwn 2 m_law_someU (fCons (fVar 0) (fCons (fLst false (fCons (fC (.int 0)) (fCons (fC (.int 1)) (fCons (fC (.int 2)) (fCons (fC (.int 7)) (fCons (fC (.int 40)) (fCons (fOwn 2 m_law_rollU (fCons (fVar 0) (fCons (fC (.int 401)) fNil))) (fCons (fC (.int 399)) (fCons (fC (.int 400)) fNil))))))))) fNil))))
  (fSeq (fPar 4 5 (fCons (fOwn 2 m_law_wordU (fCons (fVar 0) (fCons (fVar 2) fNil))) (fCons (fOwn 2 m_law_wordU (fCons (fVar 0) (fCons (fVar 2) fNil))) fNil)))
  (fSeq (fSet 6 (fCall sLen (fCons (fOwn 2 m_law_unlikeU (fCons (fVar 4) (fCons (fVar 5) fNil))) fNil)))
  (fSeq (fIfS (fNot (fTru (fOwn 2 (m_law_sameU 6) (fCons (fLst false (fCons (fOwn 3 m_count_ways (fCons (fVar 4) (fCons (fVar 5) (fCons (fVar 3) fNil)))) (fCons (fOwn 2 m_count_back (fCons (fVar 2) (fCons (fVar 3) fNil))) fNil))) (fCons (fLst false (fCons (fOwn 3 m_law_sumU (fCons (fVar 2) (fCons (fVar 6) (fCons (fVar 3) fNil)))) (fCons (fOwn 3 m_law_sumU (fCons (fVar 2) (fCons (fC (.int 0)) (fCons (fVar 3) fNil)))) fNil))) fNil))))) (fRet (fC (.bl false))) fNx)
  (fSeq (fIfS (fAnd (fTest (fBin sEq (fBin sMod (fCall sInt (fCons (fBin (sAdd false) (fVar 6) (fVar 3)) fNil)) (fC (.int 2))) (fC (.int 1)))) (fTest (fBin sNe (fOwn 3 m_count_ways (fCons (fVar 4) (fCons (fVar 5) (fCons (fVar 3) fNil)))) (fC (.int 0))))) (fRet (fC (.bl false))) fNx)
  (fSeq (fSet 7 (fC (.int 0)))
  (fSeq (fFor (.nm 8) (fIt sRng1 (fCons (fBin (sAdd false) (fVar 2) (fC (.int 1))) fNil)) (fSeq (fSet 9 (fCall sTuple (fCons (fLc false [10, 11] (fIt (itS1 (enumL 0)) (fCons (fVar 4) fNil)) (.tp [(.nm 10), (.nm 11)]) fYes (fIf (fTest (fBin sLt (fVar 10) (fVar 8))) (fBin sSub (fC (.int 1)) (fVar 11)) (fVar 11))) fNil)))
  (fSet 7 (fBin (sAdd false) (fVar 7) (fBin (sMul false) (fOwn 2 m_law_chooseU (fCons (fVar 2) (fCons (fVar 8) fNil))) (fOwn 3 m_count_ways (fCons (fVar 4) (fCons (fVar 9) (fCons (fVar 3) fNil)))))))))
  (fIfS (fOr (fTest (fBin sNe (fVar 7) (fOwn 2 m_law_powerU (fCons (fVar 2) (fCons (fVar 3) fNil))))) (fTest (fBin sNe (fCall sLen (fCons (fOwn 2 m_unlike_places (fCons (fVar 4) (fCons (fVar 5) fNil))) fNil)) (fVar 6)))) (fRet (fC (.bl false))) fNx)))))))))
/-- the first a signs turned -/
def flipN : Nat → List Int → List Int
  | 0, w => w
  | _ + 1, [] => []
  | a + 1, x :: w => (1 - x) :: flipN a w
theorem flip_len : ∀ (a : Nat) (w : List Int), (flipN a w).length = w.length
  | 0, _ => rfl
  | _ + 1, [] => rfl
  | a + 1, x :: w => by simp [flipN, flip_len a w]
theorem flip_isW : ∀ (a : Nat) {w : List Int}, isW w → isW (flipN a w)
  | 0, _, h => h
  | _ + 1, [], h => h
  | a + 1, x :: w, h => fun y hy => by
    rcases List.mem_cons.mp hy with rfl | hy
    · rcases h x List.mem_cons_self with q | q <;> rw [q] <;> decide
    · exact flip_isW a (w := w) (fun z hz => h z (List.mem_cons_of_mem _ hz)) y hy
theorem flip_dist : ∀ (a : Nat) (w : List Int), isW w → a ≤ w.length → dist w (flipN a w) = a
  | 0, w, _, _ => dist_self w
  | a + 1, [], _, h => absurd h (Nat.not_succ_le_zero _)
  | a + 1, x :: w, h, hl => by
    have ih := flip_dist a w (fun z hz => h z (List.mem_cons_of_mem _ hz)) (by simpa using hl)
    have : ¬ x = 1 - x := by rcases h x List.mem_cons_self with q | q <;> rw [q] <;> decide
    simp only [flipN, dist, ih, if_neg this]; omega
theorem numb_flip : ∀ (w : List Int) (k a : Nat), (numb k w).map (fun q => if q.1 < ((k + a : Nat) : Int) then 1 - q.2 else q.2) = flipN a w
  | [], _, 0 => rfl
  | [], _, _ + 1 => rfl
  | x :: w, k, 0 => by
    have : ∀ (us : List Int) (j : Nat), k ≤ j → (numb j us).map (fun q => if q.1 < ((k + 0 : Nat) : Int) then 1 - q.2 else q.2) = us := fun us => by
      induction us with
      | nil => intro _ _; rfl
      | cons u us ih => intro j hj; rw [numb, List.map_cons, if_neg (by omega), ih (j + 1) (by omega)]
    exact this (x :: w) k (Nat.le_refl _)
  | x :: w, k, a + 1 => by
    rw [numb, List.map_cons, if_pos (by omega), flipN]
    have ih := numb_flip w (k + 1) a
    rw [show k + 1 + a = k + (a + 1) by omega] at ih
    rw [ih]
theorem isWord.w {ws : List Int} (h : isWord ws) : isW ws := h.2.2
theorem isWord_of {ws : List Int} (h : isW ws) (h1 : 1 ≤ ws.length) (h2 : ws.length ≤ 16) : isWord ws := ⟨h1, h2, h⟩
theorem sgL2 {a b : D} (ha : D.sg a = true) (hb : D.sg b = true) : D.sg (.lst [a, b]) = true := by
  have : okLen 2 = true := rfl
  simp [D.sg, D.sgL, ha, hb, this]
theorem and_f {t u : FE Bool} {env : Ev} {S S1 : Sto} (h : t env S = .ok false S1) : fAnd t u env S = .ok false S1 := by rw [ev_and, h]; rfl
theorem and_tf {t u : FE Bool} {env : Ev} {S S1 S2 : Sto} (h : t env S = .ok true S1) (h2 : u env S1 = .ok false S2) : fAnd t u env S = .ok false S2 := by rw [ev_and, h]; exact h2
theorem par_ok {i j : Nat} {fs : FE (List Y)} {env : Ev} {S S1 : Sto} {y z : Y} (h : fs env S = .ok [y, z] S1) : fPar i j fs env S = .nx ((env.set i (some y)).set j (some z)) S1 := by rw [ev_par, h]; rfl
abbrev goal03 : FS := (fSeq (fSet 9 (fCall sTuple (fCons (fLc false [10, 11] (fIt (itS1 (enumL 0)) (fCons (fVar 4) fNil)) (.tp [(.nm 10), (.nm 11)]) fYes (fIf (fTest (fBin sLt (fVar 10) (fVar 8))) (fBin sSub (fC (.int 1)) (fVar 11)) (fVar 11))) fNil)))
  (fSet 7 (fBin (sAdd false) (fVar 7) (fBin (sMul false) (fOwn 2 m_law_chooseU (fCons (fVar 2) (fCons (fVar 8) fNil))) (fOwn 3 m_count_ways (fCons (fVar 4) (fCons (fVar 9) (fCons (fVar 3) fNil))))))))
abbrev E2 (a1 a2 a3 a4 a5 a6 a7 a8 a9 a10 a11 : Option Y) : Ev := [some (.ref 0), a1, a2, a3, a4, a5, a6, a7, a8, a9, a10, a11]
theorem goal_step {ws : List Int} {n k j : Nat} (hw : isWord ws) (hl : ws.length = n) (hk : k ≤ 400) (hj : j ≤ n) {x : Int} {S : Sto} {a1 a5 a6 a9 a10 a11 : Option Y} :
    ∃ o9, goal03 (E2 a1 (some (.v (.int (n : Int)))) (some (.v (.int (k : Int)))) (some (.v (.tup (ws.map D.int)))) a5 a6 (some (.v (.int x))) (some (.v (.int (j : Int)))) a9 a10 a11) S = .nx (E2 a1 (some (.v (.int (n : Int)))) (some (.v (.int (k : Int)))) (some (.v (.tup (ws.map D.int)))) a5 a6 (some (.v (.int (x + chQ n j * A n k j)))) (some (.v (.int (j : Int)))) o9 a10 a11) S := by
  have hn := hw.2.1
  have g1 : fCall sTuple (fCons (fLc false [10, 11] (fIt (itS1 (enumL 0)) (fCons (fVar 4) fNil)) (.tp [(.nm 10), (.nm 11)]) fYes (fIf (fTest (fBin sLt (fVar 10) (fVar 8))) (fBin sSub (fC (.int 1)) (fVar 11)) (fVar 11))) fNil) (E2 a1 (some (.v (.int (n : Int)))) (some (.v (.int (k : Int)))) (some (.v (.tup (ws.map D.int)))) a5 a6 (some (.v (.int x))) (some (.v (.int (j : Int)))) a9 a10 a11) S = .ok (.v (.tup ((numb 0 ws).map fun q => D.int (if q.1 < ((0 + j : Nat) : Int) then 1 - q.2 else q.2)))) S := by
    refine tup_lcy (numb 0 ws) (fun p => D.tup [.int p.1, .int p.2]) (fun q => D.int (if q.1 < ((0 + j : Nat) : Int) then 1 - q.2 else q.2)) (ds := enumL 0 (ws.map D.int)) (by rw [ev_it, cons_ok (var_ok rfl) ev_nil]; rfl) (enumL_numb _ _) (by rw [len_numb]; omega) fun p hp => ⟨_, rfl, ?_⟩
    have ht : fTest (fBin sLt (fVar 10) (fVar 8)) (E2 a1 (some (.v (.int (n : Int)))) (some (.v (.int (k : Int)))) (some (.v (.tup (ws.map D.int)))) a5 a6 (some (.v (.int x))) (some (.v (.int (j : Int)))) a9 (some (.v (.int p.1))) (some (.v (.int p.2)))) S = .ok (decide (p.1 < (j : Int))) S := test_ok (bin_ok (var_ok rfl) (var_ok rfl) s_lt)
    rw [Nat.zero_add]
    by_cases h : p.1 < (j : Int)
    · rw [if_pos h]
      exact (if_t (ht.trans (by rw [decide_eq_true h]))).trans (bin_ok ev_c (var_ok rfl) s_sub)
    · rw [if_neg h]
      exact (if_f (ht.trans (by rw [decide_eq_false h]))).trans (var_ok rfl)
  have g2 : ((numb 0 ws).map fun q => D.int (if q.1 < ((0 + j : Nat) : Int) then 1 - q.2 else q.2)) = (flipN j ws).map D.int := by
    rw [← numb_flip ws 0 j, List.map_map]; rfl
  rw [g2] at g1
  have hf : isWord (flipN j ws) := isWord_of (flip_isW j hw.w) (by rw [flip_len]; exact hw.1) (by rw [flip_len]; exact hn)
  have g3 := count_ways_ok hw hf (by rw [flip_len]) hk (S := S)
  rw [flip_dist j ws hw.w (by omega), hl] at g3
  have hch := ch_le (n := n) (d := j) (by omega) hj
  exact ⟨_, (seq_nx (set_ok g1)).trans (set_ok (bin_ok (var_ok (by rfl)) (bin_ok (own_ok (a2v (by rfl) (by rfl)) (by rfl) (law_choose_ok (by omega) (by omega))) (own_ok (cons_ok (var_ok (by rfl)) (cons_ok (var_ok (by rfl)) (cons_ok (var_ok (by rfl)) ev_nil))) (by rfl) g3) (s_mul (okMul_l (by omega)))) s_add))⟩
def I2 (env : Ev) (S : Sto) : Prop := CupOk S ∧ ∃ a1 a2 a3 a4 a5 a6 a7 a8 a9 a10 a11 : Option Y, env = E2 a1 a2 a3 a4 a5 a6 a7 a8 a9 a10 a11
theorem bodyTwo_ok {env : Ev} {S : Sto} (hI : I2 env S) : ∃ env2 S2, bodyTwo env S = .nx env2 S2 ∧ I2 env2 S2 := by
  obtain ⟨hS, a1, a2, a3, a4, a5, a6, a7, a8, a9, a10, a11, rfl⟩ := hI
  obtain ⟨r1, S1, e1, hS1, h10, h11⟩ := roll11 (many := 16) (by decide) hS
  obtain ⟨d2, S2, e2, hS2, hd2⟩ := law_some_ok (ds := [.int 1, .int 2, .int 3, .int 8, .int 16, .int (1 + r1)]) (by simp) hS1
  obtain ⟨n, hn0, hn1, hn2⟩ : ∃ n : Nat, d2 = .int (n : Int) ∧ 1 ≤ n ∧ n ≤ 16 := by
    simp only [List.mem_cons, List.not_mem_nil, or_false] at hd2
    rcases hd2 with rfl | rfl | rfl | rfl | rfl | rfl
    · exact ⟨1, rfl, by omega, by omega⟩
    · exact ⟨2, rfl, by omega, by omega⟩
    · exact ⟨3, rfl, by omega, by omega⟩
    · exact ⟨8, rfl, by omega, by omega⟩
    · exact ⟨16, rfl, by omega, by omega⟩
    · exact ⟨(1 + r1).toNat, by rw [Int.toNat_of_nonneg (by omega)], by omega, by omega⟩
  subst hn0
  obtain ⟨r3, S3, e3, hS3, h30, h31⟩ := roll11 (many := 401) (by decide) hS2
  obtain ⟨d4, S4, e4, hS4, hd4⟩ := law_some_ok (ds := [.int 0, .int 1, .int 2, .int 7, .int 40, .int r3, .int 399, .int 400]) (by simp) hS3
  obtain ⟨k, hk0, hk⟩ : ∃ k : Nat, d4 = .int (k : Int) ∧ k ≤ 400 := by
    simp only [List.mem_cons, List.not_mem_nil, or_false] at hd4
    rcases hd4 with rfl | rfl | rfl | rfl | rfl | rfl | rfl | rfl
    · exact ⟨0, rfl, by omega⟩
    · exact ⟨1, rfl, by omega⟩
    · exact ⟨2, rfl, by omega⟩
    · exact ⟨7, rfl, by omega⟩
    · exact ⟨40, rfl, by omega⟩
    · exact ⟨r3.toNat, by rw [Int.toNat_of_nonneg h30], by omega⟩
    · exact ⟨399, rfl, by omega⟩
    · exact ⟨400, rfl, by omega⟩
  subst hk0
  obtain ⟨ws, S5, e5, hS5, hwl, hw⟩ := law_word_ok (n := n) ⟨hn1, hn2⟩ hS4
  obtain ⟨os, S6, e6, hS6, hol, ho⟩ := law_word_ok (n := n) ⟨hn1, hn2⟩ hS5
  have hwo : ws.length = os.length := by omega
  have hd := dist_le ws os
  have hcw := count_ways_ok hw ho hwo hk (S := S6)
  rw [hwl] at hcw
  refine ex_seq (env1 := E2 a1 (some (.v (.int (n : Int)))) a3 a4 a5 a6 a7 a8 a9 a10 a11) (S1 := S2) ?s1 ?_
  case s1 => exact set_ok (own_ok (cons_ok (var_ok rfl) (cons_ok (lst_ok (cons_ok ev_c (cons_ok ev_c (cons_ok ev_c (cons_ok ev_c (cons_ok ev_c (cons_ok (bin_ok ev_c (own_ok (cons_ok (var_ok rfl) (cons_ok ev_c ev_nil)) rfl e1) s_add) ev_nil)))))) rfl (by simp)) ev_nil)) rfl e2)
  refine ex_seq (env1 := E2 a1 (some (.v (.int (n : Int)))) (some (.v (.int (k : Int)))) a4 a5 a6 a7 a8 a9 a10 a11) (S1 := S4) ?s2 ?_
  case s2 => exact set_ok (own_ok (cons_ok (var_ok rfl) (cons_ok (lst_ok (cons_ok ev_c (cons_ok ev_c (cons_ok ev_c (cons_ok ev_c (cons_ok ev_c (cons_ok (own_ok (cons_ok (var_ok rfl) (cons_ok ev_c ev_nil)) rfl e3) (cons_ok ev_c (cons_ok ev_c ev_nil)))))))) rfl (by simp)) ev_nil)) rfl e4)
  refine ex_seq (env1 := E2 a1 (some (.v (.int (n : Int)))) (some (.v (.int (k : Int)))) (some (.v (.tup (ws.map D.int)))) (some (.v (.tup (os.map D.int)))) a6 a7 a8 a9 a10 a11) (S1 := S6) ?s3 ?_
  case s3 => exact par_ok (cons_ok (own_ok (a2v rfl rfl) rfl e5) (cons_ok (own_ok (a2v rfl rfl) rfl e6) ev_nil))
  refine ex_seq (env1 := E2 a1 (some (.v (.int (n : Int)))) (some (.v (.int (k : Int)))) (some (.v (.tup (ws.map D.int)))) (some (.v (.tup (os.map D.int)))) (some (.v (.int (dist ws os : Nat)))) a7 a8 a9 a10 a11) (S1 := S6) ?s4 ?_
  case s4 => exact set_ok (call_ok (cons_ok (own_ok (a2v rfl rfl) rfl (law_unlike_ok (by omega) hwo)) ev_nil) (by rw [s_lenL, List.length_map, unl_dist ws os hwo]))
  refine ex_seq (env1 := E2 a1 (some (.v (.int (n : Int)))) (some (.v (.int (k : Int)))) (some (.v (.tup (ws.map D.int)))) (some (.v (.tup (os.map D.int)))) (some (.v (.int (dist ws os : Nat)))) a7 a8 a9 a10 a11) (S1 := S6) ?s5 ?_
  case s5 =>
    have s0 : m_law_sumU [.v (.int (n : Int)), .v (.int 0), .v (.int (k : Int))] S6 = .ok (.v (.int (A n k 0))) S6 := law_sum_ok (d := 0) hn2 (Nat.zero_le _) hk
    exact if_nx (nsame (same_own (d := .lst [.int (A n k (dist ws os)), .int (A n k 0)]) (lst_ok (cons_ok (own_ok (cons_ok (var_ok rfl) (cons_ok (var_ok rfl) (cons_ok (var_ok rfl) ev_nil))) rfl hcw) (cons_ok (own_ok (a2v rfl rfl) rfl (count_back_ok ⟨hn1, hn2⟩ hk)) ev_nil)) rfl (by simp))
      (lst_ok (cons_ok (own_ok (cons_ok (var_ok rfl) (cons_ok (var_ok rfl) (cons_ok (var_ok rfl) ev_nil))) rfl (law_sum_ok hn2 (by omega) hk)) (cons_ok (own_ok (cons_ok (var_ok rfl) (cons_ok ev_c (cons_ok (var_ok rfl) ev_nil))) rfl s0) ev_nil)) rfl (by simp)) (sgL2 rfl rfl) (by simp [D.dep, D.depL])))
  refine ex_seq (env1 := E2 a1 (some (.v (.int (n : Int)))) (some (.v (.int (k : Int)))) (some (.v (.tup (ws.map D.int)))) (some (.v (.tup (os.map D.int)))) (some (.v (.int (dist ws os : Nat)))) a7 a8 a9 a10 a11) (S1 := S6) ?s6 ?_
  case s6 =>
    have ht : fTest (fBin sEq (fBin sMod (fCall sInt (fCons (fBin (sAdd false) (fVar 6) (fVar 3)) fNil)) (fC (.int 2))) (fC (.int 1))) (E2 a1 (some (.v (.int (n : Int)))) (some (.v (.int (k : Int)))) (some (.v (.tup (ws.map D.int)))) (some (.v (.tup (os.map D.int)))) (some (.v (.int (dist ws os : Nat)))) a7 a8 a9 a10 a11) S6 = .ok (decide (((dist ws os : Nat) + (k : Int)).fmod 2 = 1)) S6 := test_ok (bin_ok (bin_ok (call_ok (cons_ok (bin_ok (var_ok rfl) (var_ok rfl) s_add) ev_nil) s_int) ev_c (s_mod (by decide))) ev_c s_eqI)
    by_cases h : (((dist ws os : Nat) : Int) + (k : Int)).fmod 2 = 1
    · rw [decide_eq_true h] at ht
      have h2 : (dist ws os + k) % 2 = 1 := by rw [Int.fmod_eq_emod_of_nonneg _ (by omega)] at h; omega
      have hz := A_odd n k (dist ws os) h2
      rw [hz] at hcw
      exact if_nx (and_tf ht (test_ok (bin_ok (own_ok (cons_ok (var_ok rfl) (cons_ok (var_ok rfl) (cons_ok (var_ok rfl) ev_nil))) rfl hcw) ev_c (by rw [s_neI]; rfl))))
    · rw [decide_eq_false h] at ht
      exact if_nx (and_f ht)
  refine ex_seq (env1 := E2 a1 (some (.v (.int (n : Int)))) (some (.v (.int (k : Int)))) (some (.v (.tup (ws.map D.int)))) (some (.v (.tup (os.map D.int)))) (some (.v (.int (dist ws os : Nat)))) (some (.v (.int 0))) a8 a9 a10 a11) (S1 := S6) (set_ok ev_c) ?_
  obtain ⟨env', S', e7, o8, o9, he, hs⟩ := forD_inv (t := .nm 8) (F := goal03)
    (fun j env S' => ∃ o8 o9, env = E2 a1 (some (.v (.int (n : Int)))) (some (.v (.int (k : Int)))) (some (.v (.tup (ws.map D.int)))) (some (.v (.tup (os.map D.int)))) (some (.v (.int (dist ws os : Nat)))) (some (.v (.int (sm j (fun d => chQ n d * A n k d))))) o8 o9 a10 a11 ∧ S' = S6) 0 (rngD 0 (n + 1)) 0 (E2 a1 (some (.v (.int (n : Int)))) (some (.v (.int (k : Int)))) (some (.v (.tup (ws.map D.int)))) (some (.v (.tup (os.map D.int)))) (some (.v (.int (dist ws os : Nat)))) (some (.v (.int 0))) a8 a9 a10 a11) S6
    (fun j d env S' hj hI => by
      obtain ⟨hj1, rfl⟩ := rngD_get hj
      obtain ⟨o8, o9, rfl, rfl⟩ := hI
      simp only [Nat.zero_add, Int.zero_add]
      obtain ⟨p9, e⟩ := goal_step hw hwl hk (j := j) (by omega) (x := sm j (fun d => chQ n d * A n k d)) (S := S') (a1 := a1) (a5 := some (.v (.tup (os.map D.int)))) (a6 := some (.v (.int (dist ws os : Nat)))) (a9 := o9) (a10 := a10) (a11 := a11)
      exact ⟨_, rfl, _, _, e, _, _, rfl, rfl⟩) ⟨a8, a9, rfl, rfl⟩
  rw [rngD_len, Nat.zero_add, ch_sum hn2 k] at he
  rw [he, hs] at e7
  refine ex_seq ((for_ok (i_rng1s (n := n) (by omega) (var_ok (by rfl)))).trans e7) ?_
  have hp : m_law_powerU [.v (.int (n : Int)), .v (.int (k : Int))] S6 = .ok (.v (.int ((n : Int) ^ k))) S6 := law_power_ok (by omega) (by omega)
  have hup : m_unlike_places [.v (.tup (ws.map D.int)), .v (.tup (os.map D.int))] S6 = .ok (.v (.tup ((unl ws os).map fun (i : Nat) => D.int (0 + (i : Int) + 1)))) S6 := by
    show wrap false 2 b_unlike_places _ S6 = _
    rw [wrap_fin]
    have e0 : startE 2 [Y.v (.tup (ws.map D.int)), .v (.tup (os.map D.int))] = [some (.v (.tup (ws.map D.int))), some (.v (.tup (os.map D.int)))] := rfl
    rw [e0]
    unfold b_unlike_places
    exact (congrArg (fin false S6.length) ((seq_nx (drop_ok (own_ok (a2v (by rfl) (by rfl)) (by rfl) (need_words_ok hw ho hwo)))).trans (ret_ok (call_ok (cons_ok (own_ok (a2v (by rfl) (by rfl)) (by rfl) (unlike_in_ok (by omega) hwo)) ev_nil) s_tupL)))).trans fin_rtS
  have t1 : sNe (.v (.int ((n : Int) ^ k))) (.v (.int ((n : Int) ^ k))) S6 = .ok (.v (.bl false)) S6 := by rw [s_neI]; simp
  have t2 : sNe (.v (.int (((unl ws os).map fun (i : Nat) => D.int (0 + (i : Int) + 1)).length : Nat))) (.v (.int (dist ws os : Nat))) S6 = .ok (.v (.bl false)) S6 := by rw [List.length_map, unl_dist ws os hwo, s_neI]; simp
  exact ⟨_, _, if_nx (or_ff (test_ok (bin_ok (var_ok (by rfl)) (own_ok (a2v (by rfl) (by rfl)) (by rfl) hp) t1)) (test_ok (bin_ok (call_ok (cons_ok (own_ok (a2v (by rfl) (by rfl)) (by rfl) hup) ev_nil) s_lenT) (var_ok (by rfl)) t2))), hS6, _, _, _, _, _, _, _, _, _, _, _, rfl⟩
end Sg

namespace Sg
open PySem PySem.Spec PyProof.Rows L2
abbrev bodyOne : FS := (fSeq (fAsg (.tp [(.nm 2), (.nm 3)]) (fOwn 2 m_law_someU (fCons (fVar 0) (fCons (fLst false (fCons (fTup (fCons (fC (.int 1)) (fCons (fC (.int 6)) fNil))) (fCons (fTup (fCons (fC (.int 2)) (fCons (fC (.int 5)) fNil))) (fCons (fTup (fCons (fC (.int 3)) (fCons (fC (.int 4)) fNil))) (fCons (fTup (fCons (fC (.int 4)) (fCons (fC (.int 3)) fNil))) fNil))))) fNil))))
  (fSeq (fSet 3 (fOwn 2 m_law_rollU (fCons (fVar 0) (fCons (fBin (sAdd false) (fVar 3) (fC (.int 1))) fNil))))
  (fSeq (fAsg (.tp [(.nm 4), (.nm 5)]) (fTup (fCons (fOwn 2 m_law_wordU (fCons (fVar 0) (fCons (fVar 2) fNil))) (fCons (fOwn 2 m_law_wordU (fCons (fVar 0) (fCons (fVar 2) fNil))) fNil))))
  (fSeq (fSet 6 (fOwn 2 m_law_tuplesU (fCons (fVar 2) (fCons (fVar 3) fNil))))
  (fSeq (fSet 7 (fCall sLen (fCons (fLc false [14] (fItS (fVar 6)) (.nm 14) (fTest (fBin sEq (fOwn 2 m_law_endU (fCons (fVar 4) (fCons (fVar 14) fNil))) (fVar 5))) (fVar 14)) fNil)))
  (fSeq (fSet 8 (fLst false (fCons (fOwn 3 m_count_ways (fCons (fVar 4) (fCons (fVar 5) (fCons (fVar 3) fNil)))) (fCons (fOwn 3 m_count_ways (fCons (fVar 5) (fCons (fVar 4) (fCons (fVar 3) fNil)))) (fCons (fOwn 2 m_count_back (fCons (fVar 2) (fCons (fVar 3) fNil))) fNil)))))
  (fSeq (fIfS (fNot (fTru (fOwn 2 (m_law_sameU 6) (fCons (fVar 8) (fCons (fLst false (fCons (fVar 7) (fCons (fVar 7) (fCons (fCall sLen (fCons (fLc false [14] (fItS (fVar 6)) (.nm 14) (fTest (fBin sEq (fOwn 2 m_law_endU (fCons (fVar 4) (fCons (fVar 14) fNil))) (fVar 4))) (fVar 14)) fNil)) fNil)))) fNil))))) (fRet (fC (.bl false))) fNx)
  (fSeq (fSet 2 (fOwn 2 m_law_someU (fCons (fVar 0) (fCons (fLst false (fCons (fC (.int 1)) (fCons (fC (.int 5)) (fCons (fC (.int 16)) fNil)))) fNil))))
  (fSeq (fAsg (.tp [(.nm 4), (.nm 9)]) (fTup (fCons (fOwn 2 m_law_wordU (fCons (fVar 0) (fCons (fVar 2) fNil))) (fCons (fCall sTuple (fCons (fLc false [15] (fIt sRng1 (fCons (fOwn 2 m_law_someU (fCons (fVar 0) (fCons (fLst false (fCons (fC (.int 0)) (fCons (fC (.int 3)) (fCons (fC (.int 20)) fNil)))) fNil))) fNil)) (.nm 15) fYes (fBin (sAdd false) (fC (.int 1)) (fOwn 2 m_law_rollU (fCons (fVar 0) (fCons (fVar 2) fNil))))) fNil)) fNil))))
  (fSeq (fAsg (.tp [(.nm 5), (.nm 10)]) (fTup (fCons (fOwn 2 m_law_endU (fCons (fVar 4) (fCons (fVar 9) fNil))) (fCons (fOwn 2 m_law_rollU (fCons (fVar 0) (fCons (fBin (sAdd false) (fCall sLen (fCons (fVar 9) fNil)) (fC (.int 1))) fNil))) fNil))))
  (fSeq (fSet 11 (fLst false (fCons (fC (.int 0)) (fCons (fBin (sAdd false) (fVar 2) (fC (.int 1))) (fCons (fUn sNeg (fC (.int 1))) (fCons (fC (.bl true)) (fCons (fC .non) (fCons (fC (.str "1")) (fCons (fTup (fCons (fC (.int 1)) fNil)) (fCons (fBin (sAdd false) (fC (.int 1)) (fOwn 2 m_law_rollU (fCons (fVar 0) (fCons (fVar 2) fNil)))) fNil))))))))))
  (fSeq (fSet 12 (fBin (sAdd false) (fLst false (fCons (fVar 9) (fCons (fUn (sRev false) (fVar 9)) (fCons (fSl false (fVar 9) fNoP (fPart (fVar 10))) (fCons (fCall (sList false) (fCons (fVar 9) fNil)) (fCons (fC .non) (fCons (fTup fNil) (fCons (fBin (sAdd false) (fVar 9) (fVar 9)) fNil)))))))) (fLc false [15] (fItS (fVar 11)) (.nm 15) fYes (fBin (sAdd false) (fBin (sAdd false) (fSl false (fVar 9) fNoP (fPart (fVar 10))) (fTup (fCons (fVar 15) fNil))) (fSl false (fVar 9) (fPart (fVar 10)) fNoP)))))
  (fSeq (fSet 12 (fBin (sAdd false) (fVar 12) (fLst false (fCons (fBin (sAdd false) (fBin (sAdd false) (fSl false (fVar 9) fNoP (fPart (fVar 10))) (fTup (fCons (fVar 2) (fCons (fVar 2) fNil)))) (fSl false (fVar 9) (fPart (fVar 10)) fNoP)) (fCons (fBin (sAdd false) (fVar 9) (fBin (sMul false) (fTup (fCons (fC (.int 1)) (fCons (fC (.int 1)) fNil))) (fBin sFdiv (fBin sSub (fC (.int 400)) (fCall sLen (fCons (fVar 9) fNil))) (fC (.int 2))))) (fCons (fBin (sAdd false) (fBin (sAdd false) (fVar 9) (fBin (sMul false) (fTup (fCons (fC (.int 1)) (fCons (fC (.int 1)) fNil))) (fC (.int 200)))) (fTup (fCons (fC (.int 1)) (fCons (fC (.int 1)) fNil)))) fNil))))))
  (fFor (.nm 13) (fItS (fVar 12)) (fIfS (fNot (fTru (fOwn 2 (m_law_sameU 6) (fCons (fOwn 3 m_is_way (fCons (fVar 4) (fCons (fVar 5) (fCons (fVar 13) fNil)))) (fCons (fOwn 3 m_law_is_wayU (fCons (fVar 4) (fCons (fVar 5) (fCons (fVar 13) fNil)))) fNil))))) (fRet (fC (.bl false))) fNx)))))))))))))))
abbrev E1 (a1 a2 a3 a4 a5 a6 a7 a8 a9 a10 a11 a12 a13 a14 a15 : Option Y) : Ev := [some (.ref 0), a1, a2, a3, a4, a5, a6, a7, a8, a9, a10, a11, a12, a13, a14, a15]
def I1 (env : Ev) (S : Sto) : Prop := CupOk S ∧ ∃ a1 a2 a3 a4 a5 a6 a7 a8 a9 a10 a11 a12 a13 a14 a15 : Option Y, env = E1 a1 a2 a3 a4 a5 a6 a7 a8 a9 a10 a11 a12 a13 a14 a15
/-- a value for is_way -/
def vOk (d : D) : Prop := vg d ∧ (tupD d).length ≤ 1000
theorem vOk_ints {ns : List Int} (h : ns.length ≤ 1000) : vOk (.tup (ns.map D.int)) := ⟨vg_tup_ints ns, by simpa [tupD] using h⟩
theorem vOk_odd {ns : List Int} {k : Nat} {d : D} (h : ns.length < 60) (hd : d.pln = true ∧ d.dep ≤ 19) : vOk (.tup ((ns.map D.int).take k ++ [d] ++ (ns.map D.int).drop k)) := by
  have := val_odd (k := k) (d := d) h hd
  exact ⟨this.1, by have := this.2; omega⟩
/-- the test of one value -/
abbrev fTestW : FS := (fIfS (fNot (fTru (fOwn 2 (m_law_sameU 6) (fCons (fOwn 3 m_is_way (fCons (fVar 4) (fCons (fVar 5) (fCons (fVar 13) fNil)))) (fCons (fOwn 3 m_law_is_wayU (fCons (fVar 4) (fCons (fVar 5) (fCons (fVar 13) fNil)))) fNil))))) (fRet (fC (.bl false))) fNx)
theorem loopW {ws os : List Int} (h1 : isWord ws) (h2 : isWord os) (hl : ws.length = os.length) {ds : List D} (h : ∀ d ∈ ds, vOk d) {S : Sto} {a1 a2 a3 a6 a7 a8 a9 a10 a11 a12 a13 a14 a15 : Option Y} :
    ∃ o, forD (.nm 13) fTestW ds (E1 a1 a2 a3 (some (.v (.tup (ws.map D.int)))) (some (.v (.tup (os.map D.int)))) a6 a7 a8 a9 a10 a11 a12 a13 a14 a15) S = .nx (E1 a1 a2 a3 (some (.v (.tup (ws.map D.int)))) (some (.v (.tup (os.map D.int)))) a6 a7 a8 a9 a10 a11 a12 o a14 a15) S := by
  have hw := h1.2.1
  obtain ⟨env', S', e, o, he, hs⟩ := forD_any (t := .nm 13) (F := fTestW) (ds := ds) (env := E1 a1 a2 a3 (some (.v (.tup (ws.map D.int)))) (some (.v (.tup (os.map D.int)))) a6 a7 a8 a9 a10 a11 a12 a13 a14 a15) (S := S)
    (fun env S' => ∃ o, env = E1 a1 a2 a3 (some (.v (.tup (ws.map D.int)))) (some (.v (.tup (os.map D.int)))) a6 a7 a8 a9 a10 a11 a12 o a14 a15 ∧ S' = S) ⟨a13, rfl, rfl⟩ fun d hd env S' hI => by
      obtain ⟨o, rfl, hs⟩ := hI
      have hv := h d hd
      exact ⟨_, rfl, _, _, if_nx (nsame (same_own (d := .bl (wayOk ws os d)) (own_ok (cons_ok (var_ok rfl) (cons_ok (var_ok rfl) (cons_ok (var_ok rfl) ev_nil))) rfl (is_way_ok h1 h2 hl hv.1 hv.2)) (own_ok (cons_ok (var_ok rfl) (cons_ok (var_ok rfl) (cons_ok (var_ok rfl) ev_nil))) rfl (law_is_way_ok (by omega) hv.1 hv.2)) rfl (by simp [D.dep]))), _, rfl, hs⟩
  rw [he, hs] at e
  exact ⟨o, e⟩
theorem rep_mem {α : Type} {k : Int} {a : List α} {x : α} (h : x ∈ rep k a) : x ∈ a := by
  unfold rep at h
  obtain ⟨l, hl, hx⟩ := List.mem_flatten.mp h
  rw [(List.mem_replicate.mp hl).2] at hx
  exact hx
theorem rep_len2 {α : Type} {k : Int} {x y : α} : (rep k [x, y]).length = 2 * k.toNat := by
  unfold rep
  generalize k.toNat = n
  induction n with
  | zero => rfl
  | succ n ih => rw [List.replicate_succ, List.flatten_cons, List.length_append, ih]; simp; omega
theorem s_repT {ds : List D} {k : Int} {S : Sto} (h : okRep k ds.length = true) : sMul false (.v (.tup ds)) (.v (.int k)) S = .ok (.v (.tup (rep k ds))) S := by
  simp only [sMul]; rw [if_pos h]
theorem rep_map {k : Int} {a : List Int} : rep k (a.map D.int) = (rep k a).map D.int := by
  unfold rep
  generalize k.toNat = n
  induction n with
  | zero => rfl
  | succ n ih => rw [List.replicate_succ, List.flatten_cons, ih, List.replicate_succ, List.flatten_cons, List.map_append]
theorem okRep2 {k : Int} (h : 0 ≤ k ∧ k ≤ 1000) : okRep k 2 = true := by
  unfold okRep
  rw [Bool.and_eq_true]
  exact ⟨decide_eq_true (by omega), okLen_of (by omega)⟩
/-- how many ways end there -/
theorem count_lc {ws os ts : List Int} {n k : Nat} (h1 : isWord ws) (hl : ws.length = n) {S : Sto} {env : Ev} {fo : FE Y} (hn : (ways n k).length ≤ 10000) (e4 : ∀ w : List Int, (fOwn 2 m_law_endU (fCons (fVar 4) (fCons (fVar 14) fNil))) ((wipeE [14] env).set 14 (some (.v (wD w)))) S = m_law_endU [.v (.tup (ws.map D.int)), .v (wD w)] S)
    (eo : ∀ w : List Int, fo ((wipeE [14] env).set 14 (some (.v (wD w)))) S = .ok (.v (.tup (os.map D.int))) S) (ev : ∀ w : List Int, fVar 14 ((wipeE [14] env).set 14 (some (.v (wD w)))) S = .ok (.v (wD w)) S) (e6 : fVar 6 env S = .ok (.v (.lst ((ways n k).map wD))) S) :
    fCall sLen (fCons (fLc false [14] (fItS (fVar 6)) (.nm 14) (fTest (fBin sEq (fOwn 2 m_law_endU (fCons (fVar 4) (fCons (fVar 14) fNil))) fo)) (fVar 14)) fNil) env S = .ok (.v (.int (cnt (ways n k) ws os : Nat))) S := by
  have hw := h1.2.1
  have x1 : fLc false [14] (fItS (fVar 6)) (.nm 14) (fTest (fBin sEq (fOwn 2 m_law_endU (fCons (fVar 4) (fCons (fVar 14) fNil))) fo)) (fVar 14) env S = newL false (((ways n k).filter fun way => decide (endW ws way = os)).map wD) S := by
    refine lc_map (m := false) (ways n k) wD (fun way => decide (endW ws way = os)) wD (its_okL e6) rfl (by omega) fun w hm => ⟨_, rfl, ?_, fun _ => ev w⟩
    obtain ⟨hwl, hwp⟩ := way_len n k w hm
    have e7 := law_end_ok (ws := ws) (ps := w) (by omega) (by rw [hl]; exact hwp) (S := S)
    refine test_ok (bin_ok ((e4 w).trans e7) (eo w) ?_)
    rw [s_eq rfl rfl (eqk_intsT _) (eqk_intsT _), eqv_intsT]
  exact call_ok (cons_ok x1 ev_nil) (by rw [s_lenL, List.length_map]; rfl)
theorem i_rng1' {n : Nat} (hn : n ≤ 1000) {env : Ev} {S0 S : Sto} {f : FE Y} (h : f env S0 = .ok (.v (.int (n : Int))) S) : fIt sRng1 (fCons f fNil) env S0 = .ok (rngD 0 n) S := by
  have e := s_rng1 (S := S) (a := (n : Int)) (okR_of (by omega) (by omega))
  rw [Int.toNat_natCast] at e
  simp only [ev_it, ev_cons, h, Res.bind, ev_nil]
  exact e
/-- a walk of draws -/
theorem walk_ok {n c : Nat} (hn : 1 ≤ n ∧ n ≤ 16) (hc : c ≤ 100) {S0 S : Sto} (hS : CupOk S) {env : Ev} {f : FE Y} (h0 : (wipeE [15] env)[0]? = some (some (.ref 0))) (h2 : ∀ d : D, ((wipeE [15] env).set 15 (some (.v d)))[2]? = some (some (.v (.int (n : Int))))) (h0' : ∀ d : D, ((wipeE [15] env).set 15 (some (.v d)))[0]? = some (some (.ref 0))) (hf : f env S0 = .ok (.v (.int (c : Int))) S) :
    ∃ (ps : List Int) (S' : Sto), fCall sTuple (fCons (fLc false [15] (fIt sRng1 (fCons f fNil)) (.nm 15) fYes (fBin (sAdd false) (fC (.int 1)) (fOwn 2 m_law_rollU (fCons (fVar 0) (fCons (fVar 2) fNil))))) fNil) env S0 = .ok (.v (.tup (ps.map D.int))) S' ∧ CupOk S' ∧ ps.length = c ∧ ∀ p ∈ ps, 1 ≤ p ∧ p ≤ n := by
  have hi := i_rng1' (n := c) (by omega) hf
  obtain ⟨out, S', e, hS', ps, rfl, hl, hp⟩ := lc_idx (env := env) (S := S) (vs := [15]) (t := .nm 15) (ft := fYes) (fe := fBin (sAdd false) (fC (.int 1)) (fOwn 2 m_law_rollU (fCons (fVar 0) (fCons (fVar 2) fNil))))
    (fun i acc S => CupOk S ∧ ∃ ps : List Int, acc = ps.map D.int ∧ ps.length = i ∧ ∀ p ∈ ps, 1 ≤ p ∧ p ≤ n) hi (by simp; omega) ⟨hS, [], rfl, rfl, fun x h => absurd h List.not_mem_nil⟩
    (fun j d acc S hj hP => by
      obtain ⟨hS, ps, rfl, hl, hp⟩ := hP
      obtain ⟨r, S1, e1, hS1, hr0, hr2⟩ := roll11 (many := (n : Int)) (by omega) hS
      refine ⟨_, true, S, rfl, rfl, (fun h => by cases h), fun _ => ⟨.int (1 + r), S1, bin_ok ev_c (own_ok (a2v (h0' d) (h2 d)) rfl e1) s_add, hS1, ps ++ [1 + r], by simp, by simp [hl], fun x hx => ?_⟩⟩
      rcases List.mem_append.mp hx with hx | hx
      · exact hp x hx
      · rw [List.mem_singleton.mp hx]; omega)
  rw [rngD_len] at hl
  exact ⟨ps, S', call_ok (cons_ok e ev_nil) s_tupL, hS', hl, hp⟩
def oddW (n : Nat) (o : Int) : List D := [.int 0, .int ((n : Int) + 1), .int (-1), .bl true, .non, .str "1", .tup [.int 1], .int o]
theorem oddW_ok {n : Nat} {o : Int} : ∀ d ∈ oddW n o, d.pln = true ∧ d.dep ≤ 19 := by
  intro d hd
  simp only [oddW, List.mem_cons, List.not_mem_nil, or_false] at hd
  rcases hd with rfl | rfl | rfl | rfl | rfl | rfl | rfl | rfl <;> simp [D.pln, D.dep, D.plnL, D.depL, strOk_1]
theorem pow_ok : ∀ p ∈ [((1 : Nat), (6 : Nat)), (2, 5), (3, 4), (4, 3)], ∀ j, j ≤ p.2 → p.1 ^ j ≤ 10000 := by decide
theorem sg3L {a b c : D} (ha : D.sg a = true) (hb : D.sg b = true) (hc : D.sg c = true) : D.sg (.lst [a, b, c]) = true := by
  have : okLen 3 = true := rfl
  simp [D.sg, D.sgL, ha, hb, hc, this]
theorem bodyOne_ok {env : Ev} {S : Sto} (hI : I1 env S) : ∃ env2 S2, bodyOne env S = .nx env2 S2 ∧ I1 env2 S2 := by
  obtain ⟨hS, a1, a2, a3, a4, a5, a6, a7, a8, a9, a10, a11, a12, a13, a14, a15, rfl⟩ := hI
  obtain ⟨d1, S1, e1, hS1, hd1⟩ := law_some_ok (ds := [.tup [.int 1, .int 6], .tup [.int 2, .int 5], .tup [.int 3, .int 4], .tup [.int 4, .int 3]]) (by simp) hS
  obtain ⟨n, m, hd1, hn, hm, hb⟩ : ∃ n m : Nat, d1 = .tup [.int (n : Int), .int (m : Int)] ∧ (1 ≤ n ∧ n ≤ 4) ∧ m ≤ 6 ∧ ∀ j, j ≤ m → n ^ j ≤ 10000 := by
    simp only [List.mem_cons, List.not_mem_nil, or_false] at hd1
    rcases hd1 with rfl | rfl | rfl | rfl
    · exact ⟨1, 6, rfl, by omega, by omega, pow_ok (1, 6) (by decide)⟩
    · exact ⟨2, 5, rfl, by omega, by omega, pow_ok (2, 5) (by decide)⟩
    · exact ⟨3, 4, rfl, by omega, by omega, pow_ok (3, 4) (by decide)⟩
    · exact ⟨4, 3, rfl, by omega, by omega, pow_ok (4, 3) (by decide)⟩
  subst hd1
  obtain ⟨r2, S2, e2, hS2, h20, h21⟩ := roll11 (many := (m : Int) + 1) (by omega) hS1
  obtain ⟨k, hk0, hk1, hk2⟩ := nat_of (x := r2) (lo := 0) (hi := m) (by omega) (by omega)
  subst hk0
  obtain ⟨ws, S3, e3, hS3, hwl, hw⟩ := law_word_ok (n := n) (by omega) hS2
  obtain ⟨os, S4, e4, hS4, hol, ho⟩ := law_word_ok (n := n) (by omega) hS3
  have hwo : ws.length = os.length := by omega
  have hkm : k ≤ m := by omega
  have hwn : (ways n k).length ≤ 10000 := by rw [ways_len]; exact hb k hkm
  have c1 := count_ways_ok hw ho hwo (k := k) (by omega) (S := S4)
  have c2 := count_ways_ok ho hw hwo.symm (k := k) (by omega) (S := S4)
  have c3 := count_back_ok (n := n) (k := k) (by omega) (by omega) (S := S4)
  rw [dist_comm os ws, hol] at c2
  rw [hwl] at c1
  have q1 := cnt_A hw.w hwl k os ho.w hol
  have q2 := cnt_A hw.w hwl k ws hw.w hwl
  rw [dist_self] at q2
  obtain ⟨d5, S5, e5, hS5, hd5⟩ := law_some_ok (ds := [.int 1, .int 5, .int 16]) (by simp) hS4
  obtain ⟨n2, hn20, hn2⟩ : ∃ n2 : Nat, d5 = .int (n2 : Int) ∧ 1 ≤ n2 ∧ n2 ≤ 16 := by
    simp only [List.mem_cons, List.not_mem_nil, or_false] at hd5
    rcases hd5 with rfl | rfl | rfl
    · exact ⟨1, rfl, by omega⟩
    · exact ⟨5, rfl, by omega⟩
    · exact ⟨16, rfl, by omega⟩
  subst hn20
  obtain ⟨vs, S6, e6, hS6, hvl, hv⟩ := law_word_ok (n := n2) hn2 hS5
  obtain ⟨d7, S7, e7, hS7, hd7⟩ := law_some_ok (ds := [.int 0, .int 3, .int 20]) (by simp) hS6
  obtain ⟨c, hc0, hc⟩ : ∃ c : Nat, d7 = .int (c : Int) ∧ c ≤ 20 := by
    simp only [List.mem_cons, List.not_mem_nil, or_false] at hd7
    rcases hd7 with rfl | rfl | rfl
    · exact ⟨0, rfl, by omega⟩
    · exact ⟨3, rfl, by omega⟩
    · exact ⟨20, rfl, by omega⟩
  subst hc0
  refine ex_seq (env1 := E1 a1 (some (.v (.int (n : Int)))) (some (.v (.int (m : Int)))) a4 a5 a6 a7 a8 a9 a10 a11 a12 a13 a14 a15) (S1 := S1) ?s1 ?_
  case s1 =>
    exact asg_ok' (d := .tup [.int (n : Int), .int (m : Int)]) (own_ok (cons_ok (var_ok rfl) (cons_ok (lst_ok (cons_ok (tup_ok (cons_ok ev_c (cons_ok ev_c ev_nil)) rfl (by simp)) (cons_ok (tup_ok (cons_ok ev_c (cons_ok ev_c ev_nil)) rfl (by simp)) (cons_ok (tup_ok (cons_ok ev_c (cons_ok ev_c ev_nil)) rfl (by simp)) (cons_ok (tup_ok (cons_ok ev_c (cons_ok ev_c ev_nil)) rfl (by simp)) ev_nil)))) rfl (by simp)) ev_nil)) rfl e1) rfl
  refine ex_seq (env1 := E1 a1 (some (.v (.int (n : Int)))) (some (.v (.int (k : Int)))) a4 a5 a6 a7 a8 a9 a10 a11 a12 a13 a14 a15) (S1 := S2) ?s2 ?_
  case s2 =>
    exact set_ok (own_ok (cons_ok (var_ok rfl) (cons_ok (bin_ok (var_ok rfl) ev_c s_add) ev_nil)) rfl e2)
  refine ex_seq (env1 := E1 a1 (some (.v (.int (n : Int)))) (some (.v (.int (k : Int)))) (some (.v (.tup (ws.map D.int)))) (some (.v (.tup (os.map D.int)))) a6 a7 a8 a9 a10 a11 a12 a13 a14 a15) (S1 := S4) ?s3 ?_
  case s3 =>
    exact asg_ok' (d := .tup [.tup (ws.map D.int), .tup (os.map D.int)]) (tup_ok (cons_ok (own_ok (a2v rfl rfl) rfl e3) (cons_ok (own_ok (a2v rfl rfl) rfl e4) ev_nil)) rfl (by simp)) rfl
  refine ex_seq (env1 := E1 a1 (some (.v (.int (n : Int)))) (some (.v (.int (k : Int)))) (some (.v (.tup (ws.map D.int)))) (some (.v (.tup (os.map D.int)))) (some (.v (.lst ((ways n k).map wD)))) a7 a8 a9 a10 a11 a12 a13 a14 a15) (S1 := S4) ?s4 ?_
  case s4 =>
    exact set_ok (own_ok (a2v rfl rfl) rfl (law_tuples_ok (by omega) (by omega) (fun j hj => hb j (by omega))))
  refine ex_seq (env1 := E1 a1 (some (.v (.int (n : Int)))) (some (.v (.int (k : Int)))) (some (.v (.tup (ws.map D.int)))) (some (.v (.tup (os.map D.int)))) (some (.v (.lst ((ways n k).map wD)))) (some (.v (.int (cnt (ways n k) ws os : Nat)))) a8 a9 a10 a11 a12 a13 a14 a15) (S1 := S4) ?s5 ?_
  case s5 =>
    exact set_ok (count_lc (os := os) (ts := []) hw hwl hwn (fun w => own_ok (a2v rfl rfl) rfl rfl) (fun w => var_ok rfl) (fun w => var_ok rfl) (var_ok rfl))
  refine ex_seq (env1 := E1 a1 (some (.v (.int (n : Int)))) (some (.v (.int (k : Int)))) (some (.v (.tup (ws.map D.int)))) (some (.v (.tup (os.map D.int)))) (some (.v (.lst ((ways n k).map wD)))) (some (.v (.int (cnt (ways n k) ws os : Nat)))) (some (.v (.lst [.int (A n k (dist ws os)), .int (A n k (dist ws os)), .int (A n k 0)]))) a9 a10 a11 a12 a13 a14 a15) (S1 := S4) ?s6 ?_
  case s6 =>
    exact set_ok (lst_ok (cons_ok (own_ok (cons_ok (var_ok rfl) (cons_ok (var_ok rfl) (cons_ok (var_ok rfl) ev_nil))) rfl c1) (cons_ok (own_ok (cons_ok (var_ok rfl) (cons_ok (var_ok rfl) (cons_ok (var_ok rfl) ev_nil))) rfl c2) (cons_ok (own_ok (a2v rfl rfl) rfl c3) ev_nil))) rfl (by simp))
  refine ex_seq (env1 := E1 a1 (some (.v (.int (n : Int)))) (some (.v (.int (k : Int)))) (some (.v (.tup (ws.map D.int)))) (some (.v (.tup (os.map D.int)))) (some (.v (.lst ((ways n k).map wD)))) (some (.v (.int (cnt (ways n k) ws os : Nat)))) (some (.v (.lst [.int (A n k (dist ws os)), .int (A n k (dist ws os)), .int (A n k 0)]))) a9 a10 a11 a12 a13 a14 a15) (S1 := S4) ?s7 ?_
  case s7 =>
    have z := count_lc (os := ws) (ts := []) hw hwl hwn (S := S4) (env := E1 a1 (some (.v (.int (n : Int)))) (some (.v (.int (k : Int)))) (some (.v (.tup (ws.map D.int)))) (some (.v (.tup (os.map D.int)))) (some (.v (.lst ((ways n k).map wD)))) (some (.v (.int (cnt (ways n k) ws os : Nat)))) (some (.v (.lst [.int (A n k (dist ws os)), .int (A n k (dist ws os)), .int (A n k 0)]))) a9 a10 a11 a12 a13 a14 a15) (fo := fVar 4) (fun w => own_ok (a2v rfl rfl) rfl rfl) (fun w => var_ok rfl) (fun w => var_ok rfl) (var_ok rfl)
    rw [q2] at z
    refine if_nx (nsame (same_own (d := .lst [.int (A n k (dist ws os)), .int (A n k (dist ws os)), .int (A n k 0)]) (var_ok rfl) (lst_ok (cons_ok (var_ok (y := .v (.int (A n k (dist ws os)))) ?_) (cons_ok (var_ok (y := .v (.int (A n k (dist ws os)))) ?_) (cons_ok z ev_nil))) rfl (by simp)) (sg3L rfl rfl rfl) (by simp [D.dep, D.depL])))
    · rw [← q1]; rfl
    · rw [← q1]; rfl
  refine ex_seq (env1 := E1 a1 (some (.v (.int (n2 : Int)))) (some (.v (.int (k : Int)))) (some (.v (.tup (ws.map D.int)))) (some (.v (.tup (os.map D.int)))) (some (.v (.lst ((ways n k).map wD)))) (some (.v (.int (cnt (ways n k) ws os : Nat)))) (some (.v (.lst [.int (A n k (dist ws os)), .int (A n k (dist ws os)), .int (A n k 0)]))) a9 a10 a11 a12 a13 a14 a15) (S1 := S5) ?s8 ?_
  case s8 =>
    exact set_ok (own_ok (cons_ok (var_ok rfl) (cons_ok (lst_ok (cons_ok ev_c (cons_ok ev_c (cons_ok ev_c ev_nil))) rfl (by simp)) ev_nil)) rfl e5)
  have hsome : (fOwn 2 m_law_someU (fCons (fVar 0) (fCons (fLst false (fCons (fC (.int 0)) (fCons (fC (.int 3)) (fCons (fC (.int 20)) fNil)))) fNil))) (E1 a1 (some (.v (.int (n2 : Int)))) (some (.v (.int (k : Int)))) (some (.v (.tup (ws.map D.int)))) (some (.v (.tup (os.map D.int)))) (some (.v (.lst ((ways n k).map wD)))) (some (.v (.int (cnt (ways n k) ws os : Nat)))) (some (.v (.lst [.int (A n k (dist ws os)), .int (A n k (dist ws os)), .int (A n k 0)]))) a9 a10 a11 a12 a13 a14 a15) S6 = .ok (.v (.int (c : Int))) S7 := own_ok (cons_ok (var_ok rfl) (cons_ok (lst_ok (cons_ok ev_c (cons_ok ev_c (cons_ok ev_c ev_nil))) rfl (by simp)) ev_nil)) rfl e7
  obtain ⟨ps, S8, e8, hS8, hpl, hp⟩ := walk_ok (n := n2) (c := c) hn2 (by omega) hS7 (env := E1 a1 (some (.v (.int (n2 : Int)))) (some (.v (.int (k : Int)))) (some (.v (.tup (ws.map D.int)))) (some (.v (.tup (os.map D.int)))) (some (.v (.lst ((ways n k).map wD)))) (some (.v (.int (cnt (ways n k) ws os : Nat)))) (some (.v (.lst [.int (A n k (dist ws os)), .int (A n k (dist ws os)), .int (A n k 0)]))) a9 a10 a11 a12 a13 a14 a15) rfl (fun _ => rfl) (fun _ => rfl) hsome
  have hes : isWord (endW vs ps) := isWord_of (endW_isW ps hv.w) (by rw [endW_len]; exact hv.1) (by rw [endW_len]; exact hv.2.1)
  have hve : vs.length = (endW vs ps).length := by rw [endW_len]
  have e9 := law_end_ok (ws := vs) (ps := ps) (by omega) (by rw [hvl]; exact hp) (S := S8)
  obtain ⟨r9, S9, e10, hS9, h90, h91⟩ := roll11 (many := (ps.length : Int) + 1) (by omega) hS8
  obtain ⟨t, ht0, ht1, ht2⟩ := nat_of (x := r9) (lo := 0) (hi := ps.length) (by omega) (by omega)
  subst ht0
  obtain ⟨r10, S10, e11, hS10, ha0, ha1⟩ := roll11 (many := (n2 : Int)) (by omega) hS9
  refine ex_seq (env1 := E1 a1 (some (.v (.int (n2 : Int)))) (some (.v (.int (k : Int)))) (some (.v (.tup (vs.map D.int)))) (some (.v (.tup (os.map D.int)))) (some (.v (.lst ((ways n k).map wD)))) (some (.v (.int (cnt (ways n k) ws os : Nat)))) (some (.v (.lst [.int (A n k (dist ws os)), .int (A n k (dist ws os)), .int (A n k 0)]))) (some (.v (.tup (ps.map D.int)))) a10 a11 a12 a13 a14 a15) (S1 := S8) ?s9 ?_
  case s9 =>
    exact asg_ok' (d := .tup [.tup (vs.map D.int), .tup (ps.map D.int)]) (tup_ok (cons_ok (own_ok (a2v rfl rfl) rfl e6) (cons_ok e8 ev_nil)) rfl (by simp)) rfl
  refine ex_seq (env1 := E1 a1 (some (.v (.int (n2 : Int)))) (some (.v (.int (k : Int)))) (some (.v (.tup (vs.map D.int)))) (some (.v (.tup ((endW vs ps).map D.int)))) (some (.v (.lst ((ways n k).map wD)))) (some (.v (.int (cnt (ways n k) ws os : Nat)))) (some (.v (.lst [.int (A n k (dist ws os)), .int (A n k (dist ws os)), .int (A n k 0)]))) (some (.v (.tup (ps.map D.int)))) (some (.v (.int (t : Int)))) a11 a12 a13 a14 a15) (S1 := S9) ?s10 ?_
  case s10 =>
    exact asg_ok' (d := .tup [.tup ((endW vs ps).map D.int), .int (t : Int)]) (tup_ok (cons_ok (own_ok (a2v rfl rfl) rfl e9) (cons_ok (own_ok (cons_ok (var_ok rfl) (cons_ok (bin_ok (call_ok (cons_ok (var_ok rfl) ev_nil) s_lenT) ev_c s_add) ev_nil)) rfl (by rw [List.length_map]; exact e10)) ev_nil)) rfl (by simp)) rfl
  refine ex_seq (env1 := E1 a1 (some (.v (.int (n2 : Int)))) (some (.v (.int (k : Int)))) (some (.v (.tup (vs.map D.int)))) (some (.v (.tup ((endW vs ps).map D.int)))) (some (.v (.lst ((ways n k).map wD)))) (some (.v (.int (cnt (ways n k) ws os : Nat)))) (some (.v (.lst [.int (A n k (dist ws os)), .int (A n k (dist ws os)), .int (A n k 0)]))) (some (.v (.tup (ps.map D.int)))) (some (.v (.int (t : Int)))) (some (.v (.lst (oddW n2 (1 + r10))))) a12 a13 a14 a15) (S1 := S10) ?s11 ?_
  case s11 =>
    exact set_ok (lst_ok (ds := oddW n2 (1 + r10)) (cons_ok ev_c (cons_ok (bin_ok (var_ok rfl) ev_c s_add) (cons_ok s_neg1 (cons_ok ev_c (cons_ok ev_c (cons_ok ev_c (cons_ok (tup_ok (cons_ok ev_c ev_nil) rfl (by simp)) (cons_ok (bin_ok ev_c (own_ok (a2v rfl rfl) rfl e11) s_add) ev_nil)))))))) rfl (by show 8 ≤ 16777216; decide))
  have hp20 : ps.length ≤ 20 := by omega
  have x1 : (fLst false (fCons (fVar 9) (fCons (fUn (sRev false) (fVar 9)) (fCons (fSl false (fVar 9) fNoP (fPart (fVar 10))) (fCons (fCall (sList false) (fCons (fVar 9) fNil)) (fCons (fC .non) (fCons (fTup fNil) (fCons (fBin (sAdd false) (fVar 9) (fVar 9)) fNil)))))))) (E1 a1 (some (.v (.int (n2 : Int)))) (some (.v (.int (k : Int)))) (some (.v (.tup (vs.map D.int)))) (some (.v (.tup ((endW vs ps).map D.int)))) (some (.v (.lst ((ways n k).map wD)))) (some (.v (.int (cnt (ways n k) ws os : Nat)))) (some (.v (.lst [.int (A n k (dist ws os)), .int (A n k (dist ws os)), .int (A n k 0)]))) (some (.v (.tup (ps.map D.int)))) (some (.v (.int (t : Int)))) (some (.v (.lst (oddW n2 (1 + r10))))) a12 a13 a14 a15) S10 = .ok (.v (.lst [.tup (ps.map D.int), .tup (ps.reverse.map D.int), .tup ((ps.take t).map D.int), .lst (ps.map D.int), .non, .tup [], .tup ((ps ++ ps).map D.int)])) S10 := by
    refine lst_ok (cons_ok (var_ok rfl) (cons_ok (un_ok (var_ok rfl) s_revT) (cons_ok (sl_ok (var_ok rfl) ev_nop (part_ok (var_ok rfl)) (by rw [s_slT, cut_take])) (cons_ok (call_ok (cons_ok (var_ok rfl) ev_nil) s_listT) (cons_ok ev_c (cons_ok (tup_ok ev_nil rfl (by simp)) (cons_ok (bin_ok (var_ok rfl) (var_ok rfl) (s_catT (okLen_of (by simp; omega)))) ev_nil))))))) ?_ (by simp)
    rw [List.map_reverse, List.map_take, List.map_append]; rfl
  have x2 : (fLc false [15] (fItS (fVar 11)) (.nm 15) fYes (fBin (sAdd false) (fBin (sAdd false) (fSl false (fVar 9) fNoP (fPart (fVar 10))) (fTup (fCons (fVar 15) fNil))) (fSl false (fVar 9) (fPart (fVar 10)) fNoP))) (E1 a1 (some (.v (.int (n2 : Int)))) (some (.v (.int (k : Int)))) (some (.v (.tup (vs.map D.int)))) (some (.v (.tup ((endW vs ps).map D.int)))) (some (.v (.lst ((ways n k).map wD)))) (some (.v (.int (cnt (ways n k) ws os : Nat)))) (some (.v (.lst [.int (A n k (dist ws os)), .int (A n k (dist ws os)), .int (A n k 0)]))) (some (.v (.tup (ps.map D.int)))) (some (.v (.int (t : Int)))) (some (.v (.lst (oddW n2 (1 + r10))))) a12 a13 a14 a15) S10 = .ok (.v (.lst ((oddW n2 (1 + r10)).map fun d => D.tup ((ps.map D.int).take t ++ [d] ++ (ps.map D.int).drop t)))) S10 := by
    refine lc_yes (m := false) (oddW n2 (1 + r10)) id (fun d => D.tup ((ps.map D.int).take t ++ [d] ++ (ps.map D.int).drop t)) (ds := oddW n2 (1 + r10)) (its_okL (var_ok rfl)) (List.map_id _).symm (by show 8 ≤ 16777216; decide) fun d hd => ⟨_, rfl, ?_⟩
    refine bin_ok (bin_ok (sl_ok (var_ok rfl) ev_nop (part_ok (var_ok rfl)) s_slT) (tup_ok (ds := [d]) (cons_ok (var_ok rfl) ev_nil) rfl (by simp)) (s_catT ?_)) (sl_ok (var_ok rfl) (part_ok (var_ok rfl)) ev_nop s_slT) ?_
    · refine okLen_of ?_
      rw [cut_take, List.length_take, List.length_map, List.length_singleton]; omega
    · rw [cut_take, cut_drop]
      refine s_catT (okLen_of ?_)
      simp only [List.length_append, List.length_take, List.length_drop, List.length_map, List.length_singleton]; omega
  refine ex_seq (env1 := E1 a1 (some (.v (.int (n2 : Int)))) (some (.v (.int (k : Int)))) (some (.v (.tup (vs.map D.int)))) (some (.v (.tup ((endW vs ps).map D.int)))) (some (.v (.lst ((ways n k).map wD)))) (some (.v (.int (cnt (ways n k) ws os : Nat)))) (some (.v (.lst [.int (A n k (dist ws os)), .int (A n k (dist ws os)), .int (A n k 0)]))) (some (.v (.tup (ps.map D.int)))) (some (.v (.int (t : Int)))) (some (.v (.lst (oddW n2 (1 + r10))))) (some (.v (.lst ([.tup (ps.map D.int), .tup (ps.reverse.map D.int), .tup ((ps.take t).map D.int), .lst (ps.map D.int), .non, .tup [], .tup ((ps ++ ps).map D.int)] ++ ((oddW n2 (1 + r10)).map fun d => D.tup ((ps.map D.int).take t ++ [d] ++ (ps.map D.int).drop t)))))) a13 a14 a15) (S1 := S10) ?s12 ?_
  case s12 =>
    exact set_ok (bin_ok x1 x2 (s_catL (okLen_of (by simp [oddW]))))
  have hx : 0 ≤ (400 - (ps.length : Int)).fdiv 2 ∧ (400 - (ps.length : Int)).fdiv 2 ≤ 200 := by rw [Int.fdiv_eq_ediv_of_nonneg _ (by omega)]; omega
  have hrl : (rep ((400 - (ps.length : Int)).fdiv 2) [(1 : Int), 1]).length ≤ 400 := by rw [rep_len2]; omega
  have hrl2 : (rep 200 [(1 : Int), 1]).length = 400 := by rw [rep_len2]; rfl
  have o11 : (fTup (fCons (fC (.int 1)) (fCons (fC (.int 1)) fNil))) (E1 a1 (some (.v (.int (n2 : Int)))) (some (.v (.int (k : Int)))) (some (.v (.tup (vs.map D.int)))) (some (.v (.tup ((endW vs ps).map D.int)))) (some (.v (.lst ((ways n k).map wD)))) (some (.v (.int (cnt (ways n k) ws os : Nat)))) (some (.v (.lst [.int (A n k (dist ws os)), .int (A n k (dist ws os)), .int (A n k 0)]))) (some (.v (.tup (ps.map D.int)))) (some (.v (.int (t : Int)))) (some (.v (.lst (oddW n2 (1 + r10))))) (some (.v (.lst ([.tup (ps.map D.int), .tup (ps.reverse.map D.int), .tup ((ps.take t).map D.int), .lst (ps.map D.int), .non, .tup [], .tup ((ps ++ ps).map D.int)] ++ ((oddW n2 (1 + r10)).map fun d => D.tup ((ps.map D.int).take t ++ [d] ++ (ps.map D.int).drop t)))))) a13 a14 a15) S10 = .ok (.v (.tup ([(1 : Int), 1].map D.int))) S10 := tup_ok (cons_ok ev_c (cons_ok ev_c ev_nil)) rfl (by simp)
  have y1 : (fBin (sAdd false) (fBin (sAdd false) (fSl false (fVar 9) fNoP (fPart (fVar 10))) (fTup (fCons (fVar 2) (fCons (fVar 2) fNil)))) (fSl false (fVar 9) (fPart (fVar 10)) fNoP)) (E1 a1 (some (.v (.int (n2 : Int)))) (some (.v (.int (k : Int)))) (some (.v (.tup (vs.map D.int)))) (some (.v (.tup ((endW vs ps).map D.int)))) (some (.v (.lst ((ways n k).map wD)))) (some (.v (.int (cnt (ways n k) ws os : Nat)))) (some (.v (.lst [.int (A n k (dist ws os)), .int (A n k (dist ws os)), .int (A n k 0)]))) (some (.v (.tup (ps.map D.int)))) (some (.v (.int (t : Int)))) (some (.v (.lst (oddW n2 (1 + r10))))) (some (.v (.lst ([.tup (ps.map D.int), .tup (ps.reverse.map D.int), .tup ((ps.take t).map D.int), .lst (ps.map D.int), .non, .tup [], .tup ((ps ++ ps).map D.int)] ++ ((oddW n2 (1 + r10)).map fun d => D.tup ((ps.map D.int).take t ++ [d] ++ (ps.map D.int).drop t)))))) a13 a14 a15) S10 = .ok (.v (.tup ((ps.take t ++ [(n2 : Int), (n2 : Int)] ++ ps.drop t).map D.int))) S10 := by
    have q : (ps.take t ++ [(n2 : Int), (n2 : Int)] ++ ps.drop t).map D.int = (ps.map D.int).take t ++ [(n2 : Int), (n2 : Int)].map D.int ++ (ps.map D.int).drop t := by simp only [List.map_append, List.map_take, List.map_drop]
    rw [q]
    refine bin_ok (bin_ok (sl_ok (var_ok rfl) ev_nop (part_ok (var_ok rfl)) s_slT) (tup_ok (ds := [(n2 : Int), (n2 : Int)].map D.int) (cons_ok (var_ok rfl) (cons_ok (var_ok rfl) ev_nil)) rfl (by simp)) (s_catT ?_)) (sl_ok (var_ok rfl) (part_ok (var_ok rfl)) ev_nop s_slT) ?_
    · refine okLen_of ?_
      rw [cut_take, List.length_take, List.length_map]; simp; omega
    · rw [cut_take, cut_drop]
      refine s_catT (okLen_of ?_)
      simp only [List.length_append, List.length_take, List.length_drop, List.length_map]; simp; omega
  have y2 : (fBin (sAdd false) (fVar 9) (fBin (sMul false) (fTup (fCons (fC (.int 1)) (fCons (fC (.int 1)) fNil))) (fBin sFdiv (fBin sSub (fC (.int 400)) (fCall sLen (fCons (fVar 9) fNil))) (fC (.int 2))))) (E1 a1 (some (.v (.int (n2 : Int)))) (some (.v (.int (k : Int)))) (some (.v (.tup (vs.map D.int)))) (some (.v (.tup ((endW vs ps).map D.int)))) (some (.v (.lst ((ways n k).map wD)))) (some (.v (.int (cnt (ways n k) ws os : Nat)))) (some (.v (.lst [.int (A n k (dist ws os)), .int (A n k (dist ws os)), .int (A n k 0)]))) (some (.v (.tup (ps.map D.int)))) (some (.v (.int (t : Int)))) (some (.v (.lst (oddW n2 (1 + r10))))) (some (.v (.lst ([.tup (ps.map D.int), .tup (ps.reverse.map D.int), .tup ((ps.take t).map D.int), .lst (ps.map D.int), .non, .tup [], .tup ((ps ++ ps).map D.int)] ++ ((oddW n2 (1 + r10)).map fun d => D.tup ((ps.map D.int).take t ++ [d] ++ (ps.map D.int).drop t)))))) a13 a14 a15) S10 = .ok (.v (.tup ((ps ++ rep ((400 - (ps.length : Int)).fdiv 2) [1, 1]).map D.int))) S10 := by
    have q : (ps ++ rep ((400 - (ps.length : Int)).fdiv 2) [1, 1]).map D.int = ps.map D.int ++ rep ((400 - (ps.length : Int)).fdiv 2) ([(1 : Int), 1].map D.int) := by rw [List.map_append, rep_map]
    rw [q]
    refine bin_ok (var_ok rfl) (bin_ok o11 (bin_ok (bin_ok ev_c (call_ok (cons_ok (var_ok rfl) ev_nil) (by rw [s_lenT, List.length_map])) s_sub) ev_c (s_fdiv (by decide))) (s_repT (okRep2 (by omega)))) (s_catT (okLen_of ?_))
    rw [rep_map, List.length_map, List.length_map]; omega
  have y3 : (fBin (sAdd false) (fBin (sAdd false) (fVar 9) (fBin (sMul false) (fTup (fCons (fC (.int 1)) (fCons (fC (.int 1)) fNil))) (fC (.int 200)))) (fTup (fCons (fC (.int 1)) (fCons (fC (.int 1)) fNil)))) (E1 a1 (some (.v (.int (n2 : Int)))) (some (.v (.int (k : Int)))) (some (.v (.tup (vs.map D.int)))) (some (.v (.tup ((endW vs ps).map D.int)))) (some (.v (.lst ((ways n k).map wD)))) (some (.v (.int (cnt (ways n k) ws os : Nat)))) (some (.v (.lst [.int (A n k (dist ws os)), .int (A n k (dist ws os)), .int (A n k 0)]))) (some (.v (.tup (ps.map D.int)))) (some (.v (.int (t : Int)))) (some (.v (.lst (oddW n2 (1 + r10))))) (some (.v (.lst ([.tup (ps.map D.int), .tup (ps.reverse.map D.int), .tup ((ps.take t).map D.int), .lst (ps.map D.int), .non, .tup [], .tup ((ps ++ ps).map D.int)] ++ ((oddW n2 (1 + r10)).map fun d => D.tup ((ps.map D.int).take t ++ [d] ++ (ps.map D.int).drop t)))))) a13 a14 a15) S10 = .ok (.v (.tup ((ps ++ rep 200 [1, 1] ++ [1, 1]).map D.int))) S10 := by
    have q : (ps ++ rep 200 [1, 1] ++ [1, 1]).map D.int = ps.map D.int ++ rep 200 ([(1 : Int), 1].map D.int) ++ [(1 : Int), 1].map D.int := by rw [List.map_append, List.map_append, rep_map]
    rw [q]
    refine bin_ok (bin_ok (var_ok rfl) (bin_ok o11 ev_c (s_repT (okRep2 (by omega)))) (s_catT (okLen_of ?_))) o11 (s_catT (okLen_of ?_))
    · rw [rep_map, List.length_map, List.length_map]; omega
    · rw [List.length_append, rep_map, List.length_map, List.length_map, List.length_map]; simp; omega
  refine ex_seq (env1 := E1 a1 (some (.v (.int (n2 : Int)))) (some (.v (.int (k : Int)))) (some (.v (.tup (vs.map D.int)))) (some (.v (.tup ((endW vs ps).map D.int)))) (some (.v (.lst ((ways n k).map wD)))) (some (.v (.int (cnt (ways n k) ws os : Nat)))) (some (.v (.lst [.int (A n k (dist ws os)), .int (A n k (dist ws os)), .int (A n k 0)]))) (some (.v (.tup (ps.map D.int)))) (some (.v (.int (t : Int)))) (some (.v (.lst (oddW n2 (1 + r10))))) (some (.v (.lst ([.tup (ps.map D.int), .tup (ps.reverse.map D.int), .tup ((ps.take t).map D.int), .lst (ps.map D.int), .non, .tup [], .tup ((ps ++ ps).map D.int)] ++ ((oddW n2 (1 + r10)).map fun d => D.tup ((ps.map D.int).take t ++ [d] ++ (ps.map D.int).drop t)) ++ [.tup ((ps.take t ++ [(n2 : Int), (n2 : Int)] ++ ps.drop t).map D.int), .tup ((ps ++ rep ((400 - (ps.length : Int)).fdiv 2) [1, 1]).map D.int), .tup ((ps ++ rep 200 [1, 1] ++ [1, 1]).map D.int)])))) a13 a14 a15) (S1 := S10) ?s13 ?_
  case s13 =>
    exact set_ok (bin_ok (var_ok rfl) (lst_ok (cons_ok y1 (cons_ok y2 (cons_ok y3 ev_nil))) rfl (by simp)) (s_catL (okLen_of (by simp [oddW]))))
  have hall : ∀ d ∈ ([.tup (ps.map D.int), .tup (ps.reverse.map D.int), .tup ((ps.take t).map D.int), .lst (ps.map D.int), .non, .tup [], .tup ((ps ++ ps).map D.int)] ++ ((oddW n2 (1 + r10)).map fun d => D.tup ((ps.map D.int).take t ++ [d] ++ (ps.map D.int).drop t)) ++ [.tup ((ps.take t ++ [(n2 : Int), (n2 : Int)] ++ ps.drop t).map D.int), .tup ((ps ++ rep ((400 - (ps.length : Int)).fdiv 2) [1, 1]).map D.int), .tup ((ps ++ rep 200 [1, 1] ++ [1, 1]).map D.int)] : List D), vOk d := by
    intro d hd
    rcases List.mem_append.mp hd with hd | hd
    · rcases List.mem_append.mp hd with hd | hd
      · simp only [List.mem_cons, List.not_mem_nil, or_false] at hd
        rcases hd with rfl | rfl | rfl | rfl | rfl | rfl | rfl
        · exact vOk_ints (by omega)
        · exact vOk_ints (by rw [List.length_reverse]; omega)
        · exact vOk_ints (by rw [List.length_take]; omega)
        · exact ⟨⟨by simp [D.pln, ints_pln], by have := ints_dep ps; simp [D.dep]; omega⟩, by simp [tupD]⟩
        · exact ⟨⟨by simp [D.pln], by simp [D.dep]⟩, by simp [tupD]⟩
        · exact vOk_ints (ns := []) (by simp)
        · exact vOk_ints (by rw [List.length_append]; omega)
      · obtain ⟨e, he, rfl⟩ := List.mem_map.mp hd
        exact vOk_odd (by omega) (oddW_ok e he)
    · simp only [List.mem_cons, List.not_mem_nil, or_false] at hd
      rcases hd with rfl | rfl | rfl
      · exact vOk_ints (by simp; omega)
      · exact vOk_ints (by rw [List.length_append]; omega)
      · exact vOk_ints (by rw [List.length_append, List.length_append, hrl2]; simp; omega)
  obtain ⟨o, ez⟩ := loopW hv hes hve hall (S := S10) (a1 := a1) (a2 := (some (.v (.int (n2 : Int))))) (a3 := (some (.v (.int (k : Int))))) (a6 := (some (.v (.lst ((ways n k).map wD))))) (a7 := (some (.v (.int (cnt (ways n k) ws os : Nat))))) (a8 := (some (.v (.lst [.int (A n k (dist ws os)), .int (A n k (dist ws os)), .int (A n k 0)])))) (a9 := (some (.v (.tup (ps.map D.int))))) (a10 := (some (.v (.int (t : Int))))) (a11 := (some (.v (.lst (oddW n2 (1 + r10)))))) (a12 := (some (.v (.lst ([.tup (ps.map D.int), .tup (ps.reverse.map D.int), .tup ((ps.take t).map D.int), .lst (ps.map D.int), .non, .tup [], .tup ((ps ++ ps).map D.int)] ++ ((oddW n2 (1 + r10)).map fun d => D.tup ((ps.map D.int).take t ++ [d] ++ (ps.map D.int).drop t)) ++ [.tup ((ps.take t ++ [(n2 : Int), (n2 : Int)] ++ ps.drop t).map D.int), .tup ((ps ++ rep ((400 - (ps.length : Int)).fdiv 2) [1, 1]).map D.int), .tup ((ps ++ rep 200 [1, 1] ++ [1, 1]).map D.int)]))))) (a13 := a13) (a14 := a14) (a15 := a15)
  exact ⟨_, _, (for_ok (its_okL (var_ok (by rfl)))).trans ez, hS10, _, _, _, _, _, _, _, _, _, _, _, _, _, _, _, rfl⟩
end Sg

namespace Sg
open PySem PySem.Spec PyProof.Rows L2
theorem way400 : wayOk [0] [0] (.tup ((rep 400 [1]).map D.int)) = true := by decide +kernel
theorem len400 : ((rep 400 [(1 : Int)]).map D.int).length ≤ 1000 := by decide +kernel
theorem vA1 : A 1 2 0 = 1 := by decide
theorem vA2 : A 2 2 0 = 2 := by decide
theorem okRep400 : okRep 400 1 = true := by decide
theorem rows03 {S : Sto} : m_law_rows_rightU [] S = .ok (.v (.bl true)) S := by
  have hw : isWord [0] := ⟨by decide, by decide, fun x hx => by rw [List.mem_singleton.mp hx]; exact .inl rfl⟩
  have e1 := is_way_ok hw hw rfl (v := .tup ((rep 400 [1]).map D.int)) (vg_tup_ints _) len400 (S := S)
  rw [way400] at e1
  have e2 := count_back_ok (n := 1) (k := 2) (by decide) (by decide) (S := S)
  rw [vA1] at e2
  have e3 := count_back_ok (n := 2) (k := 2) (by decide) (by decide) (S := S)
  rw [vA2] at e3
  have e4 := count_back_ok (n := 1) (k := 301) (by decide) (by decide) (S := S)
  rw [A_odd 1 301 0 (by decide)] at e4
  have r1 : (fBin (sMul false) (fTup (fCons (fC (.int 1)) fNil)) (fC (.int 400))) [none] S = .ok (.v (.tup ((rep 400 [1]).map D.int))) S := by
    rw [← rep_map]
    exact bin_ok (tup_ok (ds := [(1 : Int)].map D.int) (cons_ok ev_c ev_nil) rfl (by simp)) ev_c (s_repT okRep400)
  show wrap false 1 b_law_rows_rightU _ S = _
  rw [wrap_fin]
  have e0 : startE 1 [] = [none] := rfl
  rw [e0]
  unfold b_law_rows_rightU
  have s1 : (fTup (fCons (fOwn 3 m_is_way (fCons (fTup (fCons (fC (.int 0)) fNil)) (fCons (fTup (fCons (fC (.int 0)) fNil)) (fCons (fBin (sMul false) (fTup (fCons (fC (.int 1)) fNil)) (fC (.int 400))) fNil)))) (fCons (fOwn 2 m_count_back (fCons (fC (.int 1)) (fCons (fC (.int 2)) fNil))) (fCons (fOwn 2 m_count_back (fCons (fC (.int 2)) (fCons (fC (.int 2)) fNil))) (fCons (fOwn 2 m_count_back (fCons (fC (.int 1)) (fCons (fC (.int 301)) fNil))) fNil))))) [none] S = .ok (.v (.tup [.bl true, .int 1, .int 2, .int 0])) S :=
    tup_ok (cons_ok (own_ok (cons_ok (tup_ok (cons_ok ev_c ev_nil) rfl (by simp)) (cons_ok (tup_ok (cons_ok ev_c ev_nil) rfl (by simp)) (cons_ok r1 ev_nil))) rfl e1) (cons_ok (own_ok (cons_ok ev_c (cons_ok ev_c ev_nil)) rfl e2) (cons_ok (own_ok (cons_ok ev_c (cons_ok ev_c ev_nil)) rfl e3) (cons_ok (own_ok (cons_ok ev_c (cons_ok ev_c ev_nil)) rfl e4) ev_nil)))) rfl (by simp)
  exact (congrArg (fin false S.length) ((seq_nx (set_ok s1)).trans (ret_ok (same_own (d := .tup [.bl true, .int 1, .int 2, .int 0]) (var_ok (by rfl)) (tup_ok (cons_ok ev_c (cons_ok ev_c (cons_ok ev_c (cons_ok ev_c ev_nil)))) (by rfl) (by simp)) (by decide) (by decide))))).trans fin_rtS
theorem part_one_ok {S : Sto} (hS : CupOk S) : ∃ S', m_law_part_oneU [.ref 0] S = .ok (.v (.bl true)) S' ∧ CupOk S' := by
  obtain ⟨env', S', e1, hI⟩ := forD_any (t := .nm 1) (F := bodyOne) (ds := rngD 0 3) (env := E1 none none none none none none none none none none none none none none none) (S := S) I1
    ⟨hS, _, _, _, _, _, _, _, _, _, _, _, _, _, _, _, rfl⟩ fun d hd env S hI => by
      obtain ⟨hS, a1, a2, a3, a4, a5, a6, a7, a8, a9, a10, a11, a12, a13, a14, a15, rfl⟩ := hI
      exact ⟨_, rfl, bodyOne_ok ⟨hS, _, _, _, _, _, _, _, _, _, _, _, _, _, _, _, rfl⟩⟩
  have hS' := hI.1
  refine ⟨S', ?_, hS'⟩
  show wrap false 16 b_law_part_oneU _ S = _
  rw [wrap_fin]
  have e0 : startE 16 [Y.ref 0] = E1 none none none none none none none none none none none none none none none := rfl
  rw [e0]
  unfold b_law_part_oneU
  refine (congrArg (fin false S.length) ((seq_nx ((for_ok (i_rng1 (n := 3) (by decide) ev_c)).trans e1)).trans (ret_ok ev_c))).trans ?_
  rw [fin_rt, hS.len, ← hS'.len, List.take_length]
theorem part_two_ok {S : Sto} (hS : CupOk S) : ∃ S', m_law_part_twoU [.ref 0] S = .ok (.v (.bl true)) S' ∧ CupOk S' := by
  obtain ⟨env', S', e1, hI⟩ := forD_any (t := .nm 1) (F := bodyTwo) (ds := rngD 0 3) (env := E2 none none none none none none none none none none none) (S := S) I2
    ⟨hS, _, _, _, _, _, _, _, _, _, _, _, rfl⟩ fun d hd env S hI => by
      obtain ⟨hS, a1, a2, a3, a4, a5, a6, a7, a8, a9, a10, a11, rfl⟩ := hI
      exact ⟨_, rfl, bodyTwo_ok ⟨hS, _, _, _, _, _, _, _, _, _, _, _, rfl⟩⟩
  have hS' := hI.1
  refine ⟨S', ?_, hS'⟩
  show wrap false 12 b_law_part_twoU _ S = _
  rw [wrap_fin]
  have e0 : startE 12 [Y.ref 0] = E2 none none none none none none none none none none none := rfl
  rw [e0]
  unfold b_law_part_twoU
  refine (congrArg (fin false S.length) ((seq_nx ((for_ok (i_rng1 (n := 3) (by decide) ev_c)).trans e1)).trans (ret_ok ev_c))).trans ?_
  rw [fin_rt, hS.len, ← hS'.len, List.take_length]
theorem law_true : ∀ ns : List Int, ns.length ≤ 63 → m_law [.v (.scr (ns.map D.int))] [] = .ok (.v (.bl true)) [] := by
  intro ns hl
  obtain ⟨S0, e0, hS0⟩ := cup11 ns hl
  obtain ⟨S1, e1, hS1⟩ := part_one_ok hS0
  obtain ⟨S2, e2, hS2⟩ := part_two_ok hS1
  show wrap false 2 b_law _ [] = _
  rw [wrap_fin]
  unfold b_law
  have f1 : fSet 1 (fOwn 1 m_law_cupU (fCons (fVar 0) fNil)) (startE 2 [.v (.scr (ns.map D.int))]) [] = .nx [some (.v (.scr (ns.map D.int))), some (.ref 0)] S0 := set_ok (own_ok (cons_ok (var_ok rfl) ev_nil) rfl e0)
  have f2 : fAndV (fOwn 1 m_law_part_oneU (fCons (fVar 1) fNil)) (fOwn 1 m_law_part_twoU (fCons (fVar 1) fNil)) [some (.v (.scr (ns.map D.int))), some (.ref 0)] S0 = .ok (.v (.bl true)) S2 := by
    have g1 : fOwn 1 m_law_part_oneU (fCons (fVar 1) fNil) [some (.v (.scr (ns.map D.int))), some (.ref 0)] S0 = .ok (.v (.bl true)) S1 := own_ok (cons_ok (var_ok rfl) ev_nil) rfl e1
    have g2 : fOwn 1 m_law_part_twoU (fCons (fVar 1) fNil) [some (.v (.scr (ns.map D.int))), some (.ref 0)] S1 = .ok (.v (.bl true)) S2 := own_ok (cons_ok (var_ok rfl) ev_nil) rfl e2
    rw [ev_andV, g1]
    exact g2
  refine (congrArg (fin false 0) ((seq_nx f1).trans ((seq_nx (if_nx (nsame (own_ok ev_nil (by rfl) rows03)))).trans (ret_ok f2)))).trans ?_
  rw [fin_rt]; rfl
end Sg

open PySem PySem.W PyProof.Rows
set_option maxHeartbeats 0 in
theorem PySem.Challenge.cw_signway_k03_whole_ways_one_by_one_and_nu_holds : PySem.Challenge.rw_signway_k03_whole_ways_one_by_one_and_nu.Holds := by
  w_on; o_law; k_head; (case hw => w_witness2)
  k_fill
  refine L2.walk_of (l := PySem.Challenge.rw_signway_k03_whole_ways_one_by_one_and_nu) (n := 63) (k := 9) (x := "script") (CX := fun w => L2.CX Sg.Pw w) (sp := fun w => Sg.spL _ 63) rfl (by decide) rfl ⟨rfl, by decide, by decide⟩ (fun w h Y => PySem.W.kIn_of Y) ?F (fun _ _ a ns hl _ hS => ⟨a, ns, rfl, hS, hl, fun _ => rfl⟩) (fun _ _ _ _ _ h => Sg.noCX h)
  case F =>
    intro w mg fa h KX G hmg
    refine' Sg.all_mk Sg.law_true KX G hmg ?a0 ?l0 ?q0 ?k0 ?a1 ?l1 ?q1 ?k1 ?a2 ?l2 ?q2 ?k2 ?a3 ?l3 ?q3 ?k3 ?a4 ?l4 ?q4 ?k4 ?a5 ?l5 ?q5 ?k5 ?a6 ?l6 ?q6 ?k6 ?a7 ?l7 ?q7 ?k7 ?a8 ?l8 ?q8 ?k8 ?a9 ?l9 ?q9 ?k9 ?a10 ?l10 ?q10 ?k10 ?a11 ?l11 ?q11 ?k11 ?a12 ?l12 ?q12 ?k12 ?a13 ?l13 ?q13 ?k13 ?a14 ?l14 ?q14 ?k14 ?a15 ?l15 ?q15 ?k15 ?a16 ?l16 ?q16 ?k16 ?a17 ?l17 ?q17 ?k17 ?a18 ?l18 ?q18 ?k18 ?a19 ?l19 ?q19 ?k19 ?a20 ?l20 ?q20 ?k20 ?a21 ?l21 ?q21 ?k21 ?a22 ?l22 ?q22 ?k22 ?a23 ?l23 ?q23 ?k23 ?a24 ?l24 ?q24 ?k24 ?a25 ?l25 ?q25 ?k25 ?a26 ?l26 ?q26 ?k26 ?a27 ?l27 ?q27 ?k27 ?a28 ?l28 ?q28 ?k28 ?a29 ?l29 ?q29 ?k29 ?a30 ?l30 ?q30 ?k30 ?a31 ?l31 ?q31 ?k31 ?a32 ?l32 ?q32 ?k32 ?e_SIGNS ?e_STEPS ?z_len ?z_range ?z_isinstance ?z_abs ?z_sum ?z_min ?z_max ?z_all ?z_any ?z_sorted ?z_int ?z_str ?z_list ?z_tuple ?z_dict ?z_set ?z_zip ?z_enumerate ?z_bool ?z_type ?z_reversed ?z_super
    (case a0 => k_is)
    (case l0 => k_is)
    (case q0 => k_is)
    (case k0 => k_is)
    (case a1 => k_is)
    (case l1 => k_is)
    (case q1 => k_is)
    (case k1 => k_is)
    (case a2 => k_is)
    (case l2 => k_is)
    (case q2 => k_is)
    (case k2 => k_is)
    (case a3 => k_is)
    (case l3 => k_is)
    (case q3 => k_is)
    (case k3 => k_is)
    (case a4 => k_is)
    (case l4 => k_is)
    (case q4 => k_is)
    (case k4 => k_is)
    (case a5 => k_is)
    (case l5 => k_is)
    (case q5 => k_is)
    (case k5 => k_is)
    (case a6 => k_is)
    (case l6 => k_is)
    (case q6 => k_is)
    (case k6 => k_is)
    (case a7 => k_is)
    (case l7 => k_is)
    (case q7 => k_is)
    (case k7 => k_is)
    (case a8 => k_is)
    (case l8 => k_is)
    (case q8 => k_is)
    (case k8 => k_is)
    (case a9 => k_is)
    (case l9 => k_is)
    (case q9 => k_is)
    (case k9 => k_is)
    (case a10 => k_is)
    (case l10 => k_is)
    (case q10 => k_is)
    (case k10 => k_is)
    (case a11 => k_is)
    (case l11 => k_is)
    (case q11 => k_is)
    (case k11 => k_is)
    (case a12 => k_is)
    (case l12 => k_is)
    (case q12 => k_is)
    (case k12 => k_is)
    (case a13 => k_is)
    (case l13 => k_is)
    (case q13 => k_is)
    (case k13 => k_is)
    (case a14 => k_is)
    (case l14 => k_is)
    (case q14 => k_is)
    (case k14 => k_is)
    (case a15 => k_is)
    (case l15 => k_is)
    (case q15 => k_is)
    (case k15 => k_is)
    (case a16 => k_is)
    (case l16 => k_is)
    (case q16 => k_is)
    (case k16 => k_is)
    (case a17 => k_is)
    (case l17 => k_is)
    (case q17 => k_is)
    (case k17 => k_is)
    (case a18 => k_is)
    (case l18 => k_is)
    (case q18 => k_is)
    (case k18 => k_is)
    (case a19 => k_is)
    (case l19 => k_is)
    (case q19 => k_is)
    (case k19 => k_is)
    (case a20 => k_is)
    (case l20 => k_is)
    (case q20 => k_is)
    (case k20 => k_is)
    (case a21 => k_is)
    (case l21 => k_is)
    (case q21 => k_is)
    (case k21 => k_is)
    (case a22 => k_is)
    (case l22 => k_is)
    (case q22 => k_is)
    (case k22 => k_is)
    (case a23 => k_is)
    (case l23 => k_is)
    (case q23 => k_is)
    (case k23 => k_is)
    (case a24 => k_is)
    (case l24 => k_is)
    (case q24 => k_is)
    (case k24 => k_is)
    (case a25 => k_is)
    (case l25 => k_is)
    (case q25 => k_is)
    (case k25 => k_is)
    (case a26 => k_is)
    (case l26 => k_is)
    (case q26 => k_is)
    (case k26 => k_is)
    (case a27 => k_is)
    (case l27 => k_is)
    (case q27 => k_is)
    (case k27 => k_is)
    (case a28 => k_is)
    (case l28 => k_is)
    (case q28 => k_is)
    (case k28 => k_is)
    (case a29 => k_is)
    (case l29 => k_is)
    (case q29 => k_is)
    (case k29 => k_is)
    (case a30 => k_is)
    (case l30 => k_is)
    (case q30 => k_is)
    (case k30 => k_is)
    (case a31 => k_is)
    (case l31 => k_is)
    (case q31 => k_is)
    (case k31 => k_is)
    (case a32 => k_is)
    (case l32 => k_is)
    (case q32 => k_is)
    (case k32 => k_is)
    (case e_SIGNS => k_is)
    (case e_STEPS => k_is)
    (case z_len => k_is)
    (case z_range => k_is)
    (case z_isinstance => k_is)
    (case z_abs => k_is)
    (case z_sum => k_is)
    (case z_min => k_is)
    (case z_max => k_is)
    (case z_all => k_is)
    (case z_any => k_is)
    (case z_sorted => k_is)
    (case z_int => k_is)
    (case z_str => k_is)
    (case z_list => k_is)
    (case z_tuple => k_is)
    (case z_dict => k_is)
    (case z_set => k_is)
    (case z_zip => k_is)
    (case z_enumerate => k_is)
    (case z_bool => k_is)
    (case z_type => k_is)
    (case z_reversed => k_is)
    (case z_super => k_is)
