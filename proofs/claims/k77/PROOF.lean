import PyProof.Rows.All
import Wide.All
import OpenK.AllK
import Wide.FinOn
import HandS.ForExc
import HandS.Comp
import HandS.Flow
import HandS.IsInst
import HandS.Deep
import HandS.TupAny
import HandS.Wide
import HandS.SetKeys
import HandS.Sort
import HandS.Defaults
import HandS.Zip
import KE.GoesNew
import HandS.Style
import HandS.HeadEnd
import HandS.Dict
import HandS.More
import HandS.Star
import HandS.SortInts
import HandS.DictSub
import KE.SortData
import KE.KMathGC
import KE.DataFind
import KE.KStateDown
import Lean
import HandS.Base
import HandS.Call
import HandS.Ends
import HandS.Words
import HandS.WordsExc
import HandS.Head0
import HandS.Head1
import HandS.Head2
import HandS.Head3
import HandS.HeadHook1
import HandS.HeadHook2
import PySem.Challenge.RW_leadsums_k77_whole_first_hits
set_option Elab.async false
set_option linter.all false
set_option maxRecDepth 100000
set_option maxHeartbeats 0
section
set_option maxRecDepth 100000
set_option maxHeartbeats 2000000
namespace LS
open PySem PySem.Spec PyProof.Rows L2

/-! ## data, stores, outcomes -/
/-- values as data: scalars, names of the top, tuples and lists that stand still, the i-th moving object -/
inductive D where
  | non | bl (b : Bool) | int (i : Int) | str (s : Str) | ty (n : String) | glo (x : Str)
  | tup (xs : List D) | lst (xs : List D) | sq (xs : List D) | ref (i : Nat)
/-- moving objects -/
inductive MO where
  | lst (xs : List D)
  /-- a dict whose keys are ints and texts; the same while a loop walks it -/
  | dct (kvs : List (Key × D)) | lck (kvs : List (Key × D))
abbrev Store := List MO
abbrev Nv := List (Option D)
abbrev Pay := Option (Str × D)
/-- an expression's outcome -/
inductive RX (α : Type) where
  | ok (a : α) (st : Store) | exc (c : Str) (p : Pay) (st : Store) | stuck
/-- a statement's outcome -/
inductive RS where
  | nx (e : Nv) (st : Store) | rt (d : D) (st : Store) | bk (e : Nv) (st : Store) | ct (e : Nv) (st : Store) | exc (c : Str) (p : Pay) (e : Nv) (st : Store) | stuck
abbrev XM (α : Type) := Nv → Store → RX α
abbrev SM := Nv → Store → RS
@[reducible] def xpure {α : Type} (a : α) : XM α := fun _ st => .ok a st
def xbind {α β : Type} (m : XM α) (f : α → XM β) : XM β := fun e st => match m e st with
  | .ok a st' => f a e st'
  | .exc c p st' => .exc c p st'
  | .stuck => .stuck
/-- a value's operation that changes nothing -/
def xopt {α : Type} (o : Option α) : XM α := fun _ st => match o with
  | some a => .ok a st
  | none => .stuck

/-! ## what stands for what -/
section
variable (K : PySem.W.Frag) (mg : Str → Option Value)
mutual
inductive Rp (G : Hp) (as : List Addr) : V → D → Prop
  | non : Rp G as .non .non
  | bl (b : Bool) : Rp G as (.bl b) (.bl b)
  | int (i : Int) : Rp G as (.int i) (.int i)
  | str (x : Str) : Rp G as (.str x) (.str x)
  | ty (n : String) : Rp G as (.ty n) (.ty n)
  | glo (x : Str) (a : Addr) : mg x = some (.ref a) → Rp G as (.ref a) (.glo x)
  | tup {a : Addr} {vs : List V} {ds : List D} : SqT K G a vs → RpA G as vs ds → Rp G as (.ref a) (.tup ds)
  | lst {a : Addr} {vs : List V} {ds : List D} : G a = some (.lst vs) → RpA G as vs ds → Rp G as (.ref a) (.lst ds)
  | sq {a : Addr} {vs : List V} {ds : List D} : SqL K G a vs → RpA G as vs ds → Rp G as (.ref a) (.sq ds)
  | ref {a : Addr} {i : Nat} : as[i]? = some a → Rp G as (.ref a) (.ref i)
inductive RpA (G : Hp) (as : List Addr) : List V → List D → Prop
  | nil : RpA G as [] []
  | cons {v : V} {vs : List V} {d : D} {ds : List D} : Rp G as v d → RpA G as vs ds → RpA G as (v :: vs) (d :: ds)
end
/-- a moving object -/
inductive Ro (G : Hp) (as : List Addr) : HO → MO → Prop
  | lst {vs : List V} {ds : List D} : RpA K mg G as vs ds → Ro G as (.lst vs) (.lst ds)
  | dct {kvs : List (Key × V)} {kds : List (Key × D)} : kvs.map (·.1) = kds.map (·.1) → RpA K mg G as (kvs.map (·.2)) (kds.map (·.2)) → Ro G as (.dK kvs) (.dct kds)
  | lck {o : Obj} {kvs : List (Key × V)} {kds : List (Key × D)} : kvs.map (·.1) = kds.map (·.1) → RpA K mg G as (kvs.map (·.2)) (kds.map (·.2)) → Ro G as (.frz o (.dK kvs)) (.lck kds)
/-- the store -/
structure Ri (G H : Hp) (as : List Addr) (st : Store) : Prop where
  sub : ∀ a o, G a = some o → H a = some o
  len : as.length = st.length
  nd : as.Nodup
  out : ∀ a ∈ as, G a = none
  obj : ∀ (i : Nat) a o, as[i]? = some a → st[i]? = some o → ∃ ho, H a = some ho ∧ Ro K mg G as ho o
/-- the names -/
structure Rn (G : Hp) (as : List Addr) (σ : L2.St) (e : Nv) : Prop where
  len : σ.length = e.length
  at_ : ∀ (i : Nat) x, e[i]? = some (some x) → ∃ v, σ[i]? = some (some v) ∧ Rp K mg G as v x
end
/-- what comes later -/
structure Ext (G H : Hp) (as : List Addr) (G' H' : Hp) (as' : List Addr) : Prop where
  sub : ∀ a o, G a = some o → G' a = some o
  pre : as <+: as'
  keep : ∀ a o, H a = some o → a ∉ as → H' a = some o
  frG : ∀ a, G a = none → H a ≠ none → G' a = none
  frA : ∀ a ∈ as', a ∉ as → H a = none
  dom : ∀ a, H a ≠ none → H' a ≠ none
  lk : ∀ a o kvs, H a = some (.frz o (.dK kvs)) → H' a = some (.frz o (.dK kvs))

section
variable {K : PySem.W.Frag} {mg : Str → Option Value} {G H G' H' G1 H1 : Hp} {as as' as1 : List Addr} {σ : L2.St} {e : Nv} {st st' : Store}
theorem Ext.refl : Ext G H as G H as := ⟨fun _ _ h => h, List.prefix_refl _, fun _ _ h _ => h, fun _ h _ => h, fun a h h' => absurd h h', fun _ h => h, fun _ _ _ h => h⟩
theorem Ext.trans (a : Ext G H as G1 H1 as1) (b : Ext G1 H1 as1 G' H' as') : Ext G H as G' H' as' where
  sub := fun x o h => b.sub x o (a.sub x o h)
  pre := a.pre.trans b.pre
  keep := fun x o h n => by
    refine b.keep x o (a.keep x o h n) fun m => ?_
    have := a.frA x m n
    rw [h] at this; cases this
  frG := fun x g h => b.frG x (a.frG x g h) (a.dom x h)
  frA := fun x m n => by
    by_cases q : x ∈ as1
    · exact a.frA x q n
    · have h1 := b.frA x m q
      cases h : H x with
      | none => rfl
      | some o => exact absurd h1 (a.dom x (by rw [h]; exact fun z => nomatch z))
  dom := fun x h => b.dom x (a.dom x h)
  lk := fun x o kvs h => b.lk x o kvs (a.lk x o kvs h)
theorem sqL_sub (h : ∀ a o, G a = some o → G' a = some o) {a : Addr} {vs : List V} (s : SqL K G a vs) : SqL K G' a vs := by
  rcases s with (s | ⟨o, s⟩) | s
  · exact .inl (.inl (h _ _ s))
  · exact .inl (.inr ⟨o, h _ _ s⟩)
  · exact .inr s
theorem sqT_sub (h : ∀ a o, G a = some o → G' a = some o) {a : Addr} {vs : List V} (s : SqT K G a vs) : SqT K G' a vs := by
  rcases s with (s | ⟨o, s⟩) | s
  · exact .inl (.inl (h _ _ s))
  · exact .inl (.inr ⟨o, h _ _ s⟩)
  · exact .inr s
theorem pre_get {α : Type} {as as' : List α} (h : as <+: as') {i : Nat} {a : α} (q : as[i]? = some a) : as'[i]? = some a := by
  obtain ⟨t, rfl⟩ := h
  rw [List.getElem?_append_left (List.getElem?_eq_some_iff.mp q).1]
  exact q
mutual
theorem Rp.mono (hs : ∀ a o, G a = some o → G' a = some o) (hp : as <+: as') : ∀ {d : D} {v : V}, Rp K mg G as v d → Rp K mg G' as' v d
  | .non, _, h => by cases h; exact .non
  | .bl _, _, h => by cases h; exact .bl _
  | .int _, _, h => by cases h; exact .int _
  | .str _, _, h => by cases h; exact .str _
  | .ty _, _, h => by cases h; exact .ty _
  | .glo _, _, h => by cases h; rename_i a q; exact .glo _ _ q
  | .tup ds, _, h => by cases h with | tup s r => exact .tup (sqT_sub hs s) (RpA.mono hs hp r)
  | .lst ds, _, h => by cases h with | lst s r => exact .lst (hs _ _ s) (RpA.mono hs hp r)
  | .sq ds, _, h => by cases h with | sq s r => exact .sq (sqL_sub hs s) (RpA.mono hs hp r)
  | .ref i, _, h => by cases h with | ref q => exact .ref (pre_get hp q)
theorem RpA.mono (hs : ∀ a o, G a = some o → G' a = some o) (hp : as <+: as') : ∀ {ds : List D} {vs : List V}, RpA K mg G as vs ds → RpA K mg G' as' vs ds
  | [], _, h => by cases h; exact .nil
  | d :: ds, _, h => by cases h with | cons a b => exact .cons (Rp.mono hs hp a) (RpA.mono hs hp b)
end
theorem Rp.ext (x : Ext G H as G' H' as') {d : D} {v : V} (h : Rp K mg G as v d) : Rp K mg G' as' v d := h.mono x.sub x.pre
theorem RpA.ext (x : Ext G H as G' H' as') {d : List D} {v : List V} (h : RpA K mg G as v d) : RpA K mg G' as' v d := h.mono x.sub x.pre
theorem Rn.ext (x : Ext G H as G' H' as') (h : Rn K mg G as σ e) : Rn K mg G' as' σ e :=
  ⟨h.len, fun i d q => let ⟨v, a, r⟩ := h.at_ i d q; ⟨v, a, r.ext x⟩⟩
theorem Ro.ext (x : Ext G H as G' H' as') {ho : HO} {o : MO} (h : Ro K mg G as ho o) : Ro K mg G' as' ho o := by
  cases h with
  | lst r => exact .lst (r.ext x)
  | dct e r => exact .dct e (r.ext x)
  | lck e r => exact .lck e (r.ext x)
theorem RpA.len : ∀ {vs : List V} {ds : List D}, RpA K mg G as vs ds → vs.length = ds.length
  | _, _, .nil => rfl
  | _, _, .cons _ t => congrArg (· + 1) t.len
theorem RpA.get : ∀ {vs : List V} {ds : List D} {i : Nat} {d : D}, RpA K mg G as vs ds → ds[i]? = some d → ∃ v, vs[i]? = some v ∧ Rp K mg G as v d
  | _, _, _, _, .nil, h => by simp at h
  | _, _, 0, _, .cons r _, h => by simp at h; subst h; exact ⟨_, rfl, r⟩
  | _, _, i + 1, _, .cons _ t, h => by
    obtain ⟨v, a, b⟩ := t.get (i := i) (by simpa using h)
    exact ⟨v, by simpa using a, b⟩
theorem RpA.getV : ∀ {vs : List V} {ds : List D} {i : Nat} {v : V}, RpA K mg G as vs ds → vs[i]? = some v → ∃ d, ds[i]? = some d ∧ Rp K mg G as v d
  | _, _, _, _, .nil, h => by simp at h
  | _, _, 0, _, .cons r _, h => by simp at h; subst h; exact ⟨_, rfl, r⟩
  | _, _, i + 1, _, .cons _ t, h => by
    obtain ⟨v, a, b⟩ := t.getV (i := i) (by simpa using h)
    exact ⟨v, by simpa using a, b⟩
theorem RpA.append : ∀ {vs ws : List V} {ds es : List D}, RpA K mg G as vs ds → RpA K mg G as ws es → RpA K mg G as (vs ++ ws) (ds ++ es)
  | _, _, _, _, .nil, h => h
  | _, _, _, _, .cons r t, h => .cons r (t.append h)
theorem RpA.take : ∀ {vs : List V} {ds : List D} (n : Nat), RpA K mg G as vs ds → RpA K mg G as (vs.take n) (ds.take n)
  | _, _, 0, _ => .nil
  | _, _, _ + 1, .nil => .nil
  | _, _, n + 1, .cons r t => .cons r (t.take n)
theorem RpA.drop : ∀ {vs : List V} {ds : List D} (n : Nat), RpA K mg G as vs ds → RpA K mg G as (vs.drop n) (ds.drop n)
  | _, _, 0, h => h
  | _, _, _ + 1, .nil => .nil
  | _, _, n + 1, .cons r t => t.drop n
theorem RpA.set : ∀ {vs : List V} {ds : List D} (n : Nat) {v : V} {d : D}, RpA K mg G as vs ds → Rp K mg G as v d → RpA K mg G as (vs.set n v) (ds.set n d)
  | _, _, _, _, _, .nil, _ => .nil
  | _, _, 0, _, _, .cons _ t, q => .cons q t
  | _, _, n + 1, _, _, .cons r t, q => .cons r (t.set n q)
theorem RpA.reverse {vs : List V} {ds : List D} (h : RpA K mg G as vs ds) : RpA K mg G as vs.reverse ds.reverse := by
  induction vs generalizing ds with
  | nil => cases h; exact .nil
  | cons v vs ih =>
    cases h with
    | cons r t =>
      rw [List.reverse_cons, List.reverse_cons]
      exact (ih t).append (.cons r .nil)
theorem RpA.ints : ∀ (ns : List Int) {vs : List V}, RpA K mg G as vs (ns.map D.int) → vs = ns.map V.int
  | [], _, h => by cases h; rfl
  | n :: ns, _, h => by
    cases h with
    | cons r t =>
      cases r
      rw [RpA.ints ns t] <;> rfl
theorem RpA.of_ints : ∀ (ns : List Int), RpA K mg G as (ns.map V.int) (ns.map D.int)
  | [] => .nil
  | n :: ns => .cons (.int n) (RpA.of_ints ns)
theorem RpA.bls : ∀ (bs : List Bool) {vs : List V}, RpA K mg G as vs (bs.map D.bl) → vs = bs.map V.bl
  | [], _, h => by cases h; rfl
  | n :: ns, _, h => by
    cases h with
    | cons r t =>
      cases r
      rw [RpA.bls ns t] <;> rfl

/-- a new object that stands still -/
theorem Ri.still {p : Addr} {o : HO} (R : Ri K mg G H as st) (n : H p = none) : Ri K mg (upd G p o) (upd H p o) as st ∧ Ext G H as (upd G p o) (upd H p o) as := by
  have gn : G p = none := by
    cases q : G p with
    | none => rfl
    | some u => rw [R.sub _ _ q] at n; cases n
  have na : ∀ a ∈ as, a ≠ p := fun a ha z => by
    subst z
    obtain ⟨i, hi, e⟩ := List.getElem_of_mem ha
    have hi' : i < st.length := by rw [← R.len]; exact hi
    obtain ⟨ho, q, _⟩ := R.obj i a st[i] (by rw [List.getElem?_eq_getElem hi, e]) (List.getElem?_eq_getElem hi')
    rw [n] at q; cases q
  have x : Ext G H as (upd G p o) (upd H p o) as := by
    refine ⟨fun a u h => ?_, List.prefix_refl _, fun a u h _ => ?_, fun a g h => ?_, fun a h h' => absurd h h', fun a h => ?_, fun a u kvs h => by rw [upd_ne (ne_of_none h n)]; exact h⟩
    · rw [upd_ne (ne_of_none h gn)]; exact h
    · rw [upd_ne (ne_of_none h n)]; exact h
    · have : a ≠ p := fun z => by subst z; exact h n
      rw [upd_ne this]; exact g
    · by_cases z : a = p
      · subst z; rw [upd_same]; exact fun z => nomatch z
      · rw [upd_ne z]; exact h
  refine ⟨⟨fun a u h => ?_, R.len, R.nd, fun a ha => ?_, fun i a u ha hu => ?_⟩, x⟩
  · by_cases z : a = p
    · subst z; rw [upd_same] at h ⊢; exact h
    · rw [upd_ne z] at h ⊢; exact R.sub _ _ h
  · rw [upd_ne (na a ha)]; exact R.out a ha
  · obtain ⟨ho, q, r⟩ := R.obj i a u ha hu
    refine ⟨ho, ?_, r.ext x⟩
    rw [upd_ne (na a (List.mem_of_getElem? ha))]; exact q
/-- a new moving object -/
theorem Ri.moving {p : Addr} {o : HO} {m : MO} (R : Ri K mg G H as st) (n : H p = none) (r : Ro K mg G as o m) : Ri K mg G (upd H p o) (as ++ [p]) (st ++ [m]) ∧ Ext G H as G (upd H p o) (as ++ [p]) := by
  have gn : G p = none := by
    cases q : G p with
    | none => rfl
    | some u => rw [R.sub _ _ q] at n; cases n
  have na : ∀ a ∈ as, a ≠ p := fun a ha z => by
    subst z
    obtain ⟨i, hi, e⟩ := List.getElem_of_mem ha
    have hi' : i < st.length := by rw [← R.len]; exact hi
    obtain ⟨ho, q, _⟩ := R.obj i a st[i] (by rw [List.getElem?_eq_getElem hi, e]) (List.getElem?_eq_getElem hi')
    rw [n] at q; cases q
  have x : Ext G H as G (upd H p o) (as ++ [p]) := by
    refine ⟨fun _ _ h => h, List.prefix_append _ _, fun a u h _ => ?_, fun _ g _ => g, fun a h h' => ?_, fun a h => ?_, fun a u kvs h => by rw [upd_ne (ne_of_none h n)]; exact h⟩
    · rw [upd_ne (ne_of_none h n)]; exact h
    · rcases List.mem_append.mp h with h | h
      · exact absurd h h'
      · have : a = p := by simpa using h
        subst this; exact n
    · by_cases z : a = p
      · subst z; rw [upd_same]; exact fun z => nomatch z
      · rw [upd_ne z]; exact h
  refine ⟨⟨fun a u h => ?_, by simp [R.len], ?_, fun a ha => ?_, fun i a u ha hu => ?_⟩, x⟩
  · rw [upd_ne (ne_of_none h gn)]; exact R.sub _ _ h
  · rw [List.nodup_append]
    refine ⟨R.nd, by simp, fun a ha b hb => ?_⟩
    have : b = p := by simpa using hb
    rw [this]; exact na a ha
  · rcases List.mem_append.mp ha with ha | ha
    · exact R.out a ha
    · have : a = p := by simpa using ha
      subst this; exact gn
  · by_cases hi : i < as.length
    · rw [List.getElem?_append_left hi] at ha
      rw [List.getElem?_append_left (by rw [← R.len]; exact hi)] at hu
      obtain ⟨ho, q, r⟩ := R.obj i a u ha hu
      refine ⟨ho, ?_, r.ext x⟩
      rw [upd_ne (na a (List.mem_of_getElem? ha))]; exact q
    · rw [List.getElem?_append_right (by omega)] at ha
      rw [List.getElem?_append_right (by rw [← R.len]; omega)] at hu
      have h0 : i - as.length = 0 := by
        have := (List.getElem?_eq_some_iff.mp ha).1
        simp at this; omega
      have h1 : i - st.length = 0 := by rw [← R.len]; exact h0
      rw [h0] at ha; rw [h1] at hu
      simp at ha hu
      subst ha hu
      exact ⟨o, upd_same, r.ext x⟩
/-- a moving object changes -/
theorem Ri.change {i : Nat} {a : Addr} {o : HO} {m : MO} (R : Ri K mg G H as st) (ha : as[i]? = some a) (r : Ro K mg G as o m) (hz : ∀ u kvs, H a ≠ some (.frz u (.dK kvs))) : Ri K mg G (upd H a o) as (st.set i m) ∧ Ext G H as G (upd H a o) as := by
  have hm : a ∈ as := List.mem_of_getElem? ha
  have gn := R.out a hm
  refine ⟨⟨fun b u h => ?_, by simp [R.len], R.nd, R.out, fun j b u hb hu => ?_⟩, ⟨fun _ _ h => h, List.prefix_refl _, fun b u h n => ?_, fun _ g _ => g, fun b h h' => absurd h h', fun b h => ?_, fun b u kvs h => by
    have : b ≠ a := fun z => hz u kvs (z ▸ h)
    rw [upd_ne this]; exact h⟩⟩
  · rw [upd_ne (ne_of_none h gn)]; exact R.sub _ _ h
  · by_cases z : j = i
    · subst z
      rw [ha] at hb; cases hb
      have hj : j < st.length := by rw [← R.len]; exact (List.getElem?_eq_some_iff.mp ha).1
      rw [List.getElem?_set_self hj] at hu; cases hu
      exact ⟨o, upd_same, r⟩
    · rw [List.getElem?_set_ne (Ne.symm z)] at hu
      obtain ⟨ho, q, r'⟩ := R.obj j b u hb hu
      refine ⟨ho, ?_, r'⟩
      have : b ≠ a := fun z' => z (by
        subst z'
        obtain ⟨h1, e1⟩ := List.getElem?_eq_some_iff.mp hb
        obtain ⟨h2, e2⟩ := List.getElem?_eq_some_iff.mp ha
        exact (List.getElem_inj R.nd).mp (e1.trans e2.symm))
      rw [upd_ne this]; exact q
  · have : b ≠ a := fun z => n (z ▸ hm)
    rw [upd_ne this]; exact h
  · by_cases z : b = a
    · subst z; rw [upd_same]; exact fun z => nomatch z
    · rw [upd_ne z]; exact h
theorem Ri.at_ {i : Nat} {a : Addr} {m : MO} (R : Ri K mg G H as st) (ha : as[i]? = some a) (hm : st[i]? = some m) : ∃ ho, H a = some ho ∧ Ro K mg G as ho m := R.obj i a m ha hm
end

/-! ## what is wanted of an outcome -/
/-- an exception's value -/
def ExR (K : PySem.W.Frag) (mg : Str → Option Value) (G H : Hp) (as : List Addr) (c : Str) (p : Pay) (cls : Value) (d : Option Addr) : Prop :=
  mg c = some cls ∧ (∃ C, cls = .ref C) ∧ match p with
    | none => d = none
    | some (f, x) => ∃ dx v, d = some dx ∧ H dx = some (.xd [(f, v)]) ∧ dx ∉ as ∧ Rp K mg G as v x
def PX (K : PySem.W.Frag) (mg : Str → Option Value) (W : WX) (G H : Hp) (as : List Addr) (σ : L2.St) (r : RX D) (Q : VK) : Prop := match r with
  | .ok x st' => ∀ v G' H' as', Ri K mg G' H' as' st' → Ext G H as G' H' as' → Rp K mg G' as' v x → Q v H'
  | .exc c p st' => ∀ cls d G' H' as', Ri K mg G' H' as' st' → Ext G H as G' H' as' → ExR K mg G' H' as' c p cls d → W cls d σ H'
  | .stuck => False
def PXB (K : PySem.W.Frag) (mg : Str → Option Value) (W : WX) (G H : Hp) (as : List Addr) (σ : L2.St) (r : RX Bool) (Q : Bool → Hp → Prop) : Prop := match r with
  | .ok x st' => ∀ G' H' as', Ri K mg G' H' as' st' → Ext G H as G' H' as' → Q x H'
  | .exc c p st' => ∀ cls d G' H' as', Ri K mg G' H' as' st' → Ext G H as G' H' as' → ExR K mg G' H' as' c p cls d → W cls d σ H'
  | .stuck => False
def PXA (K : PySem.W.Frag) (mg : Str → Option Value) (W : WX) (G H : Hp) (as : List Addr) (σ : L2.St) (r : RX (List D)) (Q : List V → Hp → Prop) : Prop := match r with
  | .ok x st' => ∀ v G' H' as', Ri K mg G' H' as' st' → Ext G H as G' H' as' → RpA K mg G' as' v x → Q v H'
  | .exc c p st' => ∀ cls d G' H' as', Ri K mg G' H' as' st' → Ext G H as G' H' as' → ExR K mg G' H' as' c p cls d → W cls d σ H'
  | .stuck => False
def PS_ (K : PySem.W.Frag) (mg : Str → Option Value) (W : WX) (G H : Hp) (as : List Addr) (n : Nat) (r : RS) (E : Ends) : Prop := match r with
  | .nx e st' => ∀ σ' G' H' as', Ri K mg G' H' as' st' → Rn K mg G' as' σ' e → Ext G H as G' H' as' → E.nx σ' H'
  | .bk e st' => ∀ σ' G' H' as', Ri K mg G' H' as' st' → Rn K mg G' as' σ' e → Ext G H as G' H' as' → E.bk σ' H'
  | .ct e st' => ∀ σ' G' H' as', Ri K mg G' H' as' st' → Rn K mg G' as' σ' e → Ext G H as G' H' as' → E.ct σ' H'
  | .rt x st' => ∀ v G' H' as', Ri K mg G' H' as' st' → Ext G H as G' H' as' → Rp K mg G' as' v x → E.rt v H'
  | .exc c p e st' => ∀ σ' cls d G' H' as', Ri K mg G' H' as' st' → Rn K mg G' as' σ' e → Ext G H as G' H' as' → ExR K mg G' H' as' c p cls d → W cls d σ' H'
  | .stuck => False
end LS
end
section
set_option maxRecDepth 100000
set_option maxHeartbeats 2000000
namespace LS
open PySem PySem.Spec L2

/-! ## families of contexts, judgements -/
structure Gb where
  P : Program
  w : World
  K : PySem.W.Frag
  mg : Str → Option Value
  base : Heap
structure Fam (g : Gb) where
  k : Nat
  N : List Str
  sc : Scope
  nd : N.Nodup
  own : Str → Bool
  mem : WX → Cx → Prop
  prog : ∀ {W X}, mem W X → X.prog = g.P
  w : ∀ {W X}, mem W X → X.w = g.w
  hK : ∀ {W X}, mem W X → X.K = g.K
  hmg : ∀ {W X}, mem W X → X.mg = g.mg
  base : ∀ {W X}, mem W X → X.base = g.base
  hN : ∀ {W X}, mem W X → X.N = N
  hsc : ∀ {W X}, mem W X → X.env.scope = sc
  calm : ∀ {W X}, mem W X → X.calm = true
  room : ∀ {W X}, mem W X → Room k X.A
  takes : ∀ {W X}, mem W X → Takes X W
  pass : ∀ {W X}, mem W X → PassesOwn (model X.prog X.w) X.A X.env X.xe
  fn : ∀ {W X}, mem W X → ∀ x, own x = true → Loc sc x → X.fn x = true ∨ X.env.scope.names.lookup x = some .local

section
variable {g : Gb}
def SE (g : Gb) (t : WX → TE) (m : XM D) : Prop := ∀ (W : WX) (G H : Hp) (as : List Addr) (st : Store) (σ : L2.St) (e : Nv) (Q : VK), Ri g.K g.mg G H as st → Rn g.K g.mg G as σ e → PX g.K g.mg W G H as σ (m e st) Q → t W σ H Q
def ST (g : Gb) (t : WX → TT) (m : XM Bool) : Prop := ∀ (W : WX) (G H : Hp) (as : List Addr) (st : Store) (σ : L2.St) (e : Nv) (Q : Bool → Hp → Prop), Ri g.K g.mg G H as st → Rn g.K g.mg G as σ e → PXB g.K g.mg W G H as σ (m e st) Q → t W σ H Q
def SA (g : Gb) (t : WX → TA) (m : XM (List D)) : Prop := ∀ (W : WX) (G H : Hp) (as : List Addr) (st : Store) (σ : L2.St) (e : Nv) (Q : List V → Hp → Prop), Ri g.K g.mg G H as st → Rn g.K g.mg G as σ e → PXA g.K g.mg W G H as σ (m e st) Q → t W σ H Q
def SS (g : Gb) (t : WX → TS) (m : SM) : Prop := ∀ (W : WX) (G H : Hp) (as : List Addr) (st : Store) (σ : L2.St) (e : Nv) (E : Ends), Ri g.K g.mg G H as st → Rn g.K g.mg G as σ e → PS_ g.K g.mg W G H as e.length (m e st) E → t W E σ H
variable (F : Fam g)
def JE (ex : Expr) (m : XM D) : Prop := ∃ t : WX → TE, (∀ W X, F.mem W X → PE X ex (t W)) ∧ SE g t m
def JT (ex : Expr) (m : XM Bool) : Prop := ∃ t : WX → TT, (∀ W X, F.mem W X → PT X ex (t W)) ∧ ST g t m
def JA (ex : List Expr) (m : XM (List D)) : Prop := ∃ t : WX → TA, (∀ W X, F.mem W X → PA X ex (t W)) ∧ SA g t m
def JS (s : Stmt) (m : SM) : Prop := ∃ t : WX → TS, (∀ W X, F.mem W X → L2.PS X s (t W)) ∧ SS g t m
def JSs (s : List Stmt) (m : SM) : Prop := ∃ t : WX → TS, (∀ W X, F.mem W X → PSs X s (t W)) ∧ SS g t m
end

/-! ## carrying what is wanted -/
section
variable {K : PySem.W.Frag} {mg : Str → Option Value} {W : WX} {G H G1 H1 : Hp} {as as1 : List Addr} {σ : L2.St} {e : Nv} {st : Store} {n : Nat}
theorem PX.ext {r : RX D} {Q : VK} (h : PX K mg W G H as σ r Q) (x : Ext G H as G1 H1 as1) : PX K mg W G1 H1 as1 σ r Q := by
  cases r with
  | ok d st' => exact fun v G' H' as' R y => h v G' H' as' R (x.trans y)
  | exc c p st' => exact fun cls d G' H' as' R y => h cls d G' H' as' R (x.trans y)
  | stuck => exact h
theorem PXB.ext {r : RX Bool} {Q : Bool → Hp → Prop} (h : PXB K mg W G H as σ r Q) (x : Ext G H as G1 H1 as1) : PXB K mg W G1 H1 as1 σ r Q := by
  cases r with
  | ok d st' => exact fun G' H' as' R y => h G' H' as' R (x.trans y)
  | exc c p st' => exact fun cls d G' H' as' R y => h cls d G' H' as' R (x.trans y)
  | stuck => exact h
theorem PXA.ext {r : RX (List D)} {Q : List V → Hp → Prop} (h : PXA K mg W G H as σ r Q) (x : Ext G H as G1 H1 as1) : PXA K mg W G1 H1 as1 σ r Q := by
  cases r with
  | ok d st' => exact fun v G' H' as' R y => h v G' H' as' R (x.trans y)
  | exc c p st' => exact fun cls d G' H' as' R y => h cls d G' H' as' R (x.trans y)
  | stuck => exact h
theorem PS_.ext {r : RS} {E : Ends} (h : PS_ K mg W G H as n r E) (x : Ext G H as G1 H1 as1) : PS_ K mg W G1 H1 as1 n r E := by
  cases r with
  | nx e st' => exact fun σ G' H' as' R N y => h σ G' H' as' R N (x.trans y)
  | bk e st' => exact fun σ G' H' as' R N y => h σ G' H' as' R N (x.trans y)
  | ct e st' => exact fun σ G' H' as' R N y => h σ G' H' as' R N (x.trans y)
  | rt d st' => exact fun v G' H' as' R y => h v G' H' as' R (x.trans y)
  | exc c p e st' => exact fun σ cls d G' H' as' R N y => h σ cls d G' H' as' R N (x.trans y)
  | stuck => exact h
end
/-! the first part of a row of parts -/
section
variable {g : Gb} {W : WX} {G H : Hp} {as : List Addr} {σ : L2.St} {e : Nv} {st : Store}
theorem SE.one {t : WX → TE} {m : XM D} {f : D → XM D} {Q Q1 : VK} (s : SE g t m) (R : Ri g.K g.mg G H as st) (N : Rn g.K g.mg G as σ e) (h : PX g.K g.mg W G H as σ (xbind m f e st) Q)
    (k : ∀ x st1 v G1 H1 as1, Ri g.K g.mg G1 H1 as1 st1 → Ext G H as G1 H1 as1 → Rn g.K g.mg G1 as1 σ e → Rp g.K g.mg G1 as1 v x → PX g.K g.mg W G1 H1 as1 σ (f x e st1) Q → Q1 v H1) : t W σ H Q1 := by
  refine s W G H as st σ e Q1 R N ?_
  unfold xbind at h
  cases q : m e st with
  | ok x st1 =>
    rw [q] at h
    exact fun v G1 H1 as1 R1 X1 rv => k x st1 v G1 H1 as1 R1 X1 (N.ext X1) rv (PX.ext (r := f x e st1) h X1)
  | exc c p st1 => rw [q] at h; exact h
  | stuck => rw [q] at h; exact h.elim
theorem SE.oneA {t : WX → TE} {m : XM D} {f : D → XM (List D)} {Q : List V → Hp → Prop} {Q1 : VK} (s : SE g t m) (R : Ri g.K g.mg G H as st) (N : Rn g.K g.mg G as σ e) (h : PXA g.K g.mg W G H as σ (xbind m f e st) Q)
    (k : ∀ x st1 v G1 H1 as1, Ri g.K g.mg G1 H1 as1 st1 → Ext G H as G1 H1 as1 → Rn g.K g.mg G1 as1 σ e → Rp g.K g.mg G1 as1 v x → PXA g.K g.mg W G1 H1 as1 σ (f x e st1) Q → Q1 v H1) : t W σ H Q1 := by
  refine s W G H as st σ e Q1 R N ?_
  unfold xbind at h
  cases q : m e st with
  | ok x st1 =>
    rw [q] at h
    exact fun v G1 H1 as1 R1 X1 rv => k x st1 v G1 H1 as1 R1 X1 (N.ext X1) rv (PXA.ext (r := f x e st1) h X1)
  | exc c p st1 => rw [q] at h; exact h
  | stuck => rw [q] at h; exact h.elim
theorem SE.oneB {t : WX → TE} {m : XM D} {f : D → XM Bool} {Q : Bool → Hp → Prop} {Q1 : VK} (s : SE g t m) (R : Ri g.K g.mg G H as st) (N : Rn g.K g.mg G as σ e) (h : PXB g.K g.mg W G H as σ (xbind m f e st) Q)
    (k : ∀ x st1 v G1 H1 as1, Ri g.K g.mg G1 H1 as1 st1 → Ext G H as G1 H1 as1 → Rn g.K g.mg G1 as1 σ e → Rp g.K g.mg G1 as1 v x → PXB g.K g.mg W G1 H1 as1 σ (f x e st1) Q → Q1 v H1) : t W σ H Q1 := by
  refine s W G H as st σ e Q1 R N ?_
  unfold xbind at h
  cases q : m e st with
  | ok x st1 =>
    rw [q] at h
    exact fun v G1 H1 as1 R1 X1 rv => k x st1 v G1 H1 as1 R1 X1 (N.ext X1) rv (PXB.ext (r := f x e st1) h X1)
  | exc c p st1 => rw [q] at h; exact h
  | stuck => rw [q] at h; exact h.elim
theorem ST.one {t : WX → TT} {m : XM Bool} {f : Bool → XM D} {Q : VK} {Q1 : Bool → Hp → Prop} (s : ST g t m) (R : Ri g.K g.mg G H as st) (N : Rn g.K g.mg G as σ e) (h : PX g.K g.mg W G H as σ (xbind m f e st) Q)
    (k : ∀ x st1 G1 H1 as1, Ri g.K g.mg G1 H1 as1 st1 → Ext G H as G1 H1 as1 → Rn g.K g.mg G1 as1 σ e → PX g.K g.mg W G1 H1 as1 σ (f x e st1) Q → Q1 x H1) : t W σ H Q1 := by
  refine s W G H as st σ e Q1 R N ?_
  unfold xbind at h
  cases q : m e st with
  | ok x st1 =>
    rw [q] at h
    exact fun G1 H1 as1 R1 X1 => k x st1 G1 H1 as1 R1 X1 (N.ext X1) (PX.ext (r := f x e st1) h X1)
  | exc c p st1 => rw [q] at h; exact h
  | stuck => rw [q] at h; exact h.elim
theorem ST.oneB {t : WX → TT} {m : XM Bool} {f : Bool → XM Bool} {Q Q1 : Bool → Hp → Prop} (s : ST g t m) (R : Ri g.K g.mg G H as st) (N : Rn g.K g.mg G as σ e) (h : PXB g.K g.mg W G H as σ (xbind m f e st) Q)
    (k : ∀ x st1 G1 H1 as1, Ri g.K g.mg G1 H1 as1 st1 → Ext G H as G1 H1 as1 → Rn g.K g.mg G1 as1 σ e → PXB g.K g.mg W G1 H1 as1 σ (f x e st1) Q → Q1 x H1) : t W σ H Q1 := by
  refine s W G H as st σ e Q1 R N ?_
  unfold xbind at h
  cases q : m e st with
  | ok x st1 =>
    rw [q] at h
    exact fun G1 H1 as1 R1 X1 => k x st1 G1 H1 as1 R1 X1 (N.ext X1) (PXB.ext (r := f x e st1) h X1)
  | exc c p st1 => rw [q] at h; exact h
  | stuck => rw [q] at h; exact h.elim
theorem SA.one {t : WX → TA} {m : XM (List D)} {f : List D → XM D} {Q : VK} {Q1 : List V → Hp → Prop} (s : SA g t m) (R : Ri g.K g.mg G H as st) (N : Rn g.K g.mg G as σ e) (h : PX g.K g.mg W G H as σ (xbind m f e st) Q)
    (k : ∀ x st1 v G1 H1 as1, Ri g.K g.mg G1 H1 as1 st1 → Ext G H as G1 H1 as1 → Rn g.K g.mg G1 as1 σ e → RpA g.K g.mg G1 as1 v x → PX g.K g.mg W G1 H1 as1 σ (f x e st1) Q → Q1 v H1) : t W σ H Q1 := by
  refine s W G H as st σ e Q1 R N ?_
  unfold xbind at h
  cases q : m e st with
  | ok x st1 =>
    rw [q] at h
    exact fun v G1 H1 as1 R1 X1 rv => k x st1 v G1 H1 as1 R1 X1 (N.ext X1) rv (PX.ext (r := f x e st1) h X1)
  | exc c p st1 => rw [q] at h; exact h
  | stuck => rw [q] at h; exact h.elim
theorem SA.oneA {t : WX → TA} {m : XM (List D)} {f : List D → XM (List D)} {Q Q1 : List V → Hp → Prop} (s : SA g t m) (R : Ri g.K g.mg G H as st) (N : Rn g.K g.mg G as σ e) (h : PXA g.K g.mg W G H as σ (xbind m f e st) Q)
    (k : ∀ x st1 v G1 H1 as1, Ri g.K g.mg G1 H1 as1 st1 → Ext G H as G1 H1 as1 → Rn g.K g.mg G1 as1 σ e → RpA g.K g.mg G1 as1 v x → PXA g.K g.mg W G1 H1 as1 σ (f x e st1) Q → Q1 v H1) : t W σ H Q1 := by
  refine s W G H as st σ e Q1 R N ?_
  unfold xbind at h
  cases q : m e st with
  | ok x st1 =>
    rw [q] at h
    exact fun v G1 H1 as1 R1 X1 rv => k x st1 v G1 H1 as1 R1 X1 (N.ext X1) rv (PXA.ext (r := f x e st1) h X1)
  | exc c p st1 => rw [q] at h; exact h
  | stuck => rw [q] at h; exact h.elim

end
section
variable {K : PySem.W.Frag} {mg : Str → Option Value} {W : WX} {G H : Hp} {as : List Addr} {σ : L2.St} {st : Store}
/-- the end of a pure row -/
theorem PX.pure {d : D} {v : V} {Q : VK} (R : Ri K mg G H as st) (r : Rp K mg G as v d) (h : PX K mg W G H as σ (.ok d st) Q) : Q v H := h v G H as R Ext.refl r
/-- .. of a new thing that stands still -/
theorem PX.still {d : D} {Q : VK} {p : Addr} {o : HO} (R : Ri K mg G H as st) (n : H p = none) (r : Rp K mg (upd G p o) as (.ref p) d) (h : PX K mg W G H as σ (.ok d st) Q) : Q (.ref p) (upd H p o) :=
  let ⟨R', x⟩ := R.still (o := o) n; h _ _ _ as R' x r
end
end LS
end
section
set_option maxRecDepth 100000
set_option maxHeartbeats 2000000
namespace LS
open PySem PySem.Spec L2

def LIM : Nat := 1000000
theorem lim_le {n : Nat} (h : n ≤ LIM) : n ≤ sizeLine := Nat.le_trans h (by rw [sizeLine_eq]; decide)
theorem lim_lt {n : Nat} (h : n < LIM) : n < sizeLine := Nat.lt_of_lt_of_le h (by rw [sizeLine_eq]; decide)

/-! ## lists and rows -/
def lstOf (st : Store) : D → Option (List D)
  | .lst xs => some xs
  | .ref i => match st[i]? with
    | some (.lst xs) => some xs
    | _ => none
  | _ => none
def seqOf (st : Store) : D → Option (List D)
  | .tup xs => some xs
  | .sq xs => some xs
  | d => lstOf st d
section
variable {K : PySem.W.Frag} {mg : Str → Option Value} {G H : Hp} {as : List Addr} {st : Store} {v : V} {d : D} {xs : List D}
theorem sqL_H (R : Ri K mg G H as st) {a : Addr} {vs : List V} (h : SqL K G a vs) : SqL K H a vs := sqL_sub R.sub h
theorem sqT_H (R : Ri K mg G H as st) {a : Addr} {vs : List V} (h : SqT K G a vs) : SqT K H a vs := sqT_sub R.sub h
theorem lstOf_ok (R : Ri K mg G H as st) (r : Rp K mg G as v d) (h : lstOf st d = some xs) : ∃ a vs, v = .ref a ∧ H a = some (.lst vs) ∧ RpA K mg G as vs xs := by
  cases r with
  | lst s q =>
    have e : _ = xs := Option.some.inj h
    subst e
    exact ⟨_, _, rfl, R.sub _ _ s, q⟩
  | ref q =>
    rename_i a i
    unfold lstOf at h
    cases hs : st[i]? with
    | none => simp [hs] at h
    | some m =>
      cases m with
      | lst ys =>
        simp only [hs, Option.some.injEq] at h
        subst h
        obtain ⟨ho, e, o⟩ := R.at_ q hs
        cases o with | lst r => exact ⟨_, _, rfl, e, r⟩
      | _ => simp [hs] at h
  | _ => cases h
theorem seqOf_ok (R : Ri K mg G H as st) (r : Rp K mg G as v d) (h : seqOf st d = some xs) : ∃ a vs, v = .ref a ∧ (SqL K H a vs ∨ SqT K H a vs) ∧ RpA K mg G as vs xs := by
  cases r with
  | tup s q =>
    have e : _ = xs := Option.some.inj h
    subst e
    exact ⟨_, _, rfl, .inr (sqT_H R s), q⟩
  | sq s q =>
    have e : _ = xs := Option.some.inj h
    subst e
    exact ⟨_, _, rfl, .inl (sqL_H R s), q⟩
  | lst s q =>
    obtain ⟨a, vs, e, h1, h2⟩ := lstOf_ok R (Rp.lst s q) h
    exact ⟨a, vs, e, .inl (.of h1), h2⟩
  | ref q =>
    obtain ⟨a, vs, e, h1, h2⟩ := lstOf_ok R (Rp.ref q) h
    exact ⟨a, vs, e, .inl (.of h1), h2⟩
  | _ => cases h
end

/-! ## names and constants -/
section
variable {g : Gb} {F : Fam g} {pos : Pos}
def xvar (i : Nat) : XM D := fun e st => match e[i]? with
  | some (some d) => .ok d st
  | _ => .stuck
theorem je_var (i : Nat) {x : Str} (hN : F.N[i]? = some x) (hv : Vis F.sc x) (hd : (x == ("__debug__" : Str)) = false := by decide) (hcd : (x == ("__classdict__" : Str)) = false := by decide) : JE F (.Name x pos) (xvar i) := by
  refine ⟨fun _ => tVar i, fun W X m => pe_var (by rw [F.hN m]; exact hN) (by rw [F.hsc m]; exact hv) hd hcd, ?_⟩
  intro W G H as st σ e Q R N h
  unfold xvar at h
  split at h
  · rename_i d q
    obtain ⟨v, e1, r⟩ := N.at_ _ _ q
    exact ⟨v, e1, h.pure R r⟩
  · exact h.elim
theorem je_c {v : V} {d : D} {ex : Expr} (hp : ∀ X : Cx, PE X ex (tC v)) (hr : ∀ G as, Rp g.K g.mg G as v d) : JE F ex (xpure d) :=
  ⟨fun _ => tC v, fun _ X _ => hp X, fun W G H as st σ e Q R N h => h.pure R (hr G as)⟩
theorem je_int {i : Int} {j} : JE F (.Constant (.int i) j pos) (xpure (.int i)) := je_c (fun _ => pe_int) fun _ _ => .int i
theorem je_bl {b : Bool} {j} : JE F (.Constant (.bool b) j pos) (xpure (.bl b)) := je_c (fun _ => pe_bl) fun _ _ => .bl b
theorem je_non {j} : JE F (.Constant .none j pos) (xpure .non) := je_c (fun _ => pe_non) fun _ _ => .non
theorem je_str {x : Str} {j} : JE F (.Constant (.str x) j pos) (xpure (.str x)) := je_c (fun _ => pe_str) fun _ _ => .str x
theorem je_gint {x : Str} {i : Int} (hg : F.sc.names.lookup x = some .globalImplicit) (hm : ∃ t, g.mg x = some (.int i t)) (hd : (x == ("__debug__" : Str)) = false := by decide) : JE F (.Name x pos) (xpure (.int i)) := by
  obtain ⟨t, hm⟩ := hm
  refine ⟨fun _ => tC (.int i), fun W X m => pe_glob (u := .int i t) (by show X.env.scope.names.lookup x = _; rw [F.hsc m]; exact hg) (by rw [F.hmg m]; exact hm) ⟨t, rfl⟩ hd, ?_⟩
  exact fun W G H as st σ e Q R N h => h.pure R (.int i)
theorem je_gstr {x : Str} {z : Str} (hg : F.sc.names.lookup x = some .globalImplicit) (hm : ∃ t, g.mg x = some (.str z t)) (hd : (x == ("__debug__" : Str)) = false := by decide) : JE F (.Name x pos) (xpure (.str z)) := by
  obtain ⟨t, hm⟩ := hm
  refine ⟨fun _ => tC (.str z), fun W X m => pe_glob (u := .str z t) (by show X.env.scope.names.lookup x = _; rw [F.hsc m]; exact hg) (by rw [F.hmg m]; exact hm) ⟨t, rfl⟩ hd, ?_⟩
  exact fun W G H as st σ e Q R N h => h.pure R (.str z)
theorem je_gfn {x : Str} {a : Addr} (hg : F.sc.names.lookup x = some .globalImplicit) (hm : g.mg x = some (.ref a)) (hd : (x == ("__debug__" : Str)) = false := by decide) : JE F (.Name x pos) (xpure (.glo x)) := by
  refine ⟨fun _ => tC (.ref a), fun W X m => pe_glob (u := .ref a) (by show X.env.scope.names.lookup x = _; rw [F.hsc m]; exact hg) (by rw [F.hmg m]; exact hm) rfl hd, ?_⟩
  exact fun W G H as st σ e Q R N h => h.pure R (.glo x a hm)
/-- a built-in class by its name -/
theorem je_gty {x : Str} {n : String} (hg : F.sc.names.lookup x = some .globalImplicit) (hm : g.mg x = none) (hv : bootBuiltins x = some (.type n)) (hn : x ≠ "__name__" := by decide) (hd : (x == ("__debug__" : Str)) = false := by decide) : JE F (.Name x pos) (xpure (.ty n)) := by
  refine ⟨fun _ => tC (.ty n), fun W X m => pe_bltn (u := .type n) (by show X.env.scope.names.lookup x = _; rw [F.hsc m]; exact hg) (by rw [F.hmg m]; exact hm) hv rfl hn hd, ?_⟩
  exact fun W G H as st σ e Q R N h => h.pure R (.ty n)

/-! ## arguments, displays -/
theorem ja_nil : JA F [] (xpure []) := ⟨fun _ => tNil, fun _ _ _ => pa_nil, fun W G H as st σ e Q R N h => h [] G H as R Ext.refl .nil⟩
def xcons (m : XM D) (ms : XM (List D)) : XM (List D) := xbind m fun x => xbind ms fun xs => xpure (x :: xs)
theorem ja_cons {ex : Expr} {es : List Expr} {m : XM D} {ms : XM (List D)} (h : JE F ex m) (hs : JA F es ms) (hst : ∀ env, starEach (ex :: es) env = (false, eval ex env) :: starEach es env := by intro _; rfl) : JA F (ex :: es) (xcons m ms) := by
  obtain ⟨t, p, s⟩ := h
  obtain ⟨ts, ps, ss⟩ := hs
  refine ⟨fun W => tCons (t W) (ts W), fun W X m => pa_cons (p W X m) (ps W X m) (hst _), ?_⟩
  intro W G H as st σ e Q R N h
  refine s.oneA R N h fun x st1 v G1 H1 as1 R1 X1 N1 rv h1 => ?_
  refine ss.oneA R1 N1 h1 fun xs st2 vs G2 H2 as2 R2 X2 N2 rvs h2 => ?_
  exact h2 _ _ _ _ R2 Ext.refl (.cons (rv.ext X2) rvs)
def xtup (ms : XM (List D)) : XM D := xbind ms fun xs => fun _ st => if xs.length ≤ LIM then .ok (.tup xs) st else .stuck
theorem je_tup {es : List Expr} {k : Nat} {ms : XM (List D)} (hs : JA F es ms) : JE F (.Tuple es k pos) (xtup ms) := by
  obtain ⟨ts, ps, ss⟩ := hs
  refine ⟨fun W => tTup (ts W), fun W X m => pe_tup (ps W X m), ?_⟩
  intro W G H as st σ e Q R N h
  refine ss.one R N h fun xs st1 vs G1 H1 as1 R1 X1 N1 rv h1 => ?_
  by_cases hl : xs.length ≤ LIM
  · rw [if_pos hl] at h1
    refine ⟨by rw [rv.len]; exact lim_le hl, fun p hp => ?_⟩
    exact PX.still R1 hp (.tup (.inl (.inl upd_same)) (rv.ext (R1.still (o := .tup vs) hp).2)) h1
  · rw [if_neg hl] at h1; exact h1.elim
/-- a list that stands still from now on -/
def xlst (ms : XM (List D)) : XM D := xbind ms fun xs => fun _ st => if xs.length ≤ LIM then .ok (.lst xs) st else .stuck
theorem je_lst {es : List Expr} {ms : XM (List D)} (hs : JA F es ms) : JE F (.List es pos) (xlst ms) := by
  obtain ⟨ts, ps, ss⟩ := hs
  refine ⟨fun W => tLst (ts W), fun W X m => pe_lst (ps W X m), ?_⟩
  intro W G H as st σ e Q R N h
  refine ss.one R N h fun xs st1 vs G1 H1 as1 R1 X1 N1 rv h1 => ?_
  by_cases hl : xs.length ≤ LIM
  · rw [if_pos hl] at h1
    refine ⟨by rw [rv.len]; exact lim_le hl, fun p hp => ?_⟩
    exact PX.still R1 hp (.lst upd_same (rv.ext (R1.still (o := .lst vs) hp).2)) h1
  · rw [if_neg hl] at h1; exact h1.elim
/-- a list that will move -/
def xlstM (ms : XM (List D)) : XM D := xbind ms fun xs => fun _ st => if xs.length ≤ LIM then .ok (.ref st.length) (st ++ [.lst xs]) else .stuck
theorem je_lstM {es : List Expr} {ms : XM (List D)} (hs : JA F es ms) : JE F (.List es pos) (xlstM ms) := by
  obtain ⟨ts, ps, ss⟩ := hs
  refine ⟨fun W => tLst (ts W), fun W X m => pe_lst (ps W X m), ?_⟩
  intro W G H as st σ e Q R N h
  refine ss.one R N h fun xs st1 vs G1 H1 as1 R1 X1 N1 rv h1 => ?_
  by_cases hl : xs.length ≤ LIM
  · rw [if_pos hl] at h1
    refine ⟨by rw [rv.len]; exact lim_le hl, fun p hp => ?_⟩
    obtain ⟨R2, X2⟩ := R1.moving (o := .lst vs) hp (.lst rv)
    refine h1 _ _ _ _ R2 X2 (.ref ?_)
    rw [← R1.len, List.getElem?_append_right (Nat.le_refl _), Nat.sub_self]; rfl
  · rw [if_neg hl] at h1; exact h1.elim

/-! ## operators on values -/
def OpS (F : Fam g) (f : Value → Value → Sem Value) (fop : D → D → XM D) : Prop := ∃ r : R2, (∀ W X, F.mem W X → OpR X f r) ∧
  ∀ (W : WX) (G H : Hp) (as : List Addr) (st : Store) (σ : L2.St) (e : Nv) (x y : D) (v w : V) (Q : VK), Ri g.K g.mg G H as st → Rp g.K g.mg G as v x → Rp g.K g.mg G as w y → PX g.K g.mg W G H as σ (fop x y e st) Q → r v w H Q
def xop (fop : D → D → XM D) (ma mb : XM D) : XM D := xbind ma fun x => xbind mb fun y => fop x y
theorem je_op {a b : Expr} {op : Operator} {ma mb : XM D} {fop : D → D → XM D} (ho : OpS F (binaryOp op) fop) (ha : JE F a ma) (hb : JE F b mb) : JE F (.BinOp a op b pos) (xop fop ma mb) := by
  obtain ⟨r, hr, hv⟩ := ho
  obtain ⟨ta, pa, sa⟩ := ha
  obtain ⟨tb, pb, sb⟩ := hb
  refine ⟨fun W => tOp r (ta W) (tb W), fun W X m => pe_op (hr W X m) (pa W X m) (pb W X m), ?_⟩
  intro W G H as st σ e Q R N h
  refine sa.one R N h fun x st1 v G1 H1 as1 R1 X1 N1 rv h1 => ?_
  refine sb.one R1 N1 h1 fun y st2 w G2 H2 as2 R2 X2 N2 rw' h2 => ?_
  exact hv W G2 H2 as2 st2 σ e x y v w Q R2 (rv.ext X2) rw' h2
theorem je_cmp {a b : Expr} {op : CmpOp} {ma mb : XM D} {fop : D → D → XM D} (ho : OpS F (compareOp op) fop) (ha : JE F a ma) (hb : JE F b mb) (hm : behindInMarks op b = false) : JE F (.Compare a [op] [b] pos) (xop fop ma mb) := by
  obtain ⟨r, hr, hv⟩ := ho
  obtain ⟨ta, pa, sa⟩ := ha
  obtain ⟨tb, pb, sb⟩ := hb
  refine ⟨fun W => tOp r (ta W) (tb W), fun W X m => pe_cmpR (hr W X m) (pa W X m) (pb W X m) hm, ?_⟩
  intro W G H as st σ e Q R N h
  refine sa.one R N h fun x st1 v G1 H1 as1 R1 X1 N1 rv h1 => ?_
  refine sb.one R1 N1 h1 fun y st2 w G2 H2 as2 R2 X2 N2 rw' h2 => ?_
  exact hv W G2 H2 as2 st2 σ e x y v w Q R2 (rv.ext X2) rw' h2
/-- a bool asked for -/
def xbool (m : XM D) : XM Bool := xbind m fun x => fun _ st => match x with
  | .bl b => .ok b st
  | _ => .stuck
theorem SE.bool {t : WX → TE} {m : XM D} (s : SE g t m) : ST g (fun W => tTest (t W)) (xbool m) := by
  intro W G H as st σ e Q R N h
  refine s.oneB R N h fun x st1 v G1 H1 as1 R1 X1 N1 rv h1 => ?_
  cases rv with
  | bl b => exact ⟨b, rfl, h1 G1 H1 as1 R1 Ext.refl⟩
  | _ => exact h1.elim
theorem jt_cmp {a b : Expr} {op : CmpOp} {ma mb : XM D} {fop : D → D → XM D} (ho : OpS F (compareOp op) fop) (ha : JE F a ma) (hb : JE F b mb) (hm : behindInMarks op b = false) : JT F (.Compare a [op] [b] pos) (xbool (xop fop ma mb)) := by
  obtain ⟨r, hr, hv⟩ := ho
  obtain ⟨ta, pa, sa⟩ := ha
  obtain ⟨tb, pb, sb⟩ := hb
  refine ⟨fun W => tTest (tOp r (ta W) (tb W)), fun W X m => pt_cmpR (hr W X m) (pa W X m) (pb W X m) hm, SE.bool (t := fun W => tOp r (ta W) (tb W)) ?_⟩
  intro W G H as st σ e Q R N h
  refine sa.one R N h fun x st1 v G1 H1 as1 R1 X1 N1 rv h1 => ?_
  refine sb.one R1 N1 h1 fun y st2 w G2 H2 as2 R2 X2 N2 rw' h2 => ?_
  exact hv W G2 H2 as2 st2 σ e x y v w Q R2 (rv.ext X2) rw' h2
/-- a op b op' c -/
def xchain (f f' : D → D → XM D) (ma mb mc : XM D) : XM D := xbind ma fun x => xbind mb fun y => xbind (f x y) fun z => match z with
  | .bl true => xbind mc fun w => f' y w
  | .bl false => xpure (.bl false)
  | _ => fun _ _ => .stuck
theorem chain_SE {r r' : R2} {ta tb tc : WX → TE} {ma mb mc : XM D} {f f' : D → D → XM D}
    (hv : ∀ (W : WX) (G H : Hp) (as : List Addr) (st : Store) (σ : L2.St) (e : Nv) (x y : D) (v w : V) (Q : VK), Ri g.K g.mg G H as st → Rp g.K g.mg G as v x → Rp g.K g.mg G as w y → PX g.K g.mg W G H as σ (f x y e st) Q → r v w H Q)
    (hv' : ∀ (W : WX) (G H : Hp) (as : List Addr) (st : Store) (σ : L2.St) (e : Nv) (x y : D) (v w : V) (Q : VK), Ri g.K g.mg G H as st → Rp g.K g.mg G as v x → Rp g.K g.mg G as w y → PX g.K g.mg W G H as σ (f' x y e st) Q → r' v w H Q)
    (sa : SE g ta ma) (sb : SE g tb mb) (sc : SE g tc mc) : SE g (fun W => tChain r r' (ta W) (tb W) (tc W)) (xchain f f' ma mb mc) := by
  intro W G H as st σ e Q R N h
  refine sa.one R N h fun x st1 v G1 H1 as1 R1 X1 N1 rv h1 => ?_
  refine sb.one R1 N1 h1 fun y st2 w G2 H2 as2 R2 X2 N2 rw' h2 => ?_
  refine hv W G2 H2 as2 st2 σ e x y v w _ R2 (rv.ext X2) rw' ?_
  unfold xbind at h2
  cases q : f x y e st2 with
  | stuck => rw [q] at h2; exact h2.elim
  | exc c p st3 => rw [q] at h2; exact h2
  | ok z st3 =>
    rw [q] at h2
    intro u G3 H3 as3 R3 X3 ru
    cases ru with
    | bl b =>
      cases b with
      | false => exact ⟨false, rfl, iteF ((PX.ext (r := .ok (.bl false) st3) h2 X3).pure R3 (.bl false))⟩
      | true =>
        refine ⟨true, rfl, iteT ?_⟩
        have h3 : PX g.K g.mg W G3 H3 as3 σ (xbind mc (fun w => f' y w) e st3) Q := PX.ext (r := xbind mc (fun w => f' y w) e st3) h2 X3
        refine sc.one R3 ((N2.ext X3)) h3 fun w' st4 z' G4 H4 as4 R4 X4 N4 rz h4 => ?_
        exact hv' W G4 H4 as4 st4 σ e y w' w z' Q R4 ((rw'.ext X3).ext X4) rz h4
    | _ => exact h2.elim
theorem je_chain {a b c : Expr} {op op' : CmpOp} {ma mb mc : XM D} {f f' : D → D → XM D} (ho : OpS F (compareOp op) f) (ho' : OpS F (compareOp op') f') (ha : JE F a ma) (hb : JE F b mb) (hc : JE F c mc) (hm : lastMarks [op, op'] [b, c] = false := by with_unfolding_all rfl) :
    JE F (.Compare a [op, op'] [b, c] pos) (xchain f f' ma mb mc) := by
  obtain ⟨r, hr, hv⟩ := ho
  obtain ⟨r', hr', hv'⟩ := ho'
  obtain ⟨ta, pa, sa⟩ := ha
  obtain ⟨tb, pb, sb⟩ := hb
  obtain ⟨tc, pc, sc⟩ := hc
  exact ⟨fun W => tChain r r' (ta W) (tb W) (tc W), fun W X m => pe_chain (hr W X m) (hr' W X m) (pa W X m) (pb W X m) (pc W X m) hm, chain_SE hv hv' sa sb sc⟩
theorem jt_chain {a b c : Expr} {op op' : CmpOp} {ma mb mc : XM D} {f f' : D → D → XM D} (ho : OpS F (compareOp op) f) (ho' : OpS F (compareOp op') f') (ha : JE F a ma) (hb : JE F b mb) (hc : JE F c mc) (hm : lastMarks [op, op'] [b, c] = false := by with_unfolding_all rfl) :
    JT F (.Compare a [op, op'] [b, c] pos) (xbool (xchain f f' ma mb mc)) := by
  obtain ⟨r, hr, hv⟩ := ho
  obtain ⟨r', hr', hv'⟩ := ho'
  obtain ⟨ta, pa, sa⟩ := ha
  obtain ⟨tb, pb, sb⟩ := hb
  obtain ⟨tc, pc, sc⟩ := hc
  exact ⟨fun W => tTest (tChain r r' (ta W) (tb W) (tc W)), fun W X m => pt_chain (hr W X m) (hr' W X m) (pa W X m) (pb W X m) (pc W X m) hm, SE.bool (chain_SE hv hv' sa sb sc)⟩

/-! ## tests -/
/-- an expression as a test, by its truth -/
def truD (st : Store) : D → Option Bool
  | .non => some false
  | .bl b => some b
  | .int i => some (i != 0)
  | .str s => if s.length ≤ LIM then some ((s.length : Int) != 0) else none
  | d => (seqOf st d).map fun xs => !xs.isEmpty
def xtru (m : XM D) : XM Bool := xbind m fun x => fun _ st => match truD st x with
  | some b => .ok b st
  | none => .stuck
theorem isEmpty_rp {K : PySem.W.Frag} {mg : Str → Option Value} {G : Hp} {as : List Addr} {vs : List V} {xs : List D} (h : RpA K mg G as vs xs) : vs.isEmpty = xs.isEmpty := by cases h <;> rfl
theorem truD_ok {K : PySem.W.Frag} {mg : Str → Option Value} {G H : Hp} {as : List Addr} {st : Store} {v : V} {x : D} {b : Bool} (R : Ri K mg G H as st) (r : Rp K mg G as v x) (h : truD st x = some b) : TruV K v H b := by
  have sq : ∀ xs, seqOf st x = some xs → b = !xs.isEmpty → TruV K v H b := fun xs h1 e => by
    obtain ⟨a, vs, rfl, h2, h3⟩ := seqOf_ok R r h1
    rw [e, ← isEmpty_rp h3]
    rcases h2 with h2 | h2
    · exact .inl ⟨vs, h2, rfl⟩
    · exact .inr (.inl ⟨vs, h2, rfl⟩)
  have sq' : (seqOf st x).map (fun xs => !xs.isEmpty) = some b → TruV K v H b := fun h1 => by
    obtain ⟨xs, h2, h3⟩ := Option.map_eq_some_iff.mp h1
    exact sq xs h2 h3.symm
  cases r with
  | non => exact (Option.some.inj h).symm
  | bl b' => exact (Option.some.inj h).symm
  | int i => exact (Option.some.inj h).symm
  | str s =>
    unfold truD at h
    by_cases hl : s.length ≤ LIM
    · simp only [hl, if_true, Option.some.injEq] at h
      exact ⟨lim_le hl, h.symm⟩
    · simp [hl] at h
  | ty n => cases h
  | glo x a q => cases h
  | tup s q => exact sq' h
  | lst s q => exact sq' h
  | sq s q => exact sq' h
  | ref q => exact sq' h
theorem jt_tru {ex : Expr} {m : XM D} (h : JE F ex m) (he : ∀ env whole, isTrue ex env whole = (do let v ← whole; standAt ex.pos; holding [v] (truthy v)) := by intro _ _; rfl) : JT F ex (xtru m) := by
  obtain ⟨t, p, s⟩ := h
  refine ⟨fun W => fun σ H Q => t W σ H fun x H' => ∃ k, TruV g.K x H' k ∧ Q k H', fun W X m => by have := pt_truth (p W X m) (he _); rw [F.hK m] at this; exact this, ?_⟩
  intro W G H as st σ e Q R N h
  refine s.oneB R N h fun x st1 v G1 H1 as1 R1 X1 N1 rv h1 => ?_
  cases q : truD st1 x with
  | none => simp [q] at h1; exact h1.elim
  | some b =>
    simp only [q] at h1
    exact ⟨b, truD_ok R1 rv q, h1 _ _ _ R1 Ext.refl⟩
def tnot (m : XM Bool) : XM Bool := xbind m fun b => xpure (!b)
theorem jt_not {a : Expr} {m : XM Bool} (h : JT F a m) : JT F (.UnaryOp .Not a pos) (tnot m) := by
  obtain ⟨t, p, s⟩ := h
  refine ⟨fun W => tNot (t W), fun W X m => pt_not (p W X m), ?_⟩
  intro W G H as st σ e Q R N h
  refine s.oneB R N h fun b st1 G1 H1 as1 R1 X1 N1 h1 => ?_
  exact h1 _ _ _ R1 Ext.refl
def tand (m n : XM Bool) : XM Bool := xbind m fun b => if b = true then n else xpure false
def tor (m n : XM Bool) : XM Bool := xbind m fun b => if b = true then xpure true else n
/-- a row of and | or as a test -/
def JW (F : Fam g) (ex : Expr) (m : XM Bool) : Prop := ∃ t : WX → TT, (∀ W X, F.mem W X → PW X ex (t W)) ∧ ST g t m
theorem JW.jt {ex : Expr} {m : XM Bool} (h : JW F ex m) : JT F ex m := let ⟨t, p, s⟩ := h; ⟨t, fun W X m => (p W X m).pt, s⟩
theorem jw_and1 {a : Expr} {m : XM Bool} (h : JT F a m) : JW F (.BoolOp .And [a] pos) m := let ⟨t, p, s⟩ := h; ⟨t, fun W X m => pw_and1 (p W X m), s⟩
theorem jw_or1 {a : Expr} {m : XM Bool} (h : JT F a m) : JW F (.BoolOp .Or [a] pos) m := let ⟨t, p, s⟩ := h; ⟨t, fun W X m => pw_or1 (p W X m), s⟩
theorem jw_and {a b : Expr} {rest : List Expr} {m n : XM Bool} (h : JT F a m) (h' : JW F (.BoolOp .And (b :: rest) pos) n) : JW F (.BoolOp .And (a :: b :: rest) pos) (tand m n) := by
  obtain ⟨t, p, s⟩ := h
  obtain ⟨t', p', s'⟩ := h'
  refine ⟨fun W => tAnd (t W) (t' W), fun W X m => pw_and (p W X m) (p' W X m), ?_⟩
  intro W G H as st σ e Q R N h
  refine s.oneB R N h fun b st1 G1 H1 as1 R1 X1 N1 h1 => ?_
  cases b with
  | true => exact iteT (s' W G1 H1 as1 st1 σ e Q R1 N1 h1)
  | false => exact iteF (h1 _ _ _ R1 Ext.refl)
theorem jw_or {a b : Expr} {rest : List Expr} {m n : XM Bool} (h : JT F a m) (h' : JW F (.BoolOp .Or (b :: rest) pos) n) : JW F (.BoolOp .Or (a :: b :: rest) pos) (tor m n) := by
  obtain ⟨t, p, s⟩ := h
  obtain ⟨t', p', s'⟩ := h'
  refine ⟨fun W => tOr (t W) (t' W), fun W X m => pw_or (p W X m) (p' W X m), ?_⟩
  intro W G H as st σ e Q R N h
  refine s.oneB R N h fun b st1 G1 H1 as1 R1 X1 N1 h1 => ?_
  cases b with
  | true => exact iteT (h1 _ _ _ R1 Ext.refl)
  | false => exact iteF (s' W G1 H1 as1 st1 σ e Q R1 N1 h1)

/-! ## and, or, not as values; a if t else b -/
theorem je_one {a : Expr} {op} {m : XM D} (h : JE F a m) : JE F (.BoolOp op [a] pos) m := let ⟨t, p, s⟩ := h; ⟨t, fun W X m => pe_one (p W X m), s⟩
def xand (m n : XM D) : XM D := xbind m fun x => fun e st => match truD st x with
  | some true => n e st
  | some false => .ok x st
  | none => .stuck
def xor' (m n : XM D) : XM D := xbind m fun x => fun e st => match truD st x with
  | some false => n e st
  | some true => .ok x st
  | none => .stuck
theorem je_and {a b : Expr} {rest : List Expr} {m n : XM D} (h : JE F a m) (h' : JE F (.BoolOp .And (b :: rest) pos) n) : JE F (.BoolOp .And (a :: b :: rest) pos) (xand m n) := by
  obtain ⟨t, p, s⟩ := h
  obtain ⟨t', p', s'⟩ := h'
  refine ⟨fun W => tAndT g.K (t W) (t' W), fun W X m => by have := pe_andT (p W X m) (p' W X m); rw [F.hK m] at this; exact this, ?_⟩
  intro W G H as st σ e Q R N h
  refine s.one R N h fun x st1 v G1 H1 as1 R1 X1 N1 rv h1 => ?_
  cases q : truD st1 x with
  | none => simp [q] at h1; exact h1.elim
  | some b =>
    refine ⟨b, truD_ok R1 rv q, ?_⟩
    cases b with
    | true => exact iteT (s' W G1 H1 as1 st1 σ e Q R1 N1 (by simpa only [q] using h1))
    | false => exact iteF (PX.pure R1 rv (σ := σ) (W := W) (by simpa only [q] using h1))
theorem je_or {a b : Expr} {rest : List Expr} {m n : XM D} (h : JE F a m) (h' : JE F (.BoolOp .Or (b :: rest) pos) n) : JE F (.BoolOp .Or (a :: b :: rest) pos) (xor' m n) := by
  obtain ⟨t, p, s⟩ := h
  obtain ⟨t', p', s'⟩ := h'
  refine ⟨fun W => tOrT g.K (t W) (t' W), fun W X m => by have := pe_orT (p W X m) (p' W X m); rw [F.hK m] at this; exact this, ?_⟩
  intro W G H as st σ e Q R N h
  refine s.one R N h fun x st1 v G1 H1 as1 R1 X1 N1 rv h1 => ?_
  cases q : truD st1 x with
  | none => simp [q] at h1; exact h1.elim
  | some b =>
    refine ⟨b, truD_ok R1 rv q, ?_⟩
    cases b with
    | false => exact iteF (s' W G1 H1 as1 st1 σ e Q R1 N1 (by simpa only [q] using h1))
    | true => exact iteT (PX.pure R1 rv (σ := σ) (W := W) (by simpa only [q] using h1))
def xnot (m : XM D) : XM D := xbind m fun x => fun _ st => match truD st x with
  | some b => .ok (.bl (!b)) st
  | none => .stuck
theorem je_not {a : Expr} {m : XM D} (h : JE F a m) : JE F (.UnaryOp .Not a pos) (xnot m) := by
  obtain ⟨t, p, s⟩ := h
  refine ⟨fun W => tNotT g.K (t W), fun W X m => by have := pe_notT (pos := pos) (p W X m); rw [F.hK m] at this; exact this, ?_⟩
  intro W G H as st σ e Q R N h
  refine s.one R N h fun x st1 v G1 H1 as1 R1 X1 N1 rv h1 => ?_
  cases q : truD st1 x with
  | none => simp [q] at h1; exact h1.elim
  | some b => exact ⟨b, truD_ok R1 rv q, PX.pure R1 (.bl (!b)) (σ := σ) (W := W) (by simpa only [q] using h1)⟩
def xif (c : XM Bool) (m n : XM D) : XM D := xbind c fun b => if b = true then m else n
theorem je_if {c a b : Expr} {mc : XM Bool} {m n : XM D} (hc : JT F c mc) (ha : JE F a m) (hb : JE F b n) : JE F (.IfExp c a b pos) (xif mc m n) := by
  obtain ⟨tc, pc, sc⟩ := hc
  obtain ⟨ta, pa, sa⟩ := ha
  obtain ⟨tb, pb, sb⟩ := hb
  refine ⟨fun W => tIf (tc W) (ta W) (tb W), fun W X m => pe_ifExp (pc W X m) (pa W X m) (pb W X m), ?_⟩
  intro W G H as st σ e Q R N h
  refine sc.one R N h fun b st1 G1 H1 as1 R1 X1 N1 h1 => ?_
  cases b with
  | true => exact iteT (sa W G1 H1 as1 st1 σ e Q R1 N1 h1)
  | false => exact iteF (sb W G1 H1 as1 st1 σ e Q R1 N1 h1)
/-- a minus ahead -/
def xneg (m : XM D) : XM D := xbind m fun x => fun _ st => match x with
  | .int i => .ok (.int (-i)) st
  | _ => .stuck
theorem je_neg {a : Expr} {m : XM D} (h : JE F a m) : JE F (.UnaryOp .USub a pos) (xneg m) := by
  obtain ⟨t, p, s⟩ := h
  refine ⟨fun W => tUn (rU fun i => .int (-i)) (t W), fun W X m => pe_un un_neg (p W X m), ?_⟩
  intro W G H as st σ e Q R N h
  refine s.one R N h fun x st1 v G1 H1 as1 R1 X1 N1 rv h1 => ?_
  cases rv with
  | int i => exact ⟨i, rfl, PX.pure R1 (.int (-i)) h1⟩
  | _ => exact h1.elim
end
end LS
end
section
set_option maxRecDepth 100000
set_option maxHeartbeats 2000000
namespace LS
open PySem PySem.Spec L2

/-! ## data as the library's data -/
mutual
def pyD : D → Option PyData
  | .non => some .none
  | .bl b => some (.bool b)
  | .int i => some (.int i)
  | .str s => some (.str s)
  | .tup xs => (pyDs xs).map .tuple
  | .lst xs => (pyDs xs).map .list
  | .sq xs => (pyDs xs).map .list
  | _ => none
def pyDs : List D → Option (List PyData)
  | [] => some []
  | d :: ds => match pyD d, pyDs ds with
    | some p, some ps => some (p :: ps)
    | _, _ => none
end
def pyOf (st : Store) : D → Option PyData
  | .ref i => match st[i]? with
    | some (.lst xs) => (pyDs xs).map .list
    | _ => none
  | d => pyD d
section
variable {K : PySem.W.Frag} {mg : Str → Option Value} {G H : Hp} {as : List Addr} {st : Store}
mutual
theorem pyD_ok (R : Ri K mg G H as st) : ∀ {d : D} {v : V} {p : PyData}, Rp K mg G as v d → pyD d = some p → Dp K H v p
  | .non, _, _, r, h => by cases r; cases h; exact .non
  | .bl _, _, _, r, h => by cases r; cases h; exact .bl _
  | .int _, _, _, r, h => by cases r; cases h; exact .int _
  | .str _, _, _, r, h => by cases r; cases h; exact .str _
  | .ty _, _, _, _, h => by cases h
  | .glo _, _, _, _, h => by cases h
  | .ref _, _, _, _, h => by cases h
  | .tup xs, _, _, r, h => by
    cases r with
    | tup s q =>
      obtain ⟨ps, e, rfl⟩ := Option.map_eq_some_iff.mp (show (pyDs xs).map PyData.tuple = some _ from h)
      exact .tup (sqT_H R s) (pyDs_ok R q e)
  | .lst xs, _, _, r, h => by
    cases r with
    | lst s q =>
      obtain ⟨ps, e, rfl⟩ := Option.map_eq_some_iff.mp (show (pyDs xs).map PyData.list = some _ from h)
      exact .lst (.of (R.sub _ _ s)) (pyDs_ok R q e)
  | .sq xs, _, _, r, h => by
    cases r with
    | sq s q =>
      obtain ⟨ps, e, rfl⟩ := Option.map_eq_some_iff.mp (show (pyDs xs).map PyData.list = some _ from h)
      exact .lst (sqL_H R s) (pyDs_ok R q e)
theorem pyDs_ok (R : Ri K mg G H as st) : ∀ {ds : List D} {vs : List V} {ps : List PyData}, RpA K mg G as vs ds → pyDs ds = some ps → DpAll K H vs ps
  | [], _, _, r, h => by cases r; cases h; exact .nil
  | d :: ds, _, _, r, h => by
    cases r with
    | cons a b =>
      unfold pyDs at h
      split at h
      · rename_i p qs e1 e2
        cases h
        exact .cons (pyD_ok R a e1) (pyDs_ok R b e2)
      · cases h
end
theorem pyOf_ok (R : Ri K mg G H as st) {d : D} {v : V} {p : PyData} (r : Rp K mg G as v d) (h : pyOf st d = some p) : Dp K H v p := by
  cases r with
  | ref q =>
    rename_i a i
    unfold pyOf at h
    cases hs : st[i]? with
    | none => simp [hs] at h
    | some m =>
      cases m with
      | lst ys =>
        simp only [hs] at h
        obtain ⟨ps, e, rfl⟩ := Option.map_eq_some_iff.mp h
        obtain ⟨ho, e1, o⟩ := R.at_ q hs
        cases o with | lst r' => exact .lst (.of e1) (pyDs_ok R r' e)
      | _ => simp [hs] at h
  | non => exact pyD_ok R .non h
  | bl b => exact pyD_ok R (.bl b) h
  | int i => exact pyD_ok R (.int i) h
  | str i => exact pyD_ok R (.str i) h
  | ty n => cases h
  | glo x a q => cases h
  | tup s q => exact pyD_ok R (.tup s q) h
  | lst s q => exact pyD_ok R (.lst s q) h
  | sq s q => exact pyD_ok R (.sq s q) h
end
def intsOf : List D → Option (List Int)
  | [] => some []
  | .int i :: r => (intsOf r).map (i :: ·)
  | _ => none
def blsOf : List D → Option (List Bool)
  | [] => some []
  | .bl i :: r => (blsOf r).map (i :: ·)
  | _ => none
theorem intsOf_eq : ∀ {ds : List D} {ns : List Int}, intsOf ds = some ns → ds = ns.map D.int
  | [], _, h => by cases h; rfl
  | .int i :: r, _, h => by
    obtain ⟨ps, e, rfl⟩ := Option.map_eq_some_iff.mp (show (intsOf r).map (i :: ·) = some _ from h)
    rw [intsOf_eq e]; rfl
theorem intsOf_map : ∀ ns : List Int, intsOf (ns.map D.int) = some ns
  | [] => rfl
  | n :: ns => by show (intsOf (ns.map D.int)).map (n :: ·) = _; rw [intsOf_map ns]; rfl
theorem blsOf_eq : ∀ {ds : List D} {ns : List Bool}, blsOf ds = some ns → ds = ns.map D.bl
  | [], _, h => by cases h; rfl
  | .bl i :: r, _, h => by
    obtain ⟨ps, e, rfl⟩ := Option.map_eq_some_iff.mp (show (blsOf r).map (i :: ·) = some _ from h)
    rw [blsOf_eq e]; rfl
theorem blsOf_map : ∀ ns : List Bool, blsOf (ns.map D.bl) = some ns
  | [] => rfl
  | n :: ns => by show (blsOf (ns.map D.bl)).map (n :: ·) = _; rw [blsOf_map ns]; rfl

/-! ## operators -/
section
variable {g : Gb} {F : Fam g}
abbrev dpure (o : Option D) : XM D := fun _ st => match o with
  | some d => .ok d st
  | none => .stuck
def addD (x y : D) : XM D := fun _ st => match x, y with
  | .int i, .int j => .ok (.int (i + j)) st
  | .str a, .str b => if a.length + b.length ≤ LIM then .ok (.str (a ++ b)) st else .stuck
  | .tup xs, .tup ys => if xs.length + ys.length ≤ LIM then .ok (.tup (xs ++ ys)) st else .stuck
  | x, y => match lstOf st x, lstOf st y with
    | some xs, some ys => if xs.length + ys.length ≤ LIM then .ok (.lst (xs ++ ys)) st else .stuck
    | _, _ => .stuck
theorem or1 {f : Value → Value → Sem Value} {X : Cx} {r r' : R2} (h : OpR X f r) (h' : OpR X f r') : OpR X f (fun x y H Q => r x y H Q ∨ r' x y H Q) := h.or h'
theorem addD_lst {K : PySem.W.Frag} {mg : Str → Option Value} {W : WX} {G H : Hp} {as : List Addr} {st : Store} {σ : L2.St} {x y : D} {v w : V} {Q : VK} (R : Ri K mg G H as st) (rx : Rp K mg G as v x) (ry : Rp K mg G as w y)
    (h : PX K mg W G H as σ (match lstOf st x, lstOf st y with | some xs, some ys => if xs.length + ys.length ≤ LIM then .ok (.lst (xs ++ ys)) st else .stuck | _, _ => .stuck) Q) : rCat v w H Q := by
  cases e1 : lstOf st x with
  | none => simp [e1] at h; exact h.elim
  | some xs =>
    cases e2 : lstOf st y with
    | none => simp [e1, e2] at h; exact h.elim
    | some ys =>
      simp only [e1, e2] at h
      by_cases hl : xs.length + ys.length ≤ LIM
      · rw [if_pos hl] at h
        obtain ⟨a, vs, rfl, h1, r1⟩ := lstOf_ok R rx e1
        obtain ⟨b, ws, rfl, h2, r2⟩ := lstOf_ok R ry e2
        refine ⟨a, b, vs, ws, rfl, rfl, h1, h2, by rw [r1.len, r2.len]; exact lim_le hl, fun p hp => ?_⟩
        obtain ⟨R', x'⟩ := R.still (o := .lst (vs ++ ws)) hp
        exact h _ _ _ _ R' x' (.lst upd_same ((r1.append r2).ext x'))
      · rw [if_neg hl] at h; exact h.elim
theorem os_add : OpS F (binaryOp .Add) addD := by
  refine ⟨fun x y H Q => rI0 (fun i j => .int (i + j)) x y H Q ∨ (∃ i j, x = .str i ∧ y = .str j ∧ i.length + j.length ≤ sizeLine ∧ Q (.str (i ++ j)) H) ∨ rCatA g.K x y H Q ∨ rCat x y H Q,
    fun W X m => op_add.or (op_add_str.or (OpR.or (by have := op_catA (X := X); rw [F.hK m] at this; exact this) op_cat)), ?_⟩
  intro W G H as st σ e x y v w Q R rx ry h
  unfold addD at h
  split at h
  · cases rx; cases ry; exact .inl ⟨_, _, rfl, rfl, h.pure R (.int _)⟩
  · rename_i a b
    cases rx; cases ry
    by_cases hl : a.length + b.length ≤ LIM
    · rw [if_pos hl] at h
      exact .inr (.inl ⟨_, _, rfl, rfl, lim_le hl, h.pure R (.str _)⟩)
    · rw [if_neg hl] at h; exact h.elim
  · rename_i xs ys
    by_cases hl : xs.length + ys.length ≤ LIM
    · rw [if_pos hl] at h
      cases rx with
      | tup s1 r1 =>
        cases ry with
        | tup s2 r2 =>
          rename_i a vs b ws
          refine .inr (.inr (.inl ⟨a, b, vs, ws, rfl, rfl, sqT_H R s1, sqT_H R s2, by rw [r1.len, r2.len]; exact lim_le hl, fun z => ?_, fun _ z => ?_, fun _ _ p hp => ?_⟩))
          · subst z; cases r1
            exact h.pure R (.tup s2 r2)
          · subst z; cases r2
            rw [List.append_nil] at h
            exact h.pure R (.tup s1 r1)
          · obtain ⟨R', x'⟩ := R.still (o := .tup (vs ++ ws)) hp
            exact h _ _ _ _ R' x' (.tup (.inl (.inl upd_same)) ((r1.append r2).ext x'))
    · rw [if_neg hl] at h; exact h.elim
  · exact .inr (.inr (.inr (addD_lst R rx ry h)))
def i2 (c : Int → Int → Bool) (f : Int → Int → D) (x y : D) : XM D := fun _ st => match x, y with
  | .int i, .int j => if c i j = true then .ok (f i j) st else .stuck
  | _, _ => .stuck
theorem os_i2 {fv : Value → Value → Sem Value} {C : Int → Int → Prop} {c : Int → Int → Bool} {f : Int → Int → D} {fV : Int → Int → V} (h : ∀ X : Cx, OpR X fv (rI C fV)) (hc : ∀ i j, c i j = true → C i j) (hf : ∀ i j G as, Rp g.K g.mg G as (fV i j) (f i j)) : OpS F fv (i2 c f) := by
  refine ⟨rI C fV, fun W X m => h X, ?_⟩
  intro W G H as st σ e x y v w Q R rx ry q
  unfold i2 at q
  split at q
  · rename_i i j
    cases rx; cases ry
    by_cases hl : c i j = true
    · rw [if_pos hl] at q
      exact ⟨i, j, rfl, rfl, hc i j hl, q.pure R (hf i j _ _)⟩
    · rw [if_neg hl] at q; exact q.elim
  · exact q.elim
theorem op_of0 {fv : Value → Value → Sem Value} {X : Cx} {fV : Int → Int → V} (h : OpR X fv (rI0 fV)) : OpR X fv (rI (fun _ _ => True) fV) := by
  intro pins s σ H x y v u Q I rx ry q
  obtain ⟨i, j, e1, e2, _, q⟩ := q
  exact h pins s σ H x y v u Q I rx ry ⟨i, j, e1, e2, q⟩
abbrev subD : D → D → XM D := i2 (fun _ _ => true) fun i j => .int (i - j)
theorem os_sub : OpS F (binaryOp .Sub) subD := os_i2 (fun _ => op_of0 op_sub) (fun _ _ _ => trivial) fun _ _ _ _ => .int _
def mulC (i j : Int) : Bool := decide (i.natAbs < 2 ^ 64) || decide (j.natAbs < 2 ^ 64) || decide (i.natAbs.log2 + j.natAbs.log2 < 1000000)
abbrev mulD : D → D → XM D := i2 mulC fun i j => .int (i * j)
theorem op_mulA {X : Cx} : OpR X (binaryOp .Mult) (rI (fun i j => mulC i j = true) fun i j => .int (i * j)) := by
  intro pins s σ H x y v u Q I rx ry q
  obtain ⟨i, j, e1, e2, c, q⟩ := q
  unfold mulC at c
  simp only [Bool.or_eq_true, decide_eq_true_eq] at c
  rcases c with (c | c) | c
  · exact op_mul pins s σ H x y v u Q I rx ry ⟨i, j, e1, e2, .inl (by omega), q⟩
  · exact op_mul pins s σ H x y v u Q I rx ry ⟨i, j, e1, e2, .inr (by omega), q⟩
  · exact op_mulW pins s σ H x y v u Q I rx ry ⟨i, j, e1, e2, c, q⟩
theorem os_mul : OpS F (binaryOp .Mult) mulD := os_i2 (fun _ => op_mulA) (fun _ _ h => h) fun _ _ _ _ => .int _
def divC (_ j : Int) : Bool := decide (0 < j) && (decide (j.natAbs < 1073741824) || decide (j.natAbs.log2 < 9000))
abbrev divD : D → D → XM D := i2 divC fun i j => .int (i / j)
theorem op_divA {X : Cx} : OpR X (binaryOp .FloorDiv) (rI (fun i j => divC i j = true) fun i j => .int (i / j)) := by
  intro pins s σ H x y v u Q I rx ry q
  obtain ⟨i, j, e1, e2, c, q⟩ := q
  unfold divC at c
  simp only [Bool.and_eq_true, Bool.or_eq_true, decide_eq_true_eq] at c
  rcases c with ⟨c0, c | c⟩
  · exact op_fdiv pins s σ H x y v u Q I rx ry ⟨i, j, e1, e2, ⟨c0, by omega⟩, q⟩
  · exact op_fdivW pins s σ H x y v u Q I rx ry ⟨i, j, e1, e2, ⟨c0, c⟩, q⟩
theorem os_div : OpS F (binaryOp .FloorDiv) divD := os_i2 (fun _ => op_divA) (fun _ _ h => h) fun _ _ _ _ => .int _
abbrev modD : D → D → XM D := i2 (fun _ j => decide (0 < j)) fun i j => .int (i % j)
theorem os_mod : OpS F (binaryOp .Mod) modD := os_i2 (fun _ => op_mod) (fun _ _ h => of_decide_eq_true h) fun _ _ _ _ => .int _
def powC (i j : Int) : Bool := decide (0 ≤ j) && decide (j ≤ 1000000) && decide (i.natAbs < 2 ^ 64)
theorem powC_ok {i j : Int} (h : powC i j = true) : CPow i j := by
  unfold powC at h
  simp only [Bool.and_eq_true, decide_eq_true_eq] at h
  exact ⟨h.1.1, h.1.2, h.2⟩
abbrev powD : D → D → XM D := i2 powC fun i j => .int (i ^ j.toNat)
theorem os_pow : OpS F (binaryOp .Pow) powD := os_i2 (fun _ => op_pow) (fun _ _ h => powC_ok h) fun _ _ _ _ => .int _
abbrev shlD : D → D → XM D := i2 powC fun i j => .int (i * 2 ^ j.toNat)
theorem os_shl : OpS F (binaryOp .LShift) shlD := os_i2 (fun _ => op_shl) (fun _ _ h => powC_ok h) fun _ _ _ _ => .int _

/-! ### comparisons -/
def eqO (st : Store) (x y : D) : Option Bool := match pyOf st x, pyOf st y with
  | some p, some q => if (SeqAt.shaped p && SeqAt.shaped q) = true then some (PyData.eqv p q) else none
  | _, _ => none
def eqD (x y : D) : XM D := fun _ st => match eqO st x y with
  | some b => .ok (.bl b) st
  | none => .stuck
def neD (x y : D) : XM D := fun _ st => match eqO st x y with
  | some b => .ok (.bl (!b)) st
  | none => .stuck
theorem eqO_ok {K : PySem.W.Frag} {mg : Str → Option Value} {G H : Hp} {as : List Addr} {st : Store} {x y : D} {v w : V} {b : Bool} (R : Ri K mg G H as st) (rx : Rp K mg G as v x) (ry : Rp K mg G as w y) (h : eqO st x y = some b) :
    ∃ p q, Dp K H v p ∧ Dp K H w q ∧ SeqAt.shaped p = true ∧ SeqAt.shaped q = true ∧ PyData.eqv p q = b := by
  unfold eqO at h
  split at h
  · rename_i p q e1 e2
    by_cases hs : (SeqAt.shaped p && SeqAt.shaped q) = true
    · rw [if_pos hs] at h
      have hs' := Bool.and_eq_true_iff.mp hs
      exact ⟨p, q, pyOf_ok R rx e1, pyOf_ok R ry e2, hs'.1, hs'.2, Option.some.inj h⟩
    · rw [if_neg hs] at h; cases h
  · cases h
theorem os_eq : OpS F (compareOp .Eq) eqD := by
  refine ⟨rEqD g.K, fun W X m => by have := op_eqD (X := X) (F.room m).units; rw [F.hK m] at this; exact this, ?_⟩
  intro W G H as st σ e x y v w Q R rx ry h
  unfold eqD at h
  cases q : eqO st x y with
  | none => simp [q] at h; exact h.elim
  | some b =>
    simp only [q] at h
    obtain ⟨p, p', d1, d2, s1, s2, e1⟩ := eqO_ok R rx ry q
    exact ⟨p, p', d1, d2, s1, s2, by rw [e1]; exact h.pure R (.bl b)⟩
theorem os_ne : OpS F (compareOp .NotEq) neD := by
  refine ⟨rNeD g.K, fun W X m => by have := op_neD (X := X) (F.room m).units; rw [F.hK m] at this; exact this, ?_⟩
  intro W G H as st σ e x y v w Q R rx ry h
  unfold neD at h
  cases q : eqO st x y with
  | none => simp [q] at h; exact h.elim
  | some b =>
    simp only [q] at h
    obtain ⟨p, p', d1, d2, s1, s2, e1⟩ := eqO_ok R rx ry q
    exact ⟨p, p', d1, d2, s1, s2, by rw [e1]; exact h.pure R (.bl (!b))⟩
def ltD (x y : D) : XM D := fun _ st => match x, y with
  | .int i, .int j => .ok (.bl (decide (i < j))) st
  | .tup xs, .tup ys => match intsOf xs, intsOf ys with
    | some ns, some ms => .ok (.bl (HT.lexLt ns ms)) st
    | _, _ => .stuck
  | _, _ => .stuck
theorem os_lt : OpS F (compareOp .Lt) ltD := by
  refine ⟨fun x y H Q => rI0 (fun i j => .bl (decide (i < j))) x y H Q ∨ rLtT g.K x y H Q, fun W X m => op_lt.or (by have := op_ltT (X := X) (F.room m).units0; rw [F.hK m] at this; exact this), ?_⟩
  intro W G H as st σ e x y v w Q R rx ry h
  unfold ltD at h
  split at h
  · cases rx; cases ry; exact .inl ⟨_, _, rfl, rfl, h.pure R (.bl _)⟩
  · split at h
    · rename_i xs ys ns ms e1 e2
      cases intsOf_eq e1; cases intsOf_eq e2
      cases rx with
      | tup s1 r1 =>
        cases ry with
        | tup s2 r2 =>
          cases RpA.ints _ r1
          cases RpA.ints _ r2
          exact .inr ⟨_, _, ns, ms, rfl, rfl, sqT_H R s1, sqT_H R s2, h.pure R (.bl _)⟩
    · exact h.elim
  · exact h.elim
abbrev leD : D → D → XM D := i2 (fun _ _ => true) fun i j => .bl (decide (i ≤ j))
theorem os_le : OpS F (compareOp .LtE) leD := os_i2 (fun _ => op_of0 op_le) (fun _ _ _ => trivial) fun _ _ _ _ => .bl _
abbrev gtD : D → D → XM D := i2 (fun _ _ => true) fun i j => .bl (decide (j < i))
theorem os_gt : OpS F (compareOp .Gt) gtD := os_i2 (fun _ => op_of0 op_gt) (fun _ _ _ => trivial) fun _ _ _ _ => .bl _
abbrev geD : D → D → XM D := i2 (fun _ _ => true) fun i j => .bl (decide (j ≤ i))
theorem os_ge : OpS F (compareOp .GtE) geD := os_i2 (fun _ => op_of0 op_ge) (fun _ _ _ => trivial) fun _ _ _ _ => .bl _
def isN : D → Bool
  | .non => true
  | _ => false
def isD (x y : D) : XM D := fun _ st => match y with
  | .non => .ok (.bl (isN x)) st
  | _ => .stuck
def isntD (x y : D) : XM D := fun _ st => match y with
  | .non => .ok (.bl (!isN x)) st
  | _ => .stuck
theorem isN_ok {K : PySem.W.Frag} {mg : Str → Option Value} {G : Hp} {as : List Addr} {x : D} {v : V} (r : Rp K mg G as v x) : decide (v = .non) = isN x := by
  cases r <;> first | rfl | exact decide_eq_false (fun z => nomatch z)
theorem os_is : OpS F (compareOp .Is) isD := by
  refine ⟨fun x y H Q => y = .non ∧ Q (.bl (decide (x = .non))) H, fun W X m => op_isN, ?_⟩
  intro W G H as st σ e x y v w Q R rx ry h
  cases ry with
  | non => exact ⟨rfl, by rw [isN_ok rx]; exact PX.pure R (.bl _) h⟩
  | _ => exact h.elim
theorem os_isnt : OpS F (compareOp .IsNot) isntD := by
  refine ⟨fun x y H Q => y = .non ∧ Q (.bl (!decide (x = .non))) H, fun W X m => op_notN, ?_⟩
  intro W G H as st σ e x y v w Q R rx ry h
  cases ry with
  | non => exact ⟨rfl, by rw [isN_ok rx]; exact PX.pure R (.bl _) h⟩
  | _ => exact h.elim
/-- x in a list, a tuple -/
def rInA (K : PySem.W.Frag) : R2 := fun x y H Q => ∃ d ds, Dp K H x d ∧ (Dp K H y (.list ds) ∨ Dp K H y (.tuple ds)) ∧ SeqAt.shaped d = true ∧ SeqAt.shaped (.list ds) = true ∧ Q (.bl (ds.any fun z => PyData.eqv z d)) H
def rNotInA (K : PySem.W.Frag) : R2 := fun x y H Q => ∃ d ds, Dp K H x d ∧ (Dp K H y (.list ds) ∨ Dp K H y (.tuple ds)) ∧ SeqAt.shaped d = true ∧ SeqAt.shaped (.list ds) = true ∧ Q (.bl (!ds.any fun z => PyData.eqv z d)) H
theorem room_in {A : Around} {ds : List PyData} {d : PyData} (h : SeqAt.shaped d = true) (hu : A.units + 65 < cLine) : A.units + 1 + min (PyData.depthAll ds) d.depth < cLine := by
  have h1 := SeqAt.depth_of_shaped h
  have h2 : min (PyData.depthAll ds) d.depth ≤ d.depth := Nat.min_le_right _ _
  omega
theorem op_inA {X : Cx} (hu : X.A.units + 65 < cLine) : OpR X (compareOp .In) (rInA X.K) := by
  intro pins s σ H x y v u Q I rx ry h
  obtain ⟨d, ds, hd, he, sd, se, q⟩ := h
  obtain ⟨as, r1⟩ := Dp.reads I d x v hd rx
  rcases he with he | he
  · obtain ⟨bs, r2⟩ := Dp.reads I (.list ds) y u he ry
    exact SeqAt.in_list_reads r2 r1 (SeqAt.canLay_of_shaped se) (SeqAt.canLay_of_shaped sd) (room_in sd hu) ⟨.bl _, H, I, rfl, q⟩
  · obtain ⟨bs, r2⟩ := Dp.reads I (.tuple ds) y u he ry
    exact SeqAt.in_tuple_reads r2 r1 (SeqAt.canLay_of_shaped se) (SeqAt.canLay_of_shaped sd) (room_in sd hu) ⟨.bl _, H, I, rfl, q⟩
theorem op_notInA {X : Cx} (hu : X.A.units + 65 < cLine) : OpR X (compareOp .NotIn) (rNotInA X.K) := by
  intro pins s σ H x y v u Q I rx ry h
  obtain ⟨d, ds, hd, he, sd, se, q⟩ := h
  obtain ⟨as, r1⟩ := Dp.reads I d x v hd rx
  rcases he with he | he
  · obtain ⟨bs, r2⟩ := Dp.reads I (.list ds) y u he ry
    exact SeqAt.notIn_list_reads r2 r1 (SeqAt.canLay_of_shaped se) (SeqAt.canLay_of_shaped sd) (room_in sd hu) ⟨.bl _, H, I, rfl, q⟩
  · obtain ⟨bs, r2⟩ := Dp.reads I (.tuple ds) y u he ry
    exact SeqAt.notIn_tuple_reads r2 r1 (SeqAt.canLay_of_shaped se) (SeqAt.canLay_of_shaped sd) (room_in sd hu) ⟨.bl _, H, I, rfl, q⟩
def inO (st : Store) (x y : D) : Option Bool := match pyOf st x, pyOf st y with
  | some p, some (.list qs) => if (SeqAt.shaped p && SeqAt.shaped (.list qs)) = true then some (qs.any fun z => PyData.eqv z p) else none
  | some p, some (.tuple qs) => if (SeqAt.shaped p && SeqAt.shaped (.list qs)) = true then some (qs.any fun z => PyData.eqv z p) else none
  | _, _ => none
def inD (x y : D) : XM D := fun _ st => match inO st x y with
  | some b => .ok (.bl b) st
  | none => .stuck
def notInD (x y : D) : XM D := fun _ st => match inO st x y with
  | some b => .ok (.bl (!b)) st
  | none => .stuck
theorem inO_ok {K : PySem.W.Frag} {mg : Str → Option Value} {G H : Hp} {as : List Addr} {st : Store} {x y : D} {v w : V} {b : Bool} (R : Ri K mg G H as st) (rx : Rp K mg G as v x) (ry : Rp K mg G as w y) (h : inO st x y = some b) :
    ∃ d ds, Dp K H v d ∧ (Dp K H w (.list ds) ∨ Dp K H w (.tuple ds)) ∧ SeqAt.shaped d = true ∧ SeqAt.shaped (.list ds) = true ∧ (ds.any fun z => PyData.eqv z d) = b := by
  unfold inO at h
  split at h
  · rename_i p qs e1 e2
    by_cases hs : (SeqAt.shaped p && SeqAt.shaped (.list qs)) = true
    · rw [if_pos hs] at h
      have hs' := Bool.and_eq_true_iff.mp hs
      exact ⟨p, qs, pyOf_ok R rx e1, .inl (pyOf_ok R ry e2), hs'.1, hs'.2, Option.some.inj h⟩
    · rw [if_neg hs] at h; cases h
  · rename_i p qs e1 e2
    by_cases hs : (SeqAt.shaped p && SeqAt.shaped (.list qs)) = true
    · rw [if_pos hs] at h
      have hs' := Bool.and_eq_true_iff.mp hs
      exact ⟨p, qs, pyOf_ok R rx e1, .inr (pyOf_ok R ry e2), hs'.1, hs'.2, Option.some.inj h⟩
    · rw [if_neg hs] at h; cases h
  · cases h
theorem units65 {k : Nat} {A : Around} (r : Room k A) : A.units + 65 < cLine := by have := r.un; omega
theorem os_in : OpS F (compareOp .In) inD := by
  refine ⟨rInA g.K, fun W X m => by have := op_inA (X := X) (units65 (F.room m)); rw [F.hK m] at this; exact this, ?_⟩
  intro W G H as st σ e x y v w Q R rx ry h
  unfold inD at h
  cases q : inO st x y with
  | none => simp [q] at h; exact h.elim
  | some b =>
    simp only [q] at h
    obtain ⟨d, ds, h1, h2, h3, h4, h5⟩ := inO_ok R rx ry q
    exact ⟨d, ds, h1, h2, h3, h4, by rw [h5]; exact h.pure R (.bl b)⟩
theorem os_notin : OpS F (compareOp .NotIn) notInD := by
  refine ⟨rNotInA g.K, fun W X m => by have := op_notInA (X := X) (units65 (F.room m)); rw [F.hK m] at this; exact this, ?_⟩
  intro W G H as st σ e x y v w Q R rx ry h
  unfold notInD at h
  cases q : inO st x y with
  | none => simp [q] at h; exact h.elim
  | some b =>
    simp only [q] at h
    obtain ⟨d, ds, h1, h2, h3, h4, h5⟩ := inO_ok R rx ry q
    exact ⟨d, ds, h1, h2, h3, h4, by rw [h5]; exact h.pure R (.bl (!b))⟩

/-! ## items and slices -/
variable {pos : Pos}
def ixD (x y : D) : XM D := fun _ st => match y with
  | .int i => (match seqOf st x with
    | some xs => (match atI xs i with
      | some d => .ok d st
      | none => .stuck)
    | none => .stuck)
  | _ => .stuck
theorem atI_rp {K : PySem.W.Frag} {mg : Str → Option Value} {G : Hp} {as : List Addr} {vs : List V} {xs : List D} {i : Int} {d : D} (r : RpA K mg G as vs xs) (h : atI xs i = some d) : ∃ v, atI vs i = some v ∧ Rp K mg G as v d := by
  unfold atI at h ⊢
  rw [r.len]
  cases q : ixN xs.length i with
  | none => rw [q] at h; cases h
  | some j =>
    rw [q] at h
    exact r.get (by simpa using h)
theorem je_ix {a b : Expr} {ma mb : XM D} (ha : JE F a ma) (hb : JE F b mb) (hs : PlainIx b := by intro _ _; rfl) : JE F (.Subscript a b pos) (xop ixD ma mb) := by
  obtain ⟨ta, pa, sa⟩ := ha
  obtain ⟨tb, pb, sb⟩ := hb
  refine ⟨fun W => tOp (fun x y H Q => rIxL g.K x y H Q ∨ rIxT g.K x y H Q) (ta W) (tb W), fun W X m => by have := pe_ix (pos := pos) ((ix_list (X := X)).or ix_tup) (pa W X m) (pb W X m) hs; rw [F.hK m] at this; exact this, ?_⟩
  intro W G H as st σ e Q R N h
  refine sa.one R N h fun x st1 v G1 H1 as1 R1 X1 N1 rv h1 => ?_
  refine sb.one R1 N1 h1 fun y st2 w G2 H2 as2 R2 X2 N2 rw' h2 => ?_
  have rv2 := rv.ext X2
  unfold ixD at h2
  cases rw' with
  | int i =>
    cases q : seqOf st2 x with
    | none => simp [q] at h2; exact h2.elim
    | some xs =>
      cases q2 : atI xs i with
      | none => simp [q, q2] at h2; exact h2.elim
      | some d =>
        simp only [q, q2] at h2
        obtain ⟨a', vs, rfl, s, r⟩ := seqOf_ok R2 rv2 q
        obtain ⟨u, e1, ru⟩ := atI_rp r q2
        rcases s with s | s
        · exact .inl ⟨a', vs, i, u, rfl, rfl, s, e1, h2.pure R2 ru⟩
        · exact .inr ⟨a', vs, i, u, rfl, rfl, s, e1, h2.pure R2 ru⟩
  | _ => exact h2.elim
def JO (F : Fam g) (ex : Option Expr) (m : XM (Option Int)) : Prop := ∃ t : WX → TO, (∀ W X, F.mem W X → PO X ex (t W)) ∧
  ∀ (W : WX) (G H : Hp) (as : List Addr) (st : Store) (σ : L2.St) (e : Nv) (f : Option Int → XM D) (Q : VK) (Q1 : Option Int → Hp → Prop), Ri g.K g.mg G H as st → Rn g.K g.mg G as σ e → PX g.K g.mg W G H as σ (xbind m f e st) Q →
    (∀ x st1 G1 H1 as1, Ri g.K g.mg G1 H1 as1 st1 → Ext G H as G1 H1 as1 → Rn g.K g.mg G1 as1 σ e → PX g.K g.mg W G1 H1 as1 σ (f x e st1) Q → Q1 x H1) → t W σ H Q1
theorem jo_none : JO F none (xpure none) := ⟨fun _ => tNoPart, fun _ _ _ => po_none, fun W G H as st σ e f Q Q1 R N h k => k none st G H as R Ext.refl N h⟩
def xpart (m : XM D) : XM (Option Int) := xbind m fun x => fun _ st => match x with
  | .int i => .ok (some i) st
  | _ => .stuck
theorem jo_some {ex : Expr} {m : XM D} (h : JE F ex m) : JO F (some ex) (xpart m) := by
  obtain ⟨t, p, s⟩ := h
  refine ⟨fun W => tPart (t W), fun W X m => po_some (p W X m), ?_⟩
  intro W G H as st σ e f Q Q1 R N h k
  have h' : PX g.K g.mg W G H as σ (xbind m (fun x => xbind (fun _ st => match x with | .int i => .ok (some i) st | _ => .stuck) f) e st) Q := by
    refine Eq.mp (congrArg (fun r => PX g.K g.mg W G H as σ r Q) ?_) h
    unfold xpart xbind
    cases q : m e st <;> rfl
  refine s.one R N h' fun x st1 v G1 H1 as1 R1 X1 N1 rv h1 => ?_
  cases rv with
  | int i => exact ⟨i, rfl, k (some i) st1 G1 H1 as1 R1 X1 N1 h1⟩
  | _ => exact h1.elim
def cutD (xs : List D) (lo hi : Option Int) : List D := (xs.drop (HT.sIx xs.length 0 lo)).take (HT.sIx xs.length xs.length hi - HT.sIx xs.length 0 lo)
theorem cut_rp {K : PySem.W.Frag} {mg : Str → Option Value} {G : Hp} {as : List Addr} {vs : List V} {xs : List D} (r : RpA K mg G as vs xs) (lo hi : Option Int) : RpA K mg G as (cutV vs lo hi) (cutD xs lo hi) := by
  unfold cutV cutD
  rw [r.len]
  exact (r.drop _).take _
def slD (x : D) (lo hi : Option Int) : XM D := fun _ st => match x with
  | .tup xs => .ok (.tup (cutD xs lo hi)) st
  | .sq xs => .ok (.lst (cutD xs lo hi)) st
  | x => match lstOf st x with
    | some xs => .ok (.lst (cutD xs lo hi)) st
    | none => .stuck
def xslice (m : XM D) (ml mh : XM (Option Int)) : XM D := xbind m fun x => xbind ml fun l => xbind mh fun h => slD x l h
theorem je_slice {ex : Expr} {lo hi : Option Expr} {p2 : Pos} {m : XM D} {ml mh : XM (Option Int)} (he : JE F ex m) (hl : JO F lo ml) (hh : JO F hi mh) : JE F (.Subscript ex (.Slice lo hi none p2) pos) (xslice m ml mh) := by
  obtain ⟨t, p, s⟩ := he
  obtain ⟨tl, pl, sl⟩ := hl
  obtain ⟨th, ph, sh⟩ := hh
  refine ⟨fun W => tSl (fun x lo hi H Q => rSlA g.K x lo hi H Q ∨ rSlL g.K x lo hi H Q) (t W) (tl W) (th W), fun W X m => by have := pe_slice (pos := pos) (p2 := p2) ((sl_tupA (X := X)).or sl_list) (p W X m) (pl W X m) (ph W X m); rw [F.hK m] at this; exact this, ?_⟩
  intro W G H as st σ e Q R N h
  refine s.one R N h fun x st1 v G1 H1 as1 R1 X1 N1 rv h1 => ?_
  refine sl W G1 H1 as1 st1 σ e _ Q _ R1 N1 h1 fun l st2 G2 H2 as2 R2 X2 N2 h2 => ?_
  refine sh W G2 H2 as2 st2 σ e _ Q _ R2 N2 h2 fun u st3 G3 H3 as3 R3 X3 N3 h3 => ?_
  have rv3 := (rv.ext X2).ext X3
  have lists : ∀ xs, (∃ a vs, v = .ref a ∧ SqL g.K H3 a vs ∧ RpA g.K g.mg G3 as3 vs xs) → PX g.K g.mg W G3 H3 as3 σ (.ok (.lst (cutD xs l u)) st3) Q → rSlL g.K v l u H3 Q := fun xs ⟨a, vs, e1, s1, r1⟩ q => by
    refine ⟨a, vs, e1, s1, fun p hp => ?_⟩
    obtain ⟨R', x'⟩ := R3.still (o := .lst (cutV vs l u)) hp
    exact q _ _ _ _ R' x' (.lst upd_same ((cut_rp r1 l u).ext x'))
  have lists2 : PX g.K g.mg W G3 H3 as3 σ (match lstOf st3 x with | some xs => .ok (.lst (cutD xs l u)) st3 | none => .stuck) Q → rSlL g.K v l u H3 Q := fun q => by
    cases q2 : lstOf st3 x with
    | none => simp [q2] at q; exact q.elim
    | some xs =>
      simp only [q2] at q
      obtain ⟨a, vs, e1, s1, r1⟩ := lstOf_ok R3 rv3 q2
      exact lists xs ⟨a, vs, e1, .of s1, r1⟩ q
  unfold slD at h3
  split at h3
  · cases rv3 with
    | tup s1 r1 =>
      refine .inl ⟨_, _, rfl, sqT_H R3 s1, fun z => ?_, fun _ p hp => ?_⟩
      · rename_i xs _ _
        have e1 : cutD xs l u = xs := by
          unfold cutD
          rw [← r1.len, z.1, z.2, Nat.sub_zero, List.drop_zero, r1.len]
          exact List.take_length
        rw [e1] at h3
        exact h3.pure R3 (.tup s1 r1)
      · obtain ⟨R', x'⟩ := R3.still hp
        exact h3 _ _ _ _ R' x' (.tup (.inl (.inl upd_same)) ((cut_rp r1 l u).ext x'))
  · cases rv3 with
    | sq s1 r1 => exact .inr (lists _ ⟨_, _, rfl, sqL_H R3 s1, r1⟩ h3)
  · exact .inr (lists2 h3)
end
end LS
end
section
set_option maxRecDepth 100000
set_option maxHeartbeats 2000000
namespace LS
open PySem PySem.Spec L2

/-! ## calls of built-ins, by values -/
section
variable {g : Gb} {F : Fam g} {pos : Pos}
def CallS (F : Fam g) (fv : Value) (fop : List D → XM D) : Prop := ∃ r : List V → Hp → VK → Prop, (∀ W X, F.mem W X → CallR X fv r) ∧
  ∀ (W : WX) (G H : Hp) (as : List Addr) (st : Store) (σ : L2.St) (e : Nv) (xs : List D) (vs : List V) (Q : VK), Ri g.K g.mg G H as st → RpA g.K g.mg G as vs xs → PX g.K g.mg W G H as σ (fop xs e st) Q → r vs H Q
def xcall (fop : List D → XM D) (ms : XM (List D)) : XM D := xbind ms fop
theorem callS_SE {r : List V → Hp → VK → Prop} {ts : WX → TA} {ms : XM (List D)} {fop : List D → XM D} (ss : SA g ts ms)
    (hv : ∀ (W : WX) (G H : Hp) (as : List Addr) (st : Store) (σ : L2.St) (e : Nv) (xs : List D) (vs : List V) (Q : VK), Ri g.K g.mg G H as st → RpA g.K g.mg G as vs xs → PX g.K g.mg W G H as σ (fop xs e st) Q → r vs H Q) : SE g (fun W => tCB r (ts W)) (xcall fop ms) := by
  intro W G H as st σ e Q R N h
  refine ss.one R N h fun xs st1 vs G1 H1 as1 R1 X1 N1 rv h1 => ?_
  exact hv W G1 H1 as1 st1 σ e xs vs Q R1 rv h1
theorem je_callB {x : Str} {id : String} {p : Pos} {a : Expr} {es : List Expr} {ms : XM (List D)} {fop : List D → XM D} (hc : CallS F (.builtin id) fop) (hg : F.sc.names.lookup x = some .globalImplicit) (hm : g.mg x = none) (hv : bootBuiltins x = some (.builtin id)) (ha : JA F (a :: es) ms)
    (hn : x ≠ "__name__" := by decide) (hdb : (x == ("__debug__" : Str)) = false := by decide) (he : ∀ env, starEach (a :: es) env = (false, eval a env) :: starEach es env := by intro _; rfl) (hpl : ∀ env, (backTo pos (starEach es env)).any (·.1) = false := by intro _; rfl) :
    JE F (.Call (.Name x p) (a :: es) [] pos) (xcall fop ms) := by
  obtain ⟨r, hr, hv'⟩ := hc
  obtain ⟨ts, ps, ss⟩ := ha
  exact ⟨fun W => tCB r (ts W), fun W X m => pe_callB (hr W X m) (by show X.env.scope.names.lookup x = _; rw [F.hsc m]; exact hg) (by rw [F.hmg m]; exact hm) hv (ps W X m) hn hdb (he _) (hpl _), callS_SE ss hv'⟩
theorem je_callTy {x : Str} {T : String} {p : Pos} {a : Expr} {es : List Expr} {ms : XM (List D)} {fop : List D → XM D} (hc : CallS F (.type T) fop) (hg : F.sc.names.lookup x = some .globalImplicit) (hm : g.mg x = none) (hv : bootBuiltins x = some (.type T)) (ha : JA F (a :: es) ms)
    (hn : x ≠ "__name__" := by decide) (hdb : (x == ("__debug__" : Str)) = false := by decide) (he : ∀ env, starEach (a :: es) env = (false, eval a env) :: starEach es env := by intro _; rfl) (hpl : ∀ env, (backTo pos (starEach es env)).any (·.1) = false := by intro _; rfl) :
    JE F (.Call (.Name x p) (a :: es) [] pos) (xcall fop ms) := by
  obtain ⟨r, hr, hv'⟩ := hc
  obtain ⟨ts, ps, ss⟩ := ha
  exact ⟨fun W => tCB r (ts W), fun W X m => pe_callTy (hr W X m) (by show X.env.scope.names.lookup x = _; rw [F.hsc m]; exact hg) (by rw [F.hmg m]; exact hm) hv (ps W X m) hn hdb (he _) (hpl _), callS_SE ss hv'⟩

/-! ### one argument -/
theorem rp1 {K : PySem.W.Frag} {mg : Str → Option Value} {G : Hp} {as : List Addr} {vs : List V} {x : D} (h : RpA K mg G as vs [x]) : ∃ v, vs = [v] ∧ Rp K mg G as v x := by
  cases h with | cons a b => cases b; exact ⟨_, rfl, a⟩
theorem rp2 {K : PySem.W.Frag} {mg : Str → Option Value} {G : Hp} {as : List Addr} {vs : List V} {x y : D} (h : RpA K mg G as vs [x, y]) : ∃ v w, vs = [v, w] ∧ Rp K mg G as v x ∧ Rp K mg G as w y := by
  cases h with | cons a b => cases b with | cons c d => cases d; exact ⟨_, _, rfl, a, c⟩
def f1 (f : D → XM D) : List D → XM D
  | [x] => f x
  | _ => fun _ _ => .stuck
def f2 (f : D → D → XM D) : List D → XM D
  | [x, y] => f x y
  | _ => fun _ _ => .stuck
theorem cs_1 {fv : Value} {f : D → XM D} {r : List V → Hp → VK → Prop} (hr : ∀ W X, F.mem W X → CallR X fv r)
    (h : ∀ (W : WX) (G H : Hp) (as : List Addr) (st : Store) (σ : L2.St) (e : Nv) (x : D) (v : V) (Q : VK), Ri g.K g.mg G H as st → Rp g.K g.mg G as v x → PX g.K g.mg W G H as σ (f x e st) Q → r [v] H Q) : CallS F fv (f1 f) := by
  refine ⟨r, hr, ?_⟩
  intro W G H as st σ e xs vs Q R rv q
  match xs, q with
  | [x], q =>
    obtain ⟨v, rfl, rx⟩ := rp1 rv
    exact h W G H as st σ e x v Q R rx q
theorem cs_2 {fv : Value} {f : D → D → XM D} {r : List V → Hp → VK → Prop} (hr : ∀ W X, F.mem W X → CallR X fv r)
    (h : ∀ (W : WX) (G H : Hp) (as : List Addr) (st : Store) (σ : L2.St) (e : Nv) (x y : D) (v w : V) (Q : VK), Ri g.K g.mg G H as st → Rp g.K g.mg G as v x → Rp g.K g.mg G as w y → PX g.K g.mg W G H as σ (f x y e st) Q → r [v, w] H Q) : CallS F fv (f2 f) := by
  refine ⟨r, hr, ?_⟩
  intro W G H as st σ e xs vs Q R rv q
  match xs, q with
  | [x, y], q =>
    obtain ⟨v, w, rfl, rx, ry⟩ := rp2 rv
    exact h W G H as st σ e x y v w Q R rx ry q
def lenD (x : D) : XM D := fun _ st => match x with
  | .str s => if s.length ≤ LIM then .ok (.int s.length) st else .stuck
  | x => match seqOf st x with
    | some xs => .ok (.int xs.length) st
    | none => .stuck
theorem seq_px {K : PySem.W.Frag} {mg : Str → Option Value} {W : WX} {G H : Hp} {as : List Addr} {st : Store} {σ : L2.St} {x : D} {v : V} {Q : VK} {f : List D → RX D} (R : Ri K mg G H as st) (rx : Rp K mg G as v x)
    (h : PX K mg W G H as σ (match seqOf st x with | some xs => f xs | none => .stuck) Q) : ∃ xs a vs, v = .ref a ∧ (SqL K H a vs ∨ SqT K H a vs) ∧ RpA K mg G as vs xs ∧ PX K mg W G H as σ (f xs) Q := by
  cases q : seqOf st x with
  | none => simp [q] at h; exact h.elim
  | some xs =>
    simp only [q] at h
    obtain ⟨a, vs, e, s, r⟩ := seqOf_ok R rx q
    exact ⟨xs, a, vs, e, s, r, h⟩
theorem cs_len : CallS F (.builtin "len") (f1 lenD) := by
  refine cs_1 (r := fun xs H Q => (∃ p ys, xs = [.ref p] ∧ (SqL g.K H p ys ∨ SqT g.K H p ys) ∧ Q (.int ys.length) H) ∨ (∃ z, xs = [.str z] ∧ z.length ≤ sizeLine ∧ Q (.int z.length) H))
    (fun W X m => by have := (call_len_seq (X := X)).or call_len_str; rw [F.hK m] at this; exact this) ?_
  intro W G H as st σ e x v Q R rx h
  unfold lenD at h
  split at h
  · rename_i s
    cases rx
    by_cases hl : s.length ≤ LIM
    · rw [if_pos hl] at h; exact .inr ⟨s, rfl, lim_le hl, h.pure R (.int _)⟩
    · rw [if_neg hl] at h; exact h.elim
  · obtain ⟨xs, a, vs, rfl, s, r, h'⟩ := seq_px R rx h
    refine .inl ⟨a, vs, rfl, s, ?_⟩
    rw [r.len]
    exact h'.pure R (.int _)
def absD (x : D) : XM D := fun _ st => match x with
  | .int i => .ok (.int i.natAbs) st
  | _ => .stuck
theorem cs_abs : CallS F (.builtin "abs") (f1 absD) := by
  refine cs_1 (fun W X m => call_abs) ?_
  intro W G H as st σ e x v Q R rx h
  cases rx with
  | int i =>
    refine ⟨i, rfl, ?_⟩
    rw [show (if i < 0 then -i else i) = (i.natAbs : Int) by split <;> omega]
    exact PX.pure R (.int _) h
  | _ => exact h.elim
def intD (x : D) : XM D := fun _ st => match x with
  | .int i => .ok (.int i) st
  | .bl b => .ok (.int (if b then 1 else 0)) st
  | _ => .stuck
theorem cs_int : CallS F (.type "int") (f1 intD) := by
  refine cs_1 (fun W X m => call_int1) ?_
  intro W G H as st σ e x v Q R rx h
  cases rx with
  | int i => exact .inl ⟨i, rfl, PX.pure R (.int _) h⟩
  | bl i => exact .inr ⟨i, rfl, PX.pure R (.int _) h⟩
  | _ => exact h.elim
def max2D (x y : D) : XM D := fun _ st => match x, y with
  | .int i, .int j => .ok (.int (max i j)) st
  | _, _ => .stuck
def min2D (x y : D) : XM D := fun _ st => match x, y with
  | .int i, .int j => .ok (.int (min i j)) st
  | _, _ => .stuck
theorem cs_max2 : CallS F (.builtin "max") (f2 max2D) := by
  refine cs_2 (fun W X m => call_max2 (F.calm m)) ?_
  intro W G H as st σ e x y v w Q R rx ry h
  unfold max2D at h
  split at h
  · rename_i i j
    cases rx; cases ry
    refine ⟨i, j, rfl, ?_⟩
    rw [show (if j > i then j else i) = max i j by split <;> omega]
    exact h.pure R (.int _)
  · exact h.elim
theorem cs_min2 : CallS F (.builtin "min") (f2 min2D) := by
  refine cs_2 (fun W X m => call_min2 (F.calm m)) ?_
  intro W G H as st σ e x y v w Q R rx ry h
  unfold min2D at h
  split at h
  · rename_i i j
    cases rx; cases ry
    refine ⟨i, j, rfl, ?_⟩
    rw [show (if j < i then j else i) = min i j by split <;> omega]
    exact h.pure R (.int _)
  · exact h.elim
def divmodD (x y : D) : XM D := fun _ st => match x, y with
  | .int i, .int j => if 0 < j ∧ j < 1073741824 then .ok (.tup [.int (i / j), .int (i % j)]) st else .stuck
  | _, _ => .stuck
theorem cs_divmod : CallS F (.builtin "divmod") (f2 divmodD) := by
  refine cs_2 (fun W X m => call_divmod) ?_
  intro W G H as st σ e x y v w Q R rx ry h
  unfold divmodD at h
  split at h
  · rename_i i j
    cases rx; cases ry
    by_cases hc : 0 < j ∧ j < 1073741824
    · rw [if_pos hc] at h
      refine ⟨i, j, rfl, hc, fun p hp => ?_⟩
      exact PX.still R hp (.tup (.inl (.inl upd_same)) (.cons (.int _) (.cons (.int _) .nil))) h
    · rw [if_neg hc] at h; exact h.elim
  · exact h.elim
/-! ### lists and rows of ints, of bools -/
section raw
open PyProof.Rows
variable {prog : Program} {w : World} {A : Around} {E : Value → Shared → Prop} {s : Shared} {l : Addr} {its : List Value} {ns : List Int} {Q : Value → Shared → Prop}
theorem iter_intTup {xs : Array (Int × Tok)} (hl : s.heap.IsTuple l (intItems xs))
    (h : ∀ s₂ : Shared, s₂ = { s with heap := s.heap.push { cls := .type "tuple_iterator", data := .fields #[.ref l, .int 0 0] } } →
      (s₂.heap.IsTupleIter s.heap.objs.size l 0 ∧ s₂.heap.IsTuple l (intItems xs)) → (∀ b ∈ [s.heap.objs.size, l], b < s₂.heap.objs.size) → l ≠ s.heap.objs.size → Q (.ref s.heap.objs.size) s₂) :
    wpAny (model prog w) A (pyIter (.ref l)) Q E s := by
  have hlt : l < s.heap.objs.size := by obtain ⟨_, e, _⟩ := hl; exact Heap.lt_size e
  refine wpAny_pyIter_tuple hl (h _ rfl ⟨⟨_, Heap.get?_push_size _ rfl, rfl, rfl⟩, hl.at fun o e => Heap.get?_push_of_some _ e⟩ (fun b hb => ?_) (Nat.ne_of_lt hlt))
  show b < (s.heap.push _).objs.size
  rw [Heap.size_push]
  rcases List.mem_cons.mp hb with rfl | hb
  · exact Nat.lt_succ_self _
  · rcases List.mem_cons.mp hb with rfl | hb
    · exact Nat.lt_succ_of_lt hlt
    · cases hb
theorem old_keptT {h' : Heap} (hk : ∀ b o, b ∉ [s.heap.objs.size] → (s.heap.push { cls := .type "tuple_iterator", data := .fields #[.ref l, .int 0 0] }).get? b = some o → h'.get? b = some o) :
    ∀ b o, s.heap.get? b = some o → h'.get? b = some o := fun b o e => by
  refine hk b o (fun hm => ?_) (Heap.get?_push_of_some _ e)
  rcases List.mem_cons.mp hm with e1 | hm
  · exact absurd (e1 ▸ Heap.lt_size e) (Nat.lt_irrefl _)
  · cases hm
theorem sum_rawT (hh : A.handled = none) (hl : s.heap.IsTuple l its.toArray) (hi : IntsAre its ns)
    (h : ∀ h' tk t', (∀ b o, s.heap.get? b = some o → h'.get? b = some o) → Q (.int ns.sum t') { s with heap := h', toks := tk }) : wpAny (model prog w) A (call (.builtin "sum") [.ref l]) Q E s := by
  obtain ⟨xs, e⟩ := hi.allInts.items
  have hn : numsOf (intItems xs).toList = ns := by rw [← e]; exact hi.numsOf
  rw [nums_intItems] at hn
  rw [e] at hl
  refine call_sum_walkG (iter_intTup hl fun s₂ e st hfp hlI => ?_)
  subst e
  refine ⟨_, _, _, _, _, _, numAt xs, rfl, Walks.tuple (A := A.in1) hh _ l hlI (intItems xs), st, hfp, (fun _ _ => intItems_at), fun h' tk t' hk => ?_⟩
  have := h h' tk t' (old_keptT hk)
  rw [show (intItems xs).size = xs.size by simp [intItems], preSum_eq, List.take_of_length_le (by simp), hn]; exact this
theorem max_rawT (hh : A.handled = none) (hl : s.heap.IsTuple l its.toArray) (hi : IntsAre its ns) (hne : 0 < ns.length)
    (h : ∀ h' tk M t', (∀ b o, s.heap.get? b = some o → h'.get? b = some o) → M ∈ ns → (∀ a, a ∈ ns → a ≤ M) → Q (.int M t') { s with heap := h', toks := tk }) : wpAny (model prog w) A (call (.builtin "max") [.ref l]) Q E s := by
  obtain ⟨xs, e⟩ := hi.allInts.items
  have hn : numsOf (intItems xs).toList = ns := by rw [← e]; exact hi.numsOf
  rw [nums_intItems] at hn
  subst hn
  rw [e] at hl
  have hsz : 0 < xs.size := by simpa using hne
  refine call_max_walk (iter_intTup hl fun s₂ e st hfp hlI => ?_)
  subst e
  refine ⟨_, _, _, _, _, _, _, rfl, Walks.tuple (A := A.in1) hh _ l hlI (intItems xs), st, hfp, by simpa [intItems] using hsz, CmpOf.ints_gt (numAt xs) (fun _ _ => intItems_at), fun v h' tk hP hk => ?_⟩
  have hv : (intItems xs)[argBest (fun i j => decide (numAt xs i > numAt xs j)) (xs.size - 1)]? = some v := by simpa [intItems] using hP
  obtain ⟨t, rfl⟩ := intItems_at hv
  obtain ⟨h1, h2⟩ := argBest_gt (numAt xs) (xs.size - 1)
  refine h h' tk _ t (old_keptT hk) ?_ fun a ha => ?_
  · rw [numAt_eq]; exact PySem.getD_mem (by rw [List.length_map, Array.length_toList]; omega)
  · obtain ⟨j, hj, rfl⟩ := mem_getD ha
    rw [List.length_map, Array.length_toList] at hj
    rw [← numAt_eq]; exact h2 j (by omega)
theorem min_rawT (hh : A.handled = none) (hl : s.heap.IsTuple l its.toArray) (hi : IntsAre its ns) (hne : 0 < ns.length)
    (h : ∀ h' tk M t', (∀ b o, s.heap.get? b = some o → h'.get? b = some o) → M ∈ ns → (∀ a, a ∈ ns → M ≤ a) → Q (.int M t') { s with heap := h', toks := tk }) : wpAny (model prog w) A (call (.builtin "min") [.ref l]) Q E s := by
  obtain ⟨xs, e⟩ := hi.allInts.items
  have hn : numsOf (intItems xs).toList = ns := by rw [← e]; exact hi.numsOf
  rw [nums_intItems] at hn
  subst hn
  rw [e] at hl
  have hsz : 0 < xs.size := by simpa using hne
  refine call_min_walk (iter_intTup hl fun s₂ e st hfp hlI => ?_)
  subst e
  refine ⟨_, _, _, _, _, _, _, rfl, Walks.tuple (A := A.in1) hh _ l hlI (intItems xs), st, hfp, by simpa [intItems] using hsz, CmpOf.ints_lt (numAt xs) (fun _ _ => intItems_at), fun v h' tk hP hk => ?_⟩
  have hv : (intItems xs)[argBest (fun i j => decide (numAt xs i < numAt xs j)) (xs.size - 1)]? = some v := by simpa [intItems] using hP
  obtain ⟨t, rfl⟩ := intItems_at hv
  obtain ⟨h1, h2⟩ := argBest_lt (numAt xs) (xs.size - 1)
  refine h h' tk _ t (old_keptT hk) ?_ fun a ha => ?_
  · rw [numAt_eq]; exact PySem.getD_mem (by rw [List.length_map, Array.length_toList]; omega)
  · obtain ⟨j, hj, rfl⟩ := mem_getD ha
    rw [List.length_map, Array.length_toList] at hj
    rw [← numAt_eq]; exact h2 j (by omega)
end raw
/-- greatest, least -/
def maxL : List Int → Int
  | [] => 0
  | [x] => x
  | x :: r => max x (maxL r)
def minL : List Int → Int
  | [] => 0
  | [x] => x
  | x :: r => min x (minL r)
theorem maxL_le : ∀ {ns : List Int} {y : Int}, y ∈ ns → y ≤ maxL ns
  | [x], y, h => by simp at h; subst h; exact Int.le_refl _
  | x :: z :: r, y, h => by
    show y ≤ max x (maxL (z :: r))
    rcases List.mem_cons.mp h with rfl | h
    · exact Int.le_max_left _ _
    · exact Int.le_trans (maxL_le h) (Int.le_max_right _ _)
theorem maxL_mem : ∀ {ns : List Int}, 0 < ns.length → maxL ns ∈ ns
  | [x], _ => by simp [maxL]
  | x :: z :: r, _ => by
    show max x (maxL (z :: r)) ∈ _
    have := maxL_mem (ns := z :: r) (by simp)
    by_cases h : maxL (z :: r) ≤ x
    · rw [Int.max_eq_left h]; exact List.mem_cons_self
    · rw [Int.max_eq_right (by omega)]; exact List.mem_cons_of_mem _ this
theorem minL_le : ∀ {ns : List Int} {y : Int}, y ∈ ns → minL ns ≤ y
  | [x], y, h => by simp at h; subst h; exact Int.le_refl _
  | x :: z :: r, y, h => by
    show min x (minL (z :: r)) ≤ y
    rcases List.mem_cons.mp h with rfl | h
    · exact Int.min_le_left _ _
    · exact Int.le_trans (Int.min_le_right _ _) (minL_le h)
theorem minL_mem : ∀ {ns : List Int}, 0 < ns.length → minL ns ∈ ns
  | [x], _ => by simp [minL]
  | x :: z :: r, _ => by
    show min x (minL (z :: r)) ∈ _
    have := minL_mem (ns := z :: r) (by simp)
    by_cases h : x ≤ minL (z :: r)
    · rw [Int.min_eq_left h]; exact List.mem_cons_self
    · rw [Int.min_eq_right (by omega)]; exact List.mem_cons_of_mem _ this
/-- a function of a row of ints -/
def intsD (c : List Int → Bool) (f : List Int → D) (x : D) : XM D := fun _ st => match seqOf st x with
  | some xs => (match intsOf xs with
    | some ns => if c ns = true then .ok (f ns) st else .stuck
    | none => .stuck)
  | none => .stuck
theorem ints_px {K : PySem.W.Frag} {mg : Str → Option Value} {W : WX} {G H : Hp} {as : List Addr} {st : Store} {σ : L2.St} {e : Nv} {x : D} {v : V} {Q : VK} {c : List Int → Bool} {f : List Int → D} (R : Ri K mg G H as st) (rx : Rp K mg G as v x)
    (h : PX K mg W G H as σ (intsD c f x e st) Q) : ∃ ns a, v = .ref a ∧ (SqL K H a (ns.map V.int) ∨ SqT K H a (ns.map V.int)) ∧ c ns = true ∧ PX K mg W G H as σ (.ok (f ns) st) Q := by
  obtain ⟨xs, a, vs, e1, s, r, h'⟩ := seq_px R rx h
  cases q : intsOf xs with
  | none => simp [q] at h'; exact h'.elim
  | some ns =>
    simp only [q] at h'
    cases intsOf_eq q
    cases RpA.ints _ r
    by_cases hc : c ns = true
    · rw [if_pos hc] at h'; exact ⟨ns, a, e1, s, hc, h'⟩
    · rw [if_neg hc] at h'; exact h'.elim
def rSeqI (K : PySem.W.Frag) (P : List Int → (V → Prop) → Prop) : List V → Hp → VK → Prop := fun vs H Q => ∃ (a : Addr) (ns : List Int), vs = [V.ref a] ∧ (SqL K H a (ns.map V.int) ∨ SqT K H a (ns.map V.int)) ∧ P ns fun v => Q v H
theorem cr_sumA {X : Cx} (hc : X.calm = true) : CallR X (.builtin "sum") (rSeqI X.K fun ns Q => Q (.int ns.sum)) := by
  intro pins s σ H vs us Q I r h
  obtain ⟨a, ns, rfl, hs | hs, q⟩ := h
  · exact cr_sum hc pins s σ H _ us Q I r ⟨a, ns, rfl, hs, q⟩
  · obtain ⟨its, rv, hl, _⟩ := I.tuple hs
    rw [Vals.ref1 r]
    exact sum_rawT (I.ok.hd hc) (show s.heap.IsTuple a its.toArray from hl) rv.ints fun h' tk t' hk => ⟨.int _, H, I.kept hk, ⟨_, rfl⟩, q⟩
theorem cr_maxA {X : Cx} (hc : X.calm = true) : CallR X (.builtin "max") (rSeqI X.K fun ns Q => 0 < ns.length ∧ Q (.int (maxL ns))) := by
  intro pins s σ H vs us Q I r h
  have uq : ∀ (ns : List Int) (m : Int), 0 < ns.length → m ∈ ns → (∀ y, y ∈ ns → y ≤ m) → m = maxL ns := fun ns m h0 h1 h2 => Int.le_antisymm (maxL_le h1) (h2 _ (maxL_mem h0))
  obtain ⟨a, ns, rfl, hs | hs, hne, q⟩ := h
  · exact cr_max hc pins s σ H _ us Q I r ⟨a, ns, rfl, hs, hne, fun m h1 h2 => by rw [uq ns m hne h1 h2]; exact q⟩
  · obtain ⟨its, rv, hl, _⟩ := I.tuple hs
    rw [Vals.ref1 r]
    exact max_rawT (I.ok.hd hc) (show s.heap.IsTuple a its.toArray from hl) rv.ints hne fun h' tk m t' hk h1 h2 => ⟨.int _, H, I.kept hk, ⟨_, rfl⟩, by rw [uq ns m hne h1 h2]; exact q⟩
theorem cr_minA {X : Cx} (hc : X.calm = true) : CallR X (.builtin "min") (rSeqI X.K fun ns Q => 0 < ns.length ∧ Q (.int (minL ns))) := by
  intro pins s σ H vs us Q I r h
  have uq : ∀ (ns : List Int) (m : Int), 0 < ns.length → m ∈ ns → (∀ y, y ∈ ns → m ≤ y) → m = minL ns := fun ns m h0 h1 h2 => Int.le_antisymm (h2 _ (minL_mem h0)) (minL_le h1)
  obtain ⟨a, ns, rfl, hs | hs, hne, q⟩ := h
  · exact cr_min hc pins s σ H _ us Q I r ⟨a, ns, rfl, hs, hne, fun m h1 h2 => by rw [uq ns m hne h1 h2]; exact q⟩
  · obtain ⟨its, rv, hl, _⟩ := I.tuple hs
    rw [Vals.ref1 r]
    exact min_rawT (I.ok.hd hc) (show s.heap.IsTuple a its.toArray from hl) rv.ints hne fun h' tk m t' hk h1 h2 => ⟨.int _, H, I.kept hk, ⟨_, rfl⟩, by rw [uq ns m hne h1 h2]; exact q⟩
abbrev sumD : D → XM D := intsD (fun _ => true) fun ns => .int ns.sum
abbrev maxD : D → XM D := intsD (fun ns => !ns.isEmpty) fun ns => .int (maxL ns)
abbrev minD : D → XM D := intsD (fun ns => !ns.isEmpty) fun ns => .int (minL ns)
theorem cs_sum : CallS F (.builtin "sum") (f1 sumD) := by
  refine cs_1 (r := rSeqI g.K fun ns Q => Q (.int ns.sum)) (fun W X m => by have := cr_sumA (F.calm m); rw [F.hK m] at this; exact this) ?_
  intro W G H as st σ e x v Q R rx h
  obtain ⟨ns, a, rfl, s, _, h'⟩ := ints_px R rx h
  exact ⟨a, ns, rfl, s, h'.pure R (.int _)⟩
theorem ne_pos {ns : List Int} (h : (!ns.isEmpty) = true) : 0 < ns.length := by
  cases ns with
  | nil => cases h
  | cons _ _ => simp
theorem cs_max : CallS F (.builtin "max") (f1 maxD) := by
  refine cs_1 (r := rSeqI g.K fun ns Q => 0 < ns.length ∧ Q (.int (maxL ns))) (fun W X m => by have := cr_maxA (F.calm m); rw [F.hK m] at this; exact this) ?_
  intro W G H as st σ e x v Q R rx h
  obtain ⟨ns, a, rfl, s, c, h'⟩ := ints_px R rx h
  exact ⟨a, ns, rfl, s, ne_pos c, h'.pure R (.int _)⟩
theorem cs_min : CallS F (.builtin "min") (f1 minD) := by
  refine cs_1 (r := rSeqI g.K fun ns Q => 0 < ns.length ∧ Q (.int (minL ns))) (fun W X m => by have := cr_minA (F.calm m); rw [F.hK m] at this; exact this) ?_
  intro W G H as st σ e x v Q R rx h
  obtain ⟨ns, a, rfl, s, c, h'⟩ := ints_px R rx h
  exact ⟨a, ns, rfl, s, ne_pos c, h'.pure R (.int _)⟩
/-- all, any of a list of bools -/
def blsD (f : List Bool → Bool) (x : D) : XM D := fun _ st => match lstOf st x with
  | some xs => (match blsOf xs with
    | some bs => .ok (.bl (f bs)) st
    | none => .stuck)
  | none => .stuck
theorem bls_px {K : PySem.W.Frag} {mg : Str → Option Value} {W : WX} {G H : Hp} {as : List Addr} {st : Store} {σ : L2.St} {e : Nv} {x : D} {v : V} {Q : VK} {f : List Bool → Bool} (R : Ri K mg G H as st) (rx : Rp K mg G as v x)
    (h : PX K mg W G H as σ (blsD f x e st) Q) : ∃ bs a, v = .ref a ∧ SqL K H a (bs.map V.bl) ∧ Q (.bl (f bs)) H := by
  unfold blsD at h
  cases q0 : lstOf st x with
  | none => simp [q0] at h; exact h.elim
  | some xs =>
    obtain ⟨a, vs, e1, s, r⟩ := lstOf_ok R rx q0
    cases q : blsOf xs with
    | none => simp [q0, q] at h; exact h.elim
    | some bs =>
      simp only [q0, q] at h
      cases blsOf_eq q
      cases RpA.bls _ r
      exact ⟨bs, a, e1, .of s, h.pure R (.bl _)⟩
abbrev allD : D → XM D := blsD fun bs => bs.all id
abbrev anyD : D → XM D := blsD fun bs => bs.any id
theorem cs_all : CallS F (.builtin "all") (f1 allD) := by
  refine cs_1 (r := rAll g.K) (fun W X m => by have := cr_all (X := X) (F.calm m); rw [F.hK m] at this; exact this) ?_
  intro W G H as st σ e x v Q R rx h
  obtain ⟨bs, a, rfl, s, q⟩ := bls_px R rx h
  exact ⟨a, bs, rfl, s, q⟩
theorem cs_any : CallS F (.builtin "any") (f1 anyD) := by
  refine cs_1 (r := rAny g.K) (fun W X m => by have := cr_any (X := X) (F.calm m); rw [F.hK m] at this; exact this) ?_
  intro W G H as st σ e x v Q R rx h
  obtain ⟨bs, a, rfl, s, q⟩ := bls_px R rx h
  exact ⟨a, bs, rfl, s, q⟩
/-! ### list(x), tuple(x) -/
def listD (x : D) : XM D := fun _ st => match seqOf st x with
  | some xs => .ok (.lst xs) st
  | none => .stuck
def tupleD (x : D) : XM D := fun _ st => match seqOf st x with
  | some xs => .ok (.tup xs) st
  | none => .stuck
theorem cs_list : CallS F (.type "list") (f1 listD) := by
  refine cs_1 (r := fun xs H Q => ∃ p ys, xs = [.ref p] ∧ (SqL g.K H p ys ∨ SqT g.K H p ys) ∧ ∀ l, H l = none → Q (.ref l) (upd H l (.lst ys))) (fun W X m => by have := call_list_of (X := X); rw [F.hK m] at this; exact this) ?_
  intro W G H as st σ e x v Q R rx h
  obtain ⟨xs, a, vs, rfl, s, r, h'⟩ := seq_px (f := fun xs => .ok (.lst xs) st) R rx h
  refine ⟨a, vs, rfl, s, fun p hp => ?_⟩
  exact PX.still R hp (.lst upd_same (r.ext (R.still hp).2)) h'
theorem cs_tuple : CallS F (.type "tuple") (f1 tupleD) := by
  refine cs_1 (r := fun xs H Q => ∃ p ys, xs = [.ref p] ∧ ((SqL g.K H p ys ∧ ∀ l, H l = none → Q (.ref l) (upd H l (.tup ys))) ∨ (SqT g.K H p ys ∧ Q (.ref p) H))) (fun W X m => by have := call_tuple_of (X := X); rw [F.hK m] at this; exact this) ?_
  intro W G H as st σ e x v Q R rx h
  have new : ∀ xs a vs, SqL g.K H a vs → RpA g.K g.mg G as vs xs → PX g.K g.mg W G H as σ (.ok (.tup xs) st) Q → ∀ l, H l = none → Q (.ref l) (upd H l (.tup vs)) := fun xs a vs s r q p hp =>
    PX.still R hp (.tup (.inl (.inl upd_same)) (r.ext (R.still hp).2)) q
  have mov : (match lstOf st x with | some xs => (.ok (.tup xs) st : RX D) | none => .stuck) = tupleD x e st → ∃ p ys, [v] = [V.ref p] ∧ ((SqL g.K H p ys ∧ ∀ l, H l = none → Q (.ref l) (upd H l (.tup ys))) ∨ (SqT g.K H p ys ∧ Q (.ref p) H)) := fun e' => by
    rw [← e'] at h
    cases q0 : lstOf st x with
    | none => simp [q0] at h; exact h.elim
    | some xs =>
      simp only [q0] at h
      obtain ⟨a, vs, rfl, s, r⟩ := lstOf_ok R rx q0
      exact ⟨a, vs, rfl, .inl ⟨.of s, new xs a vs (.of s) r h⟩⟩
  cases rx with
  | tup s q => exact ⟨_, _, rfl, .inr ⟨sqT_H R s, PX.pure R (.tup s q) h⟩⟩
  | sq s q => exact ⟨_, _, rfl, .inl ⟨sqL_H R s, new _ _ _ (sqL_H R s) q h⟩⟩
  | lst s q => exact mov rfl
  | ref q => exact mov rfl
  | _ => exact h.elim

/-! ### isinstance -/
def tyNm : D → Option String
  | .non => some "NoneType"
  | .bl _ => some "bool"
  | .int _ => some "int"
  | .str _ => some "str"
  | .tup _ => some "tuple"
  | .lst _ => some "list"
  | .sq _ => some "list"
  | .ref _ => some "list"
  | _ => none
def knownTy (n : String) : Bool := n == "int" || n == "bool" || n == "str" || n == "tuple" || n == "list" || n == "dict"
def isiB (a n : String) : Bool := a == n || (a == "bool" && n == "int")
def isiO (x : D) (n : String) : Option Bool := match tyNm x with
  | some a => if knownTy n = true then some (isiB a n) else none
  | none => none
theorem known_cases {n : String} (h : knownTy n = true) : n = "int" ∨ n = "bool" ∨ n = "str" ∨ n = "tuple" ∨ n = "list" ∨ n = "dict" := by
  unfold knownTy at h
  simp only [Bool.or_eq_true, beq_iff_eq] at h
  rcases h with ((((h | h) | h) | h) | h) | h <;> simp [h]
theorem kit_cases {K : PySem.W.Frag} {a n : String} (ha : a = "NoneType" ∨ a = "bool" ∨ a = "int" ∨ a = "str" ∨ a = "tuple" ∨ a = "list") (h : knownTy n = true) : PySem.W.kitOne K (.type a) (.type n) = some (isiB a n) := by
  rcases ha with rfl | rfl | rfl | rfl | rfl | rfl <;> rcases known_cases h with rfl | rfl | rfl | rfl | rfl | rfl <;> exact kit_ty (by decide +kernel)
theorem tyX_of {K : PySem.W.Frag} {mg : Str → Option Value} {G H : Hp} {as : List Addr} {st : Store} {x : D} {v : V} {a : String} (R : Ri K mg G H as st) (r : Rp K mg G as v x) (h : tyNm x = some a) (hr : ∀ i, x = .ref i → ∃ xs, lstOf st x = some xs) :
    TyX K H v (.type a) ∧ (a = "NoneType" ∨ a = "bool" ∨ a = "int" ∨ a = "str" ∨ a = "tuple" ∨ a = "list") := by
  have sqL : ∀ {a : Addr} {vs : List V}, SqL K H a vs → TyX K H (.ref a) (.type "list") := fun {a vs} s => by
    rcases s with (s | ⟨o, s⟩) | ⟨o, its, n, hk, hc, _⟩
    · exact .base (.lst s)
    · exact .base (.frz s)
    · exact .kList hk hc
  have sqT : ∀ {a : Addr} {vs : List V}, SqT K H a vs → TyX K H (.ref a) (.type "tuple") := fun {a vs} s => by
    rcases s with (s | ⟨o, s⟩) | ⟨o, its, n, hk, hc, _⟩
    · exact .base (.tup s)
    · exact .fTuple s
    · exact .kTuple hk hc
  cases r with
  | non => cases h; exact ⟨.base .non, by simp⟩
  | bl b => cases h; exact ⟨.base (.bl b), by simp⟩
  | int b => cases h; exact ⟨.base (.int b), by simp⟩
  | str b => cases h; exact ⟨.base (.str b), by simp⟩
  | ty n => cases h
  | glo x a q => cases h
  | tup s q => cases h; exact ⟨sqT (sqT_H R s), by simp⟩
  | lst s q => cases h; exact ⟨sqL (.of (R.sub _ _ s)), by simp⟩
  | sq s q => cases h; exact ⟨sqL (sqL_H R s), by simp⟩
  | ref q =>
    cases h
    obtain ⟨xs, e⟩ := hr _ rfl
    obtain ⟨b, vs, e1, s, _⟩ := lstOf_ok R (.ref q) e
    cases e1
    exact ⟨sqL (.of s), by simp⟩
def refOk (st : Store) (x : D) : Bool := match x with
  | .ref i => (lstOf st (.ref i)).isSome
  | _ => true
theorem refOk_ok {st : Store} {x : D} (h : refOk st x = true) : ∀ i, x = .ref i → ∃ xs, lstOf st x = some xs := fun i e => by
  subst e
  exact Option.isSome_iff_exists.mp h
def isiD (x y : D) : XM D := fun _ st => match y with
  | .ty n => (match isiO x n with
    | some b => if refOk st x = true then .ok (.bl b) st else .stuck
    | none => .stuck)
  | _ => .stuck
theorem cs_isi : CallS F (.builtin "isinstance") (f2 isiD) := by
  refine cs_2 (r := rIsi g.K) (fun W X m => by have := call_isi (X := X); rw [F.hK m] at this; exact this) ?_
  intro W G H as st σ e x y v w Q R rx ry h
  cases ry with
  | ty n =>
    unfold isiD at h
    cases q : isiO x n with
    | none => simp [q] at h; exact h.elim
    | some b =>
      simp only [q] at h
      by_cases hr : refOk st x = true
      · rw [if_pos hr] at h
        unfold isiO at q
        cases q1 : tyNm x with
        | none => simp [q1] at q
        | some a =>
          simp only [q1] at q
          by_cases hk : knownTy n = true
          · rw [if_pos hk] at q
            cases q
            obtain ⟨t, c⟩ := tyX_of R rx q1 (refOk_ok hr)
            exact ⟨v, .ty n, .type a, .type n, isiB a n, rfl, .ty n, t, kit_cases c hk, h.pure R (.bl _)⟩
          · rw [if_neg hk] at q; cases q
      · rw [if_neg hr] at h; exact h.elim
  | _ => exact h.elim
/-- isinstance(x, (T1, T2)) -/
def isi2D (n1 n2 : String) (x : D) : XM D := fun _ st => match isiO x n1, isiO x n2 with
  | some a, some b => if refOk st x = true then .ok (.bl (a || b)) st else .stuck
  | _, _ => .stuck
theorem je_isi2 {x : Str} {p p2 pa pb : Pos} {k : Nat} {a : Expr} {m : XM D} {x1 x2 : Str} {n1 n2 : String} (hg : F.sc.names.lookup x = some .globalImplicit) (hm : g.mg x = none) (hv : bootBuiltins x = some (.builtin "isinstance")) (ha : JE F a m)
    (hg1 : F.sc.names.lookup x1 = some .globalImplicit) (hm1 : g.mg x1 = none) (hv1 : bootBuiltins x1 = some (.type n1)) (hg2 : F.sc.names.lookup x2 = some .globalImplicit) (hm2 : g.mg x2 = none) (hv2 : bootBuiltins x2 = some (.type n2))
    (hn : x ≠ "__name__" := by decide) (hdb : (x == ("__debug__" : Str)) = false := by decide) (hn1 : x1 ≠ "__name__" := by decide) (hd1 : (x1 == ("__debug__" : Str)) = false := by decide) (hn2 : x2 ≠ "__name__" := by decide) (hd2 : (x2 == ("__debug__" : Str)) = false := by decide)
    (he : ∀ env, starEach [a, .Tuple [.Name x1 pa, .Name x2 pb] k p2] env = (false, eval a env) :: starEach [.Tuple [.Name x1 pa, .Name x2 pb] k p2] env := by intro _; rfl) (hpl : ∀ env, (backTo pos (starEach [.Tuple [.Name x1 pa, .Name x2 pb] k p2] env)).any (·.1) = false := by intro _; rfl) :
    JE F (.Call (.Name x p) [a, .Tuple [.Name x1 pa, .Name x2 pb] k p2] [] pos) (xbind m (isi2D n1 n2)) := by
  obtain ⟨t, p', s⟩ := ha
  refine ⟨fun W => tCB (rIsiT g.K) (tCons (t W) (tCons (tTup (tCons (tC (.ty n1)) (tCons (tC (.ty n2)) tNil))) tNil)), fun W X m => ?_, ?_⟩
  · have gl : ∀ y, F.sc.names.lookup y = some .globalImplicit → Gl X y := fun y hy => by show X.env.scope.names.lookup y = _; rw [F.hsc m]; exact hy
    have mg' : ∀ y, g.mg y = none → X.mg y = none := fun y hy => by rw [F.hmg m]; exact hy
    have c := call_isiT (X := X)
    rw [F.hK m] at c
    exact pe_callB c (gl x hg) (mg' x hm) hv (pa_cons (p' W X m) (pa_cons (pe_tup (pa_cons (pe_bltn (gl x1 hg1) (mg' x1 hm1) hv1 rfl hn1 hd1) (pa_cons (pe_bltn (gl x2 hg2) (mg' x2 hm2) hv2 rfl hn2 hd2) pa_nil))) pa_nil) (he _)) hn hdb (he _) (hpl _)
  · intro W G H as st σ e Q R N h
    refine s.one R N h fun d st1 v G1 H1 as1 R1 X1 N1 rv h1 => ?_
    unfold isi2D at h1
    cases q1 : isiO d n1 with
    | none => simp [q1] at h1; exact h1.elim
    | some b1 =>
      cases q2 : isiO d n2 with
      | none => simp [q1, q2] at h1; exact h1.elim
      | some b2 =>
        simp only [q1, q2] at h1
        by_cases hr : refOk st1 d = true
        · rw [if_pos hr] at h1
          unfold isiO at q1 q2
          cases q3 : tyNm d with
          | none => simp [q3] at q1
          | some ty =>
            simp only [q3] at q1 q2
            by_cases hk1 : knownTy n1 = true
            · by_cases hk2 : knownTy n2 = true
              · rw [if_pos hk1] at q1
                rw [if_pos hk2] at q2
                cases q1; cases q2
                refine ⟨by show 2 ≤ sizeLine; decide, fun tp htp => ?_⟩
                obtain ⟨R2, X2⟩ := R1.still (o := .tup [V.ty n1, V.ty n2]) htp
                obtain ⟨tx, c⟩ := tyX_of R2 (rv.ext X2) q3 (refOk_ok hr)
                refine ⟨v, tp, [.ty n1, .ty n2], .type ty, [.type n1, .type n2], isiB ty n1 || isiB ty n2, rfl, upd_same, .cons (.ty n1) (.cons (.ty n2) .nil), tx, ?_, h1 _ _ _ _ R2 X2 (.bl _)⟩
                refine kitAny_cons (b := isiB ty n1) (kit_cases c hk1) (fun z => ?_) (fun z => by rw [z]; rfl)
                rw [z, Bool.false_or]
                exact kitAny_cons (b := isiB ty n2) (kit_cases c hk2) (fun z2 => by rw [z2]; exact kitAny_nil) (fun z2 => z2)
              · rw [if_neg hk2] at q2; cases q2
            · rw [if_neg hk1] at q1; cases q1
        · rw [if_neg hr] at h1; exact h1.elim
end
end LS
end
section
set_option maxRecDepth 100000
set_option maxHeartbeats 2000000
namespace LS
open PySem PySem.Spec L2

/-! ## statements -/
section
variable {g : Gb} {F : Fam g} {pos : Pos}
def snext : SM := fun e st => .nx e st
def sseq (m n : SM) : SM := fun e st => match m e st with
  | .nx e' st' => n e' st'
  | r => r
theorem jss_nil : JSs F [] snext := ⟨fun _ => tNext, fun _ _ _ => pss_nil, fun W G H as st σ e E R N h => h σ G H as R N Ext.refl⟩
theorem jss_one {s : Stmt} {m : SM} (h : JS F s m) : JSs F [s] m := let ⟨t, p, q⟩ := h; ⟨t, fun W X m => pss_one (p W X m), q⟩
theorem PS_.ends {K : PySem.W.Frag} {mg : Str → Option Value} {W : WX} {G H : Hp} {as : List Addr} {n : Nat} {m : RS} {E E' : Ends} (h : PS_ K mg W G H as n m E) (hr : E'.rt = E.rt) (hb : E'.bk = E.bk) (hc : E'.ct = E.ct)
    (hn : ∀ e st, m = .nx e st → ∀ σ G' H' as', Ri K mg G' H' as' st → Rn K mg G' as' σ e → Ext G H as G' H' as' → E'.nx σ H') : PS_ K mg W G H as n m E' := by
  cases m with
  | nx e st => exact hn e st rfl
  | rt d st => intro v G' H' as' R x r; rw [hr]; exact h v G' H' as' R x r
  | bk e st => intro σ G' H' as' R N x; rw [hb]; exact h σ G' H' as' R N x
  | ct e st => intro σ G' H' as' R N x; rw [hc]; exact h σ G' H' as' R N x
  | exc c p e st => exact h
  | stuck => exact h
theorem jss_cons {s : Stmt} {r : List Stmt} {m n : SM} (h : JS F s m) (h' : JSs F r n) : JSs F (s :: r) (sseq m n) := by
  obtain ⟨t, p, q⟩ := h
  obtain ⟨t', p', q'⟩ := h'
  refine ⟨fun W => tSeq (t W) (t' W), fun W X mm => pss_cons (p W X mm) (p' W X mm), ?_⟩
  intro W G H as st σ e E R N h
  refine q W G H as st σ e _ R N ?_
  unfold sseq at h
  cases hm : m e st with
  | nx e1 st1 =>
    rw [hm] at h
    exact fun σ1 G1 H1 as1 R1 N1 X1 => q' W G1 H1 as1 st1 σ1 e1 E R1 N1 (PS_.ext (n := e.length) h X1)
  | rt d st1 => rw [hm] at h; exact h
  | bk e1 st1 => rw [hm] at h; exact h
  | ct e1 st1 => rw [hm] at h; exact h
  | exc c p e1 st1 => rw [hm] at h; exact h
  | stuck => rw [hm] at h; exact h
theorem js_pass : JS F (.Pass pos) snext := ⟨fun _ => tNext, fun _ _ _ => ps_pass, fun W G H as st σ e E R N h => h σ G H as R N Ext.refl⟩
def sbreak : SM := fun e st => .bk e st
def scont : SM := fun e st => .ct e st
theorem js_break : JS F (.Break pos) sbreak := ⟨fun _ => tBreak, fun _ _ _ => ps_break, fun W G H as st σ e E R N h => h σ G H as R N Ext.refl⟩
theorem js_cont : JS F (.Continue pos) scont := ⟨fun _ => tCont, fun _ _ _ => ps_continue, fun W G H as st σ e E R N h => h σ G H as R N Ext.refl⟩
/-- an expression's outcome ahead of a statement's rest -/
def sbind (m : XM D) (f : D → SM) : SM := fun e st => match m e st with
  | .ok d st' => f d e st'
  | .exc c p st' => .exc c p e st'
  | .stuck => .stuck
theorem SE.oneS {t : WX → TE} {m : XM D} {f : D → SM} {W : WX} {G H : Hp} {as : List Addr} {σ : L2.St} {e : Nv} {st : Store} {E : Ends} {Q1 : VK} (s : SE g t m) (R : Ri g.K g.mg G H as st) (N : Rn g.K g.mg G as σ e) (h : PS_ g.K g.mg W G H as e.length (sbind m f e st) E)
    (k : ∀ x st1 v G1 H1 as1, Ri g.K g.mg G1 H1 as1 st1 → Ext G H as G1 H1 as1 → Rn g.K g.mg G1 as1 σ e → Rp g.K g.mg G1 as1 v x → PS_ g.K g.mg W G1 H1 as1 e.length (f x e st1) E → Q1 v H1) : t W σ H Q1 := by
  refine s W G H as st σ e Q1 R N ?_
  unfold sbind at h
  cases q : m e st with
  | ok x st1 =>
    rw [q] at h
    exact fun v G1 H1 as1 R1 X1 rv => k x st1 v G1 H1 as1 R1 X1 (N.ext X1) rv (PS_.ext (r := f x e st1) h X1)
  | exc c p st1 =>
    rw [q] at h
    exact fun cls d G1 H1 as1 R1 X1 x => h σ cls d G1 H1 as1 R1 (N.ext X1) X1 x
  | stuck => rw [q] at h; exact h.elim
def sbindB (m : XM Bool) (f : Bool → SM) : SM := fun e st => match m e st with
  | .ok d st' => f d e st'
  | .exc c p st' => .exc c p e st'
  | .stuck => .stuck
theorem ST.oneS {t : WX → TT} {m : XM Bool} {f : Bool → SM} {W : WX} {G H : Hp} {as : List Addr} {σ : L2.St} {e : Nv} {st : Store} {E : Ends} {Q1 : Bool → Hp → Prop} (s : ST g t m) (R : Ri g.K g.mg G H as st) (N : Rn g.K g.mg G as σ e) (h : PS_ g.K g.mg W G H as e.length (sbindB m f e st) E)
    (k : ∀ x st1 G1 H1 as1, Ri g.K g.mg G1 H1 as1 st1 → Ext G H as G1 H1 as1 → Rn g.K g.mg G1 as1 σ e → PS_ g.K g.mg W G1 H1 as1 e.length (f x e st1) E → Q1 x H1) : t W σ H Q1 := by
  refine s W G H as st σ e Q1 R N ?_
  unfold sbindB at h
  cases q : m e st with
  | ok x st1 =>
    rw [q] at h
    exact fun G1 H1 as1 R1 X1 => k x st1 G1 H1 as1 R1 X1 (N.ext X1) (PS_.ext (r := f x e st1) h X1)
  | exc c p st1 =>
    rw [q] at h
    exact fun cls d G1 H1 as1 R1 X1 x => h σ cls d G1 H1 as1 R1 (N.ext X1) X1 x
  | stuck => rw [q] at h; exact h.elim
def sdrop (m : XM D) : SM := sbind m fun _ => snext
theorem js_expr {ex : Expr} {m : XM D} (h : JE F ex m) (hs : ∀ env, swapsWith ex none pos.line env = pure false := by intro _; rfl) : JS F (.Expr ex pos) (sdrop m) := by
  obtain ⟨t, p, s⟩ := h
  refine ⟨fun W => tDrop (t W), fun W X m => ps_expr (p W X m) (hs _), ?_⟩
  intro W G H as st σ e E R N h
  exact s.oneS R N h fun x st1 v G1 H1 as1 R1 X1 N1 rv h1 => h1 σ G1 H1 as1 R1 N1 Ext.refl
def sret (m : XM D) : SM := sbind m fun d => fun _ st => .rt d st
theorem js_ret {ex : Expr} {m : XM D} (h : JE F ex m) : JS F (.Return (some ex) pos) (sret m) := by
  obtain ⟨t, p, s⟩ := h
  refine ⟨fun W => tRet (t W), fun W X m => ps_ret (p W X m), ?_⟩
  intro W G H as st σ e E R N h
  exact s.oneS R N h fun x st1 v G1 H1 as1 R1 X1 N1 rv h1 => h1 v G1 H1 as1 R1 Ext.refl rv
def sretN : SM := fun _ st => .rt .non st
theorem js_retN : JS F (.Return none pos) sretN := ⟨fun _ => tRetN, fun _ _ _ => ps_retN, fun W G H as st σ e E R N h => h .non G H as R Ext.refl .non⟩
def sif (c : XM Bool) (m n : SM) : SM := sbindB c fun b => if b = true then m else n
theorem js_if {c : Expr} {a b : List Stmt} {mc : XM Bool} {m n : SM} (hc : JT F c mc) (ha : JSs F a m) (hb : JSs F b n) : JS F (.If c a b pos) (sif mc m n) := by
  obtain ⟨tc, pc, sc⟩ := hc
  obtain ⟨ta, pa, sa⟩ := ha
  obtain ⟨tb, pb, sb⟩ := hb
  refine ⟨fun W => tIfS (tc W) (ta W) (tb W), fun W X m => ps_if (pc W X m) (pa W X m) (pb W X m), ?_⟩
  intro W G H as st σ e E R N h
  refine sc.oneS R N h fun b st1 G1 H1 as1 R1 X1 N1 h1 => ?_
  cases b with
  | true => exact iteT (sa W G1 H1 as1 st1 σ e E R1 N1 h1)
  | false => exact iteF (sb W G1 H1 as1 st1 σ e E R1 N1 h1)

/-! ## targets -/
abbrev MG := D → Nv → Store → Option (Nv × Store)
def JG (F : Fam g) (target : Expr) (m : MG) : Prop := ∃ t : WX → TG, (∀ W X, F.mem W X → PG X target (t W)) ∧
  ∀ (W : WX) (G H : Hp) (as : List Addr) (st : Store) (σ : L2.St) (e : Nv) (v : V) (x : D) (e' : Nv) (st' : Store) (Q : L2.St → Hp → Prop), Ri g.K g.mg G H as st → Rn g.K g.mg G as σ e → Rp g.K g.mg G as v x → m x e st = some (e', st') →
    (∀ σ' G' H' as', Ri g.K g.mg G' H' as' st' → Rn g.K g.mg G' as' σ' e' → Ext G H as G' H' as' → Q σ' H') → t W v σ H Q
theorem Rn.set {K : PySem.W.Frag} {mg : Str → Option Value} {G : Hp} {as : List Addr} {σ : L2.St} {e : Nv} {v : V} {x : D} (N : Rn K mg G as σ e) (i : Nat) (r : Rp K mg G as v x) : Rn K mg G as (σ.set i (some v)) (e.set i (some x)) := by
  refine ⟨by simp [N.len], fun j y h => ?_⟩
  by_cases hj : j = i
  · subst hj
    have hl : j < e.length := by
      have := (List.getElem?_eq_some_iff.mp h).1
      simpa using this
    rw [List.getElem?_set_self hl] at h
    cases h
    exact ⟨v, List.getElem?_set_self (by rw [N.len]; exact hl), r⟩
  · rw [List.getElem?_set_ne (Ne.symm hj)] at h
    obtain ⟨u, e1, r1⟩ := N.at_ j y h
    exact ⟨u, by rw [List.getElem?_set_ne (Ne.symm hj)]; exact e1, r1⟩
def gname (i : Nat) : MG := fun x e st => some (e.set i (some x), st)
theorem jg_name (i : Nat) {x : Str} (hi : F.N[i]? = some x) (hx : Loc F.sc x) (hw : F.own x = true := by rfl) : JG F (.Name x pos) (gname i) := by
  refine ⟨fun _ => gName i, fun W X m => pg_name (by rw [F.hN m]; exact F.nd) (by rw [F.hN m]; exact hi) (by rw [F.hsc m]; exact hx) (F.fn m x hw hx), ?_⟩
  intro W G H as st σ e v x e' st' Q R N r h k
  cases h
  exact k _ G H as R (N.set i r) Ext.refl
/-- several targets -/
abbrev MGs := List D → Nv → Store → Option (Nv × Store)
def JGs (F : Fam g) (ts : List Expr) (m : MGs) : Prop := ∃ t : WX → TGs, (∀ W X, F.mem W X → PGs X ts (t W)) ∧
  ∀ (W : WX) (G H : Hp) (as : List Addr) (st : Store) (σ : L2.St) (e : Nv) (vs : List V) (xs : List D) (e' : Nv) (st' : Store) (Q : L2.St → Hp → Prop), Ri g.K g.mg G H as st → Rn g.K g.mg G as σ e → RpA g.K g.mg G as vs xs → m xs e st = some (e', st') →
    (∀ σ' G' H' as', Ri g.K g.mg G' H' as' st' → Rn g.K g.mg G' as' σ' e' → Ext G H as G' H' as' → Q σ' H') → t W vs σ H Q
def gnil : MGs := fun xs e st => match xs with
  | [] => some (e, st)
  | _ => none
def gcons (m : MG) (ms : MGs) : MGs := fun xs e st => match xs with
  | x :: r => (match m x e st with
    | some (e', st') => ms r e' st'
    | none => none)
  | [] => none
theorem jgs_nil : JGs F [] gnil := by
  refine ⟨fun _ => gNil, fun _ _ _ => pgs_nil, ?_⟩
  intro W G H as st σ e vs xs e' st' Q R N r h k
  cases r with
  | nil => cases h; exact ⟨rfl, k _ G H as R N Ext.refl⟩
  | cons _ _ => cases h
theorem jgs_cons {ex : Expr} {es : List Expr} {m : MG} {ms : MGs} (h : JG F ex m) (hs : JGs F es ms) (ha : ∀ env, (assignEach (ex :: es) env).map (·.2) = assign ex env :: (assignEach es env).map (·.2) := by intro _; rfl) : JGs F (ex :: es) (gcons m ms) := by
  obtain ⟨t, p, s⟩ := h
  obtain ⟨ts, ps, ss⟩ := hs
  refine ⟨fun W => gCons (t W) (ts W), fun W X m => pgs_cons (p W X m) (ps W X m) (ha _), ?_⟩
  intro W G H as st σ e vs xs e' st' Q R N r h k
  cases r with
  | nil => cases h
  | cons r rr =>
    rename_i v vr x xr
    unfold gcons at h
    cases q : m x e st with
    | none => simp [q] at h
    | some z =>
      obtain ⟨e1, st1⟩ := z
      simp only [q] at h
      refine ⟨v, vr, rfl, s W G H as st σ e v x e1 st1 _ R N r q fun σ1 G1 H1 as1 R1 N1 X1 => ?_⟩
      exact ss W G1 H1 as1 st1 σ1 e1 vr xr e' st' Q R1 N1 (rr.ext X1) h fun σ2 G2 H2 as2 R2 N2 X2 => k σ2 G2 H2 as2 R2 N2 (X1.trans X2)
def gtup (n : Nat) (ms : MGs) : MG := fun x e st => match x with
  | .tup xs => if xs.length = n then ms xs e st else none
  | _ => none
theorem jg_tup {es : List Expr} {k n : Nat} {ms : MGs} (hs : JGs F es ms) (hn : ∀ env, (assignEach es env).length = n := by intro _; rfl) (hst : ∀ env, (assignEach es env).findIdx? (·.1) = none := by intro _; rfl) : JG F (.Tuple es k pos) (gtup n ms) := by
  obtain ⟨ts, ps, ss⟩ := hs
  refine ⟨fun W => gTup g.K n (ts W), fun W X m => by have := pg_tup (k := k) (pos := pos) (F.calm m) (ps W X m) (hn _) (hst _); rw [F.hK m] at this; exact this, ?_⟩
  intro W G H as st σ e v x e' st' Q R N r h k
  cases r with
  | tup s q =>
    rename_i a vs xs
    unfold gtup at h
    by_cases hl : xs.length = n
    · simp only [hl, if_true] at h
      exact ⟨a, vs, rfl, sqT_H R s, q.len.trans hl, ss W G H as st σ e vs xs e' st' Q R N q h k⟩
    · simp [hl] at h
  | _ => cases h
/-- o[i] = .. of a moving list; o and i by parts that change nothing -/
def gsub (mo mi : XM D) : MG := fun x e st => match mo e st, mi e st with
  | .ok (.ref k) _, .ok (.int i) _ => (match st[k]? with
    | some (.lst xs) => (match ixN xs.length i with
      | some j => some (e, st.set k (.lst (xs.set j x)))
      | none => none)
    | _ => none)
  | _, _ => none
/-- parts that change nothing -/
def Quiet (m : XM D) : Prop := ∀ e st d st', m e st = .ok d st' → st' = st
theorem quiet_var (i : Nat) : Quiet (xvar i) := fun e st d st' h => by
  unfold xvar at h
  split at h
  · cases h; rfl
  · cases h
theorem quiet_pure (d : D) : Quiet (xpure d) := fun _ _ _ _ h => by cases h; rfl
theorem jg_sub {o i : Expr} {mo mi : XM D} (ho : JE F o mo) (hi : JE F i mi) (qo : Quiet mo) (qi : Quiet mi)
    (ha : ∀ (env : Env) v, assign (.Subscript o i pos) env v = (do
      let ov ← holding [v] (eval o env)
      let iv ← holding [v, ov] (eval i env)
      standAt pos
      holding [v, ov, iv] (setItem ov iv v)
      release [v, ov, iv] []) := by intro _ _; rfl) : JG F (.Subscript o i pos) (gsub mo mi) := by
  obtain ⟨t, p, s⟩ := ho
  obtain ⟨ti, pi, si⟩ := hi
  refine ⟨fun W => gSub (t W) (ti W) rSetL, fun W X m => pg_sub (p W X m) (pi W X m) set_list (ha _), ?_⟩
  intro W G H as st σ e v x e' st' Q R N r h k
  unfold gsub at h
  cases q1 : mo e st with
  | exc c p st1 => simp [q1] at h
  | stuck => simp [q1] at h
  | ok d st1 =>
    cases q2 : mi e st with
    | exc c p st1 => simp [q1, q2] at h
    | stuck => simp [q1, q2] at h
    | ok d2 st2 =>
      cases qo _ _ _ _ q1
      cases qi _ _ _ _ q2
      rw [q1, q2] at h
      cases d with
      | ref kk =>
        cases d2 with
        | int ii =>
          simp only at h
          cases q3 : st[kk]? with
          | none => simp [q3] at h
          | some mo' =>
            cases mo' with
            | lst xs =>
              simp only [q3] at h
              cases q4 : ixN xs.length ii with
              | none => simp [q4] at h
              | some j =>
                simp only [q4] at h
                cases h
                refine s W G H as st σ e _ R N ?_
                rw [q1]
                intro ov G1 H1 as1 R1 X1 ro
                refine si W G1 H1 as1 st σ e _ R1 (N.ext X1) ?_
                rw [q2]
                intro iv G2 H2 as2 R2 X2 ri
                have ro2 := ro.ext X2
                cases ri
                cases ro2 with
                | ref qa =>
                  rename_i a
                  obtain ⟨ho', e1, oo⟩ := R2.at_ qa q3
                  cases oo with
                  | lst rr =>
                    rename_i vs
                    obtain ⟨R3, X3⟩ := R2.change (o := .lst (vs.set j v)) (m := .lst (xs.set j x)) qa (.lst (rr.set j ((r.ext X1).ext X2))) (fun u kvs z => by rw [e1] at z; cases z)
                    exact ⟨a, vs, ii, j, rfl, rfl, e1, by rw [rr.len]; exact q4, k _ _ _ _ R3 (((N.ext X1).ext X2).ext X3) ((X1.trans X2).trans X3)⟩
            | _ => simp [q3] at h
        | _ => simp at h
      | _ => simp at h
/-! ## assignments -/
def sasg (m : XM D) (gt : MG) : SM := sbind m fun x => fun e st => match gt x e st with
  | some (e', st') => .nx e' st'
  | none => .stuck
theorem js_asg {tg ex : Expr} {m : XM D} {gt : MG} (h : JE F ex m) (hg : JG F tg gt) (hs : ∀ env, swapsWithSole [tg] ex pos.line env = pure false := by intro _; rfl) (hw : ∀ env, swappedStores [tg] ex env = pure none := by intro _; rfl)
    (h1 : ∀ env, (assignEach [tg] env).map (·.2) = [assign tg env] := by intro _; rfl) : JS F (.Assign [tg] ex pos) (sasg m gt) := by
  obtain ⟨t, p, s⟩ := h
  obtain ⟨tg', pg', sg'⟩ := hg
  refine ⟨fun W => tAsg (t W) (tg' W), fun W X m => ps_asg (p W X m) (pg' W X m) (hs _) (hw _) (h1 _), ?_⟩
  intro W G H as st σ e E R N h
  refine s.oneS R N h fun x st1 v G1 H1 as1 R1 X1 N1 rv h1 => ?_
  cases q : gt x e st1 with
  | none => simp [q] at h1; exact h1.elim
  | some z =>
    obtain ⟨e', st'⟩ := z
    simp only [q] at h1
    exact sg' W G1 H1 as1 st1 σ e v x e' st' _ R1 N1 rv q fun σ2 G2 H2 as2 R2 N2 X2 => h1 σ2 G2 H2 as2 R2 N2 X2
/-- the same, what hangs on the context told of the family -/
theorem js_asgF {tg ex : Expr} {m : XM D} {gt : MG} (h : JE F ex m) (hg : JG F tg gt) (hs : ∀ env, swapsWithSole [tg] ex pos.line env = pure false) (hw : ∀ W X, F.mem W X → swappedStores [tg] ex X.env = pure none)
    (h1 : ∀ env, (assignEach [tg] env).map (·.2) = [assign tg env] := by intro _; rfl) : JS F (.Assign [tg] ex pos) (sasg m gt) := by
  obtain ⟨t, p, s⟩ := h
  obtain ⟨tg', pg', sg'⟩ := hg
  refine ⟨fun W => tAsg (t W) (tg' W), fun W X m => ps_asg (p W X m) (pg' W X m) (hs _) (hw W X m) (h1 _), ?_⟩
  intro W G H as st σ e E R N h
  refine s.oneS R N h fun x st1 v G1 H1 as1 R1 X1 N1 rv h1 => ?_
  cases q : gt x e st1 with
  | none => simp [q] at h1; exact h1.elim
  | some z =>
    obtain ⟨e', st'⟩ := z
    simp only [q] at h1
    exact sg' W G1 H1 as1 st1 σ e v x e' st' _ R1 N1 rv q fun σ2 G2 H2 as2 R2 N2 X2 => h1 σ2 G2 H2 as2 R2 N2 X2
def sset (i : Nat) (m : XM D) : SM := sbind m fun x => fun e st => .nx (e.set i (some x)) st
theorem js_set (i : Nat) {x : Str} {ex : Expr} {m : XM D} {pos' : Pos} (hi : F.N[i]? = some x) (hx : Loc F.sc x) (h : JE F ex m) (hs : ∀ env, swapsWith ex (some (.Name x pos')) pos.line env = pure false := by intro _; rfl) (hw : F.own x = true := by rfl) : JS F (.Assign [.Name x pos'] ex pos) (sset i m) := by
  obtain ⟨t, p, s⟩ := h
  refine ⟨fun W => tAsg (t W) (gName i), fun W X m => ps_set (by rw [F.hN m]; exact F.nd) (by rw [F.hN m]; exact hi) (by rw [F.hsc m]; exact hx) (p W X m) (hs _) (F.fn m x hw hx), ?_⟩
  intro W G H as st σ e E R N h
  exact s.oneS R N h fun x st1 v G1 H1 as1 R1 X1 N1 rv h1 => h1 _ G1 H1 as1 R1 (N1.set i rv) Ext.refl
/-- .. where the value is a comprehension and the name a cell: the context told of the family -/
theorem js_setF (i : Nat) {x : Str} {ex : Expr} {m : XM D} {pos' : Pos} (hi : F.N[i]? = some x) (hx : Loc F.sc x) (h : JE F ex m) (hs : ∀ W X, F.mem W X → swapsWith ex (some (.Name x pos')) pos.line X.env = pure false) (hw : F.own x = true := by rfl) : JS F (.Assign [.Name x pos'] ex pos) (sset i m) := by
  obtain ⟨t, p, s⟩ := h
  refine ⟨fun W => tAsg (t W) (gName i), fun W X m => ps_set (by rw [F.hN m]; exact F.nd) (by rw [F.hN m]; exact hi) (by rw [F.hsc m]; exact hx) (p W X m) (hs W X m) (F.fn m x hw hx), ?_⟩
  intro W G H as st σ e E R N h
  exact s.oneS R N h fun x st1 v G1 H1 as1 R1 X1 N1 rv h1 => h1 _ G1 H1 as1 R1 (N1.set i rv) Ext.refl
/-- a, b = x, y -/
def spar2 (i j : Nat) (ma mb : XM D) : SM := sbind ma fun x => sbind mb fun y => fun e st => .nx ((e.set i (some x)).set j (some y)) st
theorem js_par2 (i j : Nat) {x y : Str} {a b : Expr} {ma mb : XM D} {px py pt : Pos} {kt k2 pt2} (hi : F.N[i]? = some x) (hj : F.N[j]? = some y) (hij : i ≠ j) (hx : F.sc.names.lookup x = some .local) (hy : F.sc.names.lookup y = some .local) (ha : JE F a ma) (hb : JE F b mb)
    (hw : ∀ W X, F.mem W X → swappedStores [.Tuple [.Name x px, .Name y py] kt pt] (.Tuple [a, b] k2 pt2) X.env = pure (some [x, y]))
    (he : ∀ env, starEach [a, b] env = (false, eval a env) :: starEach [b] env := by intro _; rfl) (he2 : ∀ env, starEach [b] env = (false, eval b env) :: starEach [] env := by intro _; rfl)
    (hs : ∀ env, swapsWithSole [.Tuple [.Name x px, .Name y py] kt pt] (.Tuple [a, b] k2 pt2) pos.line env = pure false := by intro _; rfl) :
    JS F (.Assign [.Tuple [.Name x px, .Name y py] kt pt] (.Tuple [a, b] k2 pt2) pos) (spar2 i j ma mb) := by
  obtain ⟨ta, pa, sa⟩ := ha
  obtain ⟨tb, pb, sb⟩ := hb
  refine ⟨fun W => tPar i j (tCons (ta W) (tCons (tb W) tNil)), fun W X m => ps_par (F.calm m) (by rw [F.hN m]; exact F.nd) (by rw [F.hN m]; exact hi) (by rw [F.hN m]; exact hj) hij (by rw [F.hsc m]; exact hx) (by rw [F.hsc m]; exact hy) (pa_cons (pa W X m) (pa_cons (pb W X m) pa_nil (he2 _)) (he _)) (hw W X m) (hs _), ?_⟩
  intro W G H as st σ e E R N h
  refine sa.oneS R N h fun x st1 v G1 H1 as1 R1 X1 N1 rv h1 => ?_
  refine sb.oneS R1 N1 h1 fun y st2 w G2 H2 as2 R2 X2 N2 rw' h2 => ?_
  exact ⟨v, w, rfl, h2 _ G2 H2 as2 R2 ((N2.set i (rv.ext X2)).set j rw') Ext.refl⟩
/-- xs.append(e) of a moving list -/
def isLst (st : Store) (k : Nat) : Bool := match st[k]? with
  | some (.lst _) => true
  | _ => false
def xappend (mo me : XM D) : XM D := xbind mo fun o => match o with
  | .ref k => fun e st => if isLst st k = true then (match me e st with
    | .ok x st' => (match st'[k]? with
      | some (.lst xs) => if xs.length < LIM then .ok .non (st'.set k (.lst (xs ++ [x]))) else .stuck
      | _ => .stuck)
    | .exc c p st' => .exc c p st'
    | .stuck => .stuck) else .stuck
  | _ => fun _ _ => .stuck
theorem isLst_at {st : Store} {k : Nat} (h : isLst st k = true) : ∃ xs, st[k]? = some (.lst xs) := by
  unfold isLst at h
  split at h
  · rename_i xs q; exact ⟨xs, q⟩
  · cases h
theorem ty_ref {K : PySem.W.Frag} {mg : Str → Option Value} {G H : Hp} {as : List Addr} {st : Store} {v : V} {kk : Nat} (R : Ri K mg G H as st) (r : Rp K mg G as v (.ref kk)) (h : isLst st kk = true) : tyV K "list" v H := by
  cases r with
  | ref q =>
    obtain ⟨xs, e⟩ := isLst_at h
    obtain ⟨ho, e1, oo⟩ := R.at_ q e
    cases oo
    exact .inl ⟨rfl, _, .inl (.inl e1)⟩
theorem je_append {o ex : Expr} {mo me : XM D} {apos : Pos} (ho : JE F o mo) (he : JE F ex me) (h1 : ∀ env, attributeBase o "append" env (eval o env) = eval o env := by intro _; rfl) (h2 : (apos.endLine == pos.line) = true := by rfl)
    (hst : ∀ env, starEach [ex] env = (false, eval ex env) :: starEach [] env := by intro _; rfl)
    (hfew : ∀ env, ((backTo pos (starEach [ex] env)).all (fun x => !x.1) && (backToKw pos (keywordEach [] env)).all (fun x => x.1.isSome)
      && decide ([ex].length + ([] : List Keyword).length + (if ([] : List Keyword).isEmpty then 0 else 1) < 30)) = true := by intro _; rfl) : JE F (.Call (.Attribute o "append" apos) [ex] [] pos) (xappend mo me) := by
  obtain ⟨t, p, s⟩ := ho
  obtain ⟨te, pe, se⟩ := he
  refine ⟨fun W => tBM g.K "list" rAppend (t W) (tCons (te W) tNil), fun W X m => ?_, ?_⟩
  · have := pe_bm (cpos := pos) (apos := apos) PySem.F.plainAttrs_list PySem.F.slot_list_append PySem.F.type_list_append (mt_append (X := X)) (p W X m) (pa_cons (pe W X m) pa_nil (hst _)) (h1 _) (hfew _) h2 (hst _) rfl
    rw [F.hK m] at this
    exact this
  · intro W G H as st σ e Q R N h
    refine s.one R N h fun x st1 v G1 H1 as1 R1 X1 N1 rv h1 => ?_
    cases x with
    | ref kk =>
      simp only at h1
      by_cases hk : isLst st1 kk = true
      · rw [if_pos hk] at h1
        refine ⟨ty_ref R1 rv hk, ?_⟩
        refine se W G1 H1 as1 st1 σ e _ R1 N1 ?_
        cases q2 : me e st1 with
        | stuck => simp only [q2] at h1; exact h1.elim
        | exc c p st2 => simp only [q2] at h1; exact h1
        | ok y st2 =>
          simp only [q2] at h1
          intro w G2 H2 as2 R2 X2 rw'
          have rv2 := rv.ext X2
          cases q3 : st2[kk]? with
          | none => simp [q3] at h1; exact h1.elim
          | some mo' =>
            cases mo' with
            | lst xs =>
              simp only [q3] at h1
              by_cases hl : xs.length < LIM
              · rw [if_pos hl] at h1
                cases rv2 with
                | ref qa =>
                  rename_i a
                  obtain ⟨ho', e1, oo⟩ := R2.at_ qa q3
                  cases oo with
                  | lst rr =>
                    rename_i vs
                    obtain ⟨R3, X3⟩ := R2.change (o := .lst (vs ++ [w])) (m := .lst (xs ++ [y])) qa (.lst (rr.append (.cons rw' .nil))) (fun u kvs z => by rw [e1] at z; cases z)
                    exact ⟨a, vs, w, rfl, rfl, e1, by rw [rr.len]; exact lim_lt hl, h1 _ _ _ _ R3 (X2.trans X3) .non⟩
              · rw [if_neg hl] at h1; exact h1.elim
            | _ => simp [q3] at h1; exact h1.elim
      · rw [if_neg hk] at h1; exact h1.elim
    | _ => exact h1.elim
end
end LS
end
section
set_option maxRecDepth 100000
set_option maxHeartbeats 2000000
namespace LS
open PySem PySem.Spec L2

/-! ## equal data -/
mutual
def eqb : D → D → Bool
  | .non, .non => true
  | .bl a, .bl b => a == b
  | .int a, .int b => a == b
  | .str a, .str b => decide (a = b)
  | .ty a, .ty b => decide (a = b)
  | .glo a, .glo b => decide (a = b)
  | .tup a, .tup b => eqbs a b
  | .lst a, .lst b => eqbs a b
  | .sq a, .sq b => eqbs a b
  | .ref a, .ref b => a == b
  | _, _ => false
def eqbs : List D → List D → Bool
  | [], [] => true
  | a :: r, b :: s => eqb a b && eqbs r s
  | _, _ => false
end
mutual
theorem eqb_eq : ∀ {a b : D}, eqb a b = true → a = b
  | .non, b, h => by cases b <;> first | rfl | (simp [eqb] at h)
  | .bl x, b, h => by cases b <;> first | (simp [eqb] at h; done) | (simp [eqb] at h; rw [h])
  | .int x, b, h => by cases b <;> first | (simp [eqb] at h; done) | (simp [eqb] at h; rw [h])
  | .str x, b, h => by cases b <;> first | (simp [eqb] at h; done) | (simp [eqb] at h; rw [h])
  | .ty x, b, h => by cases b <;> first | (simp [eqb] at h; done) | (simp [eqb] at h; rw [h])
  | .glo x, b, h => by cases b <;> first | (simp [eqb] at h; done) | (simp [eqb] at h; rw [h])
  | .ref x, b, h => by cases b <;> first | (simp [eqb] at h; done) | (simp [eqb] at h; rw [h])
  | .tup x, b, h => by
    cases b with
    | tup y => rw [eqbs_eq (a := x) (b := y) (by simpa [eqb] using h)]
    | _ => simp [eqb] at h
  | .lst x, b, h => by
    cases b with
    | lst y => rw [eqbs_eq (a := x) (b := y) (by simpa [eqb] using h)]
    | _ => simp [eqb] at h
  | .sq x, b, h => by
    cases b with
    | sq y => rw [eqbs_eq (a := x) (b := y) (by simpa [eqb] using h)]
    | _ => simp [eqb] at h
theorem eqbs_eq : ∀ {a b : List D}, eqbs a b = true → a = b
  | [], b, h => by cases b <;> first | rfl | (simp [eqbs] at h)
  | x :: r, b, h => by
    cases b with
    | nil => simp [eqbs] at h
    | cons y s =>
      simp only [eqbs, Bool.and_eq_true] at h
      rw [eqb_eq h.1, eqbs_eq h.2]
end
/-- the moving list that is walked stands as it stood -/
def srcOk (src : Option Nat) (xs : List D) (st : Store) : Bool := match src with
  | none => true
  | some i => match st[i]? with
    | some (.lst ys) => eqbs ys xs
    | _ => false

/-! ## what is walked -/
section
variable {g : Gb} {F : Fam g} {pos : Pos}
structure Yl (g : Gb) (G0 H0 : Hp) (as0 : List Addr) (src : Option Nat) (xs : List D) (J : It) : Prop where
  go : ∀ i G H as st, i < xs.length → Ri g.K g.mg G H as st → (∀ a o, G0 a = some o → G a = some o) → as0 <+: as → (∀ a o kvs, H0 a = some (.frz o (.dK kvs)) → H a = some (.frz o (.dK kvs))) → srcOk src xs st = true → J.go i H
  stop : ∀ G H as st, Ri g.K g.mg G H as st → (∀ a o, G0 a = some o → G a = some o) → as0 <+: as → (∀ a o kvs, H0 a = some (.frz o (.dK kvs)) → H a = some (.frz o (.dK kvs))) → srcOk src xs st = true → J.stop xs.length H
  yld : ∀ i G H as st v H' x, Ri g.K g.mg G H as st → (∀ a o, G0 a = some o → G a = some o) → as0 <+: as → (∀ a o kvs, H0 a = some (.frz o (.dK kvs)) → H a = some (.frz o (.dK kvs))) → srcOk src xs st = true → xs[i]? = some x → J.yld i H v H' → ∃ G', Ri g.K g.mg G' H' as st ∧ Ext G H as G' H' as ∧ Rp g.K g.mg G' as v x
def PXI (g : Gb) (W : WX) (G H : Hp) (as : List Addr) (σ : L2.St) (r : RX (List D × Option Nat)) (R : It → Hp → Prop) : Prop := match r with
  | .ok (xs, src) st' => srcOk src xs st' = true ∧ ∀ J G' H' as', Ri g.K g.mg G' H' as' st' → Ext G H as G' H' as' → Yl g G' H' as' src xs J → R J H'
  | .exc c p st' => ∀ cls d G' H' as', Ri g.K g.mg G' H' as' st' → Ext G H as G' H' as' → ExR g.K g.mg G' H' as' c p cls d → W cls d σ H'
  | .stuck => False
def JI (F : Fam g) (tg iter : Expr) (m : XM (List D × Option Nat)) : Prop := ∃ wi : WX → TI, (∀ W X, F.mem W X → PI X tg iter (wi W)) ∧
  ∀ (W : WX) (G H : Hp) (as : List Addr) (st : Store) (σ : L2.St) (e : Nv) (R : It → Hp → Prop), Ri g.K g.mg G H as st → Rn g.K g.mg G as σ e → PXI g W G H as σ (m e st) R → wi W σ H R
/-- a list or a tuple -/
def iSeq (K : PySem.W.Frag) (tl : TE) : TI := fun σ H R => tl σ H fun x H1 => ∃ a, x = .ref a ∧ (((∃ xs, SqL K H1 a xs) ∧ R (Itl K a) H1) ∨ ((∃ xs, SqT K H1 a xs) ∧ R (Itt K a) H1))
theorem pi_seq {X : Cx} {tg l : Expr} {tl : TE} (hl : PE X l tl) : PI X tg l (iSeq X.K tl) := by
  refine ⟨fun pins s σ H R I h => ?_⟩
  refine thn (hl.run pins s σ H _ I h) fun v s1 ⟨x, H1, I1, r1, q1⟩ => ?_
  obtain ⟨a, e, q | q⟩ := q1
  · obtain ⟨⟨xs, hq⟩, q⟩ := q
    subst e
    cases r1
    obtain ⟨its, rv, p, hz⟩ := I1.list hq
    refine wpAny_pyIter_list p.isList ?_
    refine ⟨s1.heap.objs.size, [s1.heap.objs.size], _, _, H1, rfl, I1.kept (t' := s1.toks) fun b o e => Heap.get?_push_of_some _ e, turn_list a _, ⟨_, Heap.get?_push_size _ rfl, rfl, rfl⟩, fun b hb => ?_, q⟩
    have e : b = s1.heap.objs.size := by simpa using hb
    subst e
    exact I1.fpOk (Nat.le_refl _) (I1.hok.fresh (Nat.le_refl _))
  · obtain ⟨⟨xs, hq⟩, q⟩ := q
    subst e
    cases r1
    obtain ⟨its, rv, p, hz⟩ := I1.tuple hq
    refine wpAny_pyIter_tuple (show s1.heap.IsTuple a its.toArray from p) ?_
    refine ⟨s1.heap.objs.size, [s1.heap.objs.size], _, _, H1, rfl, I1.kept (t' := s1.toks) fun b o e => Heap.get?_push_of_some _ e, turn_tuple a _, ⟨_, Heap.get?_push_size _ rfl, rfl, rfl⟩, fun b hb => ?_, q⟩
    have e : b = s1.heap.objs.size := by simpa using hb
    subst e
    exact I1.fpOk (Nat.le_refl _) (I1.hok.fresh (Nat.le_refl _))
def seqSrc (st : Store) (x : D) : Option (List D × Option Nat) := match x with
  | .ref i => (lstOf st x).map fun xs => (xs, some i)
  | x => (seqOf st x).map fun xs => (xs, none)
def xwalk (m : XM D) : XM (List D × Option Nat) := xbind m fun x => fun _ st => match seqSrc st x with
  | some r => .ok r st
  | none => .stuck
theorem eqbs_refl_of {a b : List D} (h : a = b) : eqbs a b = true := by
  subst h
  have r : ∀ d : D, eqb d d = true := by
    intro d
    exact D.rec (motive_1 := fun d => eqb d d = true) (motive_2 := fun l => eqbs l l = true) (by simp [eqb]) (by simp [eqb]) (by simp [eqb]) (by simp [eqb]) (by simp [eqb]) (by simp [eqb]) (fun _ h => by simpa [eqb] using h) (fun _ h => by simpa [eqb] using h) (fun _ h => by simpa [eqb] using h) (by simp [eqb]) (by simp [eqbs]) (fun _ _ h1 h2 => by simp [eqbs, h1, h2]) d
  induction a with
  | nil => rfl
  | cons x l ih => simp [eqbs, r x, ih]
theorem yl_list {G0 H0 : Hp} {as0 : List Addr} {a : Addr} {vs : List V} {xs : List D} (s : SqL g.K G0 a vs) (r : RpA g.K g.mg G0 as0 vs xs) : Yl g G0 H0 as0 none xs (Itl g.K a) where
  go := fun i G H as st hi R hs hp hl _ => by
    have hv : i < vs.length := by rw [r.len]; exact hi
    exact ⟨vs, vs[i], sqL_H R (sqL_sub hs s), List.getElem?_eq_getElem hv⟩
  stop := fun G H as st R hs hp hl _ => ⟨vs, sqL_H R (sqL_sub hs s), by rw [r.len]; exact Nat.le_refl _⟩
  yld := fun i G H as st v H' x R hs hp hl _ hx y => by
    obtain ⟨e, y⟩ := y
    subst e
    obtain ⟨u, e1, ru⟩ := r.get hx
    have e2 := y vs (sqL_H R (sqL_sub hs s))
    rw [e1] at e2; cases e2
    exact ⟨G, R, Ext.refl, ru.mono hs hp⟩
theorem yl_tup {G0 H0 : Hp} {as0 : List Addr} {a : Addr} {vs : List V} {xs : List D} (s : SqT g.K G0 a vs) (r : RpA g.K g.mg G0 as0 vs xs) : Yl g G0 H0 as0 none xs (Itt g.K a) where
  go := fun i G H as st hi R hs hp hl _ => by
    have hv : i < vs.length := by rw [r.len]; exact hi
    exact ⟨vs, vs[i], sqT_H R (sqT_sub hs s), List.getElem?_eq_getElem hv⟩
  stop := fun G H as st R hs hp hl _ => ⟨vs, sqT_H R (sqT_sub hs s), by rw [r.len]; exact Nat.le_refl _⟩
  yld := fun i G H as st v H' x R hs hp hl _ hx y => by
    obtain ⟨e, y⟩ := y
    subst e
    obtain ⟨u, e1, ru⟩ := r.get hx
    have e2 := y vs (sqT_H R (sqT_sub hs s))
    rw [e1] at e2; cases e2
    exact ⟨G, R, Ext.refl, ru.mono hs hp⟩
theorem src_at {K : PySem.W.Frag} {mg : Str → Option Value} {G H : Hp} {as : List Addr} {st : Store} {i : Nat} {a : Addr} {xs : List D} (R : Ri K mg G H as st) (ha : as[i]? = some a) (h : srcOk (some i) xs st = true) : ∃ vs, H a = some (.lst vs) ∧ RpA K mg G as vs xs := by
  unfold srcOk at h
  cases q : st[i]? with
  | none => simp [q] at h
  | some m =>
    cases m with
    | lst ys =>
      simp only [q] at h
      cases eqbs_eq h
      obtain ⟨ho, e1, oo⟩ := R.at_ ha q
      cases oo with | lst r => exact ⟨_, e1, r⟩
    | _ => simp [q] at h
theorem yl_ref {G0 H0 : Hp} {as0 : List Addr} {a : Addr} {k : Nat} {xs : List D} (ha : as0[k]? = some a) : Yl g G0 H0 as0 (some k) xs (Itl g.K a) where
  go := fun i G H as st hi R hs hp hl ok => by
    obtain ⟨vs, e, r⟩ := src_at R (pre_get hp ha) ok
    have hv : i < vs.length := by rw [r.len]; exact hi
    exact ⟨vs, vs[i], .of e, List.getElem?_eq_getElem hv⟩
  stop := fun G H as st R hs hp hl ok => by
    obtain ⟨vs, e, r⟩ := src_at R (pre_get hp ha) ok
    exact ⟨vs, .of e, by rw [r.len]; exact Nat.le_refl _⟩
  yld := fun i G H as st v H' x R hs hp hl ok hx y => by
    obtain ⟨e, y⟩ := y
    subst e
    obtain ⟨vs, e0, r⟩ := src_at R (pre_get hp ha) ok
    obtain ⟨u, e1, ru⟩ := r.get hx
    have e2 := y vs (.of e0)
    rw [e1] at e2; cases e2
    exact ⟨G, R, Ext.refl, ru⟩
theorem ji_seq {tg l : Expr} {m : XM D} (h : JE F l m) : JI F tg l (xwalk m) := by
  obtain ⟨t, p, s⟩ := h
  refine ⟨fun W => iSeq g.K (t W), fun W X m => by have := pi_seq (tg := tg) (p W X m); rw [F.hK m] at this; exact this, ?_⟩
  intro W G H as st σ e R' R N h
  refine s W G H as st σ e _ R N ?_
  unfold xwalk xbind at h
  cases q : m e st with
  | stuck => rw [q] at h; exact h
  | exc c p st1 => rw [q] at h; exact h
  | ok x st1 =>
    simp only [q] at h
    intro v G1 H1 as1 R1 X1 rv
    cases q2 : seqSrc st1 x with
    | none => simp only [q2] at h; exact h.elim
    | some z =>
      obtain ⟨xs, src⟩ := z
      simp only [q2] at h
      obtain ⟨ok, k⟩ := h
      have still : ∀ ys, seqOf st1 x = some ys → (∀ i, x ≠ .ref i) → xs = ys → src = none → ∃ a, v = .ref a ∧ (((∃ xs, SqL g.K H1 a xs) ∧ R' (Itl g.K a) H1) ∨ ((∃ xs, SqT g.K H1 a xs) ∧ R' (Itt g.K a) H1)) := by
        intro ys e1 nr e2 e3
        subst e2 e3
        cases rv with
        | tup s0 r0 => cases e1; exact ⟨_, rfl, .inr ⟨⟨_, sqT_H R1 s0⟩, k _ G1 H1 as1 R1 X1 (yl_tup s0 r0)⟩⟩
        | sq s0 r0 => cases e1; exact ⟨_, rfl, .inl ⟨⟨_, sqL_H R1 s0⟩, k _ G1 H1 as1 R1 X1 (yl_list s0 r0)⟩⟩
        | lst s0 r0 => cases e1; exact ⟨_, rfl, .inl ⟨⟨_, .of (R1.sub _ _ s0)⟩, k _ G1 H1 as1 R1 X1 (yl_list (.of s0) r0)⟩⟩
        | ref q0 => exact absurd rfl (nr _)
        | _ => cases e1
      cases x with
      | ref i =>
        obtain ⟨ys, e1, e2⟩ := Option.map_eq_some_iff.mp (show (lstOf st1 (.ref i)).map (fun xs => (xs, some i)) = some (xs, src) from q2)
        cases e2
        obtain ⟨a, vs, rfl, e3, r3⟩ := lstOf_ok R1 rv e1
        cases rv with
        | ref q0 => exact ⟨a, rfl, .inl ⟨⟨vs, .of e3⟩, k _ G1 H1 as1 R1 X1 (yl_ref q0)⟩⟩
      | tup ys =>
        obtain ⟨ys', e1, e2⟩ := Option.map_eq_some_iff.mp (show (seqOf st1 (.tup ys)).map (fun xs => (xs, none)) = some (xs, src) from q2)
        cases e2; exact still _ e1 (fun _ z => nomatch z) rfl rfl
      | sq ys =>
        obtain ⟨ys', e1, e2⟩ := Option.map_eq_some_iff.mp (show (seqOf st1 (.sq ys)).map (fun xs => (xs, none)) = some (xs, src) from q2)
        cases e2; exact still _ e1 (fun _ z => nomatch z) rfl rfl
      | lst ys =>
        obtain ⟨ys', e1, e2⟩ := Option.map_eq_some_iff.mp (show (seqOf st1 (.lst ys)).map (fun xs => (xs, none)) = some (xs, src) from q2)
        cases e2; exact still _ e1 (fun _ z => nomatch z) rfl rfl
      | _ => cases q2
/-- range(n), range(a, b) -/
def rangeL (lo : Int) (n : Nat) : List D := (List.range n).map fun (i : Nat) => .int (lo + (i : Int))
theorem yl_range {G0 H0 : Hp} {as0 : List Addr} {lo : Int} {n : Nat} : Yl g G0 H0 as0 none (rangeL lo n) (Itr lo n) where
  go := fun i G H as st hi R hs hp hl _ => by
    have : i < n := by simpa [rangeL] using hi
    exact this
  stop := fun G H as st R hs hp hl _ => by show n ≤ (rangeL lo n).length; simp [rangeL]
  yld := fun i G H as st v H' x R hs hp hl _ hx y => by
    obtain ⟨e, y⟩ := y
    subst e y
    unfold rangeL at hx
    rw [List.getElem?_map] at hx
    obtain ⟨j, e1, e2⟩ := Option.map_eq_some_iff.mp hx
    have := List.getElem?_eq_some_iff.mp e1
    obtain ⟨h1, h2⟩ := this
    have ej : j = i := by rw [← h2]; simp
    subst ej
    cases e2
    exact ⟨G, R, Ext.refl, .int _⟩
def xrange1 (m : XM D) : XM (List D × Option Nat) := xbind m fun x => fun _ st => match x with
  | .int j => if -(2 ^ 62) ≤ j ∧ j < 2 ^ 62 then .ok (rangeL 0 j.toNat, none) st else .stuck
  | _ => .stuck
theorem ji_range1 {tg a : Expr} {m : XM D} {p : Pos} (hg : F.sc.names.lookup ("range" : Str) = some .globalImplicit) (hm : g.mg "range" = none) (ha : JE F a m) (hs : ∀ env, starEach [a] env = [(false, eval a env)] := by intro _; rfl) : JI F tg (.Call (.Name "range" p) [a] [] pos) (xrange1 m) := by
  obtain ⟨t, p', s⟩ := ha
  refine ⟨fun W => iRng1 (tCons (t W) tNil), fun W X m => pi_range1 (by show X.env.scope.names.lookup _ = _; rw [F.hsc m]; exact hg) (by rw [F.hmg m]; exact hm) (pa_cons (p' W X m) pa_nil (hs _)) (hs _), ?_⟩
  intro W G H as st σ e R' R N h
  refine s W G H as st σ e _ R N ?_
  unfold xrange1 xbind at h
  cases q : m e st with
  | stuck => rw [q] at h; exact h
  | exc c p st1 => rw [q] at h; exact h
  | ok x st1 =>
    simp only [q] at h
    intro v G1 H1 as1 R1 X1 rv
    cases rv with
    | int j =>
      by_cases hc : -(2 ^ 62) ≤ j ∧ j < 2 ^ 62
      · simp only [hc, and_self, if_true] at h
        exact ⟨j, rfl, hc.1, hc.2, h.2 _ G1 H1 as1 R1 X1 yl_range⟩
      · simp only [hc, if_false] at h; exact h.elim
    | _ => exact h.elim
def xrange2 (ma mb : XM D) : XM (List D × Option Nat) := xbind ma fun x => xbind mb fun y => fun _ st => match x, y with
  | .int i, .int j => if -(2 ^ 62) ≤ i ∧ i < 2 ^ 62 ∧ -(2 ^ 62) ≤ j ∧ j < 2 ^ 62 then .ok (rangeL i (j - i).toNat, none) st else .stuck
  | _, _ => .stuck
theorem ji_range2 {tg a b : Expr} {ma mb : XM D} {p : Pos} (hg : F.sc.names.lookup ("range" : Str) = some .globalImplicit) (hm : g.mg "range" = none) (ha : JE F a ma) (hb : JE F b mb)
    (hs : ∀ env, starEach [a, b] env = [(false, eval a env), (false, eval b env)] := by intro _; rfl) (hs2 : ∀ env, starEach [b] env = [(false, eval b env)] := by intro _; rfl) : JI F tg (.Call (.Name "range" p) [a, b] [] pos) (xrange2 ma mb) := by
  obtain ⟨t, p', s⟩ := ha
  obtain ⟨t2, p2, s2⟩ := hb
  refine ⟨fun W => iRng2 (tCons (t W) (tCons (t2 W) tNil)), fun W X m => pi_range2 (by show X.env.scope.names.lookup _ = _; rw [F.hsc m]; exact hg) (by rw [F.hmg m]; exact hm) (pa_cons (p' W X m) (pa_cons (p2 W X m) pa_nil (hs2 _)) (by rw [hs, hs2])) (hs _) (hs2 _), ?_⟩
  intro W G H as st σ e R' R N h
  refine s W G H as st σ e _ R N ?_
  unfold xrange2 xbind at h
  cases q : ma e st with
  | stuck => rw [q] at h; exact h
  | exc c p st1 => rw [q] at h; exact h
  | ok x st1 =>
    simp only [q] at h
    intro v G1 H1 as1 R1 X1 rv
    refine s2 W G1 H1 as1 st1 σ e _ R1 (N.ext X1) ?_
    cases q2 : mb e st1 with
    | stuck => simp only [q2] at h; exact h
    | exc c p st2 =>
      simp only [q2] at h
      exact fun cls d G2 H2 as2 R2 X2 x2 => h cls d G2 H2 as2 R2 (X1.trans X2) x2
    | ok y st2 =>
      simp only [q2] at h
      intro w G2 H2 as2 R2 X2 rw'
      cases rv with
      | int i =>
        cases rw' with
        | int j =>
          by_cases hc : -(2 ^ 62) ≤ i ∧ i < 2 ^ 62 ∧ -(2 ^ 62) ≤ j ∧ j < 2 ^ 62
          · simp only [hc, and_self, if_true] at h
            exact ⟨i, j, rfl, hc, h.2 _ G2 H2 as2 R2 (X1.trans X2) yl_range⟩
          · simp only [hc, if_false] at h; exact h.elim
        | _ => exact h.elim
      | _ => cases rw' <;> exact h.elim
/-! ## for -/
def sloop (src : Option Nat) (items : List D) (gt : MG) (body : SM) : List D → Nv → Store → RS
  | [], e, st => if srcOk src items st = true then .nx e st else .stuck
  | x :: r, e, st => if srcOk src items st = true then (match gt x e st with
    | none => .stuck
    | some (e1, st1) => match body e1 st1 with
      | .nx e2 st2 => sloop src items gt body r e2 st2
      | .ct e2 st2 => sloop src items gt body r e2 st2
      | .bk e2 st2 => .nx e2 st2
      | r => r) else .stuck
def sfor (mi : XM (List D × Option Nat)) (gt : MG) (body : SM) : SM := fun e st => match mi e st with
  | .ok (xs, src) st1 => sloop src xs gt body xs e st1
  | .exc c p st' => .exc c p e st'
  | .stuck => .stuck
theorem js_for {tg iter : Expr} {body : List Stmt} {mi : XM (List D × Option Nat)} {gt : MG} {mb : SM} (hi : JI F tg iter mi) (hg : JG F tg gt) (hb : JSs F body mb) (hs : ∀ env x, foldedSetIterable iter env x = pure x := by intro _ _; rfl) : JS F (.For tg iter body [] pos) (sfor mi gt mb) := by
  obtain ⟨wi, pi, si⟩ := hi
  obtain ⟨tg', pg', sg'⟩ := hg
  obtain ⟨tb, pb, sb⟩ := hb
  refine ⟨fun W => tFor (wi W) (tg' W) (tb W), fun W X m => ps_for (F.pass m) (F.calm m) (pi W X m) (pg' W X m) (pb W X m) (hs _), ?_⟩
  intro W G H as st σ e E R N h
  refine si W G H as st σ e _ R N ?_
  unfold sfor at h
  cases q : mi e st with
  | stuck => rw [q] at h; exact h
  | exc c p st1 => rw [q] at h; exact fun cls d G1 H1 as1 R1 X1 x => h σ cls d G1 H1 as1 R1 (N.ext X1) X1 x
  | ok z st1 =>
    obtain ⟨xs, src⟩ := z
    simp only [q] at h
    have ok : srcOk src xs st1 = true := by
      cases hx : srcOk src xs st1 with
      | true => rfl
      | false =>
        exfalso
        cases xs with
        | nil => simp [sloop, hx] at h; exact h
        | cons x r => simp [sloop, hx] at h; exact h
    refine ⟨ok, fun J G1 H1 as1 R1 X1 Y => ?_⟩
    refine ⟨fun i m σ' H' => i ≤ xs.length ∧ m = xs.length - i ∧ ∃ G' as' st' e', Ri g.K g.mg G' H' as' st' ∧ Rn g.K g.mg G' as' σ' e' ∧ Ext G1 H1 as1 G' H' as' ∧ PS_ g.K g.mg W G' H' as' e.length (sloop src xs gt mb (xs.drop i) e' st') E,
      ⟨xs.length, Nat.zero_le _, by simp, G1, as1, st1, e, R1, N.ext X1, Ext.refl, PS_.ext (n := e.length) h X1⟩, ?_⟩
    rintro i m σ2 H2 ⟨hle, rfl, G2, as2, st2, e2, R2, N2, X2, h2⟩
    have hs0 := X2.sub
    have hp0 := X2.pre
    by_cases hi : i < xs.length
    · have hd : xs.drop i = xs[i] :: xs.drop (i + 1) := List.drop_eq_getElem_cons hi
      rw [hd] at h2
      unfold sloop at h2
      by_cases hok : srcOk src xs st2 = true
      · simp only [hok, if_true] at h2
        refine .inr ⟨Y.go i G2 H2 as2 st2 hi R2 hs0 hp0 X2.lk hok, ?_⟩
        refine ⟨fun σ' H' => i + 1 ≤ xs.length ∧ ∃ G' as' st' e', Ri g.K g.mg G' H' as' st' ∧ Rn g.K g.mg G' as' σ' e' ∧ Ext G1 H1 as1 G' H' as' ∧ PS_ g.K g.mg W G' H' as' e.length (sloop src xs gt mb (xs.drop (i + 1)) e' st') E,
          fun σ' H' ⟨a, b⟩ => ⟨xs.length - (i + 1), by omega, a, rfl, b⟩, fun v H3 y => ?_⟩
        obtain ⟨G3, R3, X3, rv⟩ := Y.yld i G2 H2 as2 st2 v H3 xs[i] R2 hs0 hp0 X2.lk hok (List.getElem?_eq_getElem hi) y
        cases q3 : gt xs[i] e2 st2 with
        | none => simp only [q3] at h2; exact h2.elim
        | some z =>
          obtain ⟨e3, st3⟩ := z
          simp only [q3] at h2
          refine sg' W G3 H3 as2 st2 σ2 e2 v xs[i] e3 st3 _ R3 (N2.ext X3) rv q3 fun σ4 G4 H4 as4 R4 N4 X4 => ?_
          refine sb W G4 H4 as4 st3 σ4 e3 _ R4 N4 ?_
          have X24 := X3.trans X4
          cases q4 : mb e3 st3 with
          | nx e5 st5 =>
            simp only [q4] at h2
            exact fun σ5 G5 H5 as5 R5 N5 X5 => ⟨hi, G5, as5, st5, e5, R5, N5, (X2.trans X24).trans X5, PS_.ext (n := e.length) h2 (X24.trans X5)⟩
          | ct e5 st5 =>
            simp only [q4] at h2
            exact fun σ5 G5 H5 as5 R5 N5 X5 => ⟨hi, G5, as5, st5, e5, R5, N5, (X2.trans X24).trans X5, PS_.ext (n := e.length) h2 (X24.trans X5)⟩
          | bk e5 st5 =>
            simp only [q4] at h2
            exact fun σ5 G5 H5 as5 R5 N5 X5 => h2 σ5 G5 H5 as5 R5 N5 (X24.trans X5)
          | rt d st5 =>
            simp only [q4] at h2
            exact fun v G5 H5 as5 R5 X5 => h2 v G5 H5 as5 R5 (X24.trans X5)
          | exc c p e5 st5 =>
            simp only [q4] at h2
            exact fun σ5 cls d G5 H5 as5 R5 N5 X5 => h2 σ5 cls d G5 H5 as5 R5 N5 (X24.trans X5)
          | stuck => simp only [q4] at h2; exact h2
      · simp only [hok] at h2; exact h2.elim
    · have ei : i = xs.length := by omega
      subst ei
      rw [List.drop_length] at h2
      unfold sloop at h2
      by_cases hok : srcOk src xs st2 = true
      · simp only [hok, if_true] at h2
        exact .inl ⟨Y.stop G2 H2 as2 st2 R2 hs0 hp0 X2.lk hok, h2 σ2 G2 H2 as2 R2 N2 Ext.refl⟩
      · simp only [hok] at h2; exact h2.elim
/-! ## while -/
def swhile (c : XM Bool) (body : SM) : Nat → SM
  | 0 => fun _ _ => .stuck
  | n + 1 => sbindB c fun b => if b = true then (fun e st => match body e st with
    | .nx e2 st2 => swhile c body n e2 st2
    | .ct e2 st2 => swhile c body n e2 st2
    | .bk e2 st2 => .nx e2 st2
    | r => r) else snext
theorem js_while (n : Nat) {c : Expr} {body : List Stmt} {mc : XM Bool} {mb : SM} (hc : JT F c mc) (hb : JSs F body mb) : JS F (.While c body [] pos) (swhile mc mb n) := by
  obtain ⟨tc, pc, sc⟩ := hc
  obtain ⟨tb, pb, sb⟩ := hb
  refine ⟨fun W => tWhile (tc W) (tb W), fun W X m => ps_while (F.pass m) (pc W X m) (pb W X m), ?_⟩
  intro W G H as st σ e E R N h
  refine ⟨fun m σ' H' => ∃ G' as' st' e', Ri g.K g.mg G' H' as' st' ∧ Rn g.K g.mg G' as' σ' e' ∧ Ext G H as G' H' as' ∧ PS_ g.K g.mg W G' H' as' e.length (swhile mc mb m e' st') E, ⟨n, G, as, st, e, R, N, Ext.refl, h⟩, ?_⟩
  rintro m σ2 H2 ⟨G2, as2, st2, e2, R2, N2, X2, h2⟩
  cases m with
  | zero => exact h2.elim
  | succ m =>
    unfold swhile at h2
    refine sc.oneS (e := e2) (E := E) R2 N2 h2 fun b st3 G3 H3 as3 R3 X3 N3 h3 => ?_
    cases b with
    | false => exact iteF (h3 σ2 G3 H3 as3 R3 N3 Ext.refl)
    | true =>
      refine iteT ⟨fun σ' H' => ∃ G' as' st' e', Ri g.K g.mg G' H' as' st' ∧ Rn g.K g.mg G' as' σ' e' ∧ Ext G H as G' H' as' ∧ PS_ g.K g.mg W G' H' as' e.length (swhile mc mb m e' st') E, fun σ' H' q => ⟨m, Nat.lt_succ_self _, q⟩, ?_⟩
      refine sb W G3 H3 as3 st3 σ2 e2 _ R3 N3 ?_
      simp only [if_true] at h3
      cases q4 : mb e2 st3 with
      | nx e5 st5 =>
        simp only [q4] at h3
        exact fun σ5 G5 H5 as5 R5 N5 X5 => ⟨G5, as5, st5, e5, R5, N5, (X2.trans X3).trans X5, PS_.ext (n := e.length) h3 X5⟩
      | ct e5 st5 =>
        simp only [q4] at h3
        exact fun σ5 G5 H5 as5 R5 N5 X5 => ⟨G5, as5, st5, e5, R5, N5, (X2.trans X3).trans X5, PS_.ext (n := e.length) h3 X5⟩
      | bk e5 st5 => simp only [q4] at h3; exact h3
      | rt d st5 => simp only [q4] at h3; exact h3
      | exc c p e5 st5 => simp only [q4] at h3; exact h3
      | stuck => simp only [q4] at h3; exact h3
end
end LS
end
section
set_option maxRecDepth 100000
set_option maxHeartbeats 2000000
namespace LS
open PySem PySem.Spec L2

/-! ## an object by the side: neither still nor moving -/
section
variable {K : PySem.W.Frag} {mg : Str → Option Value} {G H G1 H1 : Hp} {as as1 : List Addr} {st : Store} {p : Addr}
theorem Ri.none_of (R : Ri K mg G H as st) (n : H p = none) : G p = none ∧ p ∉ as := by
  constructor
  · cases q : G p with
    | none => rfl
    | some u => rw [R.sub _ _ q] at n; cases n
  · intro ha
    obtain ⟨i, hi, e⟩ := List.getElem_of_mem ha
    have hi' : i < st.length := by rw [← R.len]; exact hi
    obtain ⟨ho, q, _⟩ := R.obj i p st[i] (by rw [List.getElem?_eq_getElem hi, e]) (List.getElem?_eq_getElem hi')
    rw [n] at q; cases q
theorem Ri.touch {o : HO} (R : Ri K mg G H as st) (gn : G p = none) (na : p ∉ as) : Ri K mg G (upd H p o) as st :=
  ⟨fun a u h => by rw [upd_ne (ne_of_none h gn)]; exact R.sub _ _ h, R.len, R.nd, R.out, fun i a u ha hu => by
    obtain ⟨ho, q, r⟩ := R.obj i a u ha hu
    refine ⟨ho, ?_, r⟩
    have : a ≠ p := fun z => na (z ▸ List.mem_of_getElem? ha)
    rw [upd_ne this]; exact q⟩
theorem Ext.touch {o : HO} (X : Ext G1 H1 as1 G H as) (n : H1 p = none) : Ext G1 H1 as1 G (upd H p o) as :=
  ⟨X.sub, X.pre, fun a u h m => by rw [upd_ne (ne_of_none h n)]; exact X.keep a u h m, X.frG, X.frA, fun a h => by
    by_cases z : a = p
    · subst z; exact absurd n h
    · rw [upd_ne z]; exact X.dom a h, fun a u kvs h => by have h2 := X.lk a u kvs h; rw [upd_ne (ne_of_none h n)]; exact h2⟩
/-- it stands beside still behind what follows -/
theorem Ext.beside (X : Ext G H as G1 H1 as1) {o : HO} (h : H p = some o) (gn : G p = none) (na : p ∉ as) : G1 p = none ∧ p ∉ as1 ∧ H1 p = some o := by
  refine ⟨X.frG p gn (by rw [h]; exact fun z => nomatch z), fun m => ?_, X.keep p o h na⟩
  have := X.frA p m na
  rw [h] at this; cases this
theorem Ri.freeze {o : HO} (R : Ri K mg G H as st) (h : H p = some o) (gn : G p = none) (na : p ∉ as) : Ri K mg (upd G p o) H as st := by
  have hs : ∀ a u, G a = some u → upd G p o a = some u := fun a u e => by rw [upd_ne (ne_of_none e gn)]; exact e
  refine ⟨fun a u e => ?_, R.len, R.nd, fun a ha => ?_, fun i a u ha hu => ?_⟩
  · by_cases z : a = p
    · subst z; rw [upd_same] at e; cases e; exact h
    · rw [upd_ne z] at e; exact R.sub _ _ e
  · have : a ≠ p := fun z => na (z ▸ ha)
    rw [upd_ne this]; exact R.out a ha
  · obtain ⟨ho, q, r⟩ := R.obj i a u ha hu
    refine ⟨ho, q, ?_⟩
    cases r with
    | lst r => exact .lst (r.mono hs (List.prefix_refl _))
    | dct e r => exact .dct e (r.mono hs (List.prefix_refl _))
    | lck e r => exact .lck e (r.mono hs (List.prefix_refl _))
theorem Ext.freeze {o : HO} (X : Ext G1 H1 as1 G H as) (n : H1 p = none) (gn : G p = none) : Ext G1 H1 as1 (upd G p o) H as :=
  ⟨fun a u h => by rw [upd_ne (ne_of_none (X.sub a u h) gn)]; exact X.sub a u h, X.pre, X.keep, fun a g h => by
    have : a ≠ p := fun z => by subst z; exact h n
    rw [upd_ne this]; exact X.frG a g h, X.frA, X.dom, X.lk⟩
theorem Ri.adopt {o : HO} {m : MO} (R : Ri K mg G H as st) (h : H p = some o) (gn : G p = none) (na : p ∉ as) (r : Ro K mg G as o m) : Ri K mg G H (as ++ [p]) (st ++ [m]) := by
  have hp : as <+: as ++ [p] := List.prefix_append _ _
  have mono : ∀ {ho : HO} {mo : MO}, Ro K mg G as ho mo → Ro K mg G (as ++ [p]) ho mo := fun r => by
    cases r with
    | lst r => exact .lst (r.mono (fun _ _ h => h) hp)
    | dct e r => exact .dct e (r.mono (fun _ _ h => h) hp)
    | lck e r => exact .lck e (r.mono (fun _ _ h => h) hp)
  refine ⟨R.sub, by simp [R.len], ?_, fun a ha => ?_, fun i a u ha hu => ?_⟩
  · rw [List.nodup_append]
    refine ⟨R.nd, by simp, fun a ha b hb z => ?_⟩
    have : b = p := by simpa using hb
    subst this; subst z; exact na ha
  · rcases List.mem_append.mp ha with ha | ha
    · exact R.out a ha
    · have : a = p := by simpa using ha
      subst this; exact gn
  · by_cases hi : i < as.length
    · rw [List.getElem?_append_left hi] at ha
      rw [List.getElem?_append_left (by rw [← R.len]; exact hi)] at hu
      obtain ⟨ho, q, r⟩ := R.obj i a u ha hu
      exact ⟨ho, q, mono r⟩
    · rw [List.getElem?_append_right (by omega)] at ha
      rw [List.getElem?_append_right (by rw [← R.len]; omega)] at hu
      have h0 : i - as.length = 0 := by
        have := (List.getElem?_eq_some_iff.mp ha).1
        simp at this; omega
      have h1 : i - st.length = 0 := by rw [← R.len]; exact h0
      rw [h0] at ha; rw [h1] at hu
      simp at ha hu
      subst ha hu
      exact ⟨o, h, mono r⟩
theorem Ext.adopt (X : Ext G1 H1 as1 G H as) (n : H1 p = none) : Ext G1 H1 as1 G H (as ++ [p]) :=
  ⟨X.sub, X.pre.trans (List.prefix_append _ _), X.keep, X.frG, fun a m n' => by
    rcases List.mem_append.mp m with m | m
    · exact X.frA a m n'
    · have : a = p := by simpa using m
      subst this; exact n, X.dom, X.lk⟩
end

/-! ## the block of a comprehension -/
theorem wipe_at {σ : L2.St} {i : Nat} : ∀ (vs : List Nat), (wipe σ vs)[i]? = if i ∈ vs ∧ i < σ.length then some none else σ[i]?
  | [] => by simp [wipe]
  | v :: vs => by
    unfold wipe
    have ih := wipe_at (σ := σ) (i := i) vs
    have hl := wipe_length σ vs
    by_cases hv : v = i
    · subst hv
      by_cases hl' : v < σ.length
      · rw [List.getElem?_set_self (by rw [hl]; exact hl'), if_pos ⟨List.mem_cons_self, hl'⟩]
      · rw [if_neg (fun z => hl' z.2), List.getElem?_eq_none (by simp [hl]; omega), List.getElem?_eq_none (by omega)]
    · rw [List.getElem?_set_ne hv, ih]
      by_cases hm : i ∈ vs ∧ i < σ.length
      · rw [if_pos hm, if_pos ⟨List.mem_cons_of_mem _ hm.1, hm.2⟩]
      · rw [if_neg hm, if_neg (fun z => hm ⟨(List.mem_cons.mp z.1).resolve_left (fun q => hv q.symm), z.2⟩)]
theorem wipe_set {σ : L2.St} {i : Nat} {x : Option V} {vs : List Nat} (h : i ∈ vs) : wipe (σ.set i x) vs = wipe σ vs := by
  apply List.ext_getElem?
  intro j
  rw [wipe_at, wipe_at, List.length_set]
  by_cases hj : j ∈ vs ∧ j < σ.length
  · rw [if_pos hj, if_pos hj]
  · rw [if_neg hj, if_neg hj]
    by_cases z : i = j
    · subst z
      have : ¬ i < σ.length := fun q => hj ⟨h, q⟩
      rw [List.getElem?_eq_none (by simp; omega), List.getElem?_eq_none (by omega)]
    · rw [List.getElem?_set_ne z]
theorem wipe_wipe {σ : L2.St} {vs : List Nat} : wipe (wipe σ vs) vs = wipe σ vs := by
  apply List.ext_getElem?
  intro j
  rw [wipe_at, wipe_length, wipe_at]
  by_cases hj : j ∈ vs ∧ j < σ.length
  · rw [if_pos hj, if_pos hj]
  · rw [if_neg hj, if_neg hj]
def wipeE (e : Nv) : List Nat → Nv
  | [] => e
  | v :: vs => (wipeE e vs).set v none
section
variable {K : PySem.W.Frag} {mg : Str → Option Value} {G : Hp} {as : List Addr} {σ : L2.St} {e : Nv}
theorem Rn.unset (N : Rn K mg G as σ e) (i : Nat) : Rn K mg G as (σ.set i none) (e.set i none) := by
  refine ⟨by simp [N.len], fun j y h => ?_⟩
  by_cases hj : j = i
  · subst hj
    have hl : j < e.length := by
      have := (List.getElem?_eq_some_iff.mp h).1
      simpa using this
    rw [List.getElem?_set_self hl] at h
    cases h
  · rw [List.getElem?_set_ne (Ne.symm hj)] at h
    obtain ⟨u, e1, r1⟩ := N.at_ j y h
    exact ⟨u, by rw [List.getElem?_set_ne (Ne.symm hj)]; exact e1, r1⟩
theorem Rn.wipe (N : Rn K mg G as σ e) : ∀ vs : List Nat, Rn K mg G as (wipe σ vs) (wipeE e vs)
  | [] => N
  | v :: vs => (Rn.wipe N vs).unset v
end
section
variable {g : Gb} {F : Fam g} {pos : Pos}
abbrev W0 : WX := fun _ _ _ _ => False
def blkOwn (scope : Scope) (x : Str) : Bool := decide (scope.names.lookup x = some .cell) || decide (scope.names.lookup x = some .local)
def famC (F : Fam g) (scope : Scope) : Fam g where
  k := F.k
  N := F.N
  sc := relS scope F.sc
  nd := F.nd
  own := blkOwn scope
  mem := fun W X' => W = W0 ∧ ∃ (W1 : WX) (X : Cx) (s : Shared) (H : Hp) (C : Addr) (cl : List (Str × Addr)) (fp : List Addr), F.mem W1 X ∧ X' = X.blk s H scope (compEnvC scope cl C X.env) fp
  prog := fun {W X} ⟨_, W1, X1, s, H, C, cl, fp, h, e⟩ => by subst e; exact (F.prog (X := X1) h :)
  w := fun {W X} ⟨_, W1, X1, s, H, C, cl, fp, h, e⟩ => by subst e; exact (F.w (X := X1) h :)
  hK := fun {W X} ⟨_, W1, X1, s, H, C, cl, fp, h, e⟩ => by subst e; exact (F.hK (X := X1) h :)
  hmg := fun {W X} ⟨_, W1, X1, s, H, C, cl, fp, h, e⟩ => by subst e; exact (F.hmg (X := X1) h :)
  base := fun {W X} ⟨_, W1, X1, s, H, C, cl, fp, h, e⟩ => by subst e; exact (F.base (X := X1) h :)
  hN := fun {W X} ⟨_, W1, X1, s, H, C, cl, fp, h, e⟩ => by subst e; exact (F.hN (X := X1) h :)
  hsc := fun {W X} ⟨_, W1, X1, s, H, C, cl, fp, h, e⟩ => by
    subst e
    show relS scope X1.env.scope = _
    rw [F.hsc h]
  calm := fun {W X} ⟨_, W1, X1, s, H, C, cl, fp, h, e⟩ => by subst e; exact (F.calm (X := X1) h :)
  room := fun {W X} ⟨_, W1, X1, s, H, C, cl, fp, h, e⟩ => by subst e; exact (F.room (X := X1) h :)
  takes := fun {W X} ⟨eW, _⟩ => by subst eW; exact takes0
  pass := fun {W X} ⟨_, W1, X1, s, H, C, cl, fp, h, e⟩ => by subst e; exact PassesOwn.never
  fn := fun {W X} ⟨_, W1, X1, s, H, C, cl, fp, h, e⟩ x hx hl => by
    subst e
    unfold blkOwn at hx
    simp only [Bool.or_eq_true, decide_eq_true_eq] at hx
    rcases hx with hx | hx
    · exact .inl (by show (scope.names.lookup x == some .cell) = true; rw [hx]; rfl)
    · exact .inr (lookup_relS_keep (by decide) hx)
/-- a target that stores the block's own names alone -/
def JC (F : Fam g) (vs : List Nat) (target : Expr) (m : MG) : Prop := ∃ t : TG, (∀ W X, F.mem W X → PG X target t) ∧
  ∀ (G H : Hp) (as : List Addr) (st : Store) (σ : L2.St) (e : Nv) (v : V) (x : D) (e' : Nv) (st' : Store) (Q : L2.St → Hp → Prop), Ri g.K g.mg G H as st → Rn g.K g.mg G as σ e → Rp g.K g.mg G as v x → m x e st = some (e', st') →
    (∀ σ', wipe σ' vs = wipe σ vs → Rn g.K g.mg G as σ' e' → st' = st → Q σ' H) → t v σ H Q
def JCs (F : Fam g) (vs : List Nat) (ts : List Expr) (m : MGs) : Prop := ∃ t : TGs, (∀ W X, F.mem W X → PGs X ts t) ∧
  ∀ (G H : Hp) (as : List Addr) (st : Store) (σ : L2.St) (e : Nv) (vs' : List V) (xs : List D) (e' : Nv) (st' : Store) (Q : L2.St → Hp → Prop), Ri g.K g.mg G H as st → Rn g.K g.mg G as σ e → RpA g.K g.mg G as vs' xs → m xs e st = some (e', st') →
    (∀ σ', wipe σ' vs = wipe σ vs → Rn g.K g.mg G as σ' e' → st' = st → Q σ' H) → t vs' σ H Q
theorem jc_name (i : Nat) {x : Str} {vs : List Nat} (hi : F.N[i]? = some x) (hx : Loc F.sc x) (hv : i ∈ vs) (hw : F.own x = true := by rfl) : JC F vs (.Name x pos) (gname i) := by
  refine ⟨gName i, fun W X m => pg_name (by rw [F.hN m]; exact F.nd) (by rw [F.hN m]; exact hi) (by rw [F.hsc m]; exact hx) (F.fn m x hw hx), ?_⟩
  intro G H as st σ e v x e' st' Q R N r h k
  cases h
  exact k _ (wipe_set hv) (N.set i r) rfl
theorem jcs_nil {vs : List Nat} : JCs F vs [] gnil := by
  refine ⟨gNil, fun _ _ _ => pgs_nil, ?_⟩
  intro G H as st σ e vs xs e' st' Q R N r h k
  cases r with
  | nil => cases h; exact ⟨rfl, k σ rfl N rfl⟩
  | cons _ _ => cases h
theorem jcs_cons {ex : Expr} {es : List Expr} {m : MG} {ms : MGs} {vs : List Nat} (h : JC F vs ex m) (hs : JCs F vs es ms) (ha : ∀ env, (assignEach (ex :: es) env).map (·.2) = assign ex env :: (assignEach es env).map (·.2) := by intro _; rfl) : JCs F vs (ex :: es) (gcons m ms) := by
  obtain ⟨t, p, s⟩ := h
  obtain ⟨ts, ps, ss⟩ := hs
  refine ⟨gCons t ts, fun W X m => pgs_cons (p W X m) (ps W X m) (ha _), ?_⟩
  intro G H as st σ e vs xs e' st' Q R N r h k
  cases r with
  | nil => cases h
  | cons r rr =>
    rename_i v vr x xr
    unfold gcons at h
    cases q : m x e st with
    | none => simp [q] at h
    | some z =>
      obtain ⟨e1, st1⟩ := z
      simp only [q] at h
      refine ⟨v, vr, rfl, s G H as st σ e v x e1 st1 _ R N r q fun σ1 w1 N1 e1' => ?_⟩
      subst e1'
      exact ss G H as st1 σ1 e1 vr xr e' st' Q R N1 rr h fun σ2 w2 N2 e2 => k σ2 (w2.trans w1) N2 e2
theorem jc_tup {es : List Expr} {k n : Nat} {ms : MGs} {vs : List Nat} (hs : JCs F vs es ms) (hn : ∀ env, (assignEach es env).length = n := by intro _; rfl) (hst : ∀ env, (assignEach es env).findIdx? (·.1) = none := by intro _; rfl) : JC F vs (.Tuple es k pos) (gtup n ms) := by
  obtain ⟨ts, ps, ss⟩ := hs
  refine ⟨gTup g.K n ts, fun W X m => by have := pg_tup (k := k) (pos := pos) (F.calm m) (ps W X m) (hn _) (hst _); rw [F.hK m] at this; exact this, ?_⟩
  intro G H as st σ e v x e' st' Q R N r h k
  cases r with
  | tup s q =>
    rename_i a vs xs
    unfold gtup at h
    by_cases hl : xs.length = n
    · simp only [hl, if_true] at h
      exact ⟨a, vs, rfl, sqT_H R s, q.len.trans hl, ss G H as st σ e vs xs e' st' Q R N q h k⟩
    · simp [hl] at h
  | _ => cases h
/-- the tests of a comprehension -/
def JTs (F : Fam g) (ifs : List Expr) (m : XM Bool) : Prop := ∃ t : WX → TT, (∀ W X, F.mem W X → PTs X ifs (t W)) ∧ ST g t m
theorem jts_nil : JTs F [] (xpure true) := ⟨fun _ => tYes, fun _ _ _ => pts_nil, fun W G H as st σ e Q R N h => h G H as R Ext.refl⟩
theorem jts_one {c : Expr} {m : XM Bool} (h : JT F c m) : JTs F [c] m := let ⟨t, p, s⟩ := h; ⟨t, fun W X m => pts_one (p W X m), s⟩
def cloop (src : Option Nat) (items : List D) (gt : MG) (mt : XM Bool) (me : XM D) (e : Nv) : List D → List D → Store → RX (List D)
  | [], acc, st => if srcOk src items st = true then .ok acc st else .stuck
  | x :: r, acc, st => if srcOk src items st = true then (match gt x e st with
    | none => .stuck
    | some (e1, st1) => match mt e1 st1 with
      | .ok true st2 => (match me e1 st2 with
        | .ok d st3 => if acc.length < LIM then cloop src items gt mt me e r (acc ++ [d]) st3 else .stuck
        | _ => .stuck)
      | .ok false st2 => cloop src items gt mt me e r acc st2
      | _ => .stuck) else .stuck
def xcompL (mi : XM (List D × Option Nat)) (vs : List Nat) (gt : MG) (mt : XM Bool) (me : XM D) : XM (List D) := fun e st => match mi e st with
  | .ok (xs, src) st1 => cloop src xs gt mt me (wipeE e vs) xs [] st1
  | .exc c p st' => .exc c p st'
  | .stuck => .stuck
/-- the new list stands still | will move -/
def xcomp (mi : XM (List D × Option Nat)) (vs : List Nat) (gt : MG) (mt : XM Bool) (me : XM D) : XM D := xbind (xcompL mi vs gt mt me) fun ds => xpure (.lst ds)
def xcompM (mi : XM (List D × Option Nat)) (vs : List Nat) (gt : MG) (mt : XM Bool) (me : XM D) : XM D := xbind (xcompL mi vs gt mt me) fun ds => fun _ st => .ok (.ref st.length) (st ++ [.lst ds])
theorem comp_read {wi : WX → TI} {gt0 : TG} {tt : WX → TT} {te : WX → TE} {mi : XM (List D × Option Nat)} {vs : List Nat} {gt : MG} {mt : XM Bool} {me : XM D}
    (si : ∀ (W : WX) (G H : Hp) (as : List Addr) (st : Store) (σ : L2.St) (e : Nv) (R : It → Hp → Prop), Ri g.K g.mg G H as st → Rn g.K g.mg G as σ e → PXI g W G H as σ (mi e st) R → wi W σ H R)
    (sg : ∀ (G H : Hp) (as : List Addr) (st : Store) (σ : L2.St) (e : Nv) (v : V) (x : D) (e' : Nv) (st' : Store) (Q : L2.St → Hp → Prop), Ri g.K g.mg G H as st → Rn g.K g.mg G as σ e → Rp g.K g.mg G as v x → gt x e st = some (e', st') →
      (∀ σ', wipe σ' vs = wipe σ vs → Rn g.K g.mg G as σ' e' → st' = st → Q σ' H) → gt0 v σ H Q)
    (stt : ST g tt mt) (se : SE g te me) (W : WX) (G H : Hp) (as : List Addr) (st : Store) (σ : L2.St) (e : Nv) (Q : VK) (R : Ri g.K g.mg G H as st) (N : Rn g.K g.mg G as σ e) (f : List D → Store → RX D)
    (h : PX g.K g.mg W G H as σ (match xcompL mi vs gt mt me e st with | .ok ds st' => f ds st' | .exc c p st' => .exc c p st' | .stuck => .stuck) Q)
    (fin : ∀ (ds : List D) (st' : Store) (G1 H1 : Hp) (as1 : List Addr) (G2 H2 : Hp) (as2 : List Addr) (us : List V) (p : Addr), Ri g.K g.mg G1 H1 as1 st' → RpA g.K g.mg G1 as1 us ds → H1 p = some (.lst us) → G1 p = none → p ∉ as1 → Ext G2 H2 as2 G1 H1 as1 → H2 p = none → PX g.K g.mg W G2 H2 as2 σ (f ds st') Q → Q (.ref p) H1) :
    tLc (wi W) gt0 (tt W0) (te W0) vs σ H Q := by
  refine si W G H as st σ e _ R N ?_
  unfold xcompL at h
  cases q : mi e st with
  | stuck => rw [q] at h; exact h
  | exc c p st1 => rw [q] at h; exact h
  | ok z st1 =>
    obtain ⟨xs, src⟩ := z
    simp only [q] at h
    have ok : srcOk src xs st1 = true := by
      cases hx : srcOk src xs st1 with
      | true => rfl
      | false =>
        exfalso
        cases xs with
        | nil => simp [cloop, hx] at h; exact h
        | cons x r => simp [cloop, hx] at h; exact h
    refine ⟨ok, fun J G1 H1 as1 R1 X1 Y => ?_⟩
    intro D0 hD
    have hd0 := R1.none_of hD
    have h1 := PX.ext (K := g.K) (mg := g.mg) h X1
    refine ⟨fun i m H' => i ≤ xs.length ∧ m = xs.length - i ∧ ∃ G' as' st' us acc, Ri g.K g.mg G' H' as' st' ∧ Ext G1 H1 as1 G' H' as' ∧ H' D0 = some (.lst us) ∧ G' D0 = none ∧ D0 ∉ as' ∧ RpA g.K g.mg G' as' us acc ∧
        PX g.K g.mg W G1 H1 as1 σ (match cloop src xs gt mt me (wipeE e vs) (xs.drop i) acc st' with | .ok ds st' => f ds st' | .exc c p st' => .exc c p st' | .stuck => .stuck) Q,
      ⟨xs.length, Nat.zero_le _, by simp, G1, as1, st1, [], [], R1.touch hd0.1 hd0.2, Ext.refl.touch hD, upd_same, hd0.1, hd0.2, .nil, h1⟩, ?_⟩
    rintro i m H2 ⟨hle, rfl, G2, as2, st2, us, acc, R2, X2, hL, hg, ha, ru, h2⟩
    by_cases hi : i < xs.length
    · have hd : xs.drop i = xs[i] :: xs.drop (i + 1) := List.drop_eq_getElem_cons hi
      rw [hd] at h2
      unfold cloop at h2
      by_cases hok : srcOk src xs st2 = true
      · simp only [hok, if_true] at h2
        refine .inr ⟨Y.go i G2 H2 as2 st2 hi R2 X2.sub X2.pre X2.lk hok, ?_⟩
        refine ⟨fun H' => i + 1 ≤ xs.length ∧ ∃ G' as' st' us acc, Ri g.K g.mg G' H' as' st' ∧ Ext G1 H1 as1 G' H' as' ∧ H' D0 = some (.lst us) ∧ G' D0 = none ∧ D0 ∉ as' ∧ RpA g.K g.mg G' as' us acc ∧
            PX g.K g.mg W G1 H1 as1 σ (match cloop src xs gt mt me (wipeE e vs) (xs.drop (i + 1)) acc st' with | .ok ds st' => f ds st' | .exc c p st' => .exc c p st' | .stuck => .stuck) Q,
          fun H' ⟨a, b⟩ => ⟨xs.length - (i + 1), by omega, a, rfl, b⟩, fun v H3 y => ?_⟩
        obtain ⟨G3, R3, X3, rv⟩ := Y.yld i G2 H2 as2 st2 v H3 xs[i] R2 X2.sub X2.pre X2.lk hok (List.getElem?_eq_getElem hi) y
        have b3 := X3.beside hL hg ha
        cases q3 : gt xs[i] (wipeE e vs) st2 with
        | none => simp only [q3] at h2; exact h2.elim
        | some z =>
          obtain ⟨e3, st3⟩ := z
          simp only [q3] at h2
          have Nw : Rn g.K g.mg G3 as2 (wipe σ vs) (wipeE e vs) := (((N.ext X1).ext X2).ext X3).wipe vs
          refine sg G3 H3 as2 st2 (wipe σ vs) (wipeE e vs) v xs[i] e3 st3 _ R3 Nw rv q3 fun σ4 w4 N4 es => ?_
          subst es
          refine ⟨w4.trans wipe_wipe, ?_⟩
          refine stt W0 G3 H3 as2 st3 σ4 e3 _ R3 N4 ?_
          cases q4 : mt e3 st3 with
          | stuck => simp only [q4] at h2; exact h2
          | exc c p st4 => simp only [q4] at h2; exact h2.elim
          | ok b st4 =>
            intro G4 H4 as4 R4 X4
            have b4 := X4.beside b3.2.2 b3.1 b3.2.1
            have X14 := (X2.trans X3).trans X4
            cases b with
            | false =>
              simp only [q4] at h2
              exact iteF ⟨hi, G4, as4, st4, us, acc, R4, X14, b4.2.2, b4.1, b4.2.1, (ru.ext X3).ext X4, h2⟩
            | true =>
              refine iteT ?_
              refine se W0 G4 H4 as4 st4 σ4 e3 _ R4 (N4.ext X4) ?_
              cases q5 : me e3 st4 with
              | stuck => simp only [q4, q5] at h2; exact h2
              | exc c p st5 => simp only [q4, q5] at h2; exact h2.elim
              | ok d st5 =>
                simp only [q4, q5] at h2
                intro w G5 H5 as5 R5 X5 rw'
                have b5 := X5.beside b4.2.2 b4.1 b4.2.1
                have ru5 := ((ru.ext X3).ext X4).ext X5
                by_cases hl : acc.length < LIM
                · rw [if_pos hl] at h2
                  refine ⟨us, b5.2.2, by rw [ru5.len]; exact lim_lt hl, hi, G5, as5, st5, us ++ [w], acc ++ [d], R5.touch b5.1 b5.2.1, (X14.trans X5).touch hD, upd_same, b5.1, b5.2.1, ru5.append (.cons rw' .nil), h2⟩
                · rw [if_neg hl] at h2; exact h2.elim
      · simp only [hok] at h2; exact h2.elim
    · have ei : i = xs.length := by omega
      subst ei
      rw [List.drop_length] at h2
      unfold cloop at h2
      by_cases hok : srcOk src xs st2 = true
      · simp only [hok, if_true] at h2
        exact .inl ⟨Y.stop G2 H2 as2 st2 R2 X2.sub X2.pre X2.lk hok, fin acc st2 G2 H2 as2 G1 H1 as1 us D0 R2 ru hL hg ha X2 hD h2⟩
      · simp only [hok] at h2; exact h2.elim
theorem je_lc {elt tg iter : Expr} {ifs : List Expr} {scope : Scope} (own : List (Str × Nat)) {mi : XM (List D × Option Nat)} {gt : MG} {mt : XM Bool} {me : XM D} (hi : JI F tg iter mi) (ok : blkC F.N F.sc scope own = true) (hg : JC (famC F scope) (own.map (·.2)) tg gt)
    (ht : JTs (famC F scope) ifs mt) (he : JE (famC F scope) elt me) (hs : ∀ env x, foldedSetIterable iter env x = pure x := by intro _ _; rfl) : JE F (.ListComp elt [⟨tg, iter, ifs, 0⟩] scope pos) (xcomp mi (own.map (·.2)) gt mt me) := by
  obtain ⟨wi, pi, si⟩ := hi
  obtain ⟨tg', pg', sg'⟩ := hg
  obtain ⟨tt, pt, stt⟩ := ht
  obtain ⟨te, pe, se⟩ := he
  refine ⟨fun W => tLc (wi W) tg' (tt W0) (te W0) (own.map (·.2)), fun W X m => ?_, ?_⟩
  · have hm : ∀ (s : Shared) (H : Hp) (C : Addr) (cl : List (Str × Addr)) (fp : List Addr), (famC F scope).mem W0 (X.blk s H scope (compEnvC scope cl C X.env) fp) := fun s H C cl fp => ⟨rfl, W, X, s, H, C, cl, fp, m, rfl⟩
    exact pe_lc (F.calm m) (by rw [F.hN m]; exact F.nd) (pi W X m) (by rw [F.hN m, F.hsc m]; exact blkOk_by ok) (fun s H C cl fp => pg' _ _ (hm s H C cl fp)) (fun s H C cl fp => pt _ _ (hm s H C cl fp)) (fun s H C cl fp => pe _ _ (hm s H C cl fp)) (hs _)
  · intro W G H as st σ e Q R N h
    refine comp_read si sg' stt se W G H as st σ e Q R N (fun ds st' => .ok (.lst ds) st') ?_ ?_
    · refine Eq.mp (congrArg (fun r => PX g.K g.mg W G H as σ r Q) ?_) h
      unfold xcomp xbind xpure
      cases xcompL mi (own.map (·.2)) gt mt me e st <;> rfl
    · intro ds st' G1 H1 as1 G2 H2 as2 us p R1 ru hp gn na X1 hn hq
      refine hq _ _ H1 as1 (R1.freeze hp gn na) (X1.freeze hn gn) (.lst upd_same (ru.mono (fun a u e => ?_) (List.prefix_refl _)))
      rw [upd_ne (ne_of_none e gn)]; exact e
theorem je_lcM {elt tg iter : Expr} {ifs : List Expr} {scope : Scope} (own : List (Str × Nat)) {mi : XM (List D × Option Nat)} {gt : MG} {mt : XM Bool} {me : XM D} (hi : JI F tg iter mi) (ok : blkC F.N F.sc scope own = true) (hg : JC (famC F scope) (own.map (·.2)) tg gt)
    (ht : JTs (famC F scope) ifs mt) (he : JE (famC F scope) elt me) (hs : ∀ env x, foldedSetIterable iter env x = pure x := by intro _ _; rfl) : JE F (.ListComp elt [⟨tg, iter, ifs, 0⟩] scope pos) (xcompM mi (own.map (·.2)) gt mt me) := by
  obtain ⟨wi, pi, si⟩ := hi
  obtain ⟨tg', pg', sg'⟩ := hg
  obtain ⟨tt, pt, stt⟩ := ht
  obtain ⟨te, pe, se⟩ := he
  refine ⟨fun W => tLc (wi W) tg' (tt W0) (te W0) (own.map (·.2)), fun W X m => ?_, ?_⟩
  · have hm : ∀ (s : Shared) (H : Hp) (C : Addr) (cl : List (Str × Addr)) (fp : List Addr), (famC F scope).mem W0 (X.blk s H scope (compEnvC scope cl C X.env) fp) := fun s H C cl fp => ⟨rfl, W, X, s, H, C, cl, fp, m, rfl⟩
    exact pe_lc (F.calm m) (by rw [F.hN m]; exact F.nd) (pi W X m) (by rw [F.hN m, F.hsc m]; exact blkOk_by ok) (fun s H C cl fp => pg' _ _ (hm s H C cl fp)) (fun s H C cl fp => pt _ _ (hm s H C cl fp)) (fun s H C cl fp => pe _ _ (hm s H C cl fp)) (hs _)
  · intro W G H as st σ e Q R N h
    refine comp_read si sg' stt se W G H as st σ e Q R N (fun ds st' => .ok (.ref st'.length) (st' ++ [.lst ds])) ?_ ?_
    · refine Eq.mp (congrArg (fun r => PX g.K g.mg W G H as σ r Q) ?_) h
      unfold xcompM xbind
      cases xcompL mi (own.map (·.2)) gt mt me e st <;> rfl
    · intro ds st' G1 H1 as1 G2 H2 as2 us p R1 ru hp gn na X1 hn hq
      refine hq _ _ H1 _ (R1.adopt hp gn na (.lst ru)) (X1.adopt hn) (.ref ?_)
      rw [← R1.len, List.getElem?_append_right (Nat.le_refl _), Nat.sub_self]; rfl
/-- name = [..] on one line, the name a local -/
theorem js_setLc (i : Nat) {y : Str} {py spos : Pos} {elt tg iter : Expr} {ifs : List Expr} {scope : Scope} (own : List (Str × Nat)) {mi : XM (List D × Option Nat)} {gt : MG} {mt : XM Bool} {me : XM D} (hy : F.N[i]? = some y) (hyl : F.sc.names.lookup y = some .local) (hk : F.sc.kind = .function) (hl : (py.line == pos.line) = true)
    (hna : (scope.names.any fun (n, k) => n == y && (k == .local || k == .cell)) = false) (hi : JI F tg iter mi) (ok : blkC F.N F.sc scope own = true) (hg : JC (famC F scope) (own.map (·.2)) tg gt)
    (ht : JTs (famC F scope) ifs mt) (he : JE (famC F scope) elt me) (hs : ∀ env x, foldedSetIterable iter env x = pure x := by intro _ _; rfl) :
    JS F (.Assign [.Name y py] (.ListComp elt [⟨tg, iter, ifs, 0⟩] scope pos) spos) (sset i (xcomp mi (own.map (·.2)) gt mt me)) := by
  obtain ⟨wi, pi, si⟩ := hi
  obtain ⟨tg', pg', sg'⟩ := hg
  obtain ⟨tt, pt, stt⟩ := ht
  obtain ⟨te, pe, se⟩ := he
  refine ⟨fun W => tAsg (tLc (wi W) tg' (tt W0) (te W0) (own.map (·.2))) (gName i), fun W X m => ?_, ?_⟩
  · have hm : ∀ (s : Shared) (H : Hp) (C : Addr) (cl : List (Str × Addr)) (fp : List Addr), (famC F scope).mem W0 (X.blk s H scope (compEnvC scope cl C X.env) fp) := fun s H C cl fp => ⟨rfl, W, X, s, H, C, cl, fp, m, rfl⟩
    exact ps_setLc (F.calm m) (by rw [F.hN m]; exact F.nd) (by rw [F.hN m]; exact hy) (by rw [F.hsc m]; exact hyl) (sw_true (by rw [F.hsc m]; exact hk) (by rw [F.hsc m]; exact hyl) hl hna) (pi W X m) (by rw [F.hN m, F.hsc m]; exact blkOk_by ok)
      (fun s H C cl fp => pg' _ _ (hm s H C cl fp)) (fun s H C cl fp => pt _ _ (hm s H C cl fp)) (fun s H C cl fp => pe _ _ (hm s H C cl fp)) (hs _)
  · intro W G H as st σ e E R N h
    have h' : PX g.K g.mg W G H as σ (xcomp mi (own.map (·.2)) gt mt me e st) (fun x H1 => gName i x σ H1 E.nx) := by
      unfold sset sbind at h
      cases q : xcomp mi (own.map (·.2)) gt mt me e st with
      | stuck => rw [q] at h; exact h
      | exc c p st1 => rw [q] at h; exact fun cls d G1 H1 as1 R1 X1 x => h σ cls d G1 H1 as1 R1 (N.ext X1) X1 x
      | ok d st1 => rw [q] at h; exact fun v G1 H1 as1 R1 X1 rv => h _ G1 H1 as1 R1 ((N.ext X1).set i rv) X1
    refine comp_read si sg' stt se W G H as st σ e _ R N (fun ds st' => .ok (.lst ds) st') ?_ ?_
    · refine Eq.mp (congrArg (fun r => PX g.K g.mg W G H as σ r _) ?_) h'
      unfold xcomp xbind xpure
      cases xcompL mi (own.map (·.2)) gt mt me e st <;> rfl
    · intro ds st' G1 H1 as1 G2 H2 as2 us p R1 ru hp gn na X1 hn hq
      refine hq _ _ H1 as1 (R1.freeze hp gn na) (X1.freeze hn gn) (.lst upd_same (ru.mono (fun a u e => ?_) (List.prefix_refl _)))
      rw [upd_ne (ne_of_none e gn)]; exact e
end
end LS
end
section
set_option maxRecDepth 100000
set_option maxHeartbeats 2000000
namespace LS
open PySem PySem.Spec L2

/-! ## what leaves a def -/
mutual
def refsB (n : Nat) : D → Bool
  | .ref i => decide (i < n)
  | .tup xs => refsBs n xs
  | .lst xs => refsBs n xs
  | .sq xs => refsBs n xs
  | _ => true
def refsBs (n : Nat) : List D → Bool
  | [] => true
  | d :: r => refsB n d && refsBs n r
end
def moB (n : Nat) : MO → Bool
  | .lst xs => refsBs n xs
  | .dct kvs => refsBs n (kvs.map (·.2))
  | .lck _ => false
def stB (n : Nat) (st : Store) : Bool := (st.take n).all (moB n)
def payB (n : Nat) : Pay → Bool
  | none => true
  | some (_, d) => refsB n d
def outD (n : Nat) (d : D) (st : Store) : RX D := if stB n st = true then (match d with
  | .ref k => if k < n then .ok (.ref k) (st.take n) else (match st[k]? with
    | some (.lst xs) => if refsBs n xs = true then .ok (.lst xs) (st.take n) else .stuck
    | _ => .stuck)
  | d => if refsB n d = true then .ok d (st.take n) else .stuck) else .stuck
/-- .. a new moving list -/
def outM (n : Nat) (d : D) (st : Store) : RX D := if stB n st = true then (match d with
  | .ref k => if k < n then .stuck else (match st[k]? with
    | some (.lst xs) => if refsBs n xs = true then .ok (.ref n) (st.take n ++ [.lst xs]) else .stuck
    | _ => .stuck)
  | _ => .stuck) else .stuck
/-- .. everything that was made -/
def outG (_ : Nat) (d : D) (st : Store) : RX D := .ok d st
def outF (out : Nat → D → Store → RX D) (n : Nat) : RS → RX D
  | .rt d st => out n d st
  | .nx _ st => out n .non st
  | .exc c p _ st => if stB n st = true then (if payB n p = true then .exc c p (st.take n) else .stuck) else .stuck
  | _ => .stuck
abbrev DF := Store → List D → RX D
def runF (nm : Nat) (body : SM) : DF := fun st ds => outF outD st.length (body (ds.map some ++ List.replicate (nm - ds.length) none) st)
def runG (nm : Nat) (body : SM) : DF := fun st ds => outF outG st.length (body (ds.map some ++ List.replicate (nm - ds.length) none) st)
def runM (nm : Nat) (body : SM) : DF := fun st ds => outF outM st.length (body (ds.map some ++ List.replicate (nm - ds.length) none) st)
section
variable {K : PySem.W.Frag} {mg : Str → Option Value} {G H G1 H1 : Hp} {as as1 : List Addr} {st st1 : Store} {n : Nat}
mutual
theorem Rp.shrink (hn : ∀ i, i < n → as[i]? = as1[i]?) : ∀ {d : D} {v : V}, refsB n d = true → Rp K mg G as v d → Rp K mg G as1 v d
  | .non, _, _, h => by cases h; exact .non
  | .bl _, _, _, h => by cases h; exact .bl _
  | .int _, _, _, h => by cases h; exact .int _
  | .str _, _, _, h => by cases h; exact .str _
  | .ty _, _, _, h => by cases h; exact .ty _
  | .glo _, _, _, h => by cases h; rename_i a q; exact .glo _ _ q
  | .tup ds, _, b, h => by cases h with | tup s r => exact .tup s (RpA.shrink hn (by simpa [refsB] using b) r)
  | .lst ds, _, b, h => by cases h with | lst s r => exact .lst s (RpA.shrink hn (by simpa [refsB] using b) r)
  | .sq ds, _, b, h => by cases h with | sq s r => exact .sq s (RpA.shrink hn (by simpa [refsB] using b) r)
  | .ref i, _, b, h => by cases h with | ref q => exact .ref (by rw [← hn i (by simpa [refsB] using b)]; exact q)
theorem RpA.shrink (hn : ∀ i, i < n → as[i]? = as1[i]?) : ∀ {ds : List D} {vs : List V}, refsBs n ds = true → RpA K mg G as vs ds → RpA K mg G as1 vs ds
  | [], _, _, h => by cases h; exact .nil
  | d :: ds, _, b, h => by
    cases h with
    | cons x y =>
      have b' : refsB n d = true ∧ refsBs n ds = true := by simpa [refsBs] using b
      exact .cons (Rp.shrink hn b'.1 x) (RpA.shrink hn b'.2 y)
end
theorem Ro.shrink (hn : ∀ i, i < n → as[i]? = as1[i]?) {ho : HO} {m : MO} (b : moB n m = true) (h : Ro K mg G as ho m) : Ro K mg G as1 ho m := by
  cases h with
  | lst r => exact .lst (r.shrink hn (by simpa [moB] using b))
  | dct e r => exact .dct e (r.shrink hn (by simpa [moB] using b))
  | lck e r => simp [moB] at b
/-- the store of a def's caller -/
theorem Ri.back (R : Ri K mg G1 H1 as1 st1) (X : Ext G H as G1 H1 as1) (hn : as.length = n) (b : stB n st1 = true) : Ri K mg G1 H1 as (st1.take n) ∧ Ext G H as G1 H1 as ∧ ∀ i, i < n → as1[i]? = as[i]? := by
  obtain ⟨t, e⟩ := X.pre
  have hl : n ≤ as1.length := by rw [← e, List.length_append]; omega
  have same : ∀ i, i < n → as1[i]? = as[i]? := fun i hi => by rw [← e, List.getElem?_append_left (by omega)]
  refine ⟨⟨R.sub, by rw [hn, List.length_take, ← R.len]; omega, ?_, fun a ha => R.out a (e ▸ List.mem_append_left _ ha), fun i a o ha ho => ?_⟩, ⟨X.sub, List.prefix_refl _, X.keep, X.frG, fun a h h' => absurd h h', X.dom, X.lk⟩, same⟩
  · have := R.nd
    rw [← e, List.nodup_append] at this
    exact this.1
  · have hi : i < n := by
      have := (List.getElem?_eq_some_iff.mp ha).1
      omega
    have ho' : st1[i]? = some o := by
      rw [List.getElem?_take, if_pos hi] at ho
      exact ho
    obtain ⟨u, q, r⟩ := R.obj i a o (by rw [same i hi]; exact ha) ho'
    refine ⟨u, q, r.shrink same ?_⟩
    unfold stB at b
    exact List.all_eq_true.mp b o (List.mem_of_getElem? ho)
theorem outD_ok {W : WX} {σ : L2.St} {d : D} {v : V} {Q : VK} (R : Ri K mg G1 H1 as1 st1) (X : Ext G H as G1 H1 as1) (hn : as.length = n) (r : Rp K mg G1 as1 v d) (h : PX K mg W G H as σ (outD n d st1) Q) : Q v H1 := by
  unfold outD at h
  by_cases b : stB n st1 = true
  · rw [if_pos b] at h
    obtain ⟨R', X', same⟩ := R.back X hn b
    have plain : refsB n d = true → PX K mg W G H as σ (.ok d (st1.take n)) Q → Q v H1 := fun bd q => q v G1 H1 as R' X' (r.shrink same bd)
    cases d with
    | ref k =>
      simp only at h
      by_cases hk : k < n
      · rw [if_pos hk] at h
        exact plain (by simp [refsB, hk]) h
      · rw [if_neg hk] at h
        cases q : st1[k]? with
        | none => simp [q] at h; exact h.elim
        | some m =>
          cases m with
          | lst xs =>
            simp only [q] at h
            by_cases bx : refsBs n xs = true
            · rw [if_pos bx] at h
              cases r with
              | ref qa =>
                rename_i a
                obtain ⟨ho, e1, oo⟩ := R.at_ qa q
                cases oo with
                | lst ra =>
                  rename_i vs
                  have ga : G1 a = none := R.out a (List.mem_of_getElem? qa)
                  have na : a ∉ as := fun ha => by
                    obtain ⟨j, hj, ej⟩ := List.getElem_of_mem ha
                    have h1 : as1[j]? = some a := by rw [same j (by omega), List.getElem?_eq_getElem hj, ej]
                    obtain ⟨p1, p2⟩ := List.getElem?_eq_some_iff.mp h1
                    obtain ⟨p3, p4⟩ := List.getElem?_eq_some_iff.mp qa
                    have : j = k := (List.getElem_inj R.nd).mp (p2.trans p4.symm)
                    omega
                  have hfresh : H a = none := X.frA a (List.mem_of_getElem? qa) na
                  refine h _ _ H1 as (R'.freeze e1 ga na) (X'.freeze hfresh ga) (.lst upd_same ?_)
                  exact (ra.shrink same bx).mono (fun b u eb => by rw [upd_ne (ne_of_none eb ga)]; exact eb) (List.prefix_refl _)
            · rw [if_neg bx] at h; exact h.elim
          | _ => simp [q] at h; exact h.elim
    | non => simp only at h; exact plain rfl (by simpa [refsB] using h)
    | bl _ => simp only at h; exact plain rfl (by simpa [refsB] using h)
    | int _ => simp only at h; exact plain rfl (by simpa [refsB] using h)
    | str _ => simp only at h; exact plain rfl (by simpa [refsB] using h)
    | ty _ => simp only at h; exact plain rfl (by simpa [refsB] using h)
    | glo _ => simp only at h; exact plain rfl (by simpa [refsB] using h)
    | tup xs =>
      simp only at h
      by_cases bx : refsB n (.tup xs) = true
      · rw [if_pos bx] at h; exact plain bx h
      · rw [if_neg bx] at h; exact h.elim
    | lst xs =>
      simp only at h
      by_cases bx : refsB n (.lst xs) = true
      · rw [if_pos bx] at h; exact plain bx h
      · rw [if_neg bx] at h; exact h.elim
    | sq xs =>
      simp only at h
      by_cases bx : refsB n (.sq xs) = true
      · rw [if_pos bx] at h; exact plain bx h
      · rw [if_neg bx] at h; exact h.elim
  · rw [if_neg b] at h; exact h.elim
theorem outM_ok {W : WX} {σ : L2.St} {d : D} {v : V} {Q : VK} (R : Ri K mg G1 H1 as1 st1) (X : Ext G H as G1 H1 as1) (hn : as.length = n) (r : Rp K mg G1 as1 v d) (h : PX K mg W G H as σ (outM n d st1) Q) : Q v H1 := by
  unfold outM at h
  by_cases b : stB n st1 = true
  · rw [if_pos b] at h
    obtain ⟨R', X', same⟩ := R.back X hn b
    cases d with
    | ref k =>
      simp only at h
      by_cases hk : k < n
      · rw [if_pos hk] at h; exact h.elim
      · rw [if_neg hk] at h
        cases q : st1[k]? with
        | none => simp [q] at h; exact h.elim
        | some m =>
          cases m with
          | lst xs =>
            simp only [q] at h
            by_cases bx : refsBs n xs = true
            · rw [if_pos bx] at h
              cases r with
              | ref qa =>
                rename_i a
                obtain ⟨ho, e1, oo⟩ := R.at_ qa q
                cases oo with
                | lst ra =>
                  rename_i vs
                  have ga : G1 a = none := R.out a (List.mem_of_getElem? qa)
                  have na : a ∉ as := fun ha => by
                    obtain ⟨j, hj, ej⟩ := List.getElem_of_mem ha
                    have h1 : as1[j]? = some a := by rw [same j (by omega), List.getElem?_eq_getElem hj, ej]
                    obtain ⟨p1, p2⟩ := List.getElem?_eq_some_iff.mp h1
                    obtain ⟨p3, p4⟩ := List.getElem?_eq_some_iff.mp qa
                    have : j = k := (List.getElem_inj R.nd).mp (p2.trans p4.symm)
                    omega
                  have hfresh : H a = none := X.frA a (List.mem_of_getElem? qa) na
                  refine h _ _ H1 _ (R'.adopt e1 ga na (.lst (ra.shrink same bx))) (X'.adopt hfresh) (.ref ?_)
                  rw [← hn, List.getElem?_append_right (Nat.le_refl _), Nat.sub_self]; rfl
            · rw [if_neg bx] at h; exact h.elim
          | _ => simp [q] at h; exact h.elim
    | _ => exact h.elim
  · rw [if_neg b] at h; exact h.elim
end

theorem outG_ok {W : WX} {σ : L2.St} {d : D} {v : V} {Q : VK} {K : PySem.W.Frag} {mg : Str → Option Value} {G H G1 H1 : Hp} {as as1 : List Addr} {st1 : Store} {n : Nat} (R : Ri K mg G1 H1 as1 st1) (X : Ext G H as G1 H1 as1) (r : Rp K mg G1 as1 v d) (h : PX K mg W G H as σ (outG n d st1) Q) : Q v H1 := h v G1 H1 as1 R X r

/-! ## a def's body -/
structure Bd where
  qual : Str
  f : Addr
  cdv : Value
  A : Around
  outer : List Env
  s : Shared
  H : Hp
  E : XK
def famB (g : Gb) (k : Nat) (N : List Str) (nd : N.Nodup) (sc : Scope) (b : Bd) (hr : Room k (b.A.deeper (PyProof.Rows.envOfC b.qual sc b.s.heap.objs.size b.f b.cdv))) : Fam g where
  k := k
  N := N
  sc := sc
  nd := nd
  own := fun _ => true
  mem := fun W X => W = (fun cls d _ H' => b.E cls d H') ∧ X = cxOf (L2.CX g.P g.w) g.P g.w g.K g.mg g.base N b.qual sc b.f b.cdv b.A b.outer b.s b.H b.E
  prog := fun {W X} ⟨_, e⟩ => by subst e; rfl
  w := fun {W X} ⟨_, e⟩ => by subst e; rfl
  hK := fun {W X} ⟨_, e⟩ => by subst e; rfl
  hmg := fun {W X} ⟨_, e⟩ => by subst e; rfl
  base := fun {W X} ⟨_, e⟩ => by subst e; rfl
  hN := fun {W X} ⟨_, e⟩ => by subst e; rfl
  hsc := fun {W X} ⟨_, e⟩ => by subst e; rfl
  calm := fun {W X} ⟨_, e⟩ => by subst e; rfl
  room := fun {W X} ⟨_, e⟩ => by subst e; exact hr
  takes := fun {W X} ⟨eW, e⟩ => by subst e; subst eW; exact takes_of rfl rfl rfl rfl
  pass := fun {W X} ⟨_, e⟩ => by subst e; exact passes_of rfl
  fn := fun {W X} ⟨_, e⟩ x _ _ => by subst e; exact .inl rfl
/-- a def's promise -/
def spS (g : Gb) (n : Nat) (f : DF) : Sp := fun vs H Q E => ∃ (G : Hp) (as : List Addr) (st : Store) (ds : List D), ds.length = n ∧ Ri g.K g.mg G H as st ∧ RpA g.K g.mg G as vs ds ∧ PX g.K g.mg (fun cls d _ H' => E cls d H') G H as [] (f st ds) Q
/-- a def of the top under the name x: its promise at level k -/
structure Fn (g : Gb) (st : Stmt) (x nm : Str) (ps : List Str) (k : Nat) (F : DF) : Prop where
  ex : ∃ f fd, g.mg x = some (.ref f) ∧ FunD g.K nm nm (defArgs st) (defBody st) (defScope st) [] [] f fd ∧ Binds g.K fd ps [] ∧ FnOk g.P g.w g.K g.mg g.base (L2.CX g.P g.w) k f fd ps (spS g ps.length F)
theorem start_rn {K : PySem.W.Frag} {mg : Str → Option Value} {G : Hp} {as : List Addr} {N : List Str} {vs : List V} {ds : List D} (r : RpA K mg G as vs ds) : Rn K mg G as (L2.start N vs) (ds.map some ++ List.replicate (N.length - ds.length) none) := by
  have hl := r.len
  refine ⟨by simp [L2.start, hl], fun i x h => ?_⟩
  by_cases hi : i < ds.length
  · rw [List.getElem?_append_left (by simpa using hi), List.getElem?_map] at h
    obtain ⟨d, e1, e2⟩ := Option.map_eq_some_iff.mp h
    cases e2
    obtain ⟨v, e3, rv⟩ := r.get e1
    refine ⟨v, ?_, rv⟩
    unfold L2.start
    rw [List.getElem?_append_left (by rw [List.length_map, hl]; exact hi), List.getElem?_map, e3]; rfl
  · rw [List.getElem?_append_right (by simpa using hi)] at h
    rw [List.getElem?_replicate] at h
    split at h <;> cases h
theorem fn_ok {g : Gb} {st : Stmt} {nm : Str} {N ps : List Str} {k : Nat} {m : SM} {f : Addr} {fd : FuncData} (out : Nat → D → Store → RX D)
    (hout : ∀ (G H G1 H1 : Hp) (as as1 : List Addr) (st1 : Store) (n : Nat) (W : WX) (σ : L2.St) (d : D) (v : V) (Q : VK), Ri g.K g.mg G1 H1 as1 st1 → Ext G H as G1 H1 as1 → as.length = n → Rp g.K g.mg G1 as1 v d → PX g.K g.mg W G H as σ (out n d st1) Q → Q v H1)
    (D0 : FunD g.K nm nm (defArgs st) (defBody st) (defScope st) [] [] f fd) (S : FnScope N ps (defScope st))
    (body : ∀ (b : Bd) (hr : Room k (b.A.deeper (PyProof.Rows.envOfC b.qual (defScope st) b.s.heap.objs.size b.f b.cdv))), JSs (famB g k N S.nd (defScope st) b hr) (defBody st) m) :
    FnOk g.P g.w g.K g.mg g.base (L2.CX g.P g.w) (k + 1) f fd ps (spS g ps.length (fun s ds => outF out s.length (m (ds.map some ++ List.replicate (N.length - ds.length) none) s))) := by
  refine D0.ok S (fun vs H Q E h => ?_) (fun cdv A outer s H vs Q E hr h => ?_)
  · obtain ⟨G, as, st', ds, hl, R, r, _⟩ := h
    rw [r.len, hl]
  · obtain ⟨G, as, st', ds, hl, R, r, q⟩ := h
    dsimp only at q
    obtain ⟨t, p, ss⟩ := body ⟨nm, f, cdv, A, outer, s, H, E⟩ hr
    refine ⟨t _, p _ _ ⟨rfl, rfl⟩, ?_⟩
    refine ss (fun cls d _ H' => E cls d H') G H as st' (L2.start N vs) (ds.map some ++ List.replicate (N.length - ds.length) none) _ R (start_rn r) ?_
    cases qm : m (ds.map some ++ List.replicate (N.length - ds.length) none) st' with
    | rt d st1 =>
      rw [qm] at q
      exact fun v G1 H1 as1 R1 X1 rv => hout G H G1 H1 as as1 st1 _ _ _ d v Q R1 X1 R.len rv q
    | nx e1 st1 =>
      rw [qm] at q
      exact fun σ1 G1 H1 as1 R1 N1 X1 => hout G H G1 H1 as as1 st1 _ _ _ .non .non Q R1 X1 R.len .non q
    | bk e1 st1 => rw [qm] at q; exact q.elim
    | ct e1 st1 => rw [qm] at q; exact q.elim
    | stuck => rw [qm] at q; exact q.elim
    | exc c p e1 st1 =>
      rw [qm] at q
      intro σ1 cls d G1 H1 as1 R1 N1 X1 x1
      simp only [outF] at q
      by_cases b1 : stB st'.length st1 = true
      · rw [if_pos b1] at q
        by_cases b2 : payB st'.length p = true
        · rw [if_pos b2] at q
          obtain ⟨R', X', same⟩ := R1.back X1 R.len b1
          refine q cls d G1 H1 as R' X' ?_
          obtain ⟨x1a, x1b, x1c⟩ := x1
          refine ⟨x1a, x1b, ?_⟩
          cases p with
          | none => exact x1c
          | some fd' =>
            obtain ⟨fl, dd⟩ := fd'
            obtain ⟨dx, v, e1, e2, e3, e4⟩ := x1c
            refine ⟨dx, v, e1, e2, fun z => e3 (X1.pre.subset z), e4.shrink same (by simpa [payB] using b2)⟩
        · rw [if_neg b2] at q; exact q.elim
      · rw [if_neg b1] at q; exact q.elim
theorem fn_mk {g : Gb} {st : Stmt} {x nm : Str} {N ps : List Str} {k : Nat} {m : SM} {f : Addr} {fd : FuncData} (out : Nat → D → Store → RX D)
    (hout : ∀ (G H G1 H1 : Hp) (as as1 : List Addr) (st1 : Store) (n : Nat) (W : WX) (σ : L2.St) (d : D) (v : V) (Q : VK), Ri g.K g.mg G1 H1 as1 st1 → Ext G H as G1 H1 as1 → as.length = n → Rp g.K g.mg G1 as1 v d → PX g.K g.mg W G H as σ (out n d st1) Q → Q v H1)
    (hx : g.mg x = some (.ref f)) (D0 : FunD g.K nm nm (defArgs st) (defBody st) (defScope st) [] [] f fd) (S : FnScope N ps (defScope st))
    (hb : ∀ (kV doc pm : Value) (an : Option Addr) (cdv ct : Value) (us : List Value), us.length = ps.length → bindArgs (PySem.W.fnOf nm nm (defArgs st) (defBody st) (defScope st) .none kV doc pm an cdv ct) ⟨us, []⟩ = pure (ps.zip us))
    (body : ∀ (b : Bd) (hr : Room k (b.A.deeper (PyProof.Rows.envOfC b.qual (defScope st) b.s.heap.objs.size b.f b.cdv))), JSs (famB g k N S.nd (defScope st) b hr) (defBody st) m) :
    Fn g st x nm ps (k + 1) (fun s ds => outF out s.length (m (ds.map some ++ List.replicate (N.length - ds.length) none) s)) :=
  ⟨f, fd, hx, D0, D0.bindsN hb, fn_ok out hout D0 S body⟩
end LS
end
section
set_option maxRecDepth 100000
set_option maxHeartbeats 2000000
namespace LS
open PySem PySem.Spec L2

/-! ## calls of defs -/
section
variable {K : PySem.W.Frag} {mg : Str → Option Value} {G H G1 H1 : Hp} {as as1 : List Addr} {st st1 : Store} {n : Nat}
theorem Rp.free {d : D} {v : V} (b : refsB 0 d = true) (h : Rp K mg G as v d) : Rp K mg G as1 v d := h.shrink (n := 0) (fun i hi => absurd hi (Nat.not_lt_zero i)) b
theorem RpA.free {d : List D} {v : List V} (b : refsBs 0 d = true) (h : RpA K mg G as v d) : RpA K mg G as1 v d := h.shrink (n := 0) (fun i hi => absurd hi (Nat.not_lt_zero i)) b
theorem Ro.free {d : MO} {v : HO} (b : moB 0 d = true) (h : Ro K mg G as v d) : Ro K mg G as1 v d := h.shrink (n := 0) (fun i hi => absurd hi (Nat.not_lt_zero i)) b
end
/-- the moving objects that are handed -/
def refsIn : List D → List Nat
  | [] => []
  | .ref i :: r => i :: refsIn r
  | _ :: r => refsIn r
def locG (ix : List Nat) : D → D
  | .ref i => .ref (ix.idxOf i)
  | d => d
def argG : D → Bool
  | .ref _ => true
  | d => refsB 0 d
mutual
def mapR (ix : List Nat) (N : Nat) : D → D
  | .ref r => .ref (if r < ix.length then ix.getD r 0 else N + (r - ix.length))
  | .tup xs => .tup (mapRs ix N xs)
  | .lst xs => .lst (mapRs ix N xs)
  | .sq xs => .sq (mapRs ix N xs)
  | d => d
def mapRs (ix : List Nat) (N : Nat) : List D → List D
  | [] => []
  | d :: r => mapR ix N d :: mapRs ix N r
end
def pickS (st : Store) (ix : List Nat) : Store := ix.map fun i => st.getD i (.lst [])
def putS (st : Store) : List Nat → Store → Store
  | i :: ix, m :: ms => (putS st ix ms).set i m
  | _, _ => st
def backD (ix : List Nat) (st : Store) : RX D → RX D
  | .ok d st1 => if (decide (ix.length ≤ st1.length) && st1.all (moB 0)) = true then .ok (mapR ix st.length d) (putS st ix (st1.take ix.length) ++ st1.drop ix.length) else .stuck
  | .exc c p st1 => if (decide (ix.length ≤ st1.length) && st1.all (moB 0) && payB 0 p) = true then .exc c p (putS st ix (st1.take ix.length) ++ st1.drop ix.length) else .stuck
  | .stuck => .stuck
def callOk (ds : List D) (st : Store) : Bool := ds.all argG && decide (refsIn ds).Nodup && (refsIn ds).all (fun i => decide (i < st.length)) && (pickS st (refsIn ds)).all (moB 0)
def callD (f : DF) (ds : List D) : XM D := fun _ st => if callOk ds st = true then backD (refsIn ds) st (f (pickS st (refsIn ds)) (ds.map (locG (refsIn ds)))) else .stuck
section
variable {K : PySem.W.Frag} {mg : Str → Option Value} {G H G1 H1 : Hp} {as as1 : List Addr} {st st1 : Store} {ix : List Nat}
theorem putS_len (st : Store) : ∀ (ix : List Nat) (ms : Store), (putS st ix ms).length = st.length
  | [], _ => rfl
  | _ :: _, [] => rfl
  | i :: ix, m :: ms => by simp [putS, putS_len st ix ms]
theorem putS_out (st : Store) : ∀ (ix : List Nat) (ms : Store) (j : Nat), j ∉ ix → (putS st ix ms)[j]? = st[j]?
  | [], _, _, _ => rfl
  | _ :: _, [], _, _ => rfl
  | i :: ix, m :: ms, j, h => by
    have h' : j ≠ i ∧ j ∉ ix := by simpa using h
    show ((putS st ix ms).set i m)[j]? = _
    rw [List.getElem?_set_ne (Ne.symm h'.1)]
    exact putS_out st ix ms j h'.2
theorem putS_in (st : Store) : ∀ (ix : List Nat) (ms : Store) (k : Nat) (j : Nat), ix.Nodup → ix.length ≤ ms.length → (∀ i ∈ ix, i < st.length) → ix[k]? = some j → (putS st ix ms)[j]? = ms[k]?
  | [], _, _, _, _, _, _, h => by simp at h
  | i :: ix, [], _, _, _, hl, _, _ => by simp at hl
  | i :: ix, m :: ms, 0, j, nd, hl, hb, h => by
    have : i = j := by simpa using h
    subst this
    show ((putS st ix ms).set i m)[i]? = _
    rw [List.getElem?_set_self (by rw [putS_len]; exact hb i (by simp))]; rfl
  | i :: ix, m :: ms, k + 1, j, nd, hl, hb, h => by
    have h' : ix[k]? = some j := by simpa using h
    have nd' : i ∉ ix ∧ ix.Nodup := by simpa using nd
    have hj : j ∈ ix := List.mem_of_getElem? h'
    have hne : i ≠ j := fun z => nd'.1 (z ▸ hj)
    show ((putS st ix ms).set i m)[j]? = _
    rw [List.getElem?_set_ne hne]
    have := putS_in st ix ms k j nd'.2 (by simpa using hl) (fun a ha => hb a (by simp [ha])) h'
    simpa using this
/-- the addresses of the handed objects -/
def adr (as : List Addr) (ix : List Nat) : List Addr := ix.map fun i => as.getD i 0
theorem adr_get {k : Nat} {j : Nat} (hb : ∀ i ∈ ix, i < as.length) (h : ix[k]? = some j) : (adr as ix)[k]? = as[j]? := by
  have hj := hb j (List.mem_of_getElem? h)
  simp [adr, h, hj]
theorem Ri.pick (R : Ri K mg G H as st) (nd : ix.Nodup) (hb : ∀ i ∈ ix, i < st.length) (hm : (pickS st ix).all (moB 0) = true) : Ri K mg G H (adr as ix) (pickS st ix) := by
  have hba : ∀ i ∈ ix, i < as.length := fun i hi => by rw [R.len]; exact hb i hi
  have key : ∀ (k : Nat) (a : Addr), (adr as ix)[k]? = some a → ∃ j, ix[k]? = some j ∧ as[j]? = some a := fun k a h => by
    cases q : ix[k]? with
    | none => simp [adr, q] at h
    | some j => exact ⟨j, rfl, by rw [← adr_get hba q]; exact h⟩
  refine ⟨R.sub, by simp [adr, pickS], ?_, fun a ha => ?_, fun k a o ha ho => ?_⟩
  · unfold adr List.Nodup
    rw [List.pairwise_map]
    refine List.Pairwise.imp_of_mem (R := fun a b => a ≠ b) (fun {i j} hi hj hij z => ?_) nd
    have b1 := hba i hi
    have b2 := hba j hj
    rw [List.getD_eq_getElem?_getD, List.getD_eq_getElem?_getD, List.getElem?_eq_getElem b1, List.getElem?_eq_getElem b2] at z
    exact hij ((List.getElem_inj R.nd).mp z)
  · obtain ⟨k, hk, e⟩ := List.getElem_of_mem ha
    obtain ⟨j, _, q⟩ := key k a (by rw [List.getElem?_eq_getElem hk, e])
    exact R.out a (List.mem_of_getElem? q)
  · obtain ⟨j, q1, q2⟩ := key k a ha
    have hj := hb j (List.mem_of_getElem? q1)
    have ho' : st[j]? = some o := by
      simp [pickS, q1, hj] at ho
      rw [List.getElem?_eq_getElem hj, ho]
    obtain ⟨u, e, r⟩ := R.obj j a o q2 ho'
    exact ⟨u, e, r.free (List.all_eq_true.mp hm o (List.mem_of_getElem? ho))⟩
theorem refsIn_mem : ∀ {ds : List D} {i : Nat}, D.ref i ∈ ds → i ∈ refsIn ds
  | [], _, h => by simp at h
  | d :: r, i, h => by
    rcases List.mem_cons.mp h with e | h
    · subst e; simp [refsIn]
    · have := refsIn_mem h
      cases d <;> simp_all [refsIn]
theorem loc_rp (hb : ∀ i ∈ ix, i < as.length) : ∀ {ds : List D} {vs : List V}, ds.all argG = true → (∀ i, D.ref i ∈ ds → i ∈ ix) → RpA K mg G as vs ds → RpA K mg G (adr as ix) vs (ds.map (locG ix))
  | [], _, _, _, h => by cases h; exact .nil
  | d :: ds, _, b, hi, h => by
    cases h with
    | cons x y =>
      have b' : argG d = true ∧ ds.all argG = true := by simpa using b
      refine .cons ?_ (loc_rp hb b'.2 (fun i m => hi i (by simp [m])) y)
      cases d with
      | ref j =>
        have hj := hi j (by simp)
        cases x with
        | ref q =>
          refine .ref ?_
          have e : ix[ix.idxOf j]? = some j := by
            have hl := List.idxOf_lt_length_iff.mpr hj
            rw [List.getElem?_eq_getElem hl]
            simp
          rw [adr_get hb e]; exact q
      | _ => exact x.free b'.1
mutual
theorem Rp.map {as2 : List Addr} {N : Nat} (hr : ∀ (r : Nat) (a : Addr), as1[r]? = some a → as2[if r < ix.length then ix.getD r 0 else N + (r - ix.length)]? = some a) : ∀ {d : D} {v : V}, Rp K mg G as1 v d → Rp K mg G as2 v (mapR ix N d)
  | .non, _, h => by cases h; exact .non
  | .bl _, _, h => by cases h; exact .bl _
  | .int _, _, h => by cases h; exact .int _
  | .str _, _, h => by cases h; exact .str _
  | .ty _, _, h => by cases h; exact .ty _
  | .glo _, _, h => by cases h; rename_i a q; exact .glo _ _ q
  | .tup ds, _, h => by cases h with | tup s r => exact .tup s (RpA.map hr r)
  | .lst ds, _, h => by cases h with | lst s r => exact .lst s (RpA.map hr r)
  | .sq ds, _, h => by cases h with | sq s r => exact .sq s (RpA.map hr r)
  | .ref i, _, h => by cases h with | ref q => exact .ref (hr _ _ q)
theorem RpA.map {as2 : List Addr} {N : Nat} (hr : ∀ (r : Nat) (a : Addr), as1[r]? = some a → as2[if r < ix.length then ix.getD r 0 else N + (r - ix.length)]? = some a) : ∀ {ds : List D} {vs : List V}, RpA K mg G as1 vs ds → RpA K mg G as2 vs (mapRs ix N ds)
  | [], _, h => by cases h; exact .nil
  | d :: ds, _, h => by cases h with | cons x y => exact .cons (Rp.map hr x) (RpA.map hr y)
end
/-- behind the call -/
theorem Ri.back2 (R : Ri K mg G H as st) (nd : ix.Nodup) (hb : ∀ i ∈ ix, i < st.length) (R1 : Ri K mg G1 H1 as1 st1) (X : Ext G H (adr as ix) G1 H1 as1) (hl : ix.length ≤ st1.length) (hm : st1.all (moB 0) = true) :
    ∃ as2, Ri K mg G1 H1 as2 (putS st ix (st1.take ix.length) ++ st1.drop ix.length) ∧ Ext G H as G1 H1 as2 ∧ ∀ (r : Nat) (a : Addr), as1[r]? = some a → as2[if r < ix.length then ix.getD r 0 else st.length + (r - ix.length)]? = some a := by
  have hba : ∀ i ∈ ix, i < as.length := fun i hi => by rw [R.len]; exact hb i hi
  have la : (adr as ix).length = ix.length := by simp [adr]
  obtain ⟨nw, en⟩ := X.pre
  have ln : as1.length = ix.length + nw.length := by rw [← en, List.length_append, la]
  have lst : st1.length = ix.length + nw.length := by rw [← R1.len, ln]
  have hnew : ∀ a ∈ nw, H a = none := fun a ha => by
    refine X.frA a (by rw [← en]; exact List.mem_append_right _ ha) fun z => ?_
    have := R1.nd
    rw [← en, List.nodup_append] at this
    exact this.2.2 a z a ha rfl
  have hold : ∀ a ∈ as, H a ≠ none := fun a ha => by
    obtain ⟨i, hi, e⟩ := List.getElem_of_mem ha
    have hi' : i < st.length := by rw [← R.len]; exact hi
    obtain ⟨u, q, _⟩ := R.obj i a st[i] (by rw [List.getElem?_eq_getElem hi, e]) (List.getElem?_eq_getElem hi')
    rw [q]; exact fun z => nomatch z
  have sub : ∀ a ∈ adr as ix, a ∈ as := fun a ha => by
    obtain ⟨i, hi, e⟩ := List.mem_map.mp ha
    have hi' := hba i hi
    rw [← e, List.getD_eq_getElem?_getD, List.getElem?_eq_getElem hi']
    exact List.getElem_mem hi'
  have hget : ∀ r : Nat, r < ix.length → as1[r]? = as[ix.getD r 0]? := fun r hr => by
    have e : ix[r]? = some (ix.getD r 0) := by rw [List.getD_eq_getElem?_getD, List.getElem?_eq_getElem hr]; rfl
    rw [← adr_get hba e, ← en, List.getElem?_append_left (by rw [la]; exact hr)]
  have x : Ext G H as G1 H1 (as ++ nw) := by
    refine ⟨X.sub, List.prefix_append _ _, fun a o h n => X.keep a o h fun z => n (sub a z), X.frG, fun a h h' => ?_, X.dom, X.lk⟩
    rcases List.mem_append.mp h with h | h
    · exact absurd h h'
    · exact hnew a h
  refine ⟨as ++ nw, ⟨R1.sub, ?_, ?_, fun a ha => ?_, fun j a o ha ho => ?_⟩, x, fun r a h => ?_⟩
  · simp [putS_len, R.len, lst]
  · rw [List.nodup_append]
    have := R1.nd
    rw [← en, List.nodup_append] at this
    exact ⟨R.nd, this.2.1, fun a ha b hb' z => hold a ha (by rw [z]; exact hnew b hb')⟩
  · rcases List.mem_append.mp ha with ha | ha
    · by_cases hin : a ∈ adr as ix
      · exact R1.out a (by rw [← en]; exact List.mem_append_left _ hin)
      · exact X.frG a (R.out a ha) (hold a ha)
    · exact R1.out a (by rw [← en]; exact List.mem_append_right _ ha)
  · by_cases hj : j < as.length
    · have hjs : j < st.length := by rw [← R.len]; exact hj
      rw [List.getElem?_append_left hj] at ha
      rw [List.getElem?_append_left (by rw [putS_len]; exact hjs)] at ho
      by_cases hin : j ∈ ix
      · obtain ⟨k, hk, e⟩ := List.getElem_of_mem hin
        have ek : ix[k]? = some j := by rw [List.getElem?_eq_getElem hk, e]
        rw [putS_in st ix _ k j nd (by simp; omega) hb ek, List.getElem?_take, if_pos hk] at ho
        have e2 : as1[k]? = some a := by
          rw [hget k hk, List.getD_eq_getElem?_getD, ek]; exact ha
        obtain ⟨u, q, r⟩ := R1.obj k a o e2 ho
        exact ⟨u, q, r.free (List.all_eq_true.mp hm o (List.mem_of_getElem? ho))⟩
      · rw [putS_out st ix _ j hin] at ho
        obtain ⟨u, q, r⟩ := R.obj j a o ha ho
        refine ⟨u, X.keep a u q fun z => ?_, r.ext x⟩
        obtain ⟨i, hi, e⟩ := List.mem_map.mp z
        have hi' := hba i hi
        have e3 : as[i]? = some a := by rw [← e, List.getD_eq_getElem?_getD, List.getElem?_eq_getElem hi']; rfl
        obtain ⟨p1, p2⟩ := List.getElem?_eq_some_iff.mp e3
        obtain ⟨p3, p4⟩ := List.getElem?_eq_some_iff.mp ha
        have : i = j := (List.getElem_inj R.nd).mp (p2.trans p4.symm)
        exact hin (this ▸ hi)
    · rw [List.getElem?_append_right (by omega)] at ha
      rw [List.getElem?_append_right (by rw [putS_len, ← R.len]; omega), putS_len, ← R.len, List.getElem?_drop] at ho
      have e2 : as1[ix.length + (j - as.length)]? = some a := by
        rw [← en, List.getElem?_append_right (by rw [la]; omega), la]
        rw [show ix.length + (j - as.length) - ix.length = j - as.length by omega]; exact ha
      obtain ⟨u, q, r⟩ := R1.obj _ a o e2 ho
      exact ⟨u, q, r.free (List.all_eq_true.mp hm o (List.mem_of_getElem? ho))⟩
  · by_cases hr : r < ix.length
    · rw [if_pos hr, List.getElem?_append_left]
      · rw [← hget r hr]; exact h
      · have : ix.getD r 0 ∈ ix := by rw [List.getD_eq_getElem?_getD, List.getElem?_eq_getElem hr]; exact List.getElem_mem hr
        exact hba _ this
    · rw [if_neg hr, ← R.len, List.getElem?_append_right (by omega)]
      rw [← en, List.getElem?_append_right (by rw [la]; omega), la] at h
      rw [show as.length + (r - ix.length) - as.length = r - ix.length by omega]; exact h
end
section
variable {g : Gb}
theorem exR_lift {K : PySem.W.Frag} {mg : Str → Option Value} {G H : Hp} {as as' : List Addr} {c : Str} {p : Pay} {cls : Value} {d : Option Addr} (b : payB 0 p = true) (h : ExR K mg G H as c p cls d) (ne : ∀ dx o, H dx = some o → (∀ fs, o = .xd fs → dx ∉ as')) : ExR K mg G H as' c p cls d := by
  obtain ⟨h1, h2, h3⟩ := h
  refine ⟨h1, h2, ?_⟩
  cases p with
  | none => exact h3
  | some q =>
    obtain ⟨f, x⟩ := q
    obtain ⟨dx, v, e1, e2, e3, e4⟩ := h3
    exact ⟨dx, v, e1, e2, ne dx _ e2 _ rfl, e4.free (by simpa [payB] using b)⟩
theorem xd_out {K : PySem.W.Frag} {mg : Str → Option Value} {G H : Hp} {as : List Addr} {st : Store} (R : Ri K mg G H as st) : ∀ dx o, H dx = some o → (∀ fs, o = .xd fs → dx ∉ as) := fun dx o h fs e hm => by
  obtain ⟨i, hi, ei⟩ := List.getElem_of_mem hm
  have hi' : i < st.length := by rw [← R.len]; exact hi
  obtain ⟨u, q, r⟩ := R.obj i dx st[i] (by rw [List.getElem?_eq_getElem hi, ei]) (List.getElem?_eq_getElem (by rw [← R.len]; exact hi))
  rw [h] at q; cases q
  subst e
  cases r
/-- THE CALL: the arguments' values, then the def's promise -/
theorem call_ok {n : Nat} {f : DF} {W : WX} {G H : Hp} {as : List Addr} {st : Store} {σ : L2.St} {e : Nv} {ds : List D} {vs : List V} {Q : VK} (R : Ri g.K g.mg G H as st) (r : RpA g.K g.mg G as vs ds) (hn : ds.length = n) (h : PX g.K g.mg W G H as σ (callD f ds e st) Q) :
    spS g n f vs H Q (WE W σ) := by
  unfold callD at h
  by_cases ok : callOk ds st = true
  · rw [if_pos ok] at h
    unfold callOk at ok
    simp only [Bool.and_eq_true] at ok
    obtain ⟨⟨⟨b1, b2⟩, b3⟩, b4⟩ := ok
    have nd : (refsIn ds).Nodup := of_decide_eq_true b2
    have hb : ∀ i ∈ refsIn ds, i < st.length := fun i hi => of_decide_eq_true (List.all_eq_true.mp b3 i hi)
    have hba : ∀ i ∈ refsIn ds, i < as.length := fun i hi => by rw [R.len]; exact hb i hi
    refine ⟨G, adr as (refsIn ds), pickS st (refsIn ds), ds.map (locG (refsIn ds)), by simpa using hn, R.pick nd hb b4, loc_rp hba b1 (fun i m => refsIn_mem m) r, ?_⟩
    generalize f (pickS st (refsIn ds)) (ds.map (locG (refsIn ds))) = res at h ⊢
    cases res with
    | stuck => exact h.elim
    | exc c p st1 =>
      simp only [backD] at h
      by_cases c1 : (decide ((refsIn ds).length ≤ st1.length) && st1.all (moB 0) && payB 0 p) = true
      · rw [if_pos c1] at h
        simp only [Bool.and_eq_true, decide_eq_true_eq] at c1
        intro cls d G1 H1 as1 R1 X1 x
        obtain ⟨as2, R2, X2, _⟩ := R.back2 nd hb R1 X1 c1.1.1 c1.1.2
        exact h cls d G1 H1 as2 R2 X2 (exR_lift c1.2 x (xd_out R2))
      · rw [if_neg c1] at h; exact h.elim
    | ok d st1 =>
      simp only [backD] at h
      by_cases c1 : (decide ((refsIn ds).length ≤ st1.length) && st1.all (moB 0)) = true
      · rw [if_pos c1] at h
        simp only [Bool.and_eq_true, decide_eq_true_eq] at c1
        intro v G1 H1 as1 R1 X1 rv
        obtain ⟨as2, R2, X2, hr⟩ := R.back2 nd hb R1 X1 c1.1 c1.2
        exact h v G1 H1 as2 R2 X2 (rv.map hr)
      · rw [if_neg c1] at h; exact h.elim
  · rw [if_neg ok] at h; exact h.elim
/-- f(a, ..) -/
def xfn (n : Nat) (f : DF) (ms : XM (List D)) : XM D := xbind ms fun ds => if ds.length = n then callD f ds else fun _ _ => .stuck
theorem je_call {F : Fam g} {st : Stmt} {x nm : Str} {ps : List Str} {k : Nat} {f : DF} {a : Expr} {es : List Expr} {ms : XM (List D)} {p pos : Pos} {n : Nat} (H0 : Fn g st x nm ps k f) (hk : k ≤ F.k) (hg : F.sc.names.lookup x = some .globalImplicit) (ha : JA F (a :: es) ms) (hn : ps.length = n := by rfl)
    (hdb : (x == ("__debug__" : Str)) = false := by decide) (he : ∀ env, starEach (a :: es) env = (false, eval a env) :: starEach es env := by intro _; rfl) (hpl : ∀ env, (backTo pos (starEach es env)).any (·.1) = false := by intro _; rfl) :
    JE F (.Call (.Name x p) (a :: es) [] pos) (xfn n f ms) := by
  subst hn
  obtain ⟨fa, fd, hm, D0, hb, O⟩ := H0.ex
  obtain ⟨ts, pa, sa⟩ := ha
  refine ⟨fun W => tCallS (spS g ps.length f) (WE W) (ts W), fun W X m => ?_, ?_⟩
  · have O' : FnOk X.prog X.w X.K X.mg X.base (L2.CX X.prog X.w) k fa fd ps (spS g ps.length f) := by
      rw [F.prog m, F.w m, F.hK m, F.hmg m, F.base m]; exact O
    exact pe_callS O' ((F.room m).mono hk) (by show X.env.scope.names.lookup x = _; rw [F.hsc m]; exact hg) (by rw [F.hmg m]; exact hm) (by rw [F.hK m]; exact D0.kp) (by rw [F.hK m]; exact hb) (fun σ => passAt (F.takes m) σ) (pa W X m) hdb (he _) (hpl _)
  · intro W G H as st σ e Q R N h
    refine sa.one R N h fun ds st1 vs G1 H1 as1 R1 X1 N1 rv h1 => ?_
    by_cases hl : ds.length = ps.length
    · rw [if_pos hl] at h1
      exact call_ok R1 rv hl h1
    · rw [if_neg hl] at h1; exact h1.elim
end
end LS
end
section
set_option maxRecDepth 100000
set_option maxHeartbeats 2000000
namespace LS
open PySem PySem.Spec L2

/-! ## code that is never come to -/
section
variable {g : Gb} {F : Fam g} {pos : Pos}
def snever : SM := fun _ _ => .stuck
theorem js_never {s : Stmt} : JS F s snever := ⟨fun _ => tNever, fun _ _ _ => ps_never, fun W G H as st σ e E R N h => h⟩

/-! ## calls with keywords -/
def JK (F : Fam g) (kws : List Keyword) (m : XM (List D)) : Prop := ∃ t : WX → TA, (∀ W X, F.mem W X → PK X kws (t W)) ∧ SA g t m
theorem jk_nil : JK F [] (xpure []) := ⟨fun _ => tNil, fun _ _ _ => pk_nil, fun W G H as st σ e Q R N h => h [] G H as R Ext.refl .nil⟩
theorem jk_cons {ex : Expr} {ks : List Keyword} {nm : Option Str} {kpos : Pos} {m : XM D} {ms : XM (List D)} (h : JE F ex m) (hs : JK F ks ms) : JK F (⟨nm, ex, kpos⟩ :: ks) (xcons m ms) := by
  obtain ⟨t, p, s⟩ := h
  obtain ⟨ts, ps, ss⟩ := hs
  refine ⟨fun W => tCons (t W) (ts W), fun W X m => pk_cons (p W X m) (ps W X m), ?_⟩
  intro W G H as st σ e Q R N h
  refine s.oneA R N h fun x st1 v G1 H1 as1 R1 X1 N1 rv h1 => ?_
  refine ss.oneA R1 N1 h1 fun xs st2 vs G2 H2 as2 R2 X2 N2 rvs h2 => ?_
  exact h2 _ _ _ _ R2 Ext.refl (.cons (rv.ext X2) rvs)
def pick {α : Type} (d : α) (l : List α) (ix : List Nat) : List α := ix.map fun i => l.getD i d
theorem pick_vals {vs : List V} {us : List Value} (r : Vals vs us) (ix : List Nat) : Vals (pick .non vs ix) (pick .none us ix) := by
  have one : ∀ i, RelV (vs.getD i .non) (us.getD i .none) := fun i => by
    rw [List.getD_eq_getElem?_getD, List.getD_eq_getElem?_getD]
    cases q : vs[i]? with
    | none => rw [r.none_of q]; rfl
    | some v =>
      obtain ⟨u, e1, ru⟩ := r.get q
      rw [e1]; exact ru
  unfold pick
  induction ix with
  | nil => exact .nil
  | cons i r ih => exact .cons (one i) ih
theorem pick_rp {K : PySem.W.Frag} {mg : Str → Option Value} {G : Hp} {as : List Addr} {vs : List V} {ds : List D} (r : RpA K mg G as vs ds) (ix : List Nat) : RpA K mg G as (pick .non vs ix) (pick .non ds ix) := by
  have one : ∀ i, Rp K mg G as (vs.getD i .non) (ds.getD i .non) := fun i => by
    rw [List.getD_eq_getElem?_getD, List.getD_eq_getElem?_getD]
    by_cases hi : i < ds.length
    · obtain ⟨v, e1, rv⟩ := r.get (List.getElem?_eq_getElem hi)
      rw [e1, List.getElem?_eq_getElem hi]; exact rv
    · rw [List.getElem?_eq_none (by rw [r.len]; omega), List.getElem?_eq_none (by omega)]; exact .non
  unfold pick
  induction ix with
  | nil => exact .nil
  | cons i r ih => exact .cons (one i) ih
/-- f(a, .., k = b, ..): ix tells where each parameter's value stands in the row of values as they are written -/
def xfnK (n : Nat) (ix : List Nat) (l : Nat) (f : DF) (ms mk : XM (List D)) : XM D := xbind ms fun ds => xbind mk fun zs => if ds.length = n ∧ zs.length = l then callD f (pick .non (ds ++ zs) ix) else fun _ _ => .stuck
/-- how the parameters are bound -/
def KB (st : Stmt) (nm : Str) (ps : List Str) (n : Nat) (ks : List Str) (ix : List Nat) : Prop := ∀ (kV doc pm : Value) (an : Option Addr) (cdv ct : Value) (us ws : List Value), us.length = n → ws.length = ks.length →
  bindArgs (PySem.W.fnOf nm nm (defArgs st) (defBody st) (defScope st) .none kV doc pm an cdv ct) ⟨us, ks.zip ws⟩ = pure (ps.zip (pick .none (us ++ ws) ix))
theorem run_fnK {X : Cx} {W : WX} {f : Addr} {fd : FuncData} {ps : List Str} {k : Nat} {sp : Sp} {pins : List (Addr × Obj)} {σ : L2.St} {H : Hp} {s : Shared} {Q : VK} {args : Args} {us : List Value} {vs : List V} (F : FnOk X.prog X.w X.K X.mg X.base (L2.CX X.prog X.w) k f fd ps sp) (hr : Room k X.A) (tk : Takes X W)
    (hb : BindsTo s fd args (ps.zip us)) (I : Inv X pins σ H s) (r : Vals vs us) (h : sp vs H Q (WE W σ)) : wpAny (model X.prog X.w) X.A (call (.ref f) args.pos args.kw) (EP X pins σ Q) X.xe s := by
  obtain ⟨ap, ak⟩ := args
  refine wpAny_call (codeAny_mono (F.run X.A X.stack s H ⟨ap, ak⟩ us vs Q (WE W σ) hr I.env0 hb r h) fun r s' hq => ?_)
  cases r with
  | error e => exact passAt tk σ pins H s e s' I hq
  | ok fl =>
    cases fl with
    | ret u => exact I.after hq
    | next => exact False.elim hq
    | brk => exact False.elim hq
    | cont => exact False.elim hq
def tCallKS (n l : Nat) (ix : List Nat) (sp : Sp) (E : L2.St → XK) (t tk : TA) : TE := fun σ H Q => t σ H fun vs H1 => tk σ H1 fun zs H2 => vs.length = n ∧ zs.length = l ∧ sp (pick .non (vs ++ zs) ix) H2 Q (E σ)
theorem callK_SE {n l m : Nat} {ix : List Nat} {f : DF} {ts tk : WX → TA} {ms mk : XM (List D)} (hix : ix.length = m) (sa : SA g ts ms) (sk : SA g tk mk) : SE g (fun W => tCallKS n l ix (spS g m f) (WE W) (ts W) (tk W)) (xfnK n ix l f ms mk) := by
  intro W G H as st σ e Q R N h
  refine sa.one R N h fun ds st1 vs G1 H1 as1 R1 X1 N1 rv h1 => ?_
  refine sk.one R1 N1 h1 fun zs st2 us G2 H2 as2 R2 X2 N2 rz h2 => ?_
  by_cases hl : ds.length = n ∧ zs.length = l
  · rw [if_pos hl] at h2
    refine ⟨by rw [rv.len]; exact hl.1, by rw [rz.len]; exact hl.2, ?_⟩
    exact call_ok R2 (pick_rp ((rv.ext X2).append rz) ix) (by simp [pick, hix]) h2
  · rw [if_neg hl] at h2; exact h2.elim
theorem je_callK {st : Stmt} {x nm : Str} {ps ks : List Str} {k n : Nat} {ix : List Nat} {f : DF} {a : Expr} {es : List Expr} {kws : List Keyword} {ms mk : XM (List D)} {p pos : Pos} (H0 : Fn g st x nm ps k f) (hk : k ≤ F.k) (hg : F.sc.names.lookup x = some .globalImplicit) (kb : KB st nm ps n ks ix) (hix : ix.length = ps.length)
    (ha : JA F (a :: es) ms) (hkw : JK F kws mk) (hall : ∀ env, (backToKw pos (keywordEach kws env)).all (·.1.isSome) = true := by intro _; rfl) (hks : ∀ env, (backToKw pos (keywordEach kws env)).filterMap (·.1) = ks := by intro _; rfl)
    (hdb : (x == ("__debug__" : Str)) = false := by decide) (he : ∀ env, starEach (a :: es) env = (false, eval a env) :: starEach es env := by intro _; rfl)
    (hpl : ∀ env, ((backTo pos (starEach (a :: es) env)).any (·.1) || (backToKw pos (keywordEach kws env)).any (·.1.isNone)) = false := by intro _; rfl) :
    JE F (.Call (.Name x p) (a :: es) kws pos) (xfnK n ix ks.length f ms mk) := by
  obtain ⟨fa, fd, hm, D0, hb, O⟩ := H0.ex
  obtain ⟨ts, pa, sa⟩ := ha
  obtain ⟨tk, pk, sk⟩ := hkw
  refine ⟨fun W => tCallKS n ks.length ix (spS g ps.length f) (WE W) (ts W) (tk W), fun W X m => ?_, callK_SE hix sa sk⟩
  refine ⟨fun pins s σ H Q I h => ?_⟩
  have hmX : X.mg x = some (.ref fa) := by rw [F.hmg m]; exact hm
  have hkp : PySem.W.keepIn X.K (.ref fa) = true := by rw [F.hK m]; exact D0.kp
  have O' : FnOk X.prog X.w X.K X.mg X.base (L2.CX X.prog X.w) k fa fd ps (spS g ps.length f) := by
    rw [F.prog m, F.w m, F.hK m, F.hmg m, F.base m]; exact O
  refine wpAny_Call_Name_kw (ld_glob I (by show X.env.scope.names.lookup x = _; rw [F.hsc m]; exact hg) hmX ?_ hdb)
  refine PySem.W.callWith_KW (h₀ := X.base) I.ok.mod.kin hkp (hall _) (thn ((pa W X m).run pos pins s σ H _ I h) fun us s1 ⟨vs, H1, I1, r, q⟩ => ?_) (hpl _) (he _)
  refine thn ((pk W X m).run pos pins s1 σ H1 _ I1 q) fun ws s2 ⟨zs, H2, I2, rz, l1, l2, q2⟩ => ⟨I2.kIn, ?_⟩
  rw [hks]
  have lu : us.length = n := r.length.symm.trans l1
  have lw : ws.length = ks.length := rz.length.symm.trans l2
  refine run_fnK (args := ⟨us, ks.zip ws⟩) (us := pick .none (us ++ ws) ix) O' ((F.room m).mono hk) (F.takes m) ?_ I2 (pick_vals (r.append rz) ix) q2
  obtain ⟨oc, od, dV, kV, doc, pm, an, cdv, ct, osl, rfl, lk, hcd, hD, hK⟩ := D0.ex
  rcases hD with ⟨_, rfl⟩ | ⟨e, _⟩
  · exact .of_eq (kb kV doc pm an cdv ct us ws lu lw)
  · exact absurd rfl e
theorem je_callK0 {st : Stmt} {x nm : Str} {ps ks : List Str} {k : Nat} {ix : List Nat} {f : DF} {kws : List Keyword} {mk : XM (List D)} {p pos : Pos} (H0 : Fn g st x nm ps k f) (hk : k ≤ F.k) (hg : F.sc.names.lookup x = some .globalImplicit) (kb : KB st nm ps 0 ks ix) (hix : ix.length = ps.length)
    (hkw : JK F kws mk) (hall : ∀ env, (backToKw pos (keywordEach kws env)).all (·.1.isSome) = true := by intro _; rfl) (hks : ∀ env, (backToKw pos (keywordEach kws env)).filterMap (·.1) = ks := by intro _; rfl)
    (hdb : (x == ("__debug__" : Str)) = false := by decide)
    (hpl : ∀ env, ((backTo pos (starEach [] env)).any (·.1) || (backToKw pos (keywordEach kws env)).any (·.1.isNone)) = false := by intro _; rfl) :
    JE F (.Call (.Name x p) [] kws pos) (xfnK 0 ix ks.length f (xpure []) mk) := by
  obtain ⟨fa, fd, hm, D0, hb, O⟩ := H0.ex
  obtain ⟨tk, pk, sk⟩ := hkw
  have sa : SA g (fun _ => tNil) (xpure []) := fun W G H as st σ e Q R N h => h [] G H as R Ext.refl .nil
  refine ⟨fun W => tCallKS 0 ks.length ix (spS g ps.length f) (WE W) tNil (tk W), fun W X m => ?_, callK_SE hix sa sk⟩
  refine ⟨fun pins s σ H Q I h => ?_⟩
  have hmX : X.mg x = some (.ref fa) := by rw [F.hmg m]; exact hm
  have hkp : PySem.W.keepIn X.K (.ref fa) = true := by rw [F.hK m]; exact D0.kp
  have O' : FnOk X.prog X.w X.K X.mg X.base (L2.CX X.prog X.w) k fa fd ps (spS g ps.length f) := by
    rw [F.prog m, F.w m, F.hK m, F.hmg m, F.base m]; exact O
  refine wpAny_Call_Name_kw (ld_glob I (by show X.env.scope.names.lookup x = _; rw [F.hsc m]; exact hg) hmX ?_ hdb)
  refine PySem.W.callWith_KW0 (h₀ := X.base) I.ok.mod.kin hkp (hall _) ?_ (hpl _)
  refine thn ((pk W X m).run pos pins s σ H _ I h) fun ws s2 ⟨zs, H2, I2, rz, l1, l2, q2⟩ => ⟨I2.kIn, ?_⟩
  rw [hks]
  have lw : ws.length = ks.length := rz.length.symm.trans l2
  refine run_fnK (args := ⟨[], ks.zip ws⟩) (us := pick .none ([] ++ ws) ix) O' ((F.room m).mono hk) (F.takes m) ?_ I2 (pick_vals rz ix) q2
  obtain ⟨oc, od, dV, kV, doc, pm, an, cdv, ct, osl, rfl, lk, hcd, hD, hK⟩ := D0.ex
  rcases hD with ⟨_, rfl⟩ | ⟨e, _⟩
  · exact .of_eq (kb kV doc pm an cdv ct [] ws rfl lw)
  · exact absurd rfl e
end
end LS
end
section
set_option maxRecDepth 100000
set_option maxHeartbeats 2000000
namespace LS
open PySem PySem.Spec L2

/-! ## enumerate, zip -/
def enumD : Nat → List D → List D
  | _, [] => []
  | k, x :: r => .tup [.int (k : Int), x] :: enumD (k + 1) r
theorem enumD_len : ∀ (k : Nat) (xs : List D), (enumD k xs).length = xs.length
  | _, [] => rfl
  | k, x :: r => by simp [enumD, enumD_len (k + 1) r]
theorem enumD_get : ∀ (xs : List D) (k i : Nat), (enumD k xs)[i]? = xs[i]?.map fun x => .tup [.int ((k + i : Nat) : Int), x]
  | [], _, _ => by simp [enumD]
  | x :: r, k, 0 => by simp [enumD]
  | x :: r, k, i + 1 => by
    have := enumD_get r (k + 1) i
    simp only [enumD, List.getElem?_cons_succ, this]
    rw [show k + 1 + i = k + (i + 1) by omega]
def zipD (xs ys : List D) : List D := List.zipWith (fun a b => .tup [a, b]) xs ys
theorem zipD_get (xs ys : List D) (i : Nat) {x : D} (h : (zipD xs ys)[i]? = some x) : ∃ a b, xs[i]? = some a ∧ ys[i]? = some b ∧ x = .tup [a, b] := by
  unfold zipD at h
  rw [List.getElem?_zipWith] at h
  cases h1 : xs[i]? with
  | none => simp [h1] at h
  | some a =>
    cases h2 : ys[i]? with
    | none => simp [h1, h2] at h
    | some b => simp [h1, h2] at h; exact ⟨a, b, rfl, rfl, h.symm⟩

/-- the tuple at a, each item in a new pair -/
def ItE (K : PySem.W.Frag) (a : Addr) : It :=
  ⟨fun i H => ∃ (xs : List V) (x : V), SqT K H a xs ∧ xs[i]? = some x, fun i H v H' => ∃ T x, v = .ref T ∧ H T = none ∧ H' = upd H T (.tup [.int (i : Nat), x]) ∧ ∀ xs, SqT K H a xs → xs[i]? = some x, fun i H => ∃ xs : List V, SqT K H a xs ∧ xs.length = i⟩
theorem turn_enumT {P : Program} {w : World} {K : PySem.W.Frag} {elts : List Expr} {kk : Nat} {tpos : Pos} {a e it : Addr} (hai : a ≠ it) (hei : e ≠ it) (hea : e ≠ a) :
    Turn P w K (.Tuple elts kk tpos) (ItE K a) [e, it] e (fun i h => (∃ old, IsEnum h e it ((i : Nat) : Int) old) ∧ h.IsTupleIter it a i) := by
  refine ⟨by simp, ?_, ?_, ?_, ?_, ?_⟩
  · rintro i h ⟨⟨old, q⟩, ⟨o, ho, _, hd⟩⟩ b hb
    rcases List.mem_cons.mp hb with rfl | hb
    · exact ⟨_, q, fun v z => nomatch z⟩
    · cases List.mem_singleton.mp hb; exact ⟨o, ho, fun v z => by rw [hd] at z; cases z⟩
  · rintro i h h' ⟨⟨old, q⟩, q2⟩ k
    exact ⟨⟨old, k e (by simp) _ q⟩, q2.at fun o z => k it (by simp) o z⟩
  · intro X hP hw hK hc i pins s σ H E I hf st hg
    subst hP hw hK
    obtain ⟨⟨old, q⟩, q2⟩ := st
    obtain ⟨xs, x, hq, hx⟩ := hg
    obtain ⟨its, rv, p, _⟩ := I.tuple hq
    obtain ⟨u, hu, ru⟩ := rv.get hx
    have lte : e < s.heap.objs.size := Heap.lt_size q
    have lti : it < s.heap.objs.size := let ⟨_, z, _⟩ := q2; Heap.lt_size z
    have dr := Draws.tuple (prog := X.prog) (w := X.w) (A := X.A.in1) (I.ok.hd hc) it a hai its.toArray
    have lt := (List.getElem?_eq_some_iff.mp hu).1
    refine wpAny_pyNext_enum_itemC dr q ⟨q2, p⟩ (by simpa using lt) hei (by simp [hei, hea]) fun y h1 tk py o1 st1 hT _ k1 => ?_
    have ey : y = u := by
      have z : its.toArray[i]? = some y := py
      simp at z
      rw [hu] at z; cases z; rfl
    subst ey
    refine ⟨_, rfl, wpAny_letOwnedTupleGo_enum (s := { s with heap := h1, toks := tk + 1 }) o1 fun h2 o2 sb => ?_⟩
    have hT2 := (sb.2 _ (Nat.ne_of_gt lte)).trans hT
    have nw : ObjOk X.prog X.w (upd H s.heap.objs.size (.tup [.int (i : Nat), x])) h2 s.heap.objs.size (.tup [.int (i : Nat), x]) :=
      ⟨(show 2 ≤ sizeLine by decide), [.int i tk, y], .cons ⟨_, rfl⟩ (.cons ru .nil), ⟨_, hT2, rfl, _, rfl⟩⟩
    have I1 := I.turnedNew (t' := tk + 1) (h' := h2) (ch := [e, it]) (fun b o hb z => (sb.2 b (fun y => hb (by simp [y]))).trans (k1 b o (fun y => hb (by simp [y])) (fun y => hb (by simp [y])) z)) hf (Nat.le_refl _) nw
    refine ⟨_, _, I1, (show RelV (.ref s.heap.objs.size) (.ref s.heap.objs.size) from rfl), ⟨_, x, rfl, I.hok.fresh (Nat.le_refl _), rfl, fun ys hy => by rw [I.tuple_inj hy hq]; exact hx⟩, ⟨⟨y, ?_⟩, ?_⟩, fun b hb => ?_⟩
    · rw [show ((i + 1 : Nat) : Int) = (i : Int) + 1 by omega]; exact o2
    · exact st1.1.at fun o z => (sb.2 it (Ne.symm hei)).trans z
    · have : b < s.heap.objs.size := by
        rcases List.mem_cons.mp hb with rfl | hb
        · exact lte
        · cases List.mem_singleton.mp hb; exact lti
      rw [upd_ne (Nat.ne_of_lt this)]
      exact (hf b hb).1
  · intro X hP hw hK hc i pins s σ H E I hf st hg
    subst hP hw hK
    obtain ⟨⟨old, q⟩, q2⟩ := st
    obtain ⟨xs, hq, hx⟩ := hg
    obtain ⟨its, rv, p, _⟩ := I.tuple hq
    have dr := Draws.tuple (prog := X.prog) (w := X.w) (A := X.A.in1) (I.ok.hd hc) it a hai its.toArray
    have hn : i = its.toArray.size := by have := rv.length; simp; omega
    obtain ⟨f0, f1, f2, f3, f4, f5⟩ := hf it (by simp)
    exact wpAny_pyNext_enum_endD dr q ⟨by rw [← hn]; exact q2, p⟩ fun h1 eb => ⟨rfl, I.turned (t' := s.toks) (fun b o hb z => eb b o hb z) f0 f1 f3 f4 f5⟩
  · rintro A i s Q E ⟨⟨old, q⟩, _⟩ h
    exact wpAny_pyIter_enum q h
/-! enumerate(v) of anything whose iterator is known -/
theorem meets_enum1 {v : Value} {ia : Heap → Addr} {mk : Heap → Heap} {Hh : Heap → Prop} (B : ∀ (prog : Program) (w : World) (A : Around) (E : Value → Shared → Prop) (s : Shared) (Q : Value → Shared → Prop), Hh s.heap → Q (.ref (ia s.heap)) { s with heap := mk s.heap } → wpAny (model prog w) A (pyIter v) Q E s) :
    Meets (Builtin.«enumerate.__new__» ⟨[.type "enumerate", v], []⟩) (fun _ R s => Hh s.heap ∧
      R (.ok (.ret (.ref (mk s.heap).objs.size))) { s with heap := (mk s.heap).push { cls := .type "enumerate", data := .fields #[.none, .bool false, .ref (ia s.heap), rawInt 0, .none, .none] } }) := by
  refine .of_wp ?_
  rintro prog w A R ⟨hp, g, d, tk, os⟩ ⟨h1, h⟩
  have sub := sub_enumerate
  have q1 : ∀ {A' : Around} {E : Value → Shared → Prop} {Q : Value → Shared → Prop}, Q (.ref (ia hp)) ⟨mk hp, g, d, tk, os⟩ → wpAny (model prog w) A' (pyIter v) Q E ⟨hp, g, d, tk, os⟩ := fun q => B _ _ _ _ ⟨hp, g, d, tk, os⟩ _ h1 q
  wp_walk using q1
  refine wpAny_stack_any fun st => wpAny_pure ?_
  split
  · rename_i c _ _ _ _ _
    cases (c == Value.type "enumerate") <;> (wp_walk using q1; exact ⟨_, rfl, h⟩)
  · wp_walk using q1
    exact ⟨_, rfl, h⟩
theorem call_enum1 {prog : Program} {w : World} {A : Around} {E : Value → Shared → Prop} {s : Shared} {v : Value} {ia : Heap → Addr} {mk : Heap → Heap} {Hh : Heap → Prop} {Q : Value → Shared → Prop}
    (B : ∀ (prog : Program) (w : World) (A : Around) (E : Value → Shared → Prop) (s : Shared) (Q : Value → Shared → Prop), Hh s.heap → Q (.ref (ia s.heap)) { s with heap := mk s.heap } → wpAny (model prog w) A (pyIter v) Q E s)
    (h1 : Hh s.heap) (h : ∀ h', IsEnum h' (mk s.heap).objs.size (ia s.heap) 0 .none → (∀ b o, (mk s.heap).get? b = some o → h'.get? b = some o) → Q (.ref (mk s.heap).objs.size) { s with heap := h' }) :
    wpAny (model prog w) A (call (.type "enumerate") [v]) Q E s := by
  refine callType_new F.called_enumerate (by decide) (F.typeCall_enumerate_1 _) (F.newCall_enumerate_1 _) (fun obj => F.args_object_init_2 obj _) F.entry_enumerate_new (meets_enum1 B) ⟨h1, ?_⟩
  have e1 : IsEnum ((mk s.heap).push { cls := .type "enumerate", data := .fields #[.none, .bool false, .ref (ia s.heap), rawInt 0, .none, .none] }) (mk s.heap).objs.size (ia s.heap) 0 .none := Heap.get?_push_size _ rfl
  exact ⟨⟨_, e1, rfl⟩, h _ e1 fun b o x => Heap.get?_push_of_some _ x⟩
/-- enumerate(list or tuple) -/
def iEnumA (K : PySem.W.Frag) (ta : TA) : TI := fun σ H R => ta σ H fun vs H1 => ∃ a, vs = [.ref a] ∧ (((∃ xs, SqL K H1 a xs) ∧ R (Ite K a) H1) ∨ ((∃ xs, SqT K H1 a xs) ∧ R (ItE K a) H1))
theorem pi_enumA {X : Cx} {e : Expr} {ta : TA} {p pos tpos : Pos} {elts : List Expr} {kk : Nat} (hg : Gl X "enumerate") (hm : X.mg "enumerate" = none) (ha : PA X [e] ta) (hs : starEach [e] X.env = [(false, eval e X.env)]) :
    PI X (.Tuple elts kk tpos) (.Call (.Name "enumerate" p) [e] [] pos) (iEnumA X.K ta) := by
  constructor
  intro pins s σ H R I h
  refine PyProof.Rows.Call_ (ld_blt I hg hm PyProof.Rows.boot_enumerate (PyProof.Rows.callWith_type1 (thn (ha.run pos pins s σ H _ I h) fun us s1 q0 => ?_) hs rfl))
  obtain ⟨vs, H1, I1, r1, a, ex, q1⟩ := q0
  subst ex
  cases r1 with
  | cons r rr =>
    cases rr
    cases r
    have fr : ∀ b ∈ [s1.heap.objs.size + 1, s1.heap.objs.size], FpOk X pins H1 b := fun b hb => by
      have hle : s1.heap.objs.size ≤ b := by
        rcases List.mem_cons.mp hb with rfl | hb
        · omega
        · cases List.mem_singleton.mp hb; omega
      exact I1.fpOk hle (I1.hok.fresh hle)
    rcases q1 with ⟨⟨xs, hq⟩, q⟩ | ⟨⟨xs, hq⟩, q⟩
    · obtain ⟨its, rv, p', _⟩ := I1.list hq
      refine call_enumerate_list p'.isList fun h' he hit hsz hk => wpAny_pyIter_enum he ?_
      exact ⟨_, _, _, _, H1, rfl, I1.kept (t' := s1.toks) hk, turn_enum a _ _, ⟨⟨.none, he⟩, hit, Nat.succ_ne_self _⟩, fr, q⟩
    · obtain ⟨its, rv, p', _⟩ := I1.tuple hq
      have p2 : s1.heap.IsTuple a its.toArray := p'
      have la : a < s1.heap.objs.size := let ⟨_, z, _⟩ := p2; Heap.lt_size z
      have l2 : s1.heap.objs.size + 1 ≠ a := fun z => Nat.lt_irrefl a (Nat.lt_trans la (Nat.lt_of_lt_of_eq (Nat.lt_succ_self _) z))
      refine call_enum1 (ia := fun h => h.objs.size) (mk := fun h => h.push { cls := .type "tuple_iterator", data := .fields #[.ref a, .int 0 0] }) (Hh := fun h => h.IsTuple a its.toArray) (fun _ _ _ _ s _ hl h => wpAny_pyIter_tuple hl h) p2 fun h' he hk => wpAny_pyIter_enum he ?_
      have sz : (s1.heap.push { cls := .type "tuple_iterator", data := .fields #[.ref a, .int 0 0] }).objs.size = s1.heap.objs.size + 1 := Heap.size_push ..
      simp only [sz] at he
      simp only [sz]
      have hit := hk _ _ (Heap.get?_push_size s1.heap (o := { cls := .type "tuple_iterator", data := .fields #[.ref a, .int 0 0] }) rfl)
      exact ⟨_, _, _, _, H1, rfl, I1.kept (t' := s1.toks) fun b o z => hk b o (Heap.get?_push_of_some _ z), turn_enumT (a := a) (Nat.ne_of_lt la) (Nat.succ_ne_self _) l2, ⟨⟨.none, he⟩, ⟨_, hit, rfl, rfl⟩⟩, fr, q⟩
/-! ## the judgements -/
section
variable {g : Gb} {F : Fam g} {pos : Pos}
theorem yl_enumL {G0 H0 : Hp} {as0 : List Addr} {a : Addr} {vs : List V} {xs : List D} (s : SqL g.K G0 a vs) (r : RpA g.K g.mg G0 as0 vs xs) : Yl g G0 H0 as0 none (enumD 0 xs) (Ite g.K a) where
  go := fun i G H as st hi R hs hp hl _ => by
    have hv : i < vs.length := by rw [r.len, ← enumD_len 0 xs]; exact hi
    exact ⟨vs, vs[i], sqL_H R (sqL_sub hs s), List.getElem?_eq_getElem hv⟩
  stop := fun G H as st R hs hp hl _ => ⟨vs, sqL_H R (sqL_sub hs s), by rw [r.len, enumD_len]; exact Nat.le_refl _⟩
  yld := fun i G H as st v H' x R hs hp hl _ hx y => by
    obtain ⟨T, u, rfl, hT, rfl, y⟩ := y
    rw [enumD_get] at hx
    obtain ⟨x0, hx0, rfl⟩ := Option.map_eq_some_iff.mp hx
    obtain ⟨u', e1, ru⟩ := r.get hx0
    have e2 := y vs (sqL_H R (sqL_sub hs s))
    rw [e1] at e2; cases e2
    obtain ⟨R', X'⟩ := R.still (o := .tup [.int (i : Nat), u]) hT
    refine ⟨_, R', X', .tup (.of upd_same) (.cons ?_ (.cons ((ru.mono hs hp).ext X') .nil))⟩
    rw [show ((0 + i : Nat) : Int) = (i : Int) by simp]
    exact .int _
theorem yl_enumT {G0 H0 : Hp} {as0 : List Addr} {a : Addr} {vs : List V} {xs : List D} (s : SqT g.K G0 a vs) (r : RpA g.K g.mg G0 as0 vs xs) : Yl g G0 H0 as0 none (enumD 0 xs) (ItE g.K a) where
  go := fun i G H as st hi R hs hp hl _ => by
    have hv : i < vs.length := by rw [r.len, ← enumD_len 0 xs]; exact hi
    exact ⟨vs, vs[i], sqT_H R (sqT_sub hs s), List.getElem?_eq_getElem hv⟩
  stop := fun G H as st R hs hp hl _ => ⟨vs, sqT_H R (sqT_sub hs s), by rw [r.len, enumD_len]⟩
  yld := fun i G H as st v H' x R hs hp hl _ hx y => by
    obtain ⟨T, u, rfl, hT, rfl, y⟩ := y
    rw [enumD_get] at hx
    obtain ⟨x0, hx0, rfl⟩ := Option.map_eq_some_iff.mp hx
    obtain ⟨u', e1, ru⟩ := r.get hx0
    have e2 := y vs (sqT_H R (sqT_sub hs s))
    rw [e1] at e2; cases e2
    obtain ⟨R', X'⟩ := R.still (o := .tup [.int (i : Nat), u]) hT
    refine ⟨_, R', X', .tup (.of upd_same) (.cons ?_ (.cons ((ru.mono hs hp).ext X') .nil))⟩
    rw [show ((0 + i : Nat) : Int) = (i : Int) by simp]
    exact .int _
/-- a list or a tuple that stands still -/
def stillOf : D → Option (List D)
  | .tup xs => some xs
  | .lst xs => some xs
  | .sq xs => some xs
  | _ => none
theorem stillOf_ok {G H : Hp} {as : List Addr} {st : Store} {v : V} {d : D} {xs : List D} (R : Ri g.K g.mg G H as st) (r : Rp g.K g.mg G as v d) (h : stillOf d = some xs) : ∃ a vs, v = .ref a ∧ RpA g.K g.mg G as vs xs ∧ (SqL g.K G a vs ∨ SqT g.K G a vs) := by
  cases r with
  | tup s r => cases h; exact ⟨_, _, rfl, r, .inr s⟩
  | lst s r => cases h; exact ⟨_, _, rfl, r, .inl (.of s)⟩
  | sq s r => cases h; exact ⟨_, _, rfl, r, .inl s⟩
  | _ => cases h
def xenum (m : XM D) : XM (List D × Option Nat) := xbind m fun x => fun _ st => match stillOf x with
  | some xs => .ok (enumD 0 xs, none) st
  | none => .stuck
theorem ji_enum {elts : List Expr} {kk : Nat} {tpos p : Pos} {e : Expr} {m : XM D} (hg : F.sc.names.lookup ("enumerate" : Str) = some .globalImplicit) (hm : g.mg "enumerate" = none) (h : JE F e m) (hs : ∀ env, starEach [e] env = [(false, eval e env)] := by intro _; rfl) :
    JI F (.Tuple elts kk tpos) (.Call (.Name "enumerate" p) [e] [] pos) (xenum m) := by
  obtain ⟨t, p', s⟩ := h
  refine ⟨fun W => iEnumA g.K (tCons (t W) tNil), fun W X m => by have := pi_enumA (elts := elts) (kk := kk) (tpos := tpos) (p := p) (pos := pos) (X := X) (by show X.env.scope.names.lookup _ = _; rw [F.hsc m]; exact hg) (by rw [F.hmg m]; exact hm) (pa_cons (p' W X m) pa_nil (hs _)) (hs _); rw [F.hK m] at this; exact this, ?_⟩
  intro W G H as st σ e R' R N h
  refine s W G H as st σ e _ R N ?_
  unfold xenum xbind at h
  cases q : m e st with
  | stuck => rw [q] at h; exact h
  | exc c p st1 => rw [q] at h; exact h
  | ok x st1 =>
    simp only [q] at h
    intro v G1 H1 as1 R1 X1 rv
    cases q2 : stillOf x with
    | none => simp only [q2] at h; exact h.elim
    | some xs =>
      simp only [q2] at h
      obtain ⟨a, vs, rfl, rr, ss | ss⟩ := stillOf_ok R1 rv q2
      · exact ⟨a, rfl, .inl ⟨⟨vs, sqL_H R1 ss⟩, h.2 _ G1 H1 as1 R1 X1 (yl_enumL ss rr)⟩⟩
      · exact ⟨a, rfl, .inr ⟨⟨vs, sqT_H R1 ss⟩, h.2 _ G1 H1 as1 R1 X1 (yl_enumT ss rr)⟩⟩
theorem yl_zipL {G0 H0 : Hp} {as0 : List Addr} {a b : Addr} {vs ws : List V} {xs ys : List D} (s : SqL g.K G0 a vs) (s2 : SqL g.K G0 b ws) (r : RpA g.K g.mg G0 as0 vs xs) (r2 : RpA g.K g.mg G0 as0 ws ys) : Yl g G0 H0 as0 none (zipD xs ys) (Itz g.K a b) where
  go := fun i G H as st hi R hs hp hl _ => by
    have hl : i < xs.length ∧ i < ys.length := by simp [zipD] at hi; omega
    have hv : i < vs.length := by rw [r.len]; exact hl.1
    have hw : i < ws.length := by rw [r2.len]; exact hl.2
    exact ⟨vs, ws, vs[i], ws[i], sqL_H R (sqL_sub hs s), sqL_H R (sqL_sub hs s2), List.getElem?_eq_getElem hv, List.getElem?_eq_getElem hw⟩
  stop := fun G H as st R hs hp hl _ => ⟨vs, ws, sqL_H R (sqL_sub hs s), sqL_H R (sqL_sub hs s2), by rw [r.len, r2.len]; simp [zipD]; omega⟩
  yld := fun i G H as st v H' x R hs hp hl _ hx y => by
    obtain ⟨T, u, w, rfl, hT, rfl, y1, y2⟩ := y
    obtain ⟨x0, x1, h0, h1, rfl⟩ := zipD_get _ _ _ hx
    obtain ⟨u', e1, ru⟩ := r.get h0
    obtain ⟨w', e2, rw'⟩ := r2.get h1
    have e3 := y1 vs (sqL_H R (sqL_sub hs s))
    have e4 := y2 ws (sqL_H R (sqL_sub hs s2))
    rw [e1] at e3; cases e3
    rw [e2] at e4; cases e4
    obtain ⟨R', X'⟩ := R.still (o := .tup [u, w]) hT
    exact ⟨_, R', X', .tup (.of upd_same) (.cons ((ru.mono hs hp).ext X') (.cons ((rw'.mono hs hp).ext X') .nil))⟩
theorem yl_zipT {G0 H0 : Hp} {as0 : List Addr} {a b : Addr} {vs ws : List V} {xs ys : List D} (s : SqT g.K G0 a vs) (s2 : SqT g.K G0 b ws) (r : RpA g.K g.mg G0 as0 vs xs) (r2 : RpA g.K g.mg G0 as0 ws ys) : Yl g G0 H0 as0 none (zipD xs ys) (RZ.ItzT g.K a b) where
  go := fun i G H as st hi R hs hp hl _ => by
    have hl : i < xs.length ∧ i < ys.length := by simp [zipD] at hi; omega
    have hv : i < vs.length := by rw [r.len]; exact hl.1
    have hw : i < ws.length := by rw [r2.len]; exact hl.2
    exact ⟨vs, ws, vs[i], ws[i], sqT_H R (sqT_sub hs s), sqT_H R (sqT_sub hs s2), List.getElem?_eq_getElem hv, List.getElem?_eq_getElem hw⟩
  stop := fun G H as st R hs hp hl _ => ⟨vs, ws, sqT_H R (sqT_sub hs s), sqT_H R (sqT_sub hs s2), by rw [r.len, r2.len]; simp [zipD]; omega⟩
  yld := fun i G H as st v H' x R hs hp hl _ hx y => by
    obtain ⟨T, u, w, rfl, hT, rfl, y1, y2⟩ := y
    obtain ⟨x0, x1, h0, h1, rfl⟩ := zipD_get _ _ _ hx
    obtain ⟨u', e1, ru⟩ := r.get h0
    obtain ⟨w', e2, rw'⟩ := r2.get h1
    have e3 := y1 vs (sqT_H R (sqT_sub hs s))
    have e4 := y2 ws (sqT_H R (sqT_sub hs s2))
    rw [e1] at e3; cases e3
    rw [e2] at e4; cases e4
    obtain ⟨R', X'⟩ := R.still (o := .tup [u, w]) hT
    exact ⟨_, R', X', .tup (.of upd_same) (.cons ((ru.mono hs hp).ext X') (.cons ((rw'.mono hs hp).ext X') .nil))⟩
/-- both tuples | both lists -/
def zipOf : D → D → Option (List D × List D)
  | .tup xs, .tup ys => some (xs, ys)
  | .lst xs, .lst ys => some (xs, ys)
  | .sq xs, .lst ys => some (xs, ys)
  | .lst xs, .sq ys => some (xs, ys)
  | .sq xs, .sq ys => some (xs, ys)
  | _, _ => none
theorem zipOf_ok {G : Hp} {as : List Addr} {v w : V} {d f : D} {xs ys : List D} (r : Rp g.K g.mg G as v d) (r2 : Rp g.K g.mg G as w f) (h : zipOf d f = some (xs, ys)) :
    ∃ a b vs ws, v = .ref a ∧ w = .ref b ∧ RpA g.K g.mg G as vs xs ∧ RpA g.K g.mg G as ws ys ∧ ((SqL g.K G a vs ∧ SqL g.K G b ws) ∨ (SqT g.K G a vs ∧ SqT g.K G b ws)) := by
  cases r with
  | tup s r => cases r2 with
    | tup s2 r2 => cases h; exact ⟨_, _, _, _, rfl, rfl, r, r2, .inr ⟨s, s2⟩⟩
    | _ => cases h
  | lst s r => cases r2 with
    | lst s2 r2 => cases h; exact ⟨_, _, _, _, rfl, rfl, r, r2, .inl ⟨.of s, .of s2⟩⟩
    | sq s2 r2 => cases h; exact ⟨_, _, _, _, rfl, rfl, r, r2, .inl ⟨.of s, s2⟩⟩
    | _ => cases h
  | sq s r => cases r2 with
    | lst s2 r2 => cases h; exact ⟨_, _, _, _, rfl, rfl, r, r2, .inl ⟨s, .of s2⟩⟩
    | sq s2 r2 => cases h; exact ⟨_, _, _, _, rfl, rfl, r, r2, .inl ⟨s, s2⟩⟩
    | _ => cases h
  | _ => cases r2 <;> cases h
def xzip (ma mb : XM D) : XM (List D × Option Nat) := xbind ma fun x => xbind mb fun y => fun _ st => match zipOf x y with
  | some (xs, ys) => .ok (zipD xs ys, none) st
  | none => .stuck
theorem zip_read {t t2 : WX → TE} {ma mb : XM D} {W : WX} {G H : Hp} {as : List Addr} {st : Store} {σ : L2.St} {e : Nv} {fd : List D → List D → List D} {R' : It → Hp → Prop} {Q : List V → Hp → Prop} (s : SE g t ma) (s2 : SE g t2 mb) (R : Ri g.K g.mg G H as st) (N : Rn g.K g.mg G as σ e)
    (h : PXI g W G H as σ ((xbind ma fun x => xbind mb fun y => fun _ st => match zipOf x y with | some (xs, ys) => .ok (fd xs ys, none) st | none => .stuck) e st) R')
    (k : ∀ xs ys a b vs ws G1 H1 as1 st1, Ri g.K g.mg G1 H1 as1 st1 → RpA g.K g.mg G1 as1 vs xs → RpA g.K g.mg G1 as1 ws ys → ((SqL g.K G1 a vs ∧ SqL g.K G1 b ws) ∨ (SqT g.K G1 a vs ∧ SqT g.K G1 b ws)) → (∀ J, Yl g G1 H1 as1 none (fd xs ys) J → R' J H1) → Q [.ref a, .ref b] H1) : tCons (t W) (tCons (t2 W) tNil) σ H Q := by
  refine s W G H as st σ e _ R N ?_
  unfold xbind at h
  cases q : ma e st with
  | stuck => rw [q] at h; exact h
  | exc c p st1 => rw [q] at h; exact h
  | ok x st1 =>
    simp only [q] at h
    intro v G1 H1 as1 R1 X1 rv
    refine s2 W G1 H1 as1 st1 σ e _ R1 (N.ext X1) ?_
    cases q2 : mb e st1 with
    | stuck => simp only [q2] at h; exact h
    | exc c p st2 =>
      simp only [q2] at h
      exact fun cls d G2 H2 as2 R2 X2 x2 => h cls d G2 H2 as2 R2 (X1.trans X2) x2
    | ok y st2 =>
      simp only [q2] at h
      intro w G2 H2 as2 R2 X2 rw'
      cases q3 : zipOf x y with
      | none => simp only [q3] at h; exact h.elim
      | some z =>
        obtain ⟨xs, ys⟩ := z
        simp only [q3] at h
        obtain ⟨a, b, vs, ws, rfl, rfl, r1, r2, ss⟩ := zipOf_ok (rv.ext X2) rw' q3
        exact k xs ys a b vs ws G2 H2 as2 st2 R2 r1 r2 ss fun J Y => h.2 J G2 H2 as2 R2 (X1.trans X2) Y
theorem ji_zip {elts : List Expr} {kk : Nat} {tpos p : Pos} {ea eb : Expr} {ma mb : XM D} (hg : F.sc.names.lookup ("zip" : Str) = some .globalImplicit) (hm : g.mg "zip" = none) (ha : JE F ea ma) (hb : JE F eb mb)
    (hs : ∀ env, starEach [ea, eb] env = [(false, eval ea env), (false, eval eb env)] := by intro _; rfl) (hs2 : ∀ env, starEach [eb] env = [(false, eval eb env)] := by intro _; rfl) :
    JI F (.Tuple elts kk tpos) (.Call (.Name "zip" p) [ea, eb] [] pos) (xzip ma mb) := by
  obtain ⟨t, p', s⟩ := ha
  obtain ⟨t2, p2, s2⟩ := hb
  refine ⟨fun W => RZ.iZipA g.K (tCons (t W) (tCons (t2 W) tNil)), fun W X m => by
    have := RZ.pi_zipA (elts := elts) (kk := kk) (tpos := tpos) (p := p) (pos := pos) (X := X) (by show X.env.scope.names.lookup _ = _; rw [F.hsc m]; exact hg) (by rw [F.hmg m]; exact hm) (pa_cons (p' W X m) (pa_cons (p2 W X m) pa_nil (hs2 _)) (by rw [hs, hs2])) (by rw [hs, hs2]) (by rw [hs2]; rfl)
    rw [F.hK m] at this; exact this, ?_⟩
  intro W G H as st σ e R' R N h
  refine zip_read (fd := zipD) s s2 R N h ?_
  intro xs ys a b vs ws G1 H1 as1 st1 R1 r1 r2 ss k
  rcases ss with ⟨s1, s2⟩ | ⟨s1, s2⟩
  · exact ⟨a, b, vs, ws, rfl, .inl ⟨sqL_H R1 s1, sqL_H R1 s2, k _ (yl_zipL s1 s2 r1 r2)⟩⟩
  · exact ⟨a, b, vs, ws, rfl, .inr ⟨sqT_H R1 s1, sqT_H R1 s2, k _ (yl_zipT s1 s2 r1 r2)⟩⟩
end
end LS
end
section
set_option maxRecDepth 100000
set_option maxHeartbeats 2000000
namespace LS
open PySem PySem.Spec L2

/-! ## enumerate(zip(a, b)): the pair that zip gave out may live on -/
/-- a zip over two iterators; its pair is its own, or was given out -/
def ZipAt (h : Heap) (z TI TO : Addr) : Prop := ∃ (own : Value) (f : Bool), (own = .none ∨ ∃ T : Nat, own = rawInt T) ∧
  h.get? z = some { cls := .type "zip", dict := none, data := .fields #[own, .bool f, .bool false, .ref TI, .ref TO], slots := #[] }
section
variable {prog : Program} {w : World} {A : Around} {E : Value → Shared → Prop} {s : Shared} {z TI TO i1 i2 : Addr} {fp1 fp2 : List Addr} {n1 n2 i : Nat} {P1 P2 : Nat → Value → Prop} {St1 St2 : Nat → Heap → Prop}
abbrev ZRec (own : Value) (f : Bool) (TI TO : Addr) : Obj := { cls := .type "zip", dict := none, data := .fields #[own, .bool f, .bool false, .ref TI, .ref TO], slots := #[] }
theorem own_ask {own : Value} {f : Bool} {Q : Bool → Shared → Prop} (ho : own = .none ∨ ∃ T : Nat, own = rawInt T) (hz : s.heap.get? z = some (ZRec own f TI TO)) (hT : Q true s)
    (hF : ∀ h', h'.get? z = some (ZRec own true TI TO) → Heap.SameBut z s.heap h' → Q false { s with heap := h' }) : wpAny (model prog w) A (Builtin.SmallTypes.ownedTupleIsFree (.ref z)) Q E s := by
  unfold Builtin.SmallTypes.ownedTupleIsFree
  refine wpAny_bind (wpAny_field hz rfl (x := own) rfl ?_)
  rcases ho with rfl | ⟨T, rfl⟩
  · exact wpAny_pure hT
  · show wpAny _ _ (loadIfAlive ((T : Int).toNat) >>= _) _ _ _
    rw [Int.toNat_natCast]
    have la : ∀ {Q : Option Obj → Shared → Prop}, Q (s.heap.get? T) s → wpAny (model prog w) A (loadIfAlive T) Q E s := fun q _ _ _ => q
    refine wpAny_bind (la ?_)
    cases hg : s.heap.get? T with
    | none => exact wpAny_pure hT
    | some o =>
      simp only [Option.isNone_some, Bool.false_eq_true, if_false]
      refine wpAny_bind (wpAny_field hz rfl (x := .bool f) rfl ?_)
      cases f with
      | true => exact wpAny_pure (hF s.heap hz (Heap.SameBut.refl _ _))
      | false => exact wpAny_bind (wpAny_setField_rec hz (by simp) fun h1 a b => wpAny_pure (hF h1 a b))
theorem zip_any {Q : Value → Shared → Prop} (S : ZipSep2 z TI TO i1 i2 fp1 fp2) (D1 : Draws prog w A i1 fp1 n1 P1 St1) (D2 : Draws prog w A i2 fp2 n2 P2 St2)
    (hz : ZipAt s.heap z TI TO) (hTI : IsTupOf2 s.heap TI (.ref i1) (.ref i2)) (hTO : ∃ a b, IsTupOf2 s.heap TO a b) (st1 : St1 i s.heap) (st2 : St2 i s.heap) (l1 : i < n1) (l2 : i < n2)
    (hQ : ∀ x y h' tk, P1 i x → P2 i y → ZipAt h' z TI TO → (∃ a b, IsTupOf2 h' TO a b) → St1 (i + 1) h' → St2 (i + 1) h' → IsTupOf2 h' s.heap.objs.size x y → h'.objs.size = s.heap.objs.size + 1 →
      (∀ c o, c ≠ z → c ≠ TO → c ≠ i1 → c ≠ i2 → s.heap.get? c = some o → h'.get? c = some o) → Q (.ref s.heap.objs.size) { s with heap := h', toks := tk }) :
    wpAny (model prog w) A (Builtin.«zip.__next__» ⟨[.ref z], []⟩) (fun fin s' => ∃ v, fin = .done (.ret v) ∧ Q v s') E s := by
  obtain ⟨own, f, ho, hz⟩ := hz
  obtain ⟨a, b, hTO⟩ := hTO
  obtain ⟨hp, gn, dr, tk0, os⟩ := s
  have zlt : z < hp.objs.size := Heap.lt_size hz
  show wpAny _ _ (field (.ref z) 2 >>= _) _ _ _
  refine wpAny_bind (wpAny_field hz rfl (x := .bool false) rfl ?_)
  show wpAny _ _ (field (.ref z) 3 >>= _) _ _ _
  refine wpAny_bind (wpAny_field hz rfl (x := .ref TI) rfl ?_)
  refine wpAny_bind (wpAny_seqItems hTI rfl ?_)
  show wpAny _ _ (Builtin.SmallTypes.ownedTupleIsFree (.ref z) >>= _) _ _ _
  refine wpAny_bind (own_ask ho hz ?_ fun g0 hz0 hs0 => ?_)
  · -- its own pair again
    simp only [if_true]
    refine wpAny_bind (wpAny_rule ?_)
    refine wpAny_bind (wpAny_field hz rfl (x := .ref TO) rfl ?_)
    refine wpAny_bind (wpAny_setField_rec hz (by simp) fun g0 hz0 hs0 => ?_)
    replace hz0 : g0.get? z = some (ZRec .ellipsis f TI TO) := hz0
    replace hs0 : Heap.SameBut z hp g0 := hs0
    refine wpAny_bind ?_
    simp only [List.zipIdx_cons, List.zipIdx_nil, List.forIn_cons, List.forIn_nil]
    refine wpAny_bind (wpAny_bind (wpAny_onRaise ?_))
    show wpAny _ _ (Builtin.SmallTypes.nextOf (.ref i1) >>= _) _ _ ⟨g0, gn, dr, tk0, os⟩
    refine wpAny_bind (D1.item i _ _ _ l1 (D1.over st1 hs0 S.zf1) fun x q1 tk1 hx sn1 hq1 => wpAny_pure ?_)
    replace hq1 : Heap.SameBut i1 g0 q1 := hq1
    have u1 : IsTupOf2 q1 TO a b := hq1.extBut _ _ S.Ti1 (hs0.extBut _ _ S.TOz hTO)
    refine wpAny_bind (wpAny_seqItems (s := ⟨q1, gn, dr, tk1, os⟩) u1 rfl ?_)
    refine wpAny_bind (updateSeq_IsTupOf2 (s := ⟨q1, gn, dr, tk1, os⟩) u1 fun g1 t1 hs1 => ?_)
    replace t1 : IsTupOf2 g1 TO x b := t1
    replace hs1 : Heap.SameBut TO q1 g1 := hs1
    refine wpAny_bind (wpAny_letGo (wpAny_pure ?_))
    refine wpAny_bind (wpAny_bind (wpAny_onRaise ?_))
    show wpAny _ _ (Builtin.SmallTypes.nextOf (.ref i2) >>= _) _ _ ⟨g1, gn, dr, tk1, os⟩
    refine wpAny_bind (D2.item i _ _ _ l2 (D2.over (D2.over (D2.over st2 hs0 S.zf2) hq1 S.sep1_2) hs1 S.Tf2) fun y q2 tk2 hy sn2 hq2 => wpAny_pure ?_)
    replace hq2 : Heap.SameBut i2 g1 q2 := hq2
    have u2 : IsTupOf2 q2 TO x b := hq2.extBut _ _ S.Ti2 t1
    refine wpAny_bind (wpAny_seqItems (s := ⟨q2, gn, dr, tk2, os⟩) u2 rfl ?_)
    refine wpAny_bind (updateSeq_IsTupOf2 (s := ⟨q2, gn, dr, tk2, os⟩) u2 fun g2 t2 hs2 => ?_)
    replace t2 : IsTupOf2 g2 TO x y := t2
    replace hs2 : Heap.SameBut TO q2 g2 := hs2
    refine wpAny_bind (wpAny_letGo (wpAny_pure (wpAny_pure ?_)))
    refine wpAny_bind (wpAny_seqItems (s := ⟨g2, gn, dr, tk2, os⟩) t2 rfl ?_)
    refine wpAny_bind (wpAny_newTuple ?_)
    have sz : g2.objs.size = hp.objs.size := by rw [hs2.1, hq2.1, hs1.1, hq1.1, hs0.1]
    have zz : g2.get? z = some (ZRec .ellipsis f TI TO) := hs2.extBut _ _ S.TOz.symm (hq2.extBut _ _ S.zi2 (hs1.extBut _ _ S.TOz.symm (hq1.extBut _ _ S.zi1 hz0)))
    have kk : ∀ c o, c ≠ z → c ≠ TO → c ≠ i1 → c ≠ i2 → hp.get? c = some o → g2.get? c = some o := fun c o cz cT c1 c2 e => hs2.extBut _ _ cT (hq2.extBut _ _ c2 (hs1.extBut _ _ cT (hq1.extBut _ _ c1 (hs0.extBut _ _ cz e))))
    have j1 : St1 (i + 1) g2 := D1.over (D1.over (D1.over sn1 hs1 S.Tf1) hq2 S.sep2_1) hs2 S.Tf1
    have j2 : St2 (i + 1) g2 := D2.over sn2 hs2 S.Tf2
    show wpAny _ _ (Builtin.SmallTypes.ownedTupleHandOut (.ref z) (.ref g2.objs.size) >>= _) _ _ ⟨g2.push { cls := .type "tuple", data := .seq #[x, y] }, gn, dr, tk2, os⟩
    refine wpAny_bind ?_
    unfold Builtin.SmallTypes.ownedTupleHandOut
    have z6 : (g2.push { cls := .type "tuple", data := .seq #[x, y] }).get? z = some (ZRec .ellipsis f TI TO) := Heap.get?_push_of_some _ zz
    refine wpAny_bind (wpAny_setField_rec z6 (by simp) fun h7 z7 s7 => ?_)
    replace z7 : h7.get? z = some (ZRec (rawInt g2.objs.size) f TI TO) := z7
    refine wpAny_setField_rec z7 (by simp) fun h8 z8 s8 => ?_
    replace z8 : h8.get? z = some (ZRec (rawInt g2.objs.size) false TI TO) := z8
    replace s7 : Heap.SameBut z (g2.push { cls := .type "tuple", data := .seq #[x, y] }) h7 := s7
    replace s8 : Heap.SameBut z h7 h8 := s8
    have up : ∀ c o, c ≠ z → g2.get? c = some o → h8.get? c = some o := fun c o c1 e => s8.extBut _ _ c1 (s7.extBut _ _ c1 (Heap.get?_push_of_some _ e))
    have zl2 : z < g2.objs.size := by rw [sz]; exact zlt
    have t8 : IsTupOf2 h8 g2.objs.size x y := s8.extBut _ _ (Nat.ne_of_gt zl2) (s7.extBut _ _ (Nat.ne_of_gt zl2) (Heap.get?_push_size _ rfl))
    have sz8 : h8.objs.size = g2.objs.size + 1 := by rw [s8.1, s7.1, Heap.size_push]
    refine wpAny_pure ⟨_, rfl, ?_⟩
    show Q (.ref g2.objs.size) ⟨h8, gn, dr, tk2, os⟩
    rw [sz] at z8 t8 sz8 ⊢
    exact hQ x y h8 tk2 hx hy ⟨_, _, .inr ⟨_, rfl⟩, z8⟩ ⟨_, _, up _ _ S.TOz t2⟩ (D1.frame _ _ _ j1 fun c hc o e => up c o (fun q => S.zf1 (q ▸ hc)) e) (D2.frame _ _ _ j2 fun c hc o e => up c o (fun q => S.zf2 (q ▸ hc)) e) t8 sz8 fun c o cz cT c1 c2 e => up c o cz (kk c o cz cT c1 c2 e)
  · -- a new pair
    replace hs0 : Heap.SameBut z hp g0 := hs0
    simp only [Bool.false_eq_true, if_false]
    refine wpAny_bind ?_
    rw [← Array.forIn_toList]
    simp only [List.forIn_cons, List.forIn_nil]
    refine wpAny_bind (wpAny_bind (wpAny_holding ?_))
    show wpAny _ _ (Builtin.SmallTypes.nextOf (.ref i1) >>= _) _ _ ⟨g0, gn, dr, tk0, os⟩
    refine wpAny_bind (D1.item i _ _ _ l1 (D1.over st1 hs0 S.zf1) fun x q1 tk1 hx sn1 hq1 => wpAny_pure ?_)
    replace hq1 : Heap.SameBut i1 g0 q1 := hq1
    refine wpAny_pure ?_
    refine wpAny_bind (wpAny_bind (wpAny_holding ?_))
    show wpAny _ _ (Builtin.SmallTypes.nextOf (.ref i2) >>= _) _ _ ⟨q1, gn, dr, tk1, os⟩
    refine wpAny_bind (D2.item i _ _ _ l2 (D2.over (D2.over st2 hs0 S.zf2) hq1 S.sep1_2) fun y q2 tk2 hy sn2 hq2 => wpAny_pure ?_)
    replace hq2 : Heap.SameBut i2 q1 q2 := hq2
    refine wpAny_pure (wpAny_pure ?_)
    show wpAny _ _ (newTuple [x, y] >>= _) _ _ ⟨q2, gn, dr, tk2, os⟩
    refine wpAny_bind (wpAny_newTuple ?_)
    have sz : q2.objs.size = hp.objs.size := by rw [hq2.1, hq1.1, hs0.1]
    have zz : q2.get? z = some (ZRec own true TI TO) := hq2.extBut _ _ S.zi2 (hq1.extBut _ _ S.zi1 hz0)
    have kk : ∀ c o, c ≠ z → c ≠ i1 → c ≠ i2 → hp.get? c = some o → q2.get? c = some o := fun c o cz c1 c2 e => hq2.extBut _ _ c2 (hq1.extBut _ _ c1 (hs0.extBut _ _ cz e))
    have up : ∀ c o, q2.get? c = some o → (q2.push { cls := .type "tuple", data := .seq #[x, y] }).get? c = some o := fun c o e => Heap.get?_push_of_some _ e
    have t8 : IsTupOf2 (q2.push { cls := .type "tuple", data := .seq #[x, y] }) q2.objs.size x y := Heap.get?_push_size _ rfl
    have sz8 : (q2.push { cls := .type "tuple", data := .seq #[x, y] }).objs.size = q2.objs.size + 1 := Heap.size_push ..
    refine wpAny_pure ⟨_, rfl, ?_⟩
    show Q (.ref q2.objs.size) ⟨_, gn, dr, tk2, os⟩
    rw [sz] at t8 sz8 ⊢
    exact hQ x y _ tk2 hx hy ⟨_, _, ho, up _ _ zz⟩ ⟨_, _, up _ _ (kk _ _ S.TOz S.Ti1 S.Ti2 hTO)⟩ (D1.frame _ _ _ (D1.over sn1 hq2 S.sep2_1) fun c hc o e => up c o e) (D2.frame _ _ _ sn2 fun c hc o e => up c o e) t8 sz8 fun c o cz _ c1 c2 e => up c o (kk c o cz c1 c2 e)
theorem zip_any_end {Q : Fin → Shared → Prop} (S : ZipSep2 z TI TO i1 i2 fp1 fp2) (D1 : Draws prog w A i1 fp1 n1 P1 St1) (D2 : Draws prog w A i2 fp2 n2 P2 St2)
    (hz : ZipAt s.heap z TI TO) (hTI : IsTupOf2 s.heap TI (.ref i1) (.ref i2)) (hTO : ∃ a b, IsTupOf2 s.heap TO a b) (st1 : St1 i s.heap) (st2 : St2 i s.heap) (e1 : i ≤ n1) (e2 : i ≤ n2) (hend : i = n1 ∨ i = n2)
    (hE : ∀ h' tk e, (∀ c o, c ≠ z → c ≠ TO → c ≠ i1 → c ≠ i2 → s.heap.get? c = some o → h'.get? c = some o) → (∃ o, h'.get? e = some o ∧ o.cls = .type "StopIteration") → E (.ref e) { s with heap := h', toks := tk }) :
    wpAny (model prog w) A (Builtin.«zip.__next__» ⟨[.ref z], []⟩) Q E s := by
  obtain ⟨own, f, ho, hz⟩ := hz
  obtain ⟨a, b, hTO⟩ := hTO
  obtain ⟨hp, gn, dr, tk0, os⟩ := s
  show wpAny _ _ (field (.ref z) 2 >>= _) _ _ _
  refine wpAny_bind (wpAny_field hz rfl (x := .bool false) rfl ?_)
  show wpAny _ _ (field (.ref z) 3 >>= _) _ _ _
  refine wpAny_bind (wpAny_field hz rfl (x := .ref TI) rfl ?_)
  refine wpAny_bind (wpAny_seqItems hTI rfl ?_)
  show wpAny _ _ (Builtin.SmallTypes.ownedTupleIsFree (.ref z) >>= _) _ _ _
  refine wpAny_bind (own_ask ho hz ?_ fun g0 hz0 hs0 => ?_)
  · simp only [if_true]
    refine wpAny_bind (wpAny_rule ?_)
    refine wpAny_bind (wpAny_field hz rfl (x := .ref TO) rfl ?_)
    refine wpAny_bind (wpAny_setField_rec hz (by simp) fun g0 hz0 hs0 => ?_)
    replace hz0 : g0.get? z = some (ZRec .ellipsis f TI TO) := hz0
    replace hs0 : Heap.SameBut z hp g0 := hs0
    have fin : ∀ (q : Heap) (tk : Nat) (e : Addr) (it : Addr) (k : ∀ c o, c ≠ z → c ≠ TO → c ≠ i1 → c ≠ i2 → hp.get? c = some o → q.get? c = some o) (zq : q.get? z = some (ZRec .ellipsis f TI TO)) (he : ∃ o, q.get? e = some o ∧ o.cls = .type "StopIteration"),
        wpAny (model prog w) A (setField (.ref z) 0 .none) (fun _ s2 => E (.ref e) s2) E ⟨q, gn, dr, tk, os⟩ := by
      rintro q tk e it k zq ⟨oe, ge, ce⟩
      have ez : e ≠ z := fun x => by rw [x, zq] at ge; cases ge; simp at ce
      refine wpAny_setField_rec (s := ⟨q, gn, dr, tk, os⟩) zq (by simp) fun q' _ hq' => ?_
      replace hq' : Heap.SameBut z q q' := hq'
      exact hE q' tk e (fun c o cz cT c1 c2 x => hq'.extBut _ _ cz (k c o cz cT c1 c2 x)) ⟨oe, hq'.extBut _ _ ez ge, ce⟩
    refine wpAny_bind ?_
    simp only [List.zipIdx_cons, List.zipIdx_nil, List.forIn_cons, List.forIn_nil]
    refine wpAny_bind (wpAny_bind (wpAny_onRaise ?_))
    show wpAny _ _ (Builtin.SmallTypes.nextOf (.ref i1) >>= _) _ _ ⟨g0, gn, dr, tk0, os⟩
    by_cases l1 : i < n1
    · refine wpAny_bind (D1.item i _ _ _ l1 (D1.over st1 hs0 S.zf1) fun x q1 tk1 hx sn1 hq1 => wpAny_pure ?_)
      replace hq1 : Heap.SameBut i1 g0 q1 := hq1
      have u1 : IsTupOf2 q1 TO a b := hq1.extBut _ _ S.Ti1 (hs0.extBut _ _ S.TOz hTO)
      refine wpAny_bind (wpAny_seqItems (s := ⟨q1, gn, dr, tk1, os⟩) u1 rfl ?_)
      refine wpAny_bind (updateSeq_IsTupOf2 (s := ⟨q1, gn, dr, tk1, os⟩) u1 fun g1 t1 hs1 => ?_)
      replace hs1 : Heap.SameBut TO q1 g1 := hs1
      refine wpAny_bind (wpAny_letGo (wpAny_pure ?_))
      have h2 : i = n2 := by omega
      refine wpAny_bind (wpAny_bind (wpAny_onRaise ?_))
      show wpAny _ _ (Builtin.SmallTypes.nextOf (.ref i2) >>= _) _ _ ⟨g1, gn, dr, tk1, os⟩
      refine wpAny_bind (D2.done ⟨g1, gn, dr, tk1, os⟩ _ _ (by rw [← h2]; exact D2.over (D2.over (D2.over st2 hs0 S.zf2) hq1 S.sep1_2) hs1 S.Tf2) fun q e hq he => ?_)
      replace hq : Heap.ExtBut i2 g1 q := hq
      exact fin q tk1 e i2 (fun c o cz cT c1 c2 x => hq _ _ c2 (hs1.extBut _ _ cT (hq1.extBut _ _ c1 (hs0.extBut _ _ cz x)))) (hq _ _ S.zi2 (hs1.extBut _ _ S.TOz.symm (hq1.extBut _ _ S.zi1 hz0))) he
    · have h1 : i = n1 := by omega
      refine wpAny_bind (D1.done ⟨g0, gn, dr, tk0, os⟩ _ _ (by rw [← h1]; exact D1.over st1 hs0 S.zf1) fun q e hq he => ?_)
      replace hq : Heap.ExtBut i1 g0 q := hq
      exact fin q tk0 e i1 (fun c o cz cT c1 c2 x => hq _ _ c1 (hs0.extBut _ _ cz x)) (hq _ _ S.zi1 hz0) he
  · replace hs0 : Heap.SameBut z hp g0 := hs0
    simp only [Bool.false_eq_true, if_false]
    refine wpAny_bind ?_
    rw [← Array.forIn_toList]
    simp only [List.forIn_cons, List.forIn_nil]
    refine wpAny_bind (wpAny_bind (wpAny_holding ?_))
    show wpAny _ _ (Builtin.SmallTypes.nextOf (.ref i1) >>= _) _ _ ⟨g0, gn, dr, tk0, os⟩
    by_cases l1 : i < n1
    · refine wpAny_bind (D1.item i _ _ _ l1 (D1.over st1 hs0 S.zf1) fun x q1 tk1 hx sn1 hq1 => wpAny_pure ?_)
      replace hq1 : Heap.SameBut i1 g0 q1 := hq1
      refine wpAny_pure ?_
      have h2 : i = n2 := by omega
      refine wpAny_bind (wpAny_bind (wpAny_holding ?_))
      show wpAny _ _ (Builtin.SmallTypes.nextOf (.ref i2) >>= _) _ _ ⟨q1, gn, dr, tk1, os⟩
      refine wpAny_bind (D2.done ⟨q1, gn, dr, tk1, os⟩ _ _ (by rw [← h2]; exact D2.over (D2.over st2 hs0 S.zf2) hq1 S.sep1_2) fun q e hq he => ?_)
      replace hq : Heap.ExtBut i2 q1 q := hq
      exact hE q tk1 e (fun c o cz cT c1 c2 x => hq _ _ c2 (hq1.extBut _ _ c1 (hs0.extBut _ _ cz x))) he
    · have h1 : i = n1 := by omega
      refine wpAny_bind (D1.done ⟨g0, gn, dr, tk0, os⟩ _ _ (by rw [← h1]; exact D1.over st1 hs0 S.zf1) fun q e hq he => ?_)
      replace hq : Heap.ExtBut i1 g0 q := hq
      exact hE q tk0 e (fun c o cz cT c1 c2 x => hq _ _ c1 (hs0.extBut _ _ cz x)) he
end

section
variable {prog : Program} {w : World} {A : Around} {E : Value → Shared → Prop} {s : Shared} {e z TI TO i1 i2 : Addr} {fp1 fp2 : List Addr} {n1 n2 i : Nat} {k : Int} {P1 P2 : Nat → Value → Prop} {St1 St2 : Nat → Heap → Prop} {old : Value}
theorem enumZ_item {Q : Option Value → Shared → Prop} (S : ZipSep2 z TI TO i1 i2 fp1 fp2) (D1 : Draws prog w A.in1.in1 i1 fp1 n1 P1 St1) (D2 : Draws prog w A.in1.in1 i2 fp2 n2 P2 St2) (he : IsEnum s.heap e z k old) (ez : e ≠ z) (eT : e ≠ TO) (e1 : e ≠ i1) (e2 : e ≠ i2)
    (hz : ZipAt s.heap z TI TO) (hTI : IsTupOf2 s.heap TI (.ref i1) (.ref i2)) (hTO : ∃ a b, IsTupOf2 s.heap TO a b) (st1 : St1 i s.heap) (st2 : St2 i s.heap) (l1 : i < n1) (l2 : i < n2)
    (hQ : ∀ x y h1 h' tk, P1 i x → P2 i y → ZipAt h1 z TI TO → (∃ a b, IsTupOf2 h1 TO a b) → St1 (i + 1) h1 → St2 (i + 1) h1 → IsTupOf2 h1 s.heap.objs.size x y → h1.objs.size = s.heap.objs.size + 1 →
      (∀ c o, c ≠ z → c ≠ TO → c ≠ i1 → c ≠ i2 → s.heap.get? c = some o → h1.get? c = some o) →
      IsEnumOut h' e z (k + 1) (.ref s.heap.objs.size) h1.objs.size → h'.get? h1.objs.size = some { cls := .type "tuple", data := .seq #[.int k tk, .ref s.heap.objs.size] } → (∀ c o, c ≠ e → h1.get? c = some o → h'.get? c = some o) →
      Q (some (.ref h1.objs.size)) { s with heap := h', toks := tk + 1 }) : wpAny (model prog w) A (pyNext (.ref e)) Q E s := by
  have ty : s.TypeIs (.ref e) "enumerate" := ⟨_, he, rfl⟩
  obtain ⟨hp, gn, dr, tk0, os⟩ := s
  have tz : (⟨hp, gn, dr, tk0, os⟩ : Shared).TypeIs (.ref z) "zip" := let ⟨_, _, _, q⟩ := hz; ⟨_, q, rfl⟩
  unfold pyNext
  refine wpAny_bind (wpAny_attempt (wpAny_callSpecial?_slot (name := Str.ofString "__next__") ty F.slot_enumerate_next (wpAny_call_entry F.slot_enumerate_next ty F.entry_enumerate_next ?_ (F.args_enumerate_next_1 _))))
  show wpAny _ _ (field (.ref e) 2 >>= _) _ _ _
  refine wpAny_bind (wpAny_field he rfl (x := .ref z) rfl ?_)
  refine wpAny_bind ?_
  unfold Builtin.SmallTypes.nextOf
  refine wpAny_bind (wpAny_callSpecial?_slot (name := Str.ofString "__next__") tz F.slot_zip_next (wpAny_call_entry F.slot_zip_next tz F.entry_zip_next ?_ (F.args_zip_next_1 _)))
  refine zip_any S D1 D2 hz hTI hTO st1 st2 l1 l2 fun x y h1 tk hx hy z1 t1 s1 s2 p1 sz1 k1 => wpAny_pure ?_
  replace k1 : ∀ c o, c ≠ z → c ≠ TO → c ≠ i1 → c ≠ i2 → hp.get? c = some o → h1.get? c = some o := k1
  have he1 : IsEnum h1 e z k old := k1 _ _ ez eT e1 e2 he
  show wpAny _ _ (field (.ref e) 3 >>= _) _ _ ⟨h1, gn, dr, tk, os⟩
  refine wpAny_bind (wpAny_field he1 rfl (x := rawInt k) rfl ?_)
  show wpAny _ _ (field (.ref e) 4 >>= _) _ _ ⟨h1, gn, dr, tk, os⟩
  refine wpAny_bind (wpAny_field he1 rfl (x := .none) rfl ?_)
  show wpAny _ _ (mkInt k >>= _) _ _ ⟨h1, gn, dr, tk, os⟩
  refine wpAny_bind (wpAny_mkInt ?_)
  show wpAny _ _ (setField (.ref e) 3 (rawInt (k + 1)) >>= _) _ _ ⟨h1, gn, dr, tk + 1, os⟩
  refine wpAny_bind (wpAny_setField_rec he1 (by simp) fun h2 he2 b2 => ?_)
  replace b2 : Heap.SameBut e h1 h2 := b2
  replace he2 : IsEnum h2 e z (k + 1) old := he2
  show wpAny _ _ (setField (.ref e) 4 .none >>= _) _ _ ⟨h2, gn, dr, tk + 1, os⟩
  refine wpAny_bind (wpAny_setField_rec he2 (by simp) fun h3 he3 b3 => ?_)
  replace b3 : Heap.SameBut e h2 h3 := b3
  replace he3 : IsEnum h3 e z (k + 1) old := he3
  show wpAny _ _ (newTuple [.int k tk, .ref hp.objs.size] >>= _) _ _ ⟨h3, gn, dr, tk + 1, os⟩
  refine wpAny_bind (wpAny_newTuple ?_)
  have sz3 : h3.objs.size = h1.objs.size := by rw [b3.1, b2.1]
  have elt : e < h1.objs.size := Heap.lt_size he1
  have he4 : IsEnum (h3.push { cls := .type "tuple", data := .seq #[.int k tk, .ref hp.objs.size] }) e z (k + 1) old := Heap.get?_push_of_some _ he3
  have t4 : (h3.push { cls := .type "tuple", data := .seq #[.int k tk, .ref hp.objs.size] }).get? h1.objs.size = some { cls := .type "tuple", data := .seq #[.int k tk, .ref hp.objs.size] } := by rw [← sz3]; exact Heap.get?_push_size _ rfl
  have k4 : ∀ c o, c ≠ e → h1.get? c = some o → (h3.push { cls := .type "tuple", data := .seq #[.int k tk, .ref hp.objs.size] }).get? c = some o := fun c o ce q => Heap.get?_push_of_some _ (b3.extBut _ _ ce (b2.extBut _ _ ce q))
  generalize h3.push { cls := .type "tuple", data := .seq #[.int k tk, .ref hp.objs.size] } = h4 at he4 t4 k4
  show wpAny _ _ (Builtin.SmallTypes.ownedTupleIsFree (.ref e) >>= _) _ _ ⟨h4, gn, dr, tk + 1, os⟩
  rw [sz3]
  refine wpAny_bind ?_
  unfold Builtin.SmallTypes.ownedTupleIsFree
  refine wpAny_bind (wpAny_field he4 rfl (x := .none) rfl (wpAny_pure ?_))
  simp only [if_true]
  refine wpAny_bind (wpAny_rule (wpAny_bind (wpAny_field he4 rfl (x := old) rfl ?_)))
  refine wpAny_bind (wpAny_setField_rec he4 (by simp) fun h5 he5 b5 => ?_)
  replace b5 : Heap.SameBut e h4 h5 := b5
  replace he5 : IsEnum h5 e z (k + 1) (.ref hp.objs.size) := he5
  show wpAny _ _ (Builtin.SmallTypes.ownedTupleHandOut (.ref e) (.ref h1.objs.size) >>= _) _ _ ⟨h5, gn, dr, tk + 1, os⟩
  refine wpAny_bind ?_
  unfold Builtin.SmallTypes.ownedTupleHandOut
  refine wpAny_bind (wpAny_setField_rec he5 (by simp) fun h6 he6 b6 => ?_)
  replace b6 : Heap.SameBut e h5 h6 := b6
  replace he6 : IsEnumOut h6 e z (k + 1) (.ref hp.objs.size) h1.objs.size := he6
  refine wpAny_setField_rec he6 (by simp) fun h7 he7 b7 => ?_
  replace b7 : Heap.SameBut e h6 h7 := b7
  replace he7 : IsEnumOut h7 e z (k + 1) (.ref hp.objs.size) h1.objs.size := he7
  have up : ∀ c o, c ≠ e → h4.get? c = some o → h7.get? c = some o := fun c o ce q => b7.extBut _ _ ce (b6.extBut _ _ ce (b5.extBut _ _ ce q))
  exact wpAny_bind (wpAny_letGo (wpAny_pure ⟨_, rfl, wpAny_pure (hQ x y h1 h7 tk hx hy z1 t1 s1 s2 p1 sz1 k1 he7 (up _ _ (Nat.ne_of_gt elt) t4) fun c o ce q => up c o ce (k4 c o ce q))⟩))
theorem enumZ_end {Q : Option Value → Shared → Prop} (S : ZipSep2 z TI TO i1 i2 fp1 fp2) (D1 : Draws prog w A.in1.in1 i1 fp1 n1 P1 St1) (D2 : Draws prog w A.in1.in1 i2 fp2 n2 P2 St2) (he : IsEnum s.heap e z k old)
    (hz : ZipAt s.heap z TI TO) (hTI : IsTupOf2 s.heap TI (.ref i1) (.ref i2)) (hTO : ∃ a b, IsTupOf2 s.heap TO a b) (st1 : St1 i s.heap) (st2 : St2 i s.heap) (l1 : i ≤ n1) (l2 : i ≤ n2) (hend : i = n1 ∨ i = n2)
    (hQ : ∀ h' tk, (∀ c o, c ≠ z → c ≠ TO → c ≠ i1 → c ≠ i2 → s.heap.get? c = some o → h'.get? c = some o) → Q none { s with heap := h', toks := tk }) : wpAny (model prog w) A (pyNext (.ref e)) Q E s := by
  have ty : s.TypeIs (.ref e) "enumerate" := ⟨_, he, rfl⟩
  have tz : s.TypeIs (.ref z) "zip" := let ⟨_, _, _, q⟩ := hz; ⟨_, q, rfl⟩
  unfold pyNext
  refine wpAny_bind (wpAny_attempt (wpAny_callSpecial?_slot (name := Str.ofString "__next__") ty F.slot_enumerate_next (wpAny_call_entry F.slot_enumerate_next ty F.entry_enumerate_next ?_ (F.args_enumerate_next_1 _))))
  show wpAny _ _ (field (.ref e) 2 >>= _) _ _ _
  refine wpAny_bind (wpAny_field he rfl (x := .ref z) rfl ?_)
  refine wpAny_bind ?_
  unfold Builtin.SmallTypes.nextOf
  refine wpAny_bind (wpAny_callSpecial?_slot (name := Str.ofString "__next__") tz F.slot_zip_next (wpAny_call_entry F.slot_zip_next tz F.entry_zip_next ?_ (F.args_zip_next_1 _)))
  refine zip_any_end S D1 D2 hz hTI hTO st1 st2 l1 l2 hend fun h1 tk x k1 hx => ?_
  obtain ⟨o, ho, hc⟩ := hx
  refine wpAny_bind (wpAny_isInstance (T := "StopIteration") (b := true) ⟨o, ho, hc⟩ isSubtype_stop ?_)
  exact wpAny_pure (hQ _ _ k1)
end
/-- two tuples, walked side by side with their place -/
def ItEZ (K : PySem.W.Frag) (a b : Addr) : It :=
  ⟨fun i H => ∃ (xs ys : List V) (x y : V), SqT K H a xs ∧ SqT K H b ys ∧ xs[i]? = some x ∧ ys[i]? = some y,
    fun i H v H' => ∃ T U x y, v = .ref U ∧ H T = none ∧ upd H T (.tup [x, y]) U = none ∧ H' = upd (upd H T (.tup [x, y])) U (.tup [.int (i : Nat), .ref T]) ∧ (∀ xs, SqT K H a xs → xs[i]? = some x) ∧ ∀ ys, SqT K H b ys → ys[i]? = some y,
    fun i H => ∃ xs ys : List V, SqT K H a xs ∧ SqT K H b ys ∧ i = min xs.length ys.length⟩
theorem turn_enumZ {P : Program} {w : World} {K : PySem.W.Frag} {elts : List Expr} {kk : Nat} {tpos : Pos} {a b e z TI TO i1 i2 : Addr} (S : ZipSep2 z TI TO i1 i2 [i1, a] [i2, b]) (ez : e ≠ z) (eI : e ≠ TI) (eT : e ≠ TO) (e1 : e ≠ i1) (e2 : e ≠ i2) (ea : e ≠ a) (eb : e ≠ b) (h1a : a ≠ i1) (h2b : b ≠ i2) :
    Turn P w K (.Tuple elts kk tpos) (ItEZ K a b) [e, z, TI, TO, i1, i2] e (fun i h => (∃ old, IsEnum h e z ((i : Nat) : Int) old) ∧ ZipAt h z TI TO ∧ IsTupOf2 h TI (.ref i1) (.ref i2) ∧ (∃ x y, IsTupOf2 h TO x y) ∧ h.IsTupleIter i1 a i ∧ h.IsTupleIter i2 b i) := by
  have hmem : ∀ {c : Addr}, c ∈ [e, z, TI, TO, i1, i2] → c = e ∨ c = z ∨ c = TI ∨ c = TO ∨ c = i1 ∨ c = i2 := fun h => by simpa using h
  refine ⟨by simp, ?_, ?_, ?_, ?_, ?_⟩
  · rintro i h ⟨⟨old, q⟩, ⟨ow, f, _, qz⟩, qI, ⟨x, y, qO⟩, ⟨o1, g1, _, d1⟩, ⟨o2, g2, _, d2⟩⟩ c hc
    rcases hmem hc with r | r | r | r | r | r <;> rw [r]
    · exact ⟨_, q, fun v u => nomatch u⟩
    · exact ⟨_, qz, fun v u => nomatch u⟩
    · exact ⟨_, qI, fun v u => nomatch u⟩
    · exact ⟨_, qO, fun v u => nomatch u⟩
    · exact ⟨o1, g1, fun v u => by rw [d1] at u; cases u⟩
    · exact ⟨o2, g2, fun v u => by rw [d2] at u; cases u⟩
  · rintro i h h' ⟨⟨old, q⟩, ⟨ow, f, hw, qz⟩, qI, ⟨x, y, qO⟩, q1, q2⟩ k
    exact ⟨⟨old, k e (by simp) _ q⟩, ⟨ow, f, hw, k z (by simp) _ qz⟩, k TI (by simp) _ qI, ⟨x, y, k TO (by simp) _ qO⟩, q1.at fun o u => k i1 (by simp) o u, q2.at fun o u => k i2 (by simp) o u⟩
  · intro X hP hw hK hc i pins s σ H E I hf st hg
    subst hP hw hK
    obtain ⟨⟨old, q⟩, qz, qI, qO, q1, q2⟩ := st
    obtain ⟨xs, ys, x, y, hqx, hqy, hx, hy⟩ := hg
    obtain ⟨its, rv, p, _⟩ := I.tuple hqx
    obtain ⟨its2, rv2, p2, _⟩ := I.tuple hqy
    obtain ⟨u, hu, ru⟩ := rv.get hx
    obtain ⟨u2, hu2, ru2⟩ := rv2.get hy
    have lt1 := (List.getElem?_eq_some_iff.mp hu).1
    have lt2 := (List.getElem?_eq_some_iff.mp hu2).1
    have zlt : z < s.heap.objs.size := let ⟨_, _, _, r⟩ := qz; Heap.lt_size r
    have elt : e < s.heap.objs.size := Heap.lt_size q
    have d1 := Draws.tuple (prog := X.prog) (w := X.w) (A := X.A.in1.in1) (I.ok.hd hc) i1 a h1a its.toArray
    have d2 := Draws.tuple (prog := X.prog) (w := X.w) (A := X.A.in1.in1) (I.ok.hd hc) i2 b h2b its2.toArray
    refine enumZ_item S d1 d2 q ez eT e1 e2 qz qI qO ⟨q1, p⟩ ⟨q2, p2⟩ (by simpa using lt1) (by simpa using lt2) fun v v2 h1 h' tk hv hv2 z1 t1 s1 s2 pr sz1 k1 o1 pU k2 => ?_
    have ev : v = u := by
      have r : its.toArray[i]? = some v := hv
      simp at r
      rw [hu] at r; cases r; rfl
    have ev2 : v2 = u2 := by
      have r : its2.toArray[i]? = some v2 := hv2
      simp at r
      rw [hu2] at r; cases r; rfl
    subst ev ev2
    refine ⟨_, rfl, wpAny_letOwnedTupleGo_enum (s := { s with heap := h', toks := tk + 1 }) o1 fun h2 o2 sb => ?_⟩
    have nw1 : ObjOk X.prog X.w (upd H s.heap.objs.size (.tup [x, y])) h1 s.heap.objs.size (.tup [x, y]) := ⟨(show 2 ≤ sizeLine by decide), [v, v2], .cons ru (.cons ru2 .nil), ⟨_, pr, rfl, _, rfl⟩⟩
    have I1 := I.turnedNew (t' := tk) (h' := h1) (ch := [e, z, TI, TO, i1, i2]) (fun c o hb r => k1 c o (fun t => hb (by simp [t])) (fun t => hb (by simp [t])) (fun t => hb (by simp [t])) (fun t => hb (by simp [t])) r) hf (Nat.le_refl _) nw1
    have hlt : ∀ c ∈ [e, z, TI, TO, i1, i2], c < s.heap.objs.size := fun c hc => by
      rcases hmem hc with r | r | r | r | r | r <;> rw [r]
      · exact elt
      · exact zlt
      · exact Heap.lt_size qI
      · obtain ⟨_, _, qO⟩ := qO; exact Heap.lt_size qO
      · obtain ⟨_, r, _⟩ := q1; exact Heap.lt_size r
      · obtain ⟨_, r, _⟩ := q2; exact Heap.lt_size r
    have hT2 := (sb.2 _ (Nat.ne_of_gt (Nat.lt_of_lt_of_le elt (by rw [sz1]; exact Nat.le_succ _)))).trans pU
    have nw2 : ObjOk X.prog X.w (upd (upd H s.heap.objs.size (.tup [x, y])) h1.objs.size (.tup [.int (i : Nat), .ref s.heap.objs.size])) h2 h1.objs.size (.tup [.int (i : Nat), .ref s.heap.objs.size]) :=
      ⟨(show 2 ≤ sizeLine by decide), [.int i tk, .ref s.heap.objs.size], .cons ⟨_, rfl⟩ (.cons rfl .nil), ⟨_, hT2, rfl, _, rfl⟩⟩
    have hf1 : ∀ c ∈ [e], FpOk X pins (upd H s.heap.objs.size (.tup [x, y])) c := fun c hc => by
      cases List.mem_singleton.mp hc
      exact ⟨by rw [upd_ne (Nat.ne_of_lt elt)]; exact (hf e (by simp)).1, (hf e (by simp)).2⟩
    have I2 := I1.turnedNew (t' := tk + 1) (h' := h2) (ch := [e]) (fun c o hb r => (sb.2 c (fun t => hb (by simp [t]))).trans (k2 c o (fun t => hb (by simp [t])) r)) hf1 (Nat.le_refl _) nw2
    have up : ∀ c o, c ≠ e → h1.get? c = some o → h2.get? c = some o := fun c o ce r => (sb.2 c ce).trans (k2 c o ce r)
    refine ⟨.ref h1.objs.size, _, I2, (show RelV (.ref h1.objs.size) (.ref h1.objs.size) from rfl), ⟨_, _, x, y, rfl, I.hok.fresh (Nat.le_refl _), I1.hok.fresh (Nat.le_refl _), rfl, fun l hl => by rw [I.tuple_inj hl hqx]; exact hx, fun l hl => by rw [I.tuple_inj hl hqy]; exact hy⟩, ?_, fun c hc => ?_⟩
    · obtain ⟨ow, f, hw, z1⟩ := z1
      obtain ⟨r1, r2, t1⟩ := t1
      refine ⟨⟨.ref s.heap.objs.size, ?_⟩, ⟨ow, f, hw, up _ _ (Ne.symm ez) z1⟩, up _ _ (Ne.symm eI) (k1 _ _ S.TIz S.TITO S.TIi1 S.TIi2 qI), ⟨r1, r2, up _ _ (Ne.symm eT) t1⟩, s1.1.at fun o r => up _ o (Ne.symm e1) r, s2.1.at fun o r => up _ o (Ne.symm e2) r⟩
      rw [show ((i + 1 : Nat) : Int) = (i : Int) + 1 by omega]
      exact o2
    · have l := hlt c hc
      have l2 : c < h1.objs.size := by rw [sz1]; exact Nat.lt_succ_of_lt l
      rw [upd_ne (Nat.ne_of_lt l2), upd_ne (Nat.ne_of_lt l)]
      exact (hf c hc).1
  · intro X hP hw hK hc i pins s σ H E I hf st hg
    subst hP hw hK
    obtain ⟨⟨old, q⟩, qz, qI, qO, q1, q2⟩ := st
    obtain ⟨xs, ys, hqx, hqy, hi⟩ := hg
    obtain ⟨its, rv, p, _⟩ := I.tuple hqx
    obtain ⟨its2, rv2, p2, _⟩ := I.tuple hqy
    have l1 := rv.length
    have l2 := rv2.length
    have d1 := Draws.tuple (prog := X.prog) (w := X.w) (A := X.A.in1.in1) (I.ok.hd hc) i1 a h1a its.toArray
    have d2 := Draws.tuple (prog := X.prog) (w := X.w) (A := X.A.in1.in1) (I.ok.hd hc) i2 b h2b its2.toArray
    refine enumZ_end S d1 d2 q qz qI qO ⟨q1, p⟩ ⟨q2, p2⟩ (by simp; omega) (by simp; omega) (by simp; omega) fun h' tk k => ⟨rfl, I.turnedL (t' := tk) (ch := [e, z, TI, TO, i1, i2]) (fun c o hb r => k c o (fun t => hb (by simp [t])) (fun t => hb (by simp [t])) (fun t => hb (by simp [t])) (fun t => hb (by simp [t])) r) hf⟩
  · rintro A i s Q E ⟨⟨old, q⟩, _⟩ h
    exact wpAny_pyIter_enum q h
def iEnumZ (K : PySem.W.Frag) (ta : TA) : TI := fun σ H R => ta σ H fun vs H1 => ∃ a b xs ys, vs = [.ref a, .ref b] ∧ SqT K H1 a xs ∧ SqT K H1 b ys ∧ R (ItEZ K a b) H1
theorem pi_enumZ {X : Cx} {x y : Expr} {ta : TA} {p p2 pos2 pos tpos : Pos} {elts : List Expr} {kk : Nat} (hg : Gl X "enumerate") (hm : X.mg "enumerate" = none) (hg2 : Gl X "zip") (hm2 : X.mg "zip" = none) (ha : PA X [x, y] ta)
    (hs : starEach [.Call (.Name "zip" p2) [x, y] [] pos2] X.env = [(false, eval (.Call (.Name "zip" p2) [x, y] [] pos2) X.env)]) (hs2 : starEach [x, y] X.env = (false, eval x X.env) :: starEach [y] X.env) (hpl : (backTo pos2 (starEach [y] X.env)).any (·.1) = false) :
    PI X (.Tuple elts kk tpos) (.Call (.Name "enumerate" p) [.Call (.Name "zip" p2) [x, y] [] pos2] [] pos) (iEnumZ X.K ta) := by
  constructor
  intro pins s σ H R I h
  refine PyProof.Rows.Call_ (ld_blt I hg hm PyProof.Rows.boot_enumerate (PyProof.Rows.callWith_type1 ?_ hs rfl))
  rw [hs]
  show wpAny _ _ (spliced ((false, eval (.Call (.Name "zip" p2) [x, y] [] pos2) X.env) :: [])) _ _ s
  refine Calls.spliced_cons ?_
  refine PyProof.Rows.Call_ (ld_blt I hg2 hm2 PyProof.Rows.boot_zip (PyProof.Rows.callWith_type1 (thn (ha.run pos2 pins s σ H _ I h) fun us s1 q0 => ?_) hs2 hpl))
  obtain ⟨vs, H1, I1, r1, a, b, xs, ys, ex, hqx, hqy, q⟩ := q0
  subst ex
  cases r1 with
  | cons r rr =>
    cases rr with
    | cons r' rr =>
      cases rr
      cases r
      cases r'
      obtain ⟨its, rv, p1, _⟩ := I1.tuple hqx
      obtain ⟨its2, rv2, p2, _⟩ := I1.tuple hqy
      have pa : s1.heap.IsTuple a its.toArray := p1
      have pb : s1.heap.IsTuple b its2.toArray := p2
      have la : a < s1.heap.objs.size := let ⟨_, t, _⟩ := pa; Heap.lt_size t
      have lb : b < s1.heap.objs.size := let ⟨_, t, _⟩ := pb; Heap.lt_size t
      refine RZ.call_zipT pa pb fun h1 hz hTI hTO hi1 hi2 sz k1 => Calls.spliced_nil ?_
      refine call_enum1 (ia := fun _ => s1.heap.objs.size + 4) (mk := fun h => h) (Hh := fun h => h = h1) (fun _ _ _ _ t _ ht hq => wpAny_pyIter_zip (by rw [ht]; exact hz) hq) rfl fun h2 he k2 => wpAny_pyIter_enum he ?_
      generalize hN : s1.heap.objs.size = N at *
      have sz' : h1.objs.size = N + 5 := sz
      simp only [sz'] at he ⊢
      have I2 : Inv X pins σ H1 { s1 with heap := h2 } := I1.kept (t' := s1.toks) fun c o t => k2 _ _ (k1 _ _ t)
      have nn : ∀ (m : Nat) (c : Addr), c < N → N + m ≠ c := fun m c hc t => by
        have : N + m < N := by rw [t]; exact hc
        omega
      have aN : a ≠ N := Nat.ne_of_lt la
      have bN : b ≠ N + 1 := Ne.symm (nn 1 b lb)
      refine ⟨N + 5, [N + 5, N + 4, N + 2, N + 3, N, N + 1], _, _, H1, rfl, I2, turn_enumZ (a := a) (b := b) ?_ (by simp) (by simp) (by simp) (by simp) (by simp) (nn 5 a la) (nn 5 b lb) aN bN, ⟨⟨.none, he⟩, ⟨_, _, .inl rfl, k2 _ _ hz⟩, k2 _ _ hTI, ⟨_, _, k2 _ _ hTO⟩, hi1.at fun o t => k2 _ o t, hi2.at fun o t => k2 _ o t⟩, fun c hc => ?_, q⟩
      · have n1 := nn 1
        have n3 := nn 3
        have n4 := nn 4
        exact ⟨by simp, by simp, by simp, by simp, by simp, by simp [n4 a la], by simp [n3 a la], by simp, by simp, by simp [n4 b lb], by simp [n3 b lb], by simp [Ne.symm (Nat.ne_of_lt lb)], by simp [n1 a la]⟩
      · have hle : s1.heap.objs.size ≤ c := by
          rw [hN]
          have : c = N + 5 ∨ c = N + 4 ∨ c = N + 2 ∨ c = N + 3 ∨ c = N ∨ c = N + 1 := by simpa using hc
          rcases this with t | t | t | t | t | t <;> rw [t] <;> first | exact Nat.le_refl _ | exact Nat.le_add_right _ _
        exact I1.fpOk hle (I1.hok.fresh hle)

section
variable {g : Gb} {F : Fam g} {pos : Pos}
def ezD (xs ys : List D) : List D := enumD 0 (zipD xs ys)
theorem yl_enumZ {G0 H0 : Hp} {as0 : List Addr} {a b : Addr} {vs ws : List V} {xs ys : List D} (s : SqT g.K G0 a vs) (s2 : SqT g.K G0 b ws) (r : RpA g.K g.mg G0 as0 vs xs) (r2 : RpA g.K g.mg G0 as0 ws ys) : Yl g G0 H0 as0 none (ezD xs ys) (ItEZ g.K a b) where
  go := fun i G H as st hi R hs hp hl _ => by
    have hl : i < xs.length ∧ i < ys.length := by simp [ezD, enumD_len, zipD] at hi; omega
    have hv : i < vs.length := by rw [r.len]; exact hl.1
    have hw : i < ws.length := by rw [r2.len]; exact hl.2
    exact ⟨vs, ws, vs[i], ws[i], sqT_H R (sqT_sub hs s), sqT_H R (sqT_sub hs s2), List.getElem?_eq_getElem hv, List.getElem?_eq_getElem hw⟩
  stop := fun G H as st R hs hp hl _ => ⟨vs, ws, sqT_H R (sqT_sub hs s), sqT_H R (sqT_sub hs s2), by rw [r.len, r2.len]; simp [ezD, enumD_len, zipD]⟩
  yld := fun i G H as st v H' x R hs hp hl _ hx y => by
    obtain ⟨T, U, u, w, rfl, hT, hU, rfl, y1, y2⟩ := y
    unfold ezD at hx
    rw [enumD_get] at hx
    obtain ⟨d, hd, rfl⟩ := Option.map_eq_some_iff.mp hx
    obtain ⟨x0, x1, h0, h1, rfl⟩ := zipD_get _ _ _ hd
    obtain ⟨u', e1, ru⟩ := r.get h0
    obtain ⟨w', e2, rw'⟩ := r2.get h1
    have e3 := y1 vs (sqT_H R (sqT_sub hs s))
    have e4 := y2 ws (sqT_H R (sqT_sub hs s2))
    rw [e1] at e3; cases e3
    rw [e2] at e4; cases e4
    obtain ⟨R1, X1⟩ := R.still (o := .tup [u, w]) hT
    obtain ⟨R2, X2⟩ := R1.still (o := .tup [.int (i : Nat), .ref T]) hU
    have rT : Rp g.K g.mg (upd G T (.tup [u, w])) as (.ref T) (.tup [x0, x1]) := .tup (.of upd_same) (.cons ((ru.mono hs hp).ext X1) (.cons ((rw'.mono hs hp).ext X1) .nil))
    refine ⟨_, R2, X1.trans X2, .tup (.of upd_same) (.cons ?_ (.cons (rT.ext X2) .nil))⟩
    rw [show ((0 + i : Nat) : Int) = (i : Int) by simp]
    exact .int _
def zipTT : D → D → Option (List D × List D)
  | .tup xs, .tup ys => some (xs, ys)
  | _, _ => none
def xenumZ (ma mb : XM D) : XM (List D × Option Nat) := xbind ma fun x => xbind mb fun y => fun _ st => match zipTT x y with
  | some (xs, ys) => .ok (ezD xs ys, none) st
  | none => .stuck
theorem ji_enumZ {elts : List Expr} {kk : Nat} {tpos p p2 pos2 : Pos} {ea eb : Expr} {ma mb : XM D} (hg : F.sc.names.lookup ("enumerate" : Str) = some .globalImplicit) (hm : g.mg "enumerate" = none) (hg2 : F.sc.names.lookup ("zip" : Str) = some .globalImplicit) (hm2 : g.mg "zip" = none) (ha : JE F ea ma) (hb : JE F eb mb)
    (hs : ∀ env, starEach [ea, eb] env = [(false, eval ea env), (false, eval eb env)] := by intro _; rfl) (hs2 : ∀ env, starEach [eb] env = [(false, eval eb env)] := by intro _; rfl)
    (hs3 : ∀ env, starEach [.Call (.Name "zip" p2) [ea, eb] [] pos2] env = [(false, eval (.Call (.Name "zip" p2) [ea, eb] [] pos2) env)] := by intro _; rfl) :
    JI F (.Tuple elts kk tpos) (.Call (.Name "enumerate" p) [.Call (.Name "zip" p2) [ea, eb] [] pos2] [] pos) (xenumZ ma mb) := by
  obtain ⟨t, p', s⟩ := ha
  obtain ⟨t2, p2', s2⟩ := hb
  refine ⟨fun W => iEnumZ g.K (tCons (t W) (tCons (t2 W) tNil)), fun W X m => by
    have := pi_enumZ (elts := elts) (kk := kk) (tpos := tpos) (p := p) (p2 := p2) (pos2 := pos2) (pos := pos) (X := X) (by show X.env.scope.names.lookup _ = _; rw [F.hsc m]; exact hg) (by rw [F.hmg m]; exact hm) (by show X.env.scope.names.lookup _ = _; rw [F.hsc m]; exact hg2) (by rw [F.hmg m]; exact hm2) (pa_cons (p' W X m) (pa_cons (p2' W X m) pa_nil (hs2 _)) (by rw [hs, hs2])) (hs3 _) (by rw [hs, hs2]) (by rw [hs2]; rfl)
    rw [F.hK m] at this; exact this, ?_⟩
  intro W G H as st σ e R' R N h
  refine s W G H as st σ e _ R N ?_
  unfold xenumZ xbind at h
  cases q : ma e st with
  | stuck => rw [q] at h; exact h
  | exc c p st1 => rw [q] at h; exact h
  | ok x st1 =>
    simp only [q] at h
    intro v G1 H1 as1 R1 X1 rv
    refine s2 W G1 H1 as1 st1 σ e _ R1 (N.ext X1) ?_
    cases q2 : mb e st1 with
    | stuck => simp only [q2] at h; exact h
    | exc c p st2 =>
      simp only [q2] at h
      exact fun cls d G2 H2 as2 R2 X2 x2 => h cls d G2 H2 as2 R2 (X1.trans X2) x2
    | ok y st2 =>
      simp only [q2] at h
      intro w G2 H2 as2 R2 X2 rw'
      cases x with
      | tup xs =>
        cases y with
        | tup ys =>
          cases rv.ext X2 with
          | tup s1 r1 => cases rw' with
            | tup s2 r2 => exact ⟨_, _, _, _, rfl, sqT_H R2 s1, sqT_H R2 s2, h.2 _ G2 H2 as2 R2 (X1.trans X2) (yl_enumZ s1 s2 r1 r2)⟩
        | _ => exact h.elim
      | _ => exact h.elim
end
end LS
end
section
set_option maxRecDepth 100000
set_option maxHeartbeats 2000000
namespace LS
open PySem PySem.Spec L2
section
variable {g : Gb} {F : Fam g} {pos : Pos}
/-- a, b, c = x, y, z -/
def spar3 (i j l : Nat) (ma mb mc : XM D) : SM := sbind ma fun x => sbind mb fun y => sbind mc fun z => fun e st => .nx (((e.set i (some x)).set j (some y)).set l (some z)) st
theorem js_par3 (i j l : Nat) {x y z : Str} {a b c : Expr} {ma mb mc : XM D} {px py pz pt : Pos} {kt k2 pt2} (hi : F.N[i]? = some x) (hj : F.N[j]? = some y) (hl : F.N[l]? = some z) (hij : i ≠ j) (hil : i ≠ l) (hjl : j ≠ l) (hx : F.sc.names.lookup x = some .local) (hy : F.sc.names.lookup y = some .local) (hz : F.sc.names.lookup z = some .local)
    (ha : JE F a ma) (hb : JE F b mb) (hc : JE F c mc) (hw : ∀ W X, F.mem W X → swappedStores [.Tuple [.Name x px, .Name y py, .Name z pz] kt pt] (.Tuple [a, b, c] k2 pt2) X.env = pure (some [x, y, z]))
    (he : ∀ env, starEach [a, b, c] env = (false, eval a env) :: starEach [b, c] env := by intro _; rfl) (he2 : ∀ env, starEach [b, c] env = (false, eval b env) :: starEach [c] env := by intro _; rfl) (he3 : ∀ env, starEach [c] env = (false, eval c env) :: starEach [] env := by intro _; rfl)
    (hs : ∀ env, swapsWithSole [.Tuple [.Name x px, .Name y py, .Name z pz] kt pt] (.Tuple [a, b, c] k2 pt2) pos.line env = pure false := by intro _; rfl) :
    JS F (.Assign [.Tuple [.Name x px, .Name y py, .Name z pz] kt pt] (.Tuple [a, b, c] k2 pt2) pos) (spar3 i j l ma mb mc) := by
  obtain ⟨ta, pa, sa⟩ := ha
  obtain ⟨tb, pb, sb⟩ := hb
  obtain ⟨tc, pc, sc⟩ := hc
  refine ⟨fun W => tPar3 i j l (tCons (ta W) (tCons (tb W) (tCons (tc W) tNil))), fun W X m => ps_par3 (F.calm m) (by rw [F.hN m]; exact F.nd) (by rw [F.hN m]; exact hi) (by rw [F.hN m]; exact hj) (by rw [F.hN m]; exact hl) hij hil hjl (by rw [F.hsc m]; exact hx) (by rw [F.hsc m]; exact hy) (by rw [F.hsc m]; exact hz)
    (pa_cons (pa W X m) (pa_cons (pb W X m) (pa_cons (pc W X m) pa_nil (he3 _)) (he2 _)) (he _)) (hw W X m) (hs _), ?_⟩
  intro W G H as st σ e E R N h
  refine sa.oneS R N h fun x st1 v G1 H1 as1 R1 X1 N1 rv h1 => ?_
  refine sb.oneS R1 N1 h1 fun y st2 w G2 H2 as2 R2 X2 N2 rw' h2 => ?_
  refine sc.oneS R2 N2 h2 fun z st3 u G3 H3 as3 R3 X3 N3 ru h3 => ?_
  exact ⟨v, w, u, rfl, h3 _ G3 H3 as3 R3 (((N3.set i ((rv.ext X2).ext X3)).set j (rw'.ext X3)).set l ru) Ext.refl⟩
/-- a def whose promise is empty (the last turn of a recursion) -/
theorem fn_stuck {g : Gb} {st : Stmt} {x nm : Str} {N ps : List Str} {k : Nat} {f : Addr} {fd : FuncData} (hx : g.mg x = some (.ref f)) (D0 : FunD g.K nm nm (defArgs st) (defBody st) (defScope st) [] [] f fd) (S : FnScope N ps (defScope st))
    (hb : ∀ (kV doc pm : Value) (an : Option Addr) (cdv ct : Value) (us : List Value), us.length = ps.length → bindArgs (PySem.W.fnOf nm nm (defArgs st) (defBody st) (defScope st) .none kV doc pm an cdv ct) ⟨us, []⟩ = pure (ps.zip us)) : Fn g st x nm ps (k + 1) (fun _ _ => .stuck) := by
  refine ⟨f, fd, hx, D0, D0.bindsN hb, ?_⟩
  refine D0.ok S (fun vs H Q E h => ?_) (fun cdv A outer s H vs Q E hr h => ?_)
  · obtain ⟨G, as, st', ds, hl, R, r, q⟩ := h
    exact q.elim
  · obtain ⟨G, as, st', ds, hl, R, r, q⟩ := h
    exact q.elim
theorem outD_hout {g : Gb} : ∀ (G H G1 H1 : Hp) (as as1 : List Addr) (st1 : Store) (n : Nat) (W : WX) (σ : L2.St) (d : D) (v : V) (Q : VK), Ri g.K g.mg G1 H1 as1 st1 → Ext G H as G1 H1 as1 → as.length = n → Rp g.K g.mg G1 as1 v d → PX g.K g.mg W G H as σ (outD n d st1) Q → Q v H1 :=
  fun _ _ _ _ _ _ _ _ _ _ _ _ _ R X hn r h => outD_ok R X hn r h
theorem outM_hout {g : Gb} : ∀ (G H G1 H1 : Hp) (as as1 : List Addr) (st1 : Store) (n : Nat) (W : WX) (σ : L2.St) (d : D) (v : V) (Q : VK), Ri g.K g.mg G1 H1 as1 st1 → Ext G H as G1 H1 as1 → as.length = n → Rp g.K g.mg G1 as1 v d → PX g.K g.mg W G H as σ (outM n d st1) Q → Q v H1 :=
  fun _ _ _ _ _ _ _ _ _ _ _ _ _ R X hn r h => outM_ok R X hn r h
/-- the end of a law: what its def promises, world by world -/
theorem walk_w {l : PySem.W.OpenLaw} {n k : Nat} {q : Program} {loose : List Str} {XP : (Str → Option Value) → Heap → Prop} {YP : World → Heap → Prop} {d : DefRec} {x : Str}
    (hn : l.most = some n) (hn2 : n ≤ sizeLine) (hdf : d.params.defaults = []) (hr : Room k callerA)
    (F : ∀ (w : World) (mg : Str → Option Value) (fa : Addr) (h : Heap), YP w h → h.Ns mainGlobals mg → mg d.name = some (.ref fa) → ∃ (K : PySem.W.Frag) (fd : FuncData) (f : DF), K.In h ∧ (∀ (s : Shared) (u : Value), BindsTo s fd ⟨[u], []⟩ [(x, u)]) ∧
      (∀ ns : List Int, ns.length ≤ n → f [] [.sq (ns.map D.int)] = .ok (.bl true) []) ∧ ∀ base : Heap, K.In base → base.Ns mainGlobals mg → FnOk l.prog w K mg base (L2.CX l.prog w) k fa fd [x] (spS ⟨l.prog, w, K, mg, base⟩ 1 f)) :
    PySem.W.WalkO q loose XP YP l.row.toRowW d [] (fun f vs => PySem.call f vs) := by
  refine Att.attach_call hn hdf ?_
  intro w t0 t1 mg mb fa o pm cd doc a vs ns G Y ho hd hcd hmg hobj hints hlen hg
  obtain ⟨K, fd, f, KX, hb, hsp, hF⟩ := F w mg fa _ Y G.T.g hmg
  refine law_call (CX := L2.CX l.prog w) (sp := spS ⟨l.prog, w, K, mg, t1.heap⟩ 1 f) KX G.T.g G.T.b G.T.builtins G.T.nolimit hg hobj hints (Nat.le_trans hlen hn2) hr (fun base h1 h2 => hF base h1 h2) hb ?_ ?_
  · intro H hO hS
    refine ⟨H, [], [], [.sq (ns.map D.int)], rfl, ⟨fun _ _ h => h, rfl, .nil, fun _ h => (by cases h), fun i a o h => (by simp at h)⟩, .cons (.sq hS (RpA.of_ints ns)) .nil, ?_⟩
    rw [hsp ns hlen]
    intro v G' H' as' _ _ rv
    cases rv; rfl
  · rintro H e s' ⟨_, _, _, _, _, _, _, _, _, _, _, _, z⟩
    exact z
end
end LS
end
section
set_option maxRecDepth 100000
set_option maxHeartbeats 2000000
namespace LS
open PySem PySem.Spec L2

/-! # plain laws about mirrors -/
def iD (ns : List Int) : List D := ns.map D.int
@[simp] theorem iD_nil : iD [] = [] := rfl
@[simp] theorem iD_cons (n : Int) (r : List Int) : iD (n :: r) = .int n :: iD r := rfl
theorem iD_app (a b : List Int) : iD (a ++ b) = iD a ++ iD b := by simp [iD]
@[simp] theorem iD_len (ns : List Int) : (iD ns).length = ns.length := by simp [iD]
@[simp] theorem iD_get (ns : List Int) (i : Nat) : (iD ns)[i]? = ns[i]?.map D.int := by simp [iD]
theorem iD_snoc (a : List Int) (n : Int) : iD a ++ [.int n] = iD (a ++ [n]) := by simp [iD]
@[simp] theorem refsBs_iD (n : Nat) : ∀ ns : List Int, refsBs n (iD ns) = true
  | [] => rfl
  | _ :: r => by simp [refsBs, refsB, refsBs_iD n r]
@[simp] theorem pyDs_iD : ∀ ns : List Int, pyDs (iD ns) = some (ns.map PyData.int)
  | [] => rfl
  | _ :: r => by simp [pyDs, pyD, pyDs_iD r]
theorem intsOf_iD : ∀ ns : List Int, intsOf (iD ns) = some ns
  | [] => rfl
  | _ :: r => by simp [intsOf, intsOf_iD r]
theorem blsOf_bls : ∀ bs : List Bool, blsOf (bs.map D.bl) = some bs
  | [] => rfl
  | _ :: r => by simp [blsOf, blsOf_bls r]
@[simp] theorem eqvAll_int : ∀ a b : List Int, PyData.eqvAll (a.map PyData.int) (b.map PyData.int) = decide (a = b)
  | [], [] => by simp [PyData.eqvAll]
  | [], _ :: _ => by simp [PyData.eqvAll]
  | _ :: _, [] => by simp [PyData.eqvAll]
  | x :: a, y :: b => by
    simp [PyData.eqvAll, PyData.eqv, eqvAll_int a b]
    by_cases h : x = y <;> simp [h]
theorem canLayAll_int : ∀ a : List Int, PyData.canLayAll0 (a.map PyData.int) = true
  | [] => by simp [PyData.canLayAll0]
  | _ :: r => by simp [PyData.canLayAll0, PyData.canLay0, canLayAll_int r]
theorem depthAll_int : ∀ a : List Int, PyData.depthAll (a.map PyData.int) = 0
  | [] => by simp [PyData.depthAll]
  | _ :: r => by simp [PyData.depthAll, PyData.depth, depthAll_int r]
@[simp] theorem shaped_int (i : Int) : SeqAt.shaped (.int i) = true := by simp [SeqAt.shaped, PyData.canLay0, PyData.depth]
@[simp] theorem shaped_bool (i : Bool) : SeqAt.shaped (.bool i) = true := by simp [SeqAt.shaped, PyData.canLay0, PyData.depth]
@[simp] theorem shaped_none : SeqAt.shaped .none = true := by simp [SeqAt.shaped, PyData.canLay0, PyData.depth]
@[simp] theorem shaped_tint (a : List Int) : SeqAt.shaped (.tuple (a.map PyData.int)) = true := by simp [SeqAt.shaped, PyData.canLay0, PyData.depth, canLayAll_int, depthAll_int]
@[simp] theorem shaped_lint (a : List Int) : SeqAt.shaped (.list (a.map PyData.int)) = true := by simp [SeqAt.shaped, PyData.canLay0, PyData.depth, canLayAll_int, depthAll_int]
@[simp] theorem eqO_int (st : Store) (a b : Int) : eqO st (.int a) (.int b) = some (decide (a = b)) := by
  simp [eqO, pyOf, pyD, PyData.eqv]
  by_cases h : a = b <;> simp [h]
@[simp] theorem eqO_bl (st : Store) (a b : Bool) : eqO st (.bl a) (.bl b) = some (a == b) := by simp [eqO, pyOf, pyD, PyData.eqv]
@[simp] theorem eqO_tiD (st : Store) (a b : List Int) : eqO st (.tup (iD a)) (.tup (iD b)) = some (decide (a = b)) := by simp [eqO, pyOf, pyD, PyData.eqv]
@[simp] theorem eqO_lints (st : Store) (a b : List Int) : eqO st (.lst (iD a)) (.lst (iD b)) = some (decide (a = b)) := by simp [eqO, pyOf, pyD, PyData.eqv]
theorem atI_nat {α : Type} (xs : List α) (k : Nat) : atI xs (k : Int) = xs[k]? := by
  unfold atI ixN
  by_cases h : k < xs.length
  · simp [h]
  · simp [h]
theorem atI_nn {α : Type} (xs : List α) {i : Int} (h : 0 ≤ i) : atI xs i = xs[i.toNat]? := by
  have := atI_nat xs i.toNat
  rw [Int.toNat_of_nonneg h] at this
  exact this
theorem atI_last {α : Type} (xs : List α) (x : α) : atI (xs ++ [x]) (-1) = some x := by
  unfold atI ixN
  rw [if_neg (by omega), if_pos (by simp; omega)]
  simp
  have : ((-1 : Int) + ((xs.length : Int) + 1)).toNat = xs.length := by omega
  rw [this]; simp
theorem ixN_nn {n : Nat} {k : Nat} (h : k < n) : ixN n (k : Int) = some k := by
  unfold ixN
  rw [if_pos (by omega), if_pos (by omega)]; simp

mutual
theorem refsB_mono {n k : Nat} (h : n ≤ k) : ∀ {d : D}, refsB n d = true → refsB k d = true
  | .non, _ => rfl
  | .bl _, _ => rfl
  | .int _, _ => rfl
  | .str _, _ => rfl
  | .ty _, _ => rfl
  | .glo _, _ => rfl
  | .tup xs, q => by simpa [refsB] using refsBs_mono h (d := xs) (by simpa [refsB] using q)
  | .lst xs, q => by simpa [refsB] using refsBs_mono h (d := xs) (by simpa [refsB] using q)
  | .sq xs, q => by simpa [refsB] using refsBs_mono h (d := xs) (by simpa [refsB] using q)
  | .ref i, q => by simp [refsB] at q ⊢; omega
theorem refsBs_mono {n k : Nat} (h : n ≤ k) : ∀ {d : List D}, refsBs n d = true → refsBs k d = true
  | [], _ => rfl
  | x :: r, q => by
    have q' : refsB n x = true ∧ refsBs n r = true := by simpa [refsBs] using q
    simp [refsBs, refsB_mono h q'.1, refsBs_mono h q'.2]
end
/-! ## calls -/
mutual
theorem mapR_free {ix : List Nat} {N : Nat} : ∀ {d : D}, refsB 0 d = true → mapR ix N d = d
  | .non, _ => rfl
  | .bl _, _ => rfl
  | .int _, _ => rfl
  | .str _, _ => rfl
  | .ty _, _ => rfl
  | .glo _, _ => rfl
  | .tup xs, h => by rw [mapR, mapRs_free (d := xs) (by simpa [refsB] using h)]
  | .lst xs, h => by rw [mapR, mapRs_free (d := xs) (by simpa [refsB] using h)]
  | .sq xs, h => by rw [mapR, mapRs_free (d := xs) (by simpa [refsB] using h)]
  | .ref i, h => by simp [refsB] at h
theorem mapRs_free {ix : List Nat} {N : Nat} : ∀ {d : List D}, refsBs 0 d = true → mapRs ix N d = d
  | [], _ => rfl
  | x :: r, h => by
    have h' : refsB 0 x = true ∧ refsBs 0 r = true := by simpa [refsBs] using h
    rw [mapRs, mapR_free h'.1, mapRs_free h'.2]
end
theorem argG_free : ∀ {ds : List D}, refsBs 0 ds = true → ds.all argG = true
  | [], _ => rfl
  | x :: r, h => by
    have h' : refsB 0 x = true ∧ refsBs 0 r = true := by simpa [refsBs] using h
    have : argG x = true := by cases x <;> first | exact h'.1 | rfl
    simp [this, argG_free h'.2]
theorem loc_free (ix : List Nat) : ∀ {ds : List D}, refsIn ds = [] → ds.map (locG ix) = ds
  | [], _ => rfl
  | x :: r, h => by
    cases x <;> simp_all [refsIn] <;> exact ⟨rfl, loc_free ix (by assumption)⟩
theorem callOk0 {ds : List D} {st : Store} (hi : refsIn ds = []) (hb : refsBs 0 ds = true) : callOk ds st = true := by
  unfold callOk
  rw [hi, argG_free hb]; rfl
theorem callD0N {f : DF} {ds : List D} {r : D} {e : Nv} {st nw : Store} (hi : refsIn ds = []) (hb : refsBs 0 ds = true) (h : f [] ds = .ok r nw) (hm : nw.all (moB 0) = true) : callD f ds e st = .ok (mapR [] st.length r) (st ++ nw) := by
  unfold callD
  rw [if_pos (callOk0 hi hb), hi, loc_free [] hi]
  show backD [] st (f [] ds) = _
  rw [h]
  simp [backD, hm, putS]
theorem callD0 {f : DF} {ds : List D} {r : D} {e : Nv} {st : Store} (hi : refsIn ds = []) (hb : refsBs 0 ds = true) (h : f [] ds = .ok r []) (hr : refsB 0 r = true) : callD f ds e st = .ok r st := by
  rw [callD0N hi hb h rfl, mapR_free hr]; simp
theorem callDM {f : DF} {ds : List D} {m : MO} {e : Nv} {st : Store} (hi : refsIn ds = []) (hb : refsBs 0 ds = true) (h : f [] ds = .ok (.ref 0) [m]) (hm : moB 0 m = true) : callD f ds e st = .ok (.ref st.length) (st ++ [m]) := by
  rw [callD0N hi hb h (by simp [hm])]; simp [mapR]
def loc1 : D → D
  | .ref _ => .ref 0
  | d => d
theorem loc_one (i : Nat) : ∀ {ds : List D}, (∀ j, D.ref j ∈ ds → j = i) → ds.map (locG [i]) = ds.map loc1
  | [], _ => rfl
  | x :: r, h => by
    have ih := loc_one i (ds := r) fun j hj => h j (by simp [hj])
    rw [List.map_cons, List.map_cons, ih]
    congr 1
    cases x with
    | ref j => rw [h j (by simp)]; simp [locG, loc1]
    | _ => rfl
/-- one moving object is handed -/
theorem callD1N {f : DF} {ds : List D} {i : Nat} {m m' : MO} {r : D} {e : Nv} {st nw : Store} (hi : refsIn ds = [i]) (hb : ds.all argG = true) (hm : st[i]? = some m) (bm : moB 0 m = true) (h : f [m] (ds.map loc1) = .ok r (m' :: nw)) (bm' : moB 0 m' = true) (bn : nw.all (moB 0) = true) : callD f ds e st = .ok (mapR [i] st.length r) (st.set i m' ++ nw) := by
  have hl : i < st.length := (List.getElem?_eq_some_iff.mp hm).1
  have hp : pickS st [i] = [m] := by simp [pickS, List.getD_eq_getElem?_getD, hm]
  have ok : callOk ds st = true := by
    unfold callOk
    rw [hi, hb, hp]
    simp [hl, bm]
  unfold callD
  rw [if_pos ok, hi, hp, loc_one i fun j hj => by have := refsIn_mem hj; rw [hi] at this; simpa using this]
  rw [h]
  simp [backD, bm', bn, putS]
theorem callD1 {f : DF} {ds : List D} {i : Nat} {m m' : MO} {r : D} {e : Nv} {st : Store} (hi : refsIn ds = [i]) (hb : ds.all argG = true) (hm : st[i]? = some m) (bm : moB 0 m = true) (h : f [m] (ds.map loc1) = .ok r [m']) (bm' : moB 0 m' = true) (hr : refsB 0 r = true) : callD f ds e st = .ok r (st.set i m') := by
  rw [callD1N hi hb hm bm h bm' rfl, mapR_free hr]; simp

/-! ## loops -/
theorem sloop_nil {src : Option Nat} {items : List D} {gt : MG} {body : SM} {e : Nv} {st : Store} (hs : srcOk src items st = true) : sloop src items gt body [] e st = .nx e st := by simp [sloop, hs]
theorem sloop_cons {src : Option Nat} {items r : List D} {gt : MG} {body : SM} {x : D} {e e1 e2 : Nv} {st st1 st2 : Store} (hs : srcOk src items st = true) (h1 : gt x e st = some (e1, st1)) (h2 : body e1 st1 = .nx e2 st2) : sloop src items gt body (x :: r) e st = sloop src items gt body r e2 st2 := by
  simp [sloop, hs, h1, h2]
theorem sloop_rt {src : Option Nat} {items r : List D} {gt : MG} {body : SM} {x : D} {e e1 : Nv} {st st1 st2 : Store} {d : D} (hs : srcOk src items st = true) (h1 : gt x e st = some (e1, st1)) (h2 : body e1 st1 = .rt d st2) : sloop src items gt body (x :: r) e st = .rt d st2 := by
  simp [sloop, hs, h1, h2]
theorem sloop_inv {src : Option Nat} {items : List D} {gt : MG} {body : SM} (Inv : Nv → Store → Prop) (hs : ∀ e st, Inv e st → srcOk src items st = true) : ∀ (l : List D) (step : ∀ x ∈ l, ∀ e st, Inv e st → ∃ e1 st1, gt x e st = some (e1, st1) ∧ ∃ e2 st2, (body e1 st1 = .nx e2 st2 ∨ body e1 st1 = .ct e2 st2) ∧ Inv e2 st2) (e : Nv) (st : Store), Inv e st → ∃ e' st', sloop src items gt body l e st = .nx e' st' ∧ Inv e' st'
  | [], _, e, st, I => ⟨e, st, by simp [sloop, hs e st I], I⟩
  | x :: r, step, e, st, I => by
    obtain ⟨e1, st1, h1, e2, st2, h2, I2⟩ := step x (by simp) e st I
    obtain ⟨e3, st3, h3, I3⟩ := sloop_inv Inv hs r (fun y hy => step y (by simp [hy])) e2 st2 I2
    refine ⟨e3, st3, ?_, I3⟩
    unfold sloop
    rw [if_pos (hs e st I), h1]
    rcases h2 with h2 | h2 <;> simp [h2, h3]
theorem cloop_pure {src : Option Nat} {items : List D} {gt : MG} {mt : XM Bool} {me : XM D} {e : Nv} {st : Store} (c : D → Bool) (f : D → D) (hs : srcOk src items st = true) : ∀ (l acc : List D), (∀ x ∈ l, ∃ e1, gt x e st = some (e1, st) ∧ mt e1 st = .ok (c x) st ∧ (c x = true → me e1 st = .ok (f x) st)) → acc.length + l.length ≤ LIM →
    cloop src items gt mt me e l acc st = .ok (acc ++ (l.filter c).map f) st
  | [], acc, _, _ => by simp [cloop, hs]
  | x :: r, acc, h, hl => by
    obtain ⟨e1, h1, h2, h3⟩ := h x (by simp)
    have hl' : acc.length + (r.length + 1) ≤ LIM := by simpa using hl
    unfold cloop
    rw [if_pos hs, h1]
    cases hc : c x with
    | false =>
      simp only [h2, hc]
      rw [cloop_pure c f hs r acc (fun y hy => h y (by simp [hy])) (by omega)]
      simp [hc]
    | true =>
      simp only [h2, hc, h3 hc]
      rw [if_pos (by omega), cloop_pure c f hs r (acc ++ [f x]) (fun y hy => h y (by simp [hy])) (by simp; omega)]
      simp [hc]
theorem cloop_inv {src : Option Nat} {items : List D} {gt : MG} {mt : XM Bool} {me : XM D} {e : Nv} (Inv : Store → Prop) (P : D → Prop) (hs : ∀ st, Inv st → srcOk src items st = true) : ∀ (l acc : List D) (st : Store), (∀ x ∈ l, ∀ st, Inv st → ∃ e1, gt x e st = some (e1, st) ∧ mt e1 st = .ok true st ∧ ∃ d st2, me e1 st = .ok d st2 ∧ P d ∧ Inv st2) → Inv st → acc.length + l.length ≤ LIM →
    ∃ ds st', cloop src items gt mt me e l acc st = .ok (acc ++ ds) st' ∧ ds.length = l.length ∧ (∀ d ∈ ds, P d) ∧ Inv st'
  | [], acc, st, _, I, _ => ⟨[], st, by simp [cloop, hs st I], rfl, by simp, I⟩
  | x :: r, acc, st, h, I, hl => by
    obtain ⟨e1, h1, h2, d, st2, h3, p, I2⟩ := h x (by simp) st I
    have hl' : acc.length + (r.length + 1) ≤ LIM := by simpa using hl
    obtain ⟨ds, st', q, hlen, hp, I'⟩ := cloop_inv Inv P hs r (acc ++ [d]) st2 (fun y hy => h y (by simp [hy])) I2 (by simp; omega)
    refine ⟨d :: ds, st', ?_, by simp [hlen], ?_, I'⟩
    · unfold cloop
      rw [if_pos (hs st I), h1]
      simp only [h2, h3]
      rw [if_pos (by omega), q]
      simp
    · intro y hy
      rcases List.mem_cons.mp hy with rfl | hy
      · exact p
      · exact hp y hy
@[simp] theorem filter_yes {α : Type} (l : List α) : l.filter (fun _ => true) = l := by induction l <;> simp_all
@[simp] theorem filter_no {α : Type} (l : List α) : l.filter (fun _ => false) = [] := by induction l <;> simp_all
theorem rangeL_len (lo : Int) (n : Nat) : (rangeL lo n).length = n := by simp [rangeL]
theorem mem_rangeL {lo : Int} {n : Nat} {x : D} (h : x ∈ rangeL lo n) : ∃ i : Nat, i < n ∧ x = .int (lo + (i : Int)) := by
  unfold rangeL at h
  obtain ⟨i, hi, e⟩ := List.mem_map.mp h
  exact ⟨i, by simpa using hi, e.symm⟩
/-- data that can be held against each other: plain, not deep, not long -/
def okD : Nat → D → Bool
  | 0, _ => false
  | n + 1, x => match x with
    | .non => true
    | .bl _ => true
    | .int _ => true
    | .str s => decide (s.cps.all (· < 0x110000) = true)
    | .tup xs => decide (xs.length ≤ LIM) && xs.all (okD n)
    | .lst xs => decide (xs.length ≤ LIM) && xs.all (okD n)
    | _ => false
theorem okD_int (n : Nat) (i : Int) : okD (n + 1) (.int i) = true := rfl
theorem okD_bl (n : Nat) (i : Bool) : okD (n + 1) (.bl i) = true := rfl
theorem okD_non (n : Nat) : okD (n + 1) .non = true := rfl
theorem okD_tup {n : Nat} {xs : List D} (h : xs.length ≤ LIM) (h2 : xs.all (okD n) = true) : okD (n + 1) (.tup xs) = true := by simp only [okD, h, h2]; rfl
theorem okD_lst {n : Nat} {xs : List D} (h : xs.length ≤ LIM) (h2 : xs.all (okD n) = true) : okD (n + 1) (.lst xs) = true := by simp only [okD, h, h2]; rfl
theorem okD_cons {n : Nat} {x : D} {xs : List D} (h : okD n x = true) (h2 : xs.all (okD n) = true) : (x :: xs).all (okD n) = true := by simp [h, h2]
theorem okD_nil {n : Nat} : ([] : List D).all (okD n) = true := rfl
theorem okD_iD (n : Nat) (ns : List Int) : (iD ns).all (okD (n + 1)) = true := by
  rw [List.all_eq_true]
  intro x hx
  unfold iD at hx
  obtain ⟨i, _, rfl⟩ := List.mem_map.mp hx
  rfl
theorem refsB_okD : ∀ (n : Nat) (x : D), okD n x = true → refsB 0 x = true
  | 0, _, h => by simp [okD] at h
  | n + 1, x, h => by
    have all : ∀ xs : List D, xs.all (okD n) = true → refsBs 0 xs = true := by
      intro xs
      induction xs with
      | nil => intro _; rfl
      | cons y r ih =>
        intro q
        have q' : okD n y = true ∧ r.all (okD n) = true := by simpa using q
        simp [refsBs, refsB_okD n y q'.1, ih q'.2]
    cases x <;> simp_all [okD, refsB]
end LS
end
section
set_option maxRecDepth 100000
set_option maxHeartbeats 2000000
namespace LS
open PySem PySem.Spec L2
section
variable {α β : Type} {e : Nv} {st : Store}
@[simp] theorem ap_pure (a : α) : xpure a e st = .ok a st := rfl
@[simp] theorem ap_bind (m : XM α) (f : α → XM β) : xbind m f e st = match m e st with | .ok a st' => f a e st' | .exc c p st' => .exc c p st' | .stuck => .stuck := rfl
@[simp] theorem ap_var (i : Nat) : xvar i e st = match e[i]? with | some (some d) => .ok d st | _ => .stuck := rfl
@[simp] theorem ap_cons (m : XM D) (ms : XM (List D)) : xcons m ms e st = xbind m (fun x => xbind ms fun xs => xpure (x :: xs)) e st := rfl
@[simp] theorem ap_tup (ms : XM (List D)) : xtup ms e st = match ms e st with | .ok xs st' => if xs.length ≤ LIM then .ok (.tup xs) st' else .stuck | .exc c p st' => .exc c p st' | .stuck => .stuck := by
  unfold xtup xbind
  cases ms e st <;> rfl
@[simp] theorem ap_lst (ms : XM (List D)) : xlst ms e st = match ms e st with | .ok xs st' => if xs.length ≤ LIM then .ok (.lst xs) st' else .stuck | .exc c p st' => .exc c p st' | .stuck => .stuck := by
  unfold xlst xbind
  cases ms e st <;> rfl
@[simp] theorem ap_lstM (ms : XM (List D)) : xlstM ms e st = match ms e st with | .ok xs st' => if xs.length ≤ LIM then .ok (.ref st'.length) (st' ++ [.lst xs]) else .stuck | .exc c p st' => .exc c p st' | .stuck => .stuck := by
  unfold xlstM xbind
  cases ms e st <;> rfl
@[simp] theorem ap_op (f : D → D → XM D) (a b : XM D) : xop f a b e st = xbind a (fun x => xbind b fun y => f x y) e st := rfl
@[simp] theorem ap_bool (m : XM D) : xbool m e st = match m e st with | .ok (.bl b) st' => .ok b st' | .ok _ _ => .stuck | .exc c p st' => .exc c p st' | .stuck => .stuck := by
  unfold xbool xbind
  cases m e st with
  | ok d st' => cases d <;> rfl
  | _ => rfl
@[simp] theorem ap_chain (f f' : D → D → XM D) (a b c : XM D) : xchain f f' a b c e st = xbind a (fun x => xbind b fun y => xbind (f x y) fun z => match z with | .bl true => xbind c fun w => f' y w | .bl false => xpure (.bl false) | _ => fun _ _ => .stuck) e st := rfl
@[simp] theorem tru_bl (b : Bool) : truD st (.bl b) = some b := rfl
@[simp] theorem tru_non : truD st .non = some false := rfl
@[simp] theorem tru_int (i : Int) : truD st (.int i) = some (i != 0) := rfl
@[simp] theorem tru_tup (xs : List D) : truD st (.tup xs) = some (!xs.isEmpty) := rfl
@[simp] theorem tru_lst (xs : List D) : truD st (.lst xs) = some (!xs.isEmpty) := rfl
@[simp] theorem ap_tru (m : XM D) : xtru m e st = match m e st with | .ok d st' => (match truD st' d with | some b => .ok b st' | none => .stuck) | .exc c p st' => .exc c p st' | .stuck => .stuck := by
  unfold xtru xbind
  cases m e st <;> rfl
@[simp] theorem ap_tnot (m : XM Bool) : tnot m e st = match m e st with | .ok b st' => .ok (!b) st' | .exc c p st' => .exc c p st' | .stuck => .stuck := by
  unfold tnot xbind
  cases m e st <;> rfl
@[simp] theorem ap_tand (m n : XM Bool) : tand m n e st = match m e st with | .ok true st' => n e st' | .ok false st' => .ok false st' | .exc c p st' => .exc c p st' | .stuck => .stuck := by
  unfold tand xbind
  cases m e st with
  | ok d st' => cases d <;> rfl
  | _ => rfl
@[simp] theorem ap_tor (m n : XM Bool) : tor m n e st = match m e st with | .ok true st' => .ok true st' | .ok false st' => n e st' | .exc c p st' => .exc c p st' | .stuck => .stuck := by
  unfold tor xbind
  cases m e st with
  | ok d st' => cases d <;> rfl
  | _ => rfl
@[simp] theorem ap_and (m n : XM D) : xand m n e st = match m e st with | .ok d st' => (match truD st' d with | some true => n e st' | some false => .ok d st' | none => .stuck) | .exc c p st' => .exc c p st' | .stuck => .stuck := by
  unfold xand xbind
  cases m e st <;> rfl
@[simp] theorem ap_or (m n : XM D) : xor' m n e st = match m e st with | .ok d st' => (match truD st' d with | some false => n e st' | some true => .ok d st' | none => .stuck) | .exc c p st' => .exc c p st' | .stuck => .stuck := by
  unfold xor' xbind
  cases m e st <;> rfl
@[simp] theorem ap_not (m : XM D) : xnot m e st = match m e st with | .ok d st' => (match truD st' d with | some b => .ok (.bl (!b)) st' | none => .stuck) | .exc c p st' => .exc c p st' | .stuck => .stuck := by
  unfold xnot xbind
  cases m e st <;> rfl
@[simp] theorem ap_if (c : XM Bool) (m n : XM D) : xif c m n e st = match c e st with | .ok true st' => m e st' | .ok false st' => n e st' | .exc c p st' => .exc c p st' | .stuck => .stuck := by
  unfold xif xbind
  cases c e st with
  | ok d st' => cases d <;> rfl
  | _ => rfl
@[simp] theorem ap_neg (m : XM D) : xneg m e st = match m e st with | .ok (.int i) st' => .ok (.int (-i)) st' | .ok _ _ => .stuck | .exc c p st' => .exc c p st' | .stuck => .stuck := by
  unfold xneg xbind
  cases m e st with
  | ok d st' => cases d <;> rfl
  | _ => rfl
@[simp] theorem add_int (i j : Int) : addD (.int i) (.int j) e st = .ok (.int (i + j)) st := rfl
@[simp] theorem add_lst (xs ys : List D) : addD (.lst xs) (.lst ys) e st = if xs.length + ys.length ≤ LIM then .ok (.lst (xs ++ ys)) st else .stuck := rfl
@[simp] theorem add_sq (xs ys : List D) : addD (.sq xs) (.lst ys) e st = .stuck := rfl
@[simp] theorem add_tup (xs ys : List D) : addD (.tup xs) (.tup ys) e st = if xs.length + ys.length ≤ LIM then .ok (.tup (xs ++ ys)) st else .stuck := rfl
@[simp] theorem i2_int (c : Int → Int → Bool) (f : Int → Int → D) (i j : Int) : i2 c f (.int i) (.int j) e st = if c i j = true then .ok (f i j) st else .stuck := rfl
@[simp] theorem eq_ap (x y : D) : eqD x y e st = match eqO st x y with | some b => .ok (.bl b) st | none => .stuck := rfl
@[simp] theorem ne_ap (x y : D) : neD x y e st = match eqO st x y with | some b => .ok (.bl (!b)) st | none => .stuck := rfl
@[simp] theorem lt_int (i j : Int) : ltD (.int i) (.int j) e st = .ok (.bl (decide (i < j))) st := rfl
@[simp] theorem is_ap (x : D) : isD x .non e st = .ok (.bl (isN x)) st := rfl
@[simp] theorem isnt_ap (x : D) : isntD x .non e st = .ok (.bl (!isN x)) st := rfl
@[simp] theorem isN_non : isN .non = true := rfl
@[simp] theorem isN_int (i : Int) : isN (.int i) = false := rfl
@[simp] theorem isN_bl (i : Bool) : isN (.bl i) = false := rfl
@[simp] theorem isN_str (i : Str) : isN (.str i) = false := rfl
@[simp] theorem isN_tup (i : List D) : isN (.tup i) = false := rfl
@[simp] theorem isN_lst (i : List D) : isN (.lst i) = false := rfl
@[simp] theorem ix_tup (xs : List D) (i : Int) : ixD (.tup xs) (.int i) e st = match atI xs i with | some d => .ok d st | none => .stuck := rfl
@[simp] theorem ix_lst (xs : List D) (i : Int) : ixD (.lst xs) (.int i) e st = match atI xs i with | some d => .ok d st | none => .stuck := rfl
@[simp] theorem ix_sq (xs : List D) (i : Int) : ixD (.sq xs) (.int i) e st = match atI xs i with | some d => .ok d st | none => .stuck := rfl
theorem ix_ref (k : Nat) (xs : List D) (i : Int) (h : st[k]? = some (.lst xs)) : ixD (.ref k) (.int i) e st = match atI xs i with | some d => .ok d st | none => .stuck := by
  unfold ixD
  simp only [seqOf, lstOf, h] <;> rfl
@[simp] theorem ix_ref0 (xs : List D) (i : Int) (r : Store) : ixD (.ref 0) (.int i) e (.lst xs :: r) = match atI xs i with | some d => .ok d (.lst xs :: r) | none => .stuck := ix_ref 0 xs i rfl
@[simp] theorem ix_ref1 (m : MO) (xs : List D) (i : Int) (r : Store) : ixD (.ref 1) (.int i) e (m :: .lst xs :: r) = match atI xs i with | some d => .ok d (m :: .lst xs :: r) | none => .stuck := ix_ref 1 xs i rfl
@[simp] theorem ap_part (m : XM D) : xpart m e st = match m e st with | .ok (.int i) st' => .ok (some i) st' | .ok _ _ => .stuck | .exc c p st' => .exc c p st' | .stuck => .stuck := by
  unfold xpart xbind
  cases m e st with
  | ok d st' => cases d <;> rfl
  | _ => rfl
@[simp] theorem ap_slice (m : XM D) (a b : XM (Option Int)) : xslice m a b e st = xbind m (fun x => xbind a fun l => xbind b fun h => slD x l h) e st := rfl
@[simp] theorem sl_tup (xs : List D) (a b : Option Int) : slD (.tup xs) a b e st = .ok (.tup (cutD xs a b)) st := rfl
@[simp] theorem sl_sq (xs : List D) (a b : Option Int) : slD (.sq xs) a b e st = .ok (.lst (cutD xs a b)) st := rfl
@[simp] theorem sl_lst (xs : List D) (a b : Option Int) : slD (.lst xs) a b e st = .ok (.lst (cutD xs a b)) st := rfl
@[simp] theorem ap_call (f : List D → XM D) (ms : XM (List D)) : xcall f ms e st = match ms e st with | .ok a st' => f a e st' | .exc c p st' => .exc c p st' | .stuck => .stuck := by
  unfold xcall xbind
  cases ms e st <;> rfl
@[simp] theorem f1_ap (f : D → XM D) (x : D) : f1 f [x] = f x := rfl
@[simp] theorem f2_ap (f : D → D → XM D) (x y : D) : f2 f [x, y] = f x y := rfl
@[simp] theorem len_tup (xs : List D) : lenD (.tup xs) e st = .ok (.int xs.length) st := rfl
@[simp] theorem len_lst (xs : List D) : lenD (.lst xs) e st = .ok (.int xs.length) st := rfl
@[simp] theorem len_sq (xs : List D) : lenD (.sq xs) e st = .ok (.int xs.length) st := rfl
@[simp] theorem abs_int (i : Int) : absD (.int i) e st = .ok (.int i.natAbs) st := rfl
@[simp] theorem int_int (i : Int) : intD (.int i) e st = .ok (.int i) st := rfl
@[simp] theorem max2_int (i j : Int) : max2D (.int i) (.int j) e st = .ok (.int (max i j)) st := rfl
@[simp] theorem min2_int (i j : Int) : min2D (.int i) (.int j) e st = .ok (.int (min i j)) st := rfl
@[simp] theorem dm_int (i j : Int) : divmodD (.int i) (.int j) e st = if 0 < j ∧ j < 1073741824 then .ok (.tup [.int (i / j), .int (i % j)]) st else .stuck := rfl
@[simp] theorem sum_tup (ns : List Int) : sumD (.tup (iD ns)) e st = .ok (.int ns.sum) st := by simp [intsD, seqOf, intsOf_iD]
@[simp] theorem sum_lst (ns : List Int) : sumD (.lst (iD ns)) e st = .ok (.int ns.sum) st := by simp [intsD, seqOf, lstOf, intsOf_iD]
theorem all_bls {e : Nv} {st : Store} (bs : List Bool) : allD (.lst (bs.map D.bl)) e st = .ok (.bl (bs.all id)) st := by simp [blsD, lstOf, blsOf_bls]
theorem any_bls {e : Nv} {st : Store} (bs : List Bool) : anyD (.lst (bs.map D.bl)) e st = .ok (.bl (bs.any id)) st := by simp [blsD, lstOf, blsOf_bls]
@[simp] theorem list_tup (xs : List D) : listD (.tup xs) e st = .ok (.lst xs) st := rfl
@[simp] theorem list_lst (xs : List D) : listD (.lst xs) e st = .ok (.lst xs) st := rfl
@[simp] theorem tuple_lst (xs : List D) : tupleD (.lst xs) e st = .ok (.tup xs) st := rfl
@[simp] theorem tuple_tup (xs : List D) : tupleD (.tup xs) e st = .ok (.tup xs) st := rfl
@[simp] theorem tuple_ref0 (xs : List D) (r : Store) : tupleD (.ref 0) e (.lst xs :: r) = .ok (.tup xs) (.lst xs :: r) := rfl
@[simp] theorem tuple_ref1 (m : MO) (xs : List D) (r : Store) : tupleD (.ref 1) e (m :: .lst xs :: r) = .ok (.tup xs) (m :: .lst xs :: r) := rfl
@[simp] theorem isi_ap (x : D) (n : String) : isiD x (.ty n) e st = match isiO x n with | some b => (if refOk st x = true then .ok (.bl b) st else .stuck) | none => .stuck := rfl
@[simp] theorem isi2_ap (x : D) (n1 n2 : String) : isi2D n1 n2 x e st = match isiO x n1, isiO x n2 with | some a, some b => (if refOk st x = true then .ok (.bl (a || b)) st else .stuck) | _, _ => .stuck := rfl
@[simp] theorem ro_int (i : Int) : refOk st (.int i) = true := rfl
@[simp] theorem ro_bl (i : Bool) : refOk st (.bl i) = true := rfl
@[simp] theorem ro_str (i : Str) : refOk st (.str i) = true := rfl
@[simp] theorem ro_non : refOk st .non = true := rfl
@[simp] theorem ro_tup (i : List D) : refOk st (.tup i) = true := rfl
@[simp] theorem ro_lst (i : List D) : refOk st (.lst i) = true := rfl
@[simp] theorem ro_sq (i : List D) : refOk st (.sq i) = true := rfl
theorem isi_of {x : D} {a n : String} (h : tyNm x = some a) (k : knownTy n = true) : isiO x n = some (isiB a n) := by unfold isiO; rw [h]; simp [k]
@[simp] theorem ii_ii (i : Int) : isiO (.int i) "int" = some true := isi_of (a := "int") rfl (by decide)
@[simp] theorem ii_ib (i : Int) : isiO (.int i) "bool" = some false := isi_of (a := "int") rfl (by decide)
@[simp] theorem ii_is (i : Int) : isiO (.int i) "str" = some false := isi_of (a := "int") rfl (by decide)
@[simp] theorem ii_it (i : Int) : isiO (.int i) "tuple" = some false := isi_of (a := "int") rfl (by decide)
@[simp] theorem ii_il (i : Int) : isiO (.int i) "list" = some false := isi_of (a := "int") rfl (by decide)
@[simp] theorem ii_id (i : Int) : isiO (.int i) "dict" = some false := isi_of (a := "int") rfl (by decide)
@[simp] theorem ii_bi (i : Bool) : isiO (.bl i) "int" = some true := by decide +revert
@[simp] theorem ii_bb (i : Bool) : isiO (.bl i) "bool" = some true := by decide +revert
@[simp] theorem ii_bs (i : Bool) : isiO (.bl i) "str" = some false := by decide +revert
@[simp] theorem ii_bt (i : Bool) : isiO (.bl i) "tuple" = some false := by decide +revert
@[simp] theorem ii_bL (i : Bool) : isiO (.bl i) "list" = some false := by decide +revert
@[simp] theorem ii_ni : isiO .non "int" = some false := by decide
@[simp] theorem ii_nb : isiO .non "bool" = some false := by decide
@[simp] theorem ii_ns : isiO .non "str" = some false := by decide
@[simp] theorem ii_nt : isiO .non "tuple" = some false := by decide
@[simp] theorem ii_nl : isiO .non "list" = some false := by decide
@[simp] theorem ii_si (i : Str) : isiO (.str i) "int" = some false := isi_of (a := "str") rfl (by decide)
@[simp] theorem ii_sb (i : Str) : isiO (.str i) "bool" = some false := isi_of (a := "str") rfl (by decide)
@[simp] theorem ii_ss (i : Str) : isiO (.str i) "str" = some true := isi_of (a := "str") rfl (by decide)
@[simp] theorem ii_st (i : Str) : isiO (.str i) "tuple" = some false := isi_of (a := "str") rfl (by decide)
@[simp] theorem ii_sl (i : Str) : isiO (.str i) "list" = some false := isi_of (a := "str") rfl (by decide)
@[simp] theorem ii_ti (i : List D) : isiO (.tup i) "int" = some false := isi_of (a := "tuple") rfl (by decide)
@[simp] theorem ii_tb (i : List D) : isiO (.tup i) "bool" = some false := isi_of (a := "tuple") rfl (by decide)
@[simp] theorem ii_ts (i : List D) : isiO (.tup i) "str" = some false := isi_of (a := "tuple") rfl (by decide)
@[simp] theorem ii_tt (i : List D) : isiO (.tup i) "tuple" = some true := isi_of (a := "tuple") rfl (by decide)
@[simp] theorem ii_tl (i : List D) : isiO (.tup i) "list" = some false := isi_of (a := "tuple") rfl (by decide)
@[simp] theorem ii_li (i : List D) : isiO (.lst i) "int" = some false := isi_of (a := "list") rfl (by decide)
@[simp] theorem ii_lb (i : List D) : isiO (.lst i) "bool" = some false := isi_of (a := "list") rfl (by decide)
@[simp] theorem ii_ls (i : List D) : isiO (.lst i) "str" = some false := isi_of (a := "list") rfl (by decide)
@[simp] theorem ii_lt (i : List D) : isiO (.lst i) "tuple" = some false := isi_of (a := "list") rfl (by decide)
@[simp] theorem ii_ll (i : List D) : isiO (.lst i) "list" = some true := isi_of (a := "list") rfl (by decide)
/-! statements -/
@[simp] theorem ap_next : snext e st = .nx e st := rfl
@[simp] theorem ap_seq (m n : SM) : sseq m n e st = match m e st with | .nx e' st' => n e' st' | r => r := rfl
theorem seq_nx {m n : SM} {e' : Nv} {st' : Store} (h : m e st = .nx e' st') : sseq m n e st = n e' st' := by rw [ap_seq, h]
theorem seq_rt {m n : SM} {d : D} {st' : Store} (h : m e st = .rt d st') : sseq m n e st = .rt d st' := by rw [ap_seq, h]
@[simp] theorem ap_sbind (m : XM D) (f : D → SM) : sbind m f e st = match m e st with | .ok d st' => f d e st' | .exc c p st' => .exc c p e st' | .stuck => .stuck := rfl
@[simp] theorem ap_drop (m : XM D) : sdrop m e st = match m e st with | .ok d st' => .nx e st' | .exc c p st' => .exc c p e st' | .stuck => .stuck := rfl
@[simp] theorem ap_ret (m : XM D) : sret m e st = match m e st with | .ok d st' => .rt d st' | .exc c p st' => .exc c p e st' | .stuck => .stuck := rfl
@[simp] theorem ap_retN : sretN e st = .rt .non st := rfl
@[simp] theorem ap_sif (c : XM Bool) (m n : SM) : sif c m n e st = match c e st with | .ok true st' => m e st' | .ok false st' => n e st' | .exc c p st' => .exc c p e st' | .stuck => .stuck := by
  unfold sif sbindB
  cases c e st with
  | ok d st' => cases d <;> rfl
  | _ => rfl
@[simp] theorem ap_set (i : Nat) (m : XM D) : sset i m e st = match m e st with | .ok d st' => .nx (e.set i (some d)) st' | .exc c p st' => .exc c p e st' | .stuck => .stuck := rfl
@[simp] theorem ap_asg (m : XM D) (g : MG) : sasg m g e st = match m e st with | .ok d st' => (match g d e st' with | some (e', st'') => .nx e' st'' | none => .stuck) | .exc c p st' => .exc c p e st' | .stuck => .stuck := by
  unfold sasg sbind
  cases m e st <;> rfl
@[simp] theorem ap_par2 (i j : Nat) (a b : XM D) : spar2 i j a b e st = sbind a (fun x => sbind b fun y => fun e st => .nx ((e.set i (some x)).set j (some y)) st) e st := rfl
@[simp] theorem ap_par3 (i j l : Nat) (a b c : XM D) : spar3 i j l a b c e st = sbind a (fun x => sbind b fun y => sbind c fun z => fun e st => .nx (((e.set i (some x)).set j (some y)).set l (some z)) st) e st := rfl
@[simp] theorem ap_gname (i : Nat) (x : D) : gname i x e st = some (e.set i (some x), st) := rfl
@[simp] theorem ap_gtup (n : Nat) (ms : MGs) (xs : List D) : gtup n ms (.tup xs) e st = if xs.length = n then ms xs e st else none := rfl
@[simp] theorem ap_gcons (m : MG) (ms : MGs) (x : D) (r : List D) : gcons m ms (x :: r) e st = match m x e st with | some (e', st') => ms r e' st' | none => none := rfl
@[simp] theorem ap_gnil : gnil [] e st = some (e, st) := rfl
@[simp] theorem ap_for (mi : XM (List D × Option Nat)) (g : MG) (b : SM) : sfor mi g b e st = match mi e st with | .ok (xs, src) st1 => sloop src xs g b xs e st1 | .exc c p st' => .exc c p e st' | .stuck => .stuck := rfl
@[simp] theorem isLst_0 (xs : List D) (r : Store) : isLst (.lst xs :: r) 0 = true := rfl
@[simp] theorem isLst_1 (m : MO) (xs : List D) (r : Store) : isLst (m :: .lst xs :: r) 1 = true := rfl
@[simp] theorem ap_append (mo me : XM D) : xappend mo me e st = match mo e st with | .ok (.ref k) st1 => (if isLst st1 k = true then (match me e st1 with | .ok x st2 => (match st2[k]? with | some (.lst xs) => if xs.length < LIM then .ok .non (st2.set k (.lst (xs ++ [x]))) else .stuck | _ => .stuck) | .exc c p st' => .exc c p st' | .stuck => .stuck) else .stuck) | .ok _ _ => .stuck | .exc c p st' => .exc c p st' | .stuck => .stuck := by
  unfold xappend xbind
  cases mo e st with
  | ok d st' =>
    cases d with
    | ref k => rfl
    | _ => rfl
  | _ => rfl
@[simp] theorem ap_gsub (mo mi : XM D) (x : D) : gsub mo mi x e st = match mo e st, mi e st with
  | .ok (.ref k) _, .ok (.int i) _ => (match st[k]? with
    | some (.lst xs) => (match ixN xs.length i with
      | some j => some (e, st.set k (.lst (xs.set j x)))
      | none => none)
    | _ => none)
  | _, _ => none := rfl
@[simp] theorem ap_walk (m : XM D) : xwalk m e st = match m e st with | .ok d st' => (match seqSrc st' d with | some r => .ok r st' | none => .stuck) | .exc c p st' => .exc c p st' | .stuck => .stuck := by
  unfold xwalk xbind
  cases m e st <;> rfl
@[simp] theorem src_tup (xs : List D) : seqSrc st (.tup xs) = some (xs, none) := rfl
@[simp] theorem src_lst (xs : List D) : seqSrc st (.lst xs) = some (xs, none) := rfl
@[simp] theorem src_sq (xs : List D) : seqSrc st (.sq xs) = some (xs, none) := rfl
def rngB (j : Int) : Bool := decide (-(2 ^ 62) ≤ j ∧ j < 2 ^ 62)
theorem rngB_of {j : Int} (h0 : -1000000 ≤ j) (h1 : j ≤ 1000000) : rngB j = true := by
  unfold rngB
  exact decide_eq_true ⟨by omega, by omega⟩
theorem rngB_nat {n : Nat} (h : n ≤ LIM) : rngB (n : Int) = true := rngB_of (by omega) (by simp [LIM] at h; omega)
@[simp] theorem ap_range1 (m : XM D) : xrange1 m e st = match m e st with | .ok (.int j) st' => (if rngB j = true then .ok (rangeL 0 j.toNat, none) st' else .stuck) | .ok _ _ => .stuck | .exc c p st' => .exc c p st' | .stuck => .stuck := by
  unfold xrange1 xbind rngB
  cases m e st with
  | ok d st' =>
    cases d with
    | int j => simp only [decide_eq_true_eq]
    | _ => rfl
  | _ => rfl
@[simp] theorem ap_enum (m : XM D) : xenum m e st = match m e st with | .ok d st' => (match stillOf d with | some xs => .ok (enumD 0 xs, none) st' | none => .stuck) | .exc c p st' => .exc c p st' | .stuck => .stuck := by
  unfold xenum xbind
  cases m e st <;> rfl
@[simp] theorem still_tup (xs : List D) : stillOf (.tup xs) = some xs := rfl
@[simp] theorem still_lst (xs : List D) : stillOf (.lst xs) = some xs := rfl
@[simp] theorem ap_enumZ (ma mb : XM D) : xenumZ ma mb e st = xbind ma (fun x => xbind mb fun y => fun _ st => match zipTT x y with | some (xs, ys) => .ok (ezD xs ys, none) st | none => .stuck) e st := rfl
@[simp] theorem zipTT_tup (xs ys : List D) : zipTT (.tup xs) (.tup ys) = some (xs, ys) := rfl
@[simp] theorem ap_comp (mi : XM (List D × Option Nat)) (vs : List Nat) (g : MG) (mt : XM Bool) (me : XM D) : xcomp mi vs g mt me e st = match mi e st with
  | .ok (xs, src) st1 => (match cloop src xs g mt me (wipeE e vs) xs [] st1 with | .ok ds st2 => .ok (.lst ds) st2 | .exc c p st' => .exc c p st' | .stuck => .stuck)
  | .exc c p st' => .exc c p st' | .stuck => .stuck := by
  unfold xcomp xbind xcompL xpure
  cases mi e st with
  | ok r st' => obtain ⟨xs, src⟩ := r; simp only []; cases cloop src xs g mt me (wipeE e vs) xs [] st' <;> rfl
  | _ => rfl
@[simp] theorem ap_fn (n : Nat) (f : DF) (ms : XM (List D)) : xfn n f ms e st = match ms e st with | .ok ds st' => (if ds.length = n then callD f ds e st' else .stuck) | .exc c p st' => .exc c p st' | .stuck => .stuck := by
  unfold xfn xbind
  cases ms e st with
  | ok ds st' => simp only; split <;> rfl
  | _ => rfl
@[simp] theorem ap_fnK (n : Nat) (ix : List Nat) (l : Nat) (f : DF) (ms mk : XM (List D)) : xfnK n ix l f ms mk e st = match ms e st with | .ok ds st' => (match mk e st' with | .ok zs st2 => (if ds.length = n ∧ zs.length = l then callD f (pick .non (ds ++ zs) ix) e st2 else .stuck) | .exc c p st' => .exc c p st' | .stuck => .stuck) | .exc c p st' => .exc c p st' | .stuck => .stuck := by
  unfold xfnK xbind
  cases ms e st with
  | ok ds st' =>
    simp only
    cases mk e st' with
    | ok zs st2 => simp only; split <;> rfl
    | _ => rfl
  | _ => rfl
@[simp] theorem ap_wipe1 (v : Nat) : wipeE e [v] = e.set v none := rfl
@[simp] theorem ap_wipe2 (v w : Nat) : wipeE e [v, w] = (e.set w none).set v none := rfl
@[simp] theorem srcOk_none (xs : List D) : srcOk none xs st = true := rfl
@[simp] theorem stB_nil : stB 0 st = true := by simp [stB]
theorem sif_t {c : XM Bool} {m n : SM} {st' : Store} (h : c e st = .ok true st') : sif c m n e st = m e st' := by rw [ap_sif, h]
theorem sif_f {c : XM Bool} {m n : SM} {st' : Store} (h : c e st = .ok false st') : sif c m n e st = n e st' := by rw [ap_sif, h]
theorem ret_ok {m : XM D} {d : D} {st' : Store} (h : m e st = .ok d st') : sret m e st = .rt d st' := by rw [ap_ret, h]
theorem set_ok {m : XM D} {i : Nat} {d : D} {st' : Store} (h : m e st = .ok d st') : sset i m e st = .nx (e.set i (some d)) st' := by rw [ap_set, h]
theorem and_t {m n : XM D} {st' : Store} (h : m e st = .ok (.bl true) st') : xand m n e st = n e st' := by rw [ap_and, h]; rfl
theorem and_f {m n : XM D} {st' : Store} (h : m e st = .ok (.bl false) st') : xand m n e st = .ok (.bl false) st' := by rw [ap_and, h]; rfl
theorem or_t {m n : XM D} {st' : Store} (h : m e st = .ok (.bl true) st') : xor' m n e st = .ok (.bl true) st' := by rw [ap_or, h]; rfl
theorem or_f {m n : XM D} {st' : Store} (h : m e st = .ok (.bl false) st') : xor' m n e st = n e st' := by rw [ap_or, h]; rfl
theorem tor_t {m n : XM Bool} {st' : Store} (h : m e st = .ok true st') : tor m n e st = .ok true st' := by rw [ap_tor, h]
theorem tor_f {m n : XM Bool} {st' : Store} (h : m e st = .ok false st') : tor m n e st = n e st' := by rw [ap_tor, h]
theorem tand_t {m n : XM Bool} {st' : Store} (h : m e st = .ok true st') : tand m n e st = n e st' := by rw [ap_tand, h]
theorem tand_f {m n : XM Bool} {st' : Store} (h : m e st = .ok false st') : tand m n e st = .ok false st' := by rw [ap_tand, h]
theorem tnot_ok {m : XM Bool} {b : Bool} {st' : Store} (h : m e st = .ok b st') : tnot m e st = .ok (!b) st' := by rw [ap_tnot, h]
theorem tru_ok {m : XM D} {b : Bool} {st' : Store} (h : m e st = .ok (.bl b) st') : xtru m e st = .ok b st' := by rw [ap_tru, h]; rfl
theorem all_ok {m : XM D} {l : List Bool} {st' : Store} (h : m e st = .ok (.lst (l.map D.bl)) st') : xcall (f1 allD) (xcons m (xpure [])) e st = .ok (.bl (l.all id)) st' := by
  have h2 : xcons m (xpure []) e st = .ok [.lst (l.map D.bl)] st' := by rw [ap_cons, ap_bind, h]; rfl
  rw [ap_call, h2]
  exact all_bls (e := e) l
theorem any_ok {m : XM D} {l : List Bool} {st' : Store} (h : m e st = .ok (.lst (l.map D.bl)) st') : xcall (f1 anyD) (xcons m (xpure [])) e st = .ok (.bl (l.any id)) st' := by
  have h2 : xcons m (xpure []) e st = .ok [.lst (l.map D.bl)] st' := by rw [ap_cons, ap_bind, h]; rfl
  rw [ap_call, h2]
  exact any_bls (e := e) l
theorem all_yes {m : XM D} {n : Nat} {st' : Store} (h : m e st = .ok (.lst (List.replicate n (.bl true))) st') : xcall (f1 allD) (xcons m (xpure [])) e st = .ok (.bl true) st' := by
  have := all_ok (l := List.replicate n true) (by simpa using h)
  simpa using this
theorem any_no {m : XM D} {n : Nat} {st' : Store} (h : m e st = .ok (.lst (List.replicate n (.bl false))) st') : xcall (f1 anyD) (xcons m (xpure [])) e st = .ok (.bl false) st' := by
  have := any_ok (l := List.replicate n false) (by simpa using h)
  simpa using this
end
end LS
end
section
set_option maxRecDepth 100000
set_option maxHeartbeats 2000000
namespace LS
open PySem PySem.Spec L2

/-! ## dicts -/
def keyD : D → Option Key
  | .int i => some (.inl i)
  | .str s => some (.inr s)
  | _ => none
def getKD (kvs : List (Key × D)) (k : Key) : Option D := (kvs.find? fun kv => decide (kv.1 = k)).map (·.2)
def putKD (kvs : List (Key × D)) (k : Key) (v : D) : List (Key × D) :=
  if (kvs.any fun kv => decide (kv.1 = k)) = true then kvs.map (fun kv => if kv.1 = k then (kv.1, v) else kv) else kvs ++ [(k, v)]
def dctOf (st : Store) : D → Option (List (Key × D))
  | .ref i => match st[i]? with
    | some (.dct kvs) => some kvs
    | some (.lck kvs) => some kvs
    | _ => none
  | _ => none
section
variable {K : PySem.W.Frag} {mg : Str → Option Value} {G H : Hp} {as : List Addr} {st : Store}
theorem keyD_ok {v : V} {d : D} {k : Key} (r : Rp K mg G as v d) (h : keyD d = some k) : v = kV k := by
  cases r <;> cases h <;> rfl
theorem getKD_ok : ∀ {kvs : List (Key × V)} {kds : List (Key × D)} (k : Key), kvs.map (·.1) = kds.map (·.1) → RpA K mg G as (kvs.map (·.2)) (kds.map (·.2)) → (getKD kds k = none ∧ valV kvs k = none) ∨ ∃ d v, getKD kds k = some d ∧ valV kvs k = some v ∧ Rp K mg G as v d
  | [], [], k, _, _ => .inl ⟨rfl, rfl⟩
  | [], _ :: _, _, e, _ => by simp at e
  | _ :: _, [], _, e, _ => by simp at e
  | (k1, v) :: r, (k2, d) :: s, k, e, q => by
    have e' : k1 = k2 ∧ r.map (·.1) = s.map (·.1) := by simpa using e
    obtain ⟨rfl, e'⟩ := e'
    cases q with
    | cons q1 q2 =>
      by_cases h : k1 = k
      · exact .inr ⟨d, v, by simp [getKD, h], by simp [valV, h], q1⟩
      · have : getKD ((k1, d) :: s) k = getKD s k := by simp [getKD, List.find?_cons, h]
        have t2 : valV ((k1, v) :: r) k = valV r k := by simp [valV, List.find?_cons, h]
        rw [this, t2]
        exact getKD_ok k e' q2
theorem anyK_eq (k : Key) : ∀ {kvs : List (Key × V)} {kds : List (Key × D)}, kvs.map (·.1) = kds.map (·.1) → (kvs.any fun kv => decide (kv.1 = k)) = (kds.any fun kv => decide (kv.1 = k))
  | [], [], _ => rfl
  | [], _ :: _, e => by simp at e
  | _ :: _, [], e => by simp at e
  | (k1, v) :: r, (k2, d) :: s, e => by
    have e' : k1 = k2 ∧ r.map (·.1) = s.map (·.1) := by simpa using e
    simp [e'.1, anyK_eq k e'.2]
theorem putKD_ok {v : V} {d : D} (k : Key) (rv : Rp K mg G as v d) {kvs : List (Key × V)} {kds : List (Key × D)} (e : kvs.map (·.1) = kds.map (·.1)) (q : RpA K mg G as (kvs.map (·.2)) (kds.map (·.2))) : (putK kvs k v).map (·.1) = (putKD kds k d).map (·.1) ∧ RpA K mg G as ((putK kvs k v).map (·.2)) ((putKD kds k d).map (·.2)) := by
  unfold putK putKD
  rw [anyK_eq k e]
  split
  · rename_i hany
    clear hany
    induction kvs generalizing kds with
    | nil => cases kds with
      | nil => exact ⟨rfl, .nil⟩
      | cons _ _ => simp at e
    | cons p r ih => cases kds with
      | nil => simp at e
      | cons p2 s =>
        obtain ⟨k1, v1⟩ := p
        obtain ⟨k2, d2⟩ := p2
        have e' : k1 = k2 ∧ r.map (·.1) = s.map (·.1) := by simpa using e
        obtain ⟨rfl, e'⟩ := e'
        cases q with
        | cons q1 q2 =>
          obtain ⟨i1, i2⟩ := ih e' q2
          by_cases h : k1 = k
          · exact ⟨by simpa [h] using i1, by simpa [h] using RpA.cons rv i2⟩
          · exact ⟨by simpa [h] using i1, by simpa [h] using RpA.cons q1 i2⟩
  · exact ⟨by simp [e], by simpa using q.append (.cons rv .nil)⟩
theorem dctOf_ok (R : Ri K mg G H as st) {v : V} {d : D} {kds : List (Key × D)} (r : Rp K mg G as v d) (h : dctOf st d = some kds) : ∃ a kvs, v = .ref a ∧ Rd H a (.dK kvs) ∧ kvs.map (·.1) = kds.map (·.1) ∧ RpA K mg G as (kvs.map (·.2)) (kds.map (·.2)) := by
  cases r with
  | ref q =>
    rename_i a i
    unfold dctOf at h
    cases hs : st[i]? with
    | none => simp [hs] at h
    | some m =>
      obtain ⟨ho, e1, oo⟩ := R.at_ q hs
      cases m with
      | lst _ => simp [hs] at h
      | dct kvs =>
        simp only [hs, Option.some.injEq] at h
        subst h
        cases oo with | dct e r => exact ⟨a, _, rfl, .inl e1, e, r⟩
      | lck kvs =>
        simp only [hs, Option.some.injEq] at h
        subst h
        cases oo with | lck e r => exact ⟨a, _, rfl, .inr ⟨_, e1⟩, e, r⟩
  | _ => cases h
end
section
variable {g : Gb} {F : Fam g} {pos : Pos}
/-- {} -/
def xdnew : XM D := fun _ st => .ok (.ref st.length) (st ++ [.dct []])
theorem je_dnew : JE F (.Dict [] [] pos) xdnew := by
  refine ⟨fun _ => tDNewK, fun _ _ _ => pe_dnewK, ?_⟩
  intro W G H as st σ e Q R N h p hp
  obtain ⟨R', X'⟩ := R.moving (o := .dK []) (m := .dct []) hp (.dct rfl .nil)
  exact h _ G _ _ R' X' (.ref (by rw [← R.len, List.getElem?_append_right (Nat.le_refl _), Nat.sub_self]; rfl))
/-- d[k] -/
def dgetD (x y : D) : XM D := fun _ st => match dctOf st x, keyD y with
  | some kvs, some k => (match getKD kvs k with
    | some d => .ok d st
    | none => .stuck)
  | _, _ => .stuck
theorem je_dget {a b : Expr} {ma mb : XM D} (ha : JE F a ma) (hb : JE F b mb) (hs : NoSl b := by intro _ _; rfl) : JE F (.Subscript a b pos) (xop dgetD ma mb) := by
  obtain ⟨ta, pa, sa⟩ := ha
  obtain ⟨tb, pb, sb⟩ := hb
  refine ⟨fun W => tDGet (ta W) (tb W), fun W X m => pe_dget (by have := (F.room m).units; omega) (pa W X m) (pb W X m) hs, ?_⟩
  intro W G H as st σ e Q R N h
  refine sa.one R N h fun x st1 v G1 H1 as1 R1 X1 N1 rv h1 => ?_
  refine sb.one R1 N1 h1 fun y st2 w G2 H2 as2 R2 X2 N2 rw' h2 => ?_
  unfold dgetD at h2
  cases q1 : dctOf st2 x with
  | none => simp [q1] at h2; exact h2.elim
  | some kds =>
    cases q2 : keyD y with
    | none => simp [q1, q2] at h2; exact h2.elim
    | some k =>
      simp only [q1, q2] at h2
      obtain ⟨a, kvs, rfl, hd, ek, rr⟩ := dctOf_ok R2 (rv.ext X2) q1
      have ew := keyD_ok rw' q2
      rcases getKD_ok k ek rr with ⟨e1, _⟩ | ⟨d, u, e1, e2, ru⟩
      · simp [e1] at h2; exact h2.elim
      · simp only [e1] at h2
        exact ⟨a, u, rfl, .inl ⟨kvs, k, hd, ew, e2.symm⟩, h2 _ G2 H2 as2 R2 Ext.refl ru⟩
/-- d.get(k, x) -/
def xdget2 (mo mk md : XM D) : XM D := xbind mo fun x => fun e st => if (dctOf st x).isSome = true then xbind mk (fun y => xbind md fun z => fun _ st => match dctOf st x, keyD y with
  | some kvs, some k => .ok ((getKD kvs k).getD z) st
  | _, _ => .stuck) e st else .stuck
theorem je_dget2 {o a b : Expr} {mo mk md : XM D} {apos : Pos} (ho : JE F o mo) (ha : JE F a mk) (hb : JE F b md) (h1 : ∀ env, attributeBase o "get" env (eval o env) = eval o env := by intro _; rfl)
    (hfew : ∀ env, ((backTo pos (starEach [a, b] env)).all (fun x => !x.1) && (backToKw pos (keywordEach [] env)).all (fun x => x.1.isSome) && decide (([a, b] : List Expr).length + ([] : List Keyword).length + (if ([] : List Keyword).isEmpty then 0 else 1) < 30)) = true := by intro _; rfl)
    (h2 : (apos.endLine == pos.line) = true := by rfl) (ht : ∀ env, backTo pos (starEach [a, b] env) = [(false, eval a env), (false, eval b env)] := by intro _; rfl) : JE F (.Call (.Attribute o "get" apos) [a, b] [] pos) (xdget2 mo mk md) := by
  obtain ⟨to, po, so⟩ := ho
  obtain ⟨ta, pa, sa⟩ := ha
  obtain ⟨tb, pb, sb⟩ := hb
  refine ⟨fun W => tDGet2 (to W) (ta W) (tb W), fun W X m => pe_dget2 (by have := (F.room m).units; omega) (po W X m) (pa W X m) (pb W X m) ⟨h1 _, hfew _, h2, ht _⟩, ?_⟩
  intro W G H as st σ e Q R N h
  refine so.one R N h fun x st1 v G1 H1 as1 R1 X1 N1 rv h1 => ?_
  by_cases hx : (dctOf st1 x).isSome = true
  · rw [if_pos hx] at h1
    obtain ⟨kd0, hk0⟩ := Option.isSome_iff_exists.mp hx
    obtain ⟨a0, kv0, rfl, hd0, _, _⟩ := dctOf_ok R1 rv hk0
    refine ⟨a0, rfl, .inl ⟨kv0, hd0⟩, ?_⟩
    refine sa.one R1 N1 h1 fun y st2 w G2 H2 as2 R2 X2 N2 rw' h2 => ?_
    refine sb.one R2 N2 h2 fun z st3 u G3 H3 as3 R3 X3 N3 ru h3 => ?_
    cases q1 : dctOf st3 x with
    | none => simp [q1] at h3; exact h3.elim
    | some kds =>
      cases q2 : keyD y with
      | none => simp [q1, q2] at h3; exact h3.elim
      | some k =>
        simp only [q1, q2] at h3
        obtain ⟨a', kvs, e', hd, ek, rr⟩ := dctOf_ok R3 ((rv.ext X2).ext X3) q1
        cases e'
        have ew := keyD_ok rw' q2
        rcases getKD_ok k ek rr with ⟨e1, e2⟩ | ⟨d, u', e1, e2, ru'⟩
        · rw [e1] at h3
          exact ⟨none, .inl ⟨kvs, k, hd, ew, e2.symm⟩, h3 _ G3 H3 as3 R3 Ext.refl ru⟩
        · rw [e1] at h3
          exact ⟨some u', .inl ⟨kvs, k, hd, ew, e2.symm⟩, h3 _ G3 H3 as3 R3 Ext.refl ru'⟩
  · rw [if_neg hx] at h1; exact h1.elim
/-- d[k] = v -/
def sdput (mo mk mv : XM D) : SM := sbind mv fun v => sbind mo fun x => sbind mk fun y => fun e st => match x, keyD y with
  | .ref i, some k => (match st[i]? with
    | some (.dct kvs) => if kvs.length < LIM then .nx e (st.set i (.dct (putKD kvs k v))) else .stuck
    | _ => .stuck)
  | _, _ => .stuck
theorem js_dput {o i value : Expr} {mo mk mv : XM D} {pos' : Pos} (ho : JE F o mo) (hi : JE F i mk) (hv : JE F value mv) (hs : ∀ env, swapsWith value (some (.Subscript o i pos')) pos.line env = pure false := by intro _; rfl) : JS F (.Assign [.Subscript o i pos'] value pos) (sdput mo mk mv) := by
  obtain ⟨to, po, so⟩ := ho
  obtain ⟨ti, pi, si⟩ := hi
  obtain ⟨tv, pv, sv⟩ := hv
  refine ⟨fun W => sDPut (to W) (ti W) (tv W), fun W X m => ps_dput (by have := (F.room m).units; omega) (po W X m) (pi W X m) (pv W X m) (hs _), ?_⟩
  intro W G H as st σ e E R N h
  refine sv.oneS R N h fun d st1 v G1 H1 as1 R1 X1 N1 rv h1 => ?_
  refine so.oneS R1 N1 h1 fun x st2 w G2 H2 as2 R2 X2 N2 rw' h2 => ?_
  refine si.oneS R2 N2 h2 fun y st3 u G3 H3 as3 R3 X3 N3 ru h3 => ?_
  cases x with
  | ref k0 =>
    cases q2 : keyD y with
    | none => simp [q2] at h3; exact h3.elim
    | some k =>
      cases q3 : st3[k0]? with
      | none => simp [q2, q3] at h3; exact h3.elim
      | some mo' =>
        cases mo' with
        | dct kds =>
          simp only [q2, q3] at h3
          by_cases hl : kds.length < LIM
          · rw [if_pos hl] at h3
            have ew := keyD_ok ru q2
            cases rw'.ext X3 with
            | ref qa =>
              rename_i a
              obtain ⟨hob, e1, oo⟩ := R3.at_ qa q3
              cases oo with
              | dct ek rr =>
                rename_i kvs
                have hlen : kvs.length = kds.length := by simpa using congrArg List.length ek
                obtain ⟨pk, pr⟩ := putKD_ok k ((rv.ext X2).ext X3) ek rr
                obtain ⟨R4, X4⟩ := R3.change (o := .dK (putK kvs k v)) (m := .dct (putKD kds k d)) qa (.dct pk pr) (fun u kvs z => by rw [e1] at z; cases z)
                exact ⟨a, _, rfl, .inl ⟨kvs, k, e1, ew, by rw [hlen]; exact lim_lt hl, rfl⟩, h3 _ _ _ _ R4 (N3.ext X4) X4⟩
          · rw [if_neg hl] at h3; exact h3.elim
        | _ => simp [q2, q3] at h3; exact h3.elim
  | _ => exact h3.elim
/-- list(d): its keys -/
def kD : Key → D
  | .inl i => .int i
  | .inr s => .str s
theorem kD_rp {K : PySem.W.Frag} {mg : Str → Option Value} {G : Hp} {as : List Addr} (k : Key) : Rp K mg G as (kV k) (kD k) := by
  cases k with
  | inl i => exact .int i
  | inr s => exact .str s
theorem keys_rp {K : PySem.W.Frag} {mg : Str → Option Value} {G : Hp} {as : List Addr} : ∀ {kvs : List (Key × V)} {kds : List (Key × D)}, kvs.map (·.1) = kds.map (·.1) → RpA K mg G as (kvs.map fun kv => kV kv.1) (kds.map fun kv => kD kv.1)
  | [], [], _ => .nil
  | [], _ :: _, e => by simp at e
  | _ :: _, [], e => by simp at e
  | (k1, v) :: r, (k2, d) :: s, e => by
    have e' : k1 = k2 ∧ r.map (·.1) = s.map (·.1) := by simpa using e
    obtain ⟨rfl, e'⟩ := e'
    exact .cons (kD_rp k1) (keys_rp e')
def dlistD (x : D) : XM D := fun _ st => match dctOf st x with
  | some kvs => .ok (.lst (kvs.map fun kv => kD kv.1)) st
  | none => .stuck
theorem cs_dlist : CallS F (.type "list") (f1 dlistD) := by
  refine cs_1 (r := fun xs H Q => ∃ (a : Addr) (kvs : List (Key × V)), xs = [.ref a] ∧ Rd H a (.dK kvs) ∧ ∀ p, H p = none → Q (.ref p) (upd H p (.lst (kvs.map fun kv => kV kv.1)))) (fun W X m => call_listD (F.calm m)) ?_
  intro W G H as st σ e x v Q R rx h
  unfold dlistD at h
  cases q : dctOf st x with
  | none => simp [q] at h; exact h.elim
  | some kds =>
    simp only [q] at h
    obtain ⟨a, kvs, rfl, hd, ek, rr⟩ := dctOf_ok R rx q
    exact ⟨a, kvs, rfl, hd, fun p hp => PX.still R hp (.lst upd_same (keys_rp ek)) h⟩
end
end LS
end
section
set_option maxRecDepth 100000
set_option maxHeartbeats 2000000
namespace LS
open PySem PySem.Spec L2

/-! ## loops over dicts: the dict is locked while it is walked -/
section
variable {g : Gb} {F : Fam g} {pos : Pos}
def unlk (i : Nat) (kvs : List (Key × D)) : RS → RS
  | .nx e st => .nx e (st.set i (.dct kvs))
  | .bk e st => .bk e (st.set i (.dct kvs))
  | .ct e st => .ct e (st.set i (.dct kvs))
  | .rt d st => .rt d (st.set i (.dct kvs))
  | _ => .stuck
/-- the dict under the name in the slot j is locked while s runs -/
def slock (j : Nat) (m : SM) : SM := fun e st => match e[j]? with
  | some (some (.ref i)) => (match st[i]? with
    | some (.dct kvs) => unlk i kvs (m e (st.set i (.lck kvs)))
    | _ => .stuck)
  | _ => .stuck
theorem unlock_ok {K : PySem.W.Frag} {mg : Str → Option Value} {G H G2 H2 : Hp} {as as2 : List Addr} {st st2 : Store} {i : Nat} {a : Addr} {od : Obj} {kv : List (Key × V)} {kds : List (Key × D)} (R : Ri K mg G H as st) (ha : as[i]? = some a) (hd : H a = some (.dK kv)) (ek : kv.map (·.1) = kds.map (·.1)) (rr : RpA K mg G as (kv.map (·.2)) (kds.map (·.2)))
    (R2 : Ri K mg G2 H2 as2 st2) (X2 : Ext G (upd H a (.frz od (.dK kv))) as G2 H2 as2) : H2 a = some (.frz od (.dK kv)) ∧ Ri K mg G2 (upd H2 a (.dK kv)) as2 (st2.set i (.dct kds)) ∧ Ext G H as G2 (upd H2 a (.dK kv)) as2 := by
  have ha2 := pre_get X2.pre ha
  have hz := X2.lk a od kv upd_same
  have rr2 := rr.ext X2
  have hmem := List.mem_of_getElem? ha
  have ne : ∀ b o, H b = some o → b ∉ as → b ≠ a := fun b o _ n z => n (z ▸ hmem)
  -- the object put back, by hand: it was locked
  have x : Ext G H as G2 (upd H2 a (.dK kv)) as2 := by
    refine ⟨X2.sub, X2.pre, fun b o h n => ?_, fun b h h' => ?_, fun b m n => ?_, fun b h => ?_, fun b o kvs h => ?_⟩
    · rw [upd_ne (ne b o h n)]
      exact X2.keep b o (by rw [upd_ne (ne b o h n)]; exact h) n
    · refine X2.frG b h ?_
      by_cases z : b = a
      · subst z; rw [upd_same]; exact fun z => nomatch z
      · rw [upd_ne z]; exact h'
    · have := X2.frA b m n
      have z : b ≠ a := fun z => n (z ▸ hmem)
      rw [upd_ne z] at this; exact this
    · by_cases z : b = a
      · subst z; rw [upd_same]; exact fun z => nomatch z
      · rw [upd_ne z]; exact X2.dom b (by rw [upd_ne z]; exact h)
    · have z : b ≠ a := fun z => by subst z; rw [hd] at h; cases h
      rw [upd_ne z]
      exact X2.lk b o kvs (by rw [upd_ne z]; exact h)
  refine ⟨hz, ⟨fun b u h => ?_, by simp [R2.len], R2.nd, R2.out, fun k b u hb hu => ?_⟩, x⟩
  · have gn := R2.out a (List.mem_of_getElem? ha2)
    rw [upd_ne (ne_of_none h gn)]; exact R2.sub _ _ h
  · by_cases z : k = i
    · subst z
      rw [ha2] at hb; cases hb
      have hk : k < st2.length := by rw [← R2.len]; exact (List.getElem?_eq_some_iff.mp ha2).1
      rw [List.getElem?_set_self hk] at hu; cases hu
      exact ⟨_, upd_same, .dct ek rr2⟩
    · rw [List.getElem?_set_ne (Ne.symm z)] at hu
      obtain ⟨ho, q, r⟩ := R2.obj k b u hb hu
      refine ⟨ho, ?_, r⟩
      have : b ≠ a := fun z' => z (by
        subst z'
        obtain ⟨p1, p2⟩ := List.getElem?_eq_some_iff.mp hb
        obtain ⟨p3, p4⟩ := List.getElem?_eq_some_iff.mp ha2
        exact (List.getElem_inj R2.nd).mp (p2.trans p4.symm))
      rw [upd_ne this]; exact q
theorem js_lock (j : Nat) {s : Stmt} {m : SM} (h : JS F s m) : JS F s (slock j m) := by
  obtain ⟨t, p, ss⟩ := h
  refine ⟨fun W => tLock (t W), fun W X m => ps_lock (p W X m), ?_⟩
  intro W G H as st σ e E R N h
  unfold slock at h
  cases q1 : e[j]? with
  | none => simp [q1] at h; exact h.elim
  | some o1 =>
    cases o1 with
    | none => simp [q1] at h; exact h.elim
    | some d =>
      cases d with
      | ref i =>
        obtain ⟨v, _, rv⟩ := N.at_ j _ q1
        obtain ⟨a, rfl, qa⟩ : ∃ a, v = .ref a ∧ as[i]? = some a := by cases rv with | ref q => exact ⟨_, rfl, q⟩
        simp only [q1] at h
        cases q2 : st[i]? with
        | none => simp [q2] at h; exact h.elim
        | some mo =>
          cases mo with
          | dct kds =>
            simp only [q2] at h
            obtain ⟨hob, e1, oo⟩ := R.at_ qa q2
            cases oo with
            | dct ek rr =>
              rename_i kv
              refine ⟨a, .dK kv, e1, trivial, fun od => ?_⟩
              obtain ⟨R1, X1⟩ := R.change (o := .frz od (.dK kv)) (m := .lck kds) qa (.lck ek rr) (fun u kvs z => by rw [e1] at z; cases z)
              refine ss W G (upd H a (.frz od (.dK kv))) as (st.set i (.lck kds)) σ e _ R1 (N.ext X1) ?_
              cases q3 : m e (st.set i (.lck kds)) with
              | stuck => rw [q3] at h; exact h.elim
              | exc c p e2 st2 => rw [q3] at h; exact h.elim
              | nx e2 st2 =>
                rw [q3] at h
                intro σ2 G2 H2 as2 R2 N2 X2
                obtain ⟨h1, R3, X3⟩ := unlock_ok R qa e1 ek rr R2 X2
                exact ⟨h1, h σ2 G2 _ as2 R3 N2 X3⟩
              | bk e2 st2 =>
                rw [q3] at h
                intro σ2 G2 H2 as2 R2 N2 X2
                obtain ⟨h1, R3, X3⟩ := unlock_ok R qa e1 ek rr R2 X2
                exact ⟨h1, h σ2 G2 _ as2 R3 N2 X3⟩
              | ct e2 st2 =>
                rw [q3] at h
                intro σ2 G2 H2 as2 R2 N2 X2
                obtain ⟨h1, R3, X3⟩ := unlock_ok R qa e1 ek rr R2 X2
                exact ⟨h1, h σ2 G2 _ as2 R3 N2 X3⟩
              | rt d2 st2 =>
                rw [q3] at h
                intro v2 G2 H2 as2 R2 X2 rv2
                obtain ⟨h1, R3, X3⟩ := unlock_ok R qa e1 ek rr R2 X2
                exact ⟨h1, h v2 G2 _ as2 R3 X3 rv2⟩
          | _ => simp [q2] at h; exact h.elim
      | _ => simp [q1] at h; exact h.elim
/-- the pairs of a dict as they are given out -/
def itemsD (kds : List (Key × D)) : List D := kds.map fun kv => .tup [kD kv.1, kv.2]
theorem itemsD_get (kds : List (Key × D)) (i : Nat) : (itemsD kds)[i]? = kds[i]?.map fun kv => .tup [kD kv.1, kv.2] := by simp [itemsD]
theorem pair_at {K : PySem.W.Frag} {mg : Str → Option Value} {G : Hp} {as : List Addr} : ∀ {kvs : List (Key × V)} {kds : List (Key × D)} {i : Nat} {k : Key} {v : V}, kvs.map (·.1) = kds.map (·.1) → RpA K mg G as (kvs.map (·.2)) (kds.map (·.2)) → kvs[i]? = some (k, v) → ∃ d, kds[i]? = some (k, d) ∧ Rp K mg G as v d
  | [], _, _, _, _, _, _, h => by simp at h
  | _ :: _, [], _, _, _, e, _, _ => by simp at e
  | (k1, v1) :: r, (k2, d2) :: s, i, k, v, e, q, h => by
    have e' : k1 = k2 ∧ r.map (·.1) = s.map (·.1) := by simpa using e
    obtain ⟨rfl, e'⟩ := e'
    cases q with
    | cons q1 q2 =>
      cases i with
      | zero =>
        have h' : k1 = k ∧ v1 = v := by simpa using h
        obtain ⟨rfl, rfl⟩ := h'
        exact ⟨d2, rfl, q1⟩
      | succ i =>
        obtain ⟨d, h1, h2⟩ := pair_at (i := i) e' q2 (by simpa using h)
        exact ⟨d, by simpa using h1, h2⟩
theorem yl_items {G0 H0 : Hp} {as0 : List Addr} {a : Addr} {o : Obj} {kvs : List (Key × V)} {kds : List (Key × D)} (hd : H0 a = some (.frz o (.dK kvs))) (ek : kvs.map (·.1) = kds.map (·.1)) (rr : RpA g.K g.mg G0 as0 (kvs.map (·.2)) (kds.map (·.2))) : Yl g G0 H0 as0 none (itemsD kds) (Iti a o kvs) where
  go := fun i G H as st hi R hs hp hl _ => ⟨hl a o kvs hd, by
    have : kvs.length = kds.length := by simpa using congrArg List.length ek
    simpa [itemsD, this] using hi⟩
  stop := fun G H as st R hs hp hl _ => ⟨hl a o kvs hd, by
    have : kvs.length = kds.length := by simpa using congrArg List.length ek
    simp [itemsD, this]⟩
  yld := fun i G H as st v H' x R hs hp hl _ hx y => by
    obtain ⟨T, k, u, e1, rfl, hT, rfl⟩ := y
    obtain ⟨d, e2, ru⟩ := pair_at ek rr e1
    rw [itemsD_get, e2] at hx
    cases hx
    obtain ⟨R', X'⟩ := R.still (o := .tup [kV k, u]) hT
    exact ⟨_, R', X', .tup (.of upd_same) (.cons (kD_rp k) (.cons ((ru.mono hs hp).ext X') .nil))⟩
def xitems (m : XM D) : XM (List D × Option Nat) := xbind m fun x => fun _ st => match x with
  | .ref i => (match st[i]? with
    | some (.lck kds) => .ok (itemsD kds, none) st
    | _ => .stuck)
  | _ => .stuck
theorem ji_items {elts : List Expr} {kk : Nat} {tpos apos : Pos} {e : Expr} {m : XM D} (h : JE F e m) (hb : ∀ env, attributeBase e "items" env (eval e env) = eval e env := by intro _; rfl) (hline : (apos.endLine == pos.line) = true := by rfl) : JI F (.Tuple elts kk tpos) (.Call (.Attribute e "items" apos) [] [] pos) (xitems m) := by
  obtain ⟨t, p, s⟩ := h
  refine ⟨fun W => iItems (t W), fun W X m => pi_items (p W X m) (hb _) hline, ?_⟩
  intro W G H as st σ e R' R N h
  refine s W G H as st σ e _ R N ?_
  unfold xitems xbind at h
  cases q : m e st with
  | stuck => rw [q] at h; exact h
  | exc c p st1 => rw [q] at h; exact h
  | ok x st1 =>
    simp only [q] at h
    intro v G1 H1 as1 R1 X1 rv
    cases x with
    | ref i =>
      cases q2 : st1[i]? with
      | none => simp only [q2] at h; exact h.elim
      | some mo =>
        cases mo with
        | lck kds =>
          simp only [q2] at h
          obtain ⟨a, rfl, qa⟩ : ∃ a, v = .ref a ∧ as1[i]? = some a := by cases rv with | ref q => exact ⟨_, rfl, q⟩
          obtain ⟨hob, e1, oo⟩ := R1.at_ qa q2
          cases oo with
          | lck ek rr => exact ⟨a, _, _, rfl, e1, h.2 _ G1 H1 as1 R1 X1 (yl_items e1 ek rr)⟩
        | _ => simp only [q2] at h; exact h.elim
    | _ => exact h.elim
end
end LS
end
section
set_option maxRecDepth 100000
set_option maxHeartbeats 2000000
namespace LS
open PySem PySem.Spec L2

/-! ## *x in a display -/
section
variable {g : Gb} {F : Fam g} {pos : Pos}
def xstar (m : XM D) (ms : XM (List D)) : XM (List D) := xbind m fun x => fun e st => match seqOf st x with
  | some xs => (xbind ms fun ys => xpure (xs ++ ys)) e st
  | none => .stuck
theorem ja_star {ex : Expr} {es : List Expr} {p : Pos} {m : XM D} {ms : XM (List D)} (h : JE F ex m) (hs : JA F es ms) (hst : ∀ env, starEach (.Starred ex p :: es) env = (true, eval ex env) :: starEach es env := by intro _; rfl) : JA F (.Starred ex p :: es) (xstar m ms) := by
  obtain ⟨t, pp, s⟩ := h
  obtain ⟨ts, ps, ss⟩ := hs
  refine ⟨fun W => StX.tStar g.K (t W) (ts W), fun W X m => by have := StX.pa_star (p := p) (pp W X m) (ps W X m) (hst _); rw [F.hK m] at this; exact this, ?_⟩
  intro W G H as st σ e Q R N h
  refine s.oneA R N h fun x st1 v G1 H1 as1 R1 X1 N1 rv h1 => ?_
  cases q : seqOf st1 x with
  | none => simp only [q] at h1; exact h1.elim
  | some xs =>
    simp only [q] at h1
    obtain ⟨a, vs, rfl, s1, r1⟩ := seqOf_ok R1 rv q
    refine ⟨a, vs, rfl, s1.symm, ?_⟩
    refine ss.oneA R1 N1 h1 fun ys st2 ws G2 H2 as2 R2 X2 N2 rws h2 => ?_
    exact h2 _ _ _ _ R2 Ext.refl ((r1.ext X2).append rws)

/-! ## two fors in a comprehension -/
def cloop2 (src : Option Nat) (items : List D) (gt : MG) (mt : XM Bool) (mi1 : XM (List D × Option Nat)) (vs1 : List Nat) (gt1 : MG) (mt1 : XM Bool) (me : XM D) (e : Nv) : List D → List D → Store → RX (List D)
  | [], acc, st => if srcOk src items st = true then .ok acc st else .stuck
  | x :: r, acc, st => if srcOk src items st = true then (match gt x e st with
    | none => .stuck
    | some (e1, st1) => match mt e1 st1 with
      | .ok true st2 => (match mi1 e1 st2 with
        | .ok (xs1, src1) st3 => (match cloop src1 xs1 gt1 mt1 me (wipeE e1 vs1) xs1 acc st3 with
          | .ok acc' st4 => cloop2 src items gt mt mi1 vs1 gt1 mt1 me e r acc' st4
          | _ => .stuck)
        | _ => .stuck)
      | .ok false st2 => cloop2 src items gt mt mi1 vs1 gt1 mt1 me e r acc st2
      | _ => .stuck) else .stuck
def xcomp2L (mi : XM (List D × Option Nat)) (vs : List Nat) (gt : MG) (mt : XM Bool) (mi1 : XM (List D × Option Nat)) (vs1 : List Nat) (gt1 : MG) (mt1 : XM Bool) (me : XM D) : XM (List D) := fun e st => match mi e st with
  | .ok (xs, src) st1 => cloop2 src xs gt mt mi1 vs1 gt1 mt1 me (wipeE e vs) xs [] st1
  | .exc c p st' => .exc c p st'
  | .stuck => .stuck
def xcomp2 (mi : XM (List D × Option Nat)) (vs : List Nat) (gt : MG) (mt : XM Bool) (mi1 : XM (List D × Option Nat)) (vs1 : List Nat) (gt1 : MG) (mt1 : XM Bool) (me : XM D) : XM D := xbind (xcomp2L mi vs gt mt mi1 vs1 gt1 mt1 me) fun ds => xpure (.lst ds)
theorem cloop_src {src : Option Nat} {items : List D} {gt : MG} {mt : XM Bool} {me : XM D} {e : Nv} {r acc : List D} {st : Store} (h : cloop src items gt mt me e r acc st ≠ .stuck) : srcOk src items st = true := by
  cases hx : srcOk src items st with
  | true => rfl
  | false => exact absurd (by cases r <;> simp [cloop, hx]) h
theorem comp2_read {wi : WX → TI} {gt0 gt10 : TG} {tt tt1 : WX → TT} {te : WX → TE} {wi1 : WX → TI} {mi mi1 : XM (List D × Option Nat)} {vs vs1 : List Nat} {gt gt1 : MG} {mt mt1 : XM Bool} {me : XM D}
    (si : ∀ (W : WX) (G H : Hp) (as : List Addr) (st : Store) (σ : L2.St) (e : Nv) (R : It → Hp → Prop), Ri g.K g.mg G H as st → Rn g.K g.mg G as σ e → PXI g W G H as σ (mi e st) R → wi W σ H R)
    (sg : ∀ (G H : Hp) (as : List Addr) (st : Store) (σ : L2.St) (e : Nv) (v : V) (x : D) (e' : Nv) (st' : Store) (Q : L2.St → Hp → Prop), Ri g.K g.mg G H as st → Rn g.K g.mg G as σ e → Rp g.K g.mg G as v x → gt x e st = some (e', st') →
      (∀ σ', wipe σ' vs = wipe σ vs → Rn g.K g.mg G as σ' e' → st' = st → Q σ' H) → gt0 v σ H Q)
    (stt : ST g tt mt)
    (si1 : ∀ (W : WX) (G H : Hp) (as : List Addr) (st : Store) (σ : L2.St) (e : Nv) (R : It → Hp → Prop), Ri g.K g.mg G H as st → Rn g.K g.mg G as σ e → PXI g W G H as σ (mi1 e st) R → wi1 W σ H R)
    (sg1 : ∀ (G H : Hp) (as : List Addr) (st : Store) (σ : L2.St) (e : Nv) (v : V) (x : D) (e' : Nv) (st' : Store) (Q : L2.St → Hp → Prop), Ri g.K g.mg G H as st → Rn g.K g.mg G as σ e → Rp g.K g.mg G as v x → gt1 x e st = some (e', st') →
      (∀ σ', wipe σ' vs1 = wipe σ vs1 → Rn g.K g.mg G as σ' e' → st' = st → Q σ' H) → gt10 v σ H Q)
    (stt1 : ST g tt1 mt1) (se : SE g te me) (W : WX) (G H : Hp) (as : List Addr) (st : Store) (σ : L2.St) (e : Nv) (Q : VK) (R : Ri g.K g.mg G H as st) (N : Rn g.K g.mg G as σ e) (f : List D → Store → RX D)
    (h : PX g.K g.mg W G H as σ (match xcomp2L mi vs gt mt mi1 vs1 gt1 mt1 me e st with | .ok ds st' => f ds st' | .exc c p st' => .exc c p st' | .stuck => .stuck) Q)
    (fin : ∀ (ds : List D) (st' : Store) (G1 H1 : Hp) (as1 : List Addr) (G2 H2 : Hp) (as2 : List Addr) (us : List V) (p : Addr), Ri g.K g.mg G1 H1 as1 st' → RpA g.K g.mg G1 as1 us ds → H1 p = some (.lst us) → G1 p = none → p ∉ as1 → Ext G2 H2 as2 G1 H1 as1 → H2 p = none → PX g.K g.mg W G2 H2 as2 σ (f ds st') Q → Q (.ref p) H1) :
    tLc2 (wi W) gt0 (tt W0) (wi1 W0) gt10 (tt1 W0) (te W0) vs vs1 σ H Q := by
  refine si W G H as st σ e _ R N ?_
  unfold xcomp2L at h
  cases q : mi e st with
  | stuck => rw [q] at h; exact h
  | exc c p st1 => rw [q] at h; exact h
  | ok z st1 =>
    obtain ⟨xs, src⟩ := z
    simp only [q] at h
    have ok : srcOk src xs st1 = true := by
      cases hx : srcOk src xs st1 with
      | true => rfl
      | false =>
        exfalso
        cases xs with
        | nil => simp [cloop2, hx] at h; exact h
        | cons x r => simp [cloop2, hx] at h; exact h
    refine ⟨ok, fun J G1 H1 as1 R1 X1 Y => ?_⟩
    intro D0 hD
    have hd0 := R1.none_of hD
    have h1 := PX.ext (K := g.K) (mg := g.mg) h X1
    refine ⟨fun i m H' => i ≤ xs.length ∧ m = xs.length - i ∧ ∃ G' as' st' us acc, Ri g.K g.mg G' H' as' st' ∧ Ext G1 H1 as1 G' H' as' ∧ H' D0 = some (.lst us) ∧ G' D0 = none ∧ D0 ∉ as' ∧ RpA g.K g.mg G' as' us acc ∧
        PX g.K g.mg W G1 H1 as1 σ (match cloop2 src xs gt mt mi1 vs1 gt1 mt1 me (wipeE e vs) (xs.drop i) acc st' with | .ok ds st' => f ds st' | .exc c p st' => .exc c p st' | .stuck => .stuck) Q,
      ⟨xs.length, Nat.zero_le _, by simp, G1, as1, st1, [], [], R1.touch hd0.1 hd0.2, Ext.refl.touch hD, upd_same, hd0.1, hd0.2, .nil, h1⟩, ?_⟩
    rintro i m H2 ⟨hle, rfl, G2, as2, st2, us, acc, R2, X2, hL, hg, ha, ru, h2⟩
    by_cases hi : i < xs.length
    · have hd : xs.drop i = xs[i] :: xs.drop (i + 1) := List.drop_eq_getElem_cons hi
      rw [hd] at h2
      unfold cloop2 at h2
      by_cases hok : srcOk src xs st2 = true
      · simp only [hok, if_true] at h2
        refine .inr ⟨Y.go i G2 H2 as2 st2 hi R2 X2.sub X2.pre X2.lk hok, ?_⟩
        refine ⟨fun H' => i + 1 ≤ xs.length ∧ ∃ G' as' st' us acc, Ri g.K g.mg G' H' as' st' ∧ Ext G1 H1 as1 G' H' as' ∧ H' D0 = some (.lst us) ∧ G' D0 = none ∧ D0 ∉ as' ∧ RpA g.K g.mg G' as' us acc ∧
            PX g.K g.mg W G1 H1 as1 σ (match cloop2 src xs gt mt mi1 vs1 gt1 mt1 me (wipeE e vs) (xs.drop (i + 1)) acc st' with | .ok ds st' => f ds st' | .exc c p st' => .exc c p st' | .stuck => .stuck) Q,
          fun H' ⟨a, b⟩ => ⟨xs.length - (i + 1), by omega, a, rfl, b⟩, fun v H3 y => ?_⟩
        obtain ⟨G3, R3, X3, rv⟩ := Y.yld i G2 H2 as2 st2 v H3 xs[i] R2 X2.sub X2.pre X2.lk hok (List.getElem?_eq_getElem hi) y
        have b3 := X3.beside hL hg ha
        cases q3 : gt xs[i] (wipeE e vs) st2 with
        | none => simp only [q3] at h2; exact h2.elim
        | some z =>
          obtain ⟨e3, st3⟩ := z
          simp only [q3] at h2
          have Nw : Rn g.K g.mg G3 as2 (wipe σ vs) (wipeE e vs) := (((N.ext X1).ext X2).ext X3).wipe vs
          refine sg G3 H3 as2 st2 (wipe σ vs) (wipeE e vs) v xs[i] e3 st3 _ R3 Nw rv q3 fun σ4 w4 N4 es => ?_
          subst es
          refine ⟨w4.trans wipe_wipe, ?_⟩
          refine stt W0 G3 H3 as2 st3 σ4 e3 _ R3 N4 ?_
          cases q4 : mt e3 st3 with
          | stuck => simp only [q4] at h2; exact h2
          | exc c p st4 => simp only [q4] at h2; exact h2.elim
          | ok b st4 =>
            intro G4 H4 as4 R4 X4
            have b4 := X4.beside b3.2.2 b3.1 b3.2.1
            have X14 := (X2.trans X3).trans X4
            cases b with
            | false =>
              simp only [q4] at h2
              exact iteF ⟨hi, G4, as4, st4, us, acc, R4, X14, b4.2.2, b4.1, b4.2.1, (ru.ext X3).ext X4, h2⟩
            | true =>
              refine iteT ?_
              refine si1 W0 G4 H4 as4 st4 σ4 e3 _ R4 (N4.ext X4) ?_
              cases q5 : mi1 e3 st4 with
              | stuck => simp only [q4, q5] at h2; exact h2
              | exc c p st5 => simp only [q4, q5] at h2; exact h2.elim
              | ok z st5 =>
                obtain ⟨ys, src1⟩ := z
                simp only [q4, q5] at h2
                have ok1 : srcOk src1 ys st5 = true := by
                  cases hx : srcOk src1 ys st5 with
                  | true => rfl
                  | false =>
                    exfalso
                    cases ys with
                    | nil => simp [cloop, hx] at h2; exact h2
                    | cons y r => simp [cloop, hx] at h2; exact h2
                refine ⟨ok1, fun J1 G5 H5 as5 R5 X5 Y1 => ?_⟩
                have b5 := X5.beside b4.2.2 b4.1 b4.2.1
                have ru5 := ((ru.ext X3).ext X4).ext X5
                have X15 := X14.trans X5
                have N5 := (N4.ext X4).ext X5
                refine ⟨fun j k H' => j ≤ ys.length ∧ k = ys.length - j ∧ ∃ G' as' st' us acc, Ri g.K g.mg G' H' as' st' ∧ Ext G1 H1 as1 G' H' as' ∧ (∀ a o, G5 a = some o → G' a = some o) ∧ as5 <+: as' ∧ (∀ a o kvs, H5 a = some (.frz o (.dK kvs)) → H' a = some (.frz o (.dK kvs))) ∧ H' D0 = some (.lst us) ∧ G' D0 = none ∧ D0 ∉ as' ∧ RpA g.K g.mg G' as' us acc ∧
                    PX g.K g.mg W G1 H1 as1 σ (match (match cloop src1 ys gt1 mt1 me (wipeE e3 vs1) (ys.drop j) acc st' with | .ok acc' st4 => cloop2 src xs gt mt mi1 vs1 gt1 mt1 me (wipeE e vs) (xs.drop (i + 1)) acc' st4 | _ => .stuck) with | .ok ds st' => f ds st' | .exc c p st' => .exc c p st' | .stuck => .stuck) Q,
                  ⟨ys.length, Nat.zero_le _, by simp, G5, as5, st5, us, acc, R5, X15, fun _ _ h => h, List.prefix_refl _, fun _ _ _ h => h, b5.2.2, b5.1, b5.2.1, ru5, h2⟩, ?_⟩
                rintro j k H6 ⟨hlj, rfl, G6, as6, st6, us6, acc6, R6, X6, S6, P6, L6, hL6, hg6, ha6, ru6, h6⟩
                by_cases hj : j < ys.length
                · have hd1 : ys.drop j = ys[j] :: ys.drop (j + 1) := List.drop_eq_getElem_cons hj
                  rw [hd1] at h6
                  unfold cloop at h6
                  by_cases hok1 : srcOk src1 ys st6 = true
                  · simp only [hok1, if_true] at h6
                    refine .inr ⟨Y1.go j G6 H6 as6 st6 hj R6 S6 P6 L6 hok1, ?_⟩
                    refine ⟨fun H' => j + 1 ≤ ys.length ∧ ∃ G' as' st' us acc, Ri g.K g.mg G' H' as' st' ∧ Ext G1 H1 as1 G' H' as' ∧ (∀ a o, G5 a = some o → G' a = some o) ∧ as5 <+: as' ∧ (∀ a o kvs, H5 a = some (.frz o (.dK kvs)) → H' a = some (.frz o (.dK kvs))) ∧ H' D0 = some (.lst us) ∧ G' D0 = none ∧ D0 ∉ as' ∧ RpA g.K g.mg G' as' us acc ∧
                        PX g.K g.mg W G1 H1 as1 σ (match (match cloop src1 ys gt1 mt1 me (wipeE e3 vs1) (ys.drop (j + 1)) acc st' with | .ok acc' st4 => cloop2 src xs gt mt mi1 vs1 gt1 mt1 me (wipeE e vs) (xs.drop (i + 1)) acc' st4 | _ => .stuck) with | .ok ds st' => f ds st' | .exc c p st' => .exc c p st' | .stuck => .stuck) Q,
                      fun H' ⟨a, b⟩ => ⟨ys.length - (j + 1), by omega, a, rfl, b⟩, fun v1 H7 y1 => ?_⟩
                    obtain ⟨G7, R7, X7, rv7⟩ := Y1.yld j G6 H6 as6 st6 v1 H7 ys[j] R6 S6 P6 L6 hok1 (List.getElem?_eq_getElem hj) y1
                    have b7 := X7.beside hL6 hg6 ha6
                    cases q7 : gt1 ys[j] (wipeE e3 vs1) st6 with
                    | none => simp only [q7] at h6; exact h6.elim
                    | some z =>
                      obtain ⟨e8, st8⟩ := z
                      simp only [q7] at h6
                      have N6 : Rn g.K g.mg G6 as6 σ4 e3 := ⟨N5.len, fun i d q => let ⟨v, a, r⟩ := N5.at_ i d q; ⟨v, a, r.mono S6 P6⟩⟩
                      have Nw1 : Rn g.K g.mg G7 as6 (wipe σ4 vs1) (wipeE e3 vs1) := (N6.ext X7).wipe vs1
                      refine sg1 G7 H7 as6 st6 (wipe σ4 vs1) (wipeE e3 vs1) v1 ys[j] e8 st8 _ R7 Nw1 rv7 q7 fun σ8 w8 N8 es => ?_
                      subst es
                      refine ⟨w8.trans wipe_wipe, ?_⟩
                      refine stt1 W0 G7 H7 as6 st8 σ8 e8 _ R7 N8 ?_
                      cases q8 : mt1 e8 st8 with
                      | stuck => simp only [q8] at h6; exact h6
                      | exc c p st9 => simp only [q8] at h6; exact h6.elim
                      | ok b1 st9 =>
                        intro G8 H8 as8 R8 X8
                        have b8 := X8.beside b7.2.2 b7.1 b7.2.1
                        have X18 := (X6.trans X7).trans X8
                        have X58 := X7.trans X8
                        have L8 : ∀ a o kvs, H5 a = some (.frz o (.dK kvs)) → H8 a = some (.frz o (.dK kvs)) := fun a o kvs h => X58.lk a o kvs (L6 a o kvs h)
                        cases b1 with
                        | false =>
                          simp only [q8] at h6
                          exact iteF ⟨hj, G8, as8, st9, us6, acc6, R8, X18, fun a o h => X58.sub a o (S6 a o h), P6.trans X58.pre, L8, b8.2.2, b8.1, b8.2.1, (ru6.ext X7).ext X8, h6⟩
                        | true =>
                          refine iteT ?_
                          refine se W0 G8 H8 as8 st9 σ8 e8 _ R8 (N8.ext X8) ?_
                          cases q9 : me e8 st9 with
                          | stuck => simp only [q8, q9] at h6; exact h6
                          | exc c p st10 => simp only [q8, q9] at h6; exact h6.elim
                          | ok d st10 =>
                            simp only [q8, q9] at h6
                            intro w G9 H9 as9 R9 X9 rw'
                            have b9 := X9.beside b8.2.2 b8.1 b8.2.1
                            have ru9 := ((ru6.ext X7).ext X8).ext X9
                            have X59 := X58.trans X9
                            by_cases hl : acc6.length < LIM
                            · rw [if_pos hl] at h6
                              refine ⟨us6, b9.2.2, by rw [ru9.len]; exact lim_lt hl, hj, G9, as9, st10, us6 ++ [w], acc6 ++ [d], R9.touch b9.1 b9.2.1, (X18.trans X9).touch hD, fun a o h => X59.sub a o (S6 a o h), P6.trans X59.pre, fun a o kvs h => ?_, upd_same, b9.1, b9.2.1, ru9.append (.cons rw' .nil), h6⟩
                              have h9 := X59.lk a o kvs (L6 a o kvs h)
                              have : a ≠ D0 := fun z => by subst z; rw [b9.2.2] at h9; cases h9
                              rw [upd_ne this]; exact h9
                            · rw [if_neg hl] at h6; exact h6.elim
                  · simp only [hok1] at h6; exact h6.elim
                · have ej : j = ys.length := by omega
                  subst ej
                  rw [List.drop_length] at h6
                  unfold cloop at h6
                  by_cases hok1 : srcOk src1 ys st6 = true
                  · simp only [hok1, if_true] at h6
                    exact .inl ⟨Y1.stop G6 H6 as6 st6 R6 S6 P6 L6 hok1, hi, G6, as6, st6, us6, acc6, R6, X6, hL6, hg6, ha6, ru6, h6⟩
                  · simp only [hok1] at h6; exact h6.elim
      · simp only [hok] at h2; exact h2.elim
    · have ei : i = xs.length := by omega
      subst ei
      rw [List.drop_length] at h2
      unfold cloop2 at h2
      by_cases hok : srcOk src xs st2 = true
      · simp only [hok, if_true] at h2
        exact .inl ⟨Y.stop G2 H2 as2 st2 R2 X2.sub X2.pre X2.lk hok, fin acc st2 G2 H2 as2 G1 H1 as1 us D0 R2 ru hL hg ha X2 hD h2⟩
      · simp only [hok] at h2; exact h2.elim
theorem je_lc2 {elt tg iter tg1 iter1 : Expr} {ifs ifs1 : List Expr} {scope : Scope} (own : List (Str × Nat)) (vs1 : List Nat) {mi mi1 : XM (List D × Option Nat)} {gt gt1 : MG} {mt mt1 : XM Bool} {me : XM D} (hi : JI F tg iter mi) (ok : blkC F.N F.sc scope own = true) (hv : ∀ i ∈ vs1, i ∈ own.map (·.2)) (hg : JC (famC F scope) (own.map (·.2)) tg gt)
    (ht : JTs (famC F scope) ifs mt) (hi1 : JI (famC F scope) tg1 iter1 mi1) (hg1 : JC (famC F scope) vs1 tg1 gt1) (ht1 : JTs (famC F scope) ifs1 mt1) (he : JE (famC F scope) elt me) (hs : ∀ env x, foldedSetIterable iter env x = pure x := by intro _ _; rfl) (hs1 : ∀ env x, foldedSetIterable iter1 env x = pure x := by intro _ _; rfl) :
    JE F (.ListComp elt [⟨tg, iter, ifs, 0⟩, ⟨tg1, iter1, ifs1, 0⟩] scope pos) (xcomp2 mi (own.map (·.2)) gt mt mi1 vs1 gt1 mt1 me) := by
  obtain ⟨wi, pi, si⟩ := hi
  obtain ⟨tg', pg', sg'⟩ := hg
  obtain ⟨tt, pt, stt⟩ := ht
  obtain ⟨wi1, pi1, si1⟩ := hi1
  obtain ⟨tg1', pg1', sg1'⟩ := hg1
  obtain ⟨tt1, pt1, stt1⟩ := ht1
  obtain ⟨te, pe, se⟩ := he
  refine ⟨fun W => tLc2 (wi W) tg' (tt W0) (wi1 W0) tg1' (tt1 W0) (te W0) (own.map (·.2)) vs1, fun W X m => ?_, ?_⟩
  · have hm : ∀ (s : Shared) (H : Hp) (C : Addr) (cl : List (Str × Addr)) (fp : List Addr), (famC F scope).mem W0 (X.blk s H scope (compEnvC scope cl C X.env) fp) := fun s H C cl fp => ⟨rfl, W, X, s, H, C, cl, fp, m, rfl⟩
    exact pe_lc2 (F.calm m) (by rw [F.hN m]; exact F.nd) (pi W X m) (by rw [F.hN m, F.hsc m]; exact blkOk_by ok) hv (fun s H C cl fp => pg' _ _ (hm s H C cl fp)) (fun s H C cl fp => pt _ _ (hm s H C cl fp)) (fun s H C cl fp => pi1 _ _ (hm s H C cl fp)) (fun s H C cl fp => pg1' _ _ (hm s H C cl fp)) (fun s H C cl fp => pt1 _ _ (hm s H C cl fp)) (fun s H C cl fp => pe _ _ (hm s H C cl fp)) (hs _) hs1
  · intro W G H as st σ e Q R N h
    refine comp2_read si sg' stt si1 sg1' stt1 se W G H as st σ e Q R N (fun ds st' => .ok (.lst ds) st') ?_ ?_
    · refine Eq.mp (congrArg (fun r => PX g.K g.mg W G H as σ r Q) ?_) h
      unfold xcomp2 xbind xpure
      cases xcomp2L mi (own.map (·.2)) gt mt mi1 vs1 gt1 mt1 me e st <;> rfl
    · intro ds st' G1 H1 as1 G2 H2 as2 us p R1 ru hp gn na X1 hn hq
      refine hq _ _ H1 as1 (R1.freeze hp gn na) (X1.freeze hn gn) (.lst upd_same (ru.mono (fun a u e => ?_) (List.prefix_refl _)))
      rw [upd_ne (ne_of_none e gn)]; exact e
theorem js_setLc2 (i : Nat) {y : Str} {py spos : Pos} {elt tg iter tg1 iter1 : Expr} {ifs ifs1 : List Expr} {scope : Scope} (own : List (Str × Nat)) (vs1 : List Nat) {mi mi1 : XM (List D × Option Nat)} {gt gt1 : MG} {mt mt1 : XM Bool} {me : XM D} (hy : F.N[i]? = some y) (hyl : F.sc.names.lookup y = some .local)
    (hsw : ∀ W X, F.mem W X → swapsWith (.ListComp elt [⟨tg, iter, ifs, 0⟩, ⟨tg1, iter1, ifs1, 0⟩] scope pos) (some (.Name y py)) spos.line X.env = pure true) (hi : JI F tg iter mi) (ok : blkC F.N F.sc scope own = true) (hv : ∀ i ∈ vs1, i ∈ own.map (·.2)) (hg : JC (famC F scope) (own.map (·.2)) tg gt)
    (ht : JTs (famC F scope) ifs mt) (hi1 : JI (famC F scope) tg1 iter1 mi1) (hg1 : JC (famC F scope) vs1 tg1 gt1) (ht1 : JTs (famC F scope) ifs1 mt1) (he : JE (famC F scope) elt me) (hs : ∀ env x, foldedSetIterable iter env x = pure x := by intro _ _; rfl) (hs1 : ∀ env x, foldedSetIterable iter1 env x = pure x := by intro _ _; rfl) :
    JS F (.Assign [.Name y py] (.ListComp elt [⟨tg, iter, ifs, 0⟩, ⟨tg1, iter1, ifs1, 0⟩] scope pos) spos) (sset i (xcomp2 mi (own.map (·.2)) gt mt mi1 vs1 gt1 mt1 me)) := by
  obtain ⟨wi, pi, si⟩ := hi
  obtain ⟨tg', pg', sg'⟩ := hg
  obtain ⟨tt, pt, stt⟩ := ht
  obtain ⟨wi1, pi1, si1⟩ := hi1
  obtain ⟨tg1', pg1', sg1'⟩ := hg1
  obtain ⟨tt1, pt1, stt1⟩ := ht1
  obtain ⟨te, pe, se⟩ := he
  refine ⟨fun W => tAsg (tLc2 (wi W) tg' (tt W0) (wi1 W0) tg1' (tt1 W0) (te W0) (own.map (·.2)) vs1) (gName i), fun W X m => ?_, ?_⟩
  · have hm : ∀ (s : Shared) (H : Hp) (C : Addr) (cl : List (Str × Addr)) (fp : List Addr), (famC F scope).mem W0 (X.blk s H scope (compEnvC scope cl C X.env) fp) := fun s H C cl fp => ⟨rfl, W, X, s, H, C, cl, fp, m, rfl⟩
    exact ps_setLc2 (F.calm m) (by rw [F.hN m]; exact F.nd) (by rw [F.hN m]; exact hy) (by rw [F.hsc m]; exact hyl) (hsw W X m) (pi W X m) (by rw [F.hN m, F.hsc m]; exact blkOk_by ok) hv (fun s H C cl fp => pg' _ _ (hm s H C cl fp)) (fun s H C cl fp => pt _ _ (hm s H C cl fp)) (fun s H C cl fp => pi1 _ _ (hm s H C cl fp)) (fun s H C cl fp => pg1' _ _ (hm s H C cl fp)) (fun s H C cl fp => pt1 _ _ (hm s H C cl fp)) (fun s H C cl fp => pe _ _ (hm s H C cl fp)) (hs _) hs1
  · intro W G H as st σ e E R N h
    have h' : PX g.K g.mg W G H as σ (xcomp2 mi (own.map (·.2)) gt mt mi1 vs1 gt1 mt1 me e st) (fun x H1 => gName i x σ H1 E.nx) := by
      unfold sset sbind at h
      cases q : xcomp2 mi (own.map (·.2)) gt mt mi1 vs1 gt1 mt1 me e st with
      | stuck => rw [q] at h; exact h
      | exc c p st1 => rw [q] at h; exact fun cls d G1 H1 as1 R1 X1 x => h σ cls d G1 H1 as1 R1 (N.ext X1) X1 x
      | ok d st1 => rw [q] at h; exact fun v G1 H1 as1 R1 X1 rv => h _ G1 H1 as1 R1 ((N.ext X1).set i rv) X1
    refine comp2_read si sg' stt si1 sg1' stt1 se W G H as st σ e _ R N (fun ds st' => .ok (.lst ds) st') ?_ ?_
    · refine Eq.mp (congrArg (fun r => PX g.K g.mg W G H as σ r _) ?_) h'
      unfold xcomp2 xbind xpure
      cases xcomp2L mi (own.map (·.2)) gt mt mi1 vs1 gt1 mt1 me e st <;> rfl
    · intro ds st' G1 H1 as1 G2 H2 as2 us p R1 ru hp gn na X1 hn hq
      refine hq _ _ H1 as1 (R1.freeze hp gn na) (X1.freeze hn gn) (.lst upd_same (ru.mono (fun a u e => ?_) (List.prefix_refl _)))
      rw [upd_ne (ne_of_none e gn)]; exact e
end
end LS
end
section
set_option maxRecDepth 100000
set_option maxHeartbeats 2000000
namespace LS
open PySem PySem.Spec L2

/-! ## more of dicts -/
section
variable {g : Gb} {F : Fam g} {pos : Pos}
/-- the dict under the name in the slot j is locked while the expression is worth -/
def elock (j : Nat) (m : XM D) : XM D := fun e st => match e[j]? with
  | some (some (.ref i)) => (match st[i]? with
    | some (.dct kvs) => (match m e (st.set i (.lck kvs)) with
      | .ok d st' => .ok d (st'.set i (.dct kvs))
      | _ => .stuck)
    | _ => .stuck)
  | _ => .stuck
theorem je_lock (j : Nat) {ex : Expr} {m : XM D} (h : JE F ex m) : JE F ex (elock j m) := by
  obtain ⟨t, p, ss⟩ := h
  refine ⟨fun W => tLockE (t W), fun W X m => pe_lock (p W X m), ?_⟩
  intro W G H as st σ e Q R N h
  unfold elock at h
  cases q1 : e[j]? with
  | none => simp [q1] at h; exact h.elim
  | some o1 =>
    cases o1 with
    | none => simp [q1] at h; exact h.elim
    | some d =>
      cases d with
      | ref i =>
        obtain ⟨v, _, rv⟩ := N.at_ j _ q1
        obtain ⟨a, rfl, qa⟩ : ∃ a, v = .ref a ∧ as[i]? = some a := by cases rv with | ref q => exact ⟨_, rfl, q⟩
        simp only [q1] at h
        cases q2 : st[i]? with
        | none => simp [q2] at h; exact h.elim
        | some mo =>
          cases mo with
          | dct kds =>
            simp only [q2] at h
            obtain ⟨hob, e1, oo⟩ := R.at_ qa q2
            cases oo with
            | dct ek rr =>
              rename_i kv
              refine ⟨a, .dK kv, e1, trivial, fun od => ?_⟩
              obtain ⟨R1, X1⟩ := R.change (o := .frz od (.dK kv)) (m := .lck kds) qa (.lck ek rr) (fun u kvs z => by rw [e1] at z; cases z)
              refine ss W G (upd H a (.frz od (.dK kv))) as (st.set i (.lck kds)) σ e _ R1 (N.ext X1) ?_
              cases q3 : m e (st.set i (.lck kds)) with
              | stuck => rw [q3] at h; exact h.elim
              | exc c p st2 => rw [q3] at h; exact h.elim
              | ok d2 st2 =>
                rw [q3] at h
                intro v2 G2 H2 as2 R2 X2 rv2
                obtain ⟨h1, R3, X3⟩ := unlock_ok R qa e1 ek rr R2 X2
                exact ⟨h1, h v2 G2 _ as2 R3 X3 rv2⟩
          | _ => simp [q2] at h; exact h.elim
      | _ => simp [q1] at h; exact h.elim
/-- the keys of a locked dict -/
def keysD (kds : List (Key × D)) : List D := kds.map fun kv => kD kv.1
theorem yl_keys {G0 H0 : Hp} {as0 : List Addr} {a : Addr} {o : Obj} {kvs : List (Key × V)} {kds : List (Key × D)} (hd : H0 a = some (.frz o (.dK kvs))) (ek : kvs.map (·.1) = kds.map (·.1)) : Yl g G0 H0 as0 none (keysD kds) (Itk a o kvs) where
  go := fun i G H as st hi R hs hp hl _ => ⟨hl a o kvs hd, by
    have : kvs.length = kds.length := by simpa using congrArg List.length ek
    simpa [keysD, this] using hi⟩
  stop := fun G H as st R hs hp hl _ => ⟨hl a o kvs hd, by
    have : kvs.length = kds.length := by simpa using congrArg List.length ek
    simp [keysD, this]⟩
  yld := fun i G H as st v H' x R hs hp hl _ hx y => by
    obtain ⟨e0, k, u, e1, rfl⟩ := y
    subst e0
    refine ⟨G, R, Ext.refl, ?_⟩
    have e2 : (kds.map (·.1))[i]? = some k := by rw [← ek, List.getElem?_map, e1]; rfl
    rw [List.getElem?_map] at e2
    obtain ⟨kd, e3, e4⟩ := Option.map_eq_some_iff.mp e2
    unfold keysD at hx
    rw [List.getElem?_map, e3] at hx
    cases hx
    rw [← e4]
    exact kD_rp kd.1
def xkeysI (m : XM D) : XM (List D × Option Nat) := xbind m fun x => fun _ st => match x with
  | .ref i => (match st[i]? with
    | some (.lck kds) => .ok (keysD kds, none) st
    | _ => .stuck)
  | _ => .stuck
theorem ji_keys {tg e : Expr} {m : XM D} (h : JE F e m) : JI F tg e (xkeysI m) := by
  obtain ⟨t, p, s⟩ := h
  refine ⟨fun W => iKeys (t W), fun W X m => pi_keys (p W X m), ?_⟩
  intro W G H as st σ e R' R N h
  refine s W G H as st σ e _ R N ?_
  unfold xkeysI xbind at h
  cases q : m e st with
  | stuck => rw [q] at h; exact h
  | exc c p st1 => rw [q] at h; exact h
  | ok x st1 =>
    simp only [q] at h
    intro v G1 H1 as1 R1 X1 rv
    cases x with
    | ref i =>
      cases q2 : st1[i]? with
      | none => simp only [q2] at h; exact h.elim
      | some mo =>
        cases mo with
        | lck kds =>
          simp only [q2] at h
          obtain ⟨a, rfl, qa⟩ : ∃ a, v = .ref a ∧ as1[i]? = some a := by cases rv with | ref q => exact ⟨_, rfl, q⟩
          obtain ⟨hob, e1, oo⟩ := R1.at_ qa q2
          cases oo with
          | lck ek rr => exact ⟨a, _, rfl, .inl ⟨_, e1, h.2 _ G1 H1 as1 R1 X1 (yl_keys e1 ek)⟩⟩
        | _ => simp only [q2] at h; exact h.elim
    | _ => exact h.elim
/-- the values of a locked dict -/
def valsD (kds : List (Key × D)) : List D := kds.map (·.2)
theorem yl_vals {G0 H0 : Hp} {as0 : List Addr} {a : Addr} {o : Obj} {kvs : List (Key × V)} {kds : List (Key × D)} (hd : H0 a = some (.frz o (.dK kvs))) (ek : kvs.map (·.1) = kds.map (·.1)) (rr : RpA g.K g.mg G0 as0 (kvs.map (·.2)) (kds.map (·.2))) : Yl g G0 H0 as0 none (valsD kds) (Itd a o kvs) where
  go := fun i G H as st hi R hs hp hl _ => ⟨hl a o kvs hd, by
    have : kvs.length = kds.length := by simpa using congrArg List.length ek
    simpa [valsD, this] using hi⟩
  stop := fun G H as st R hs hp hl _ => ⟨hl a o kvs hd, by
    have : kvs.length = kds.length := by simpa using congrArg List.length ek
    simp [valsD, this]⟩
  yld := fun i G H as st v H' x R hs hp hl _ hx y => by
    obtain ⟨e0, k, e1⟩ := y
    subst e0
    obtain ⟨d, e2, ru⟩ := pair_at ek rr e1
    unfold valsD at hx
    rw [List.getElem?_map, e2] at hx
    cases hx
    exact ⟨G, R, Ext.refl, ru.mono hs hp⟩
def xvalsI (m : XM D) : XM (List D × Option Nat) := xbind m fun x => fun _ st => match x with
  | .ref i => (match st[i]? with
    | some (.lck kds) => .ok (valsD kds, none) st
    | _ => .stuck)
  | _ => .stuck
theorem ji_vals {tg e : Expr} {apos : Pos} {m : XM D} (h : JE F e m) (hb : ∀ env, attributeBase e "values" env (eval e env) = eval e env := by intro _; rfl) (hline : (apos.endLine == pos.line) = true := by rfl) : JI F tg (.Call (.Attribute e "values" apos) [] [] pos) (xvalsI m) := by
  obtain ⟨t, p, s⟩ := h
  refine ⟨fun W => iVals (t W), fun W X m => pi_values (p W X m) (hb _) hline, ?_⟩
  intro W G H as st σ e R' R N h
  refine s W G H as st σ e _ R N ?_
  unfold xvalsI xbind at h
  cases q : m e st with
  | stuck => rw [q] at h; exact h
  | exc c p st1 => rw [q] at h; exact h
  | ok x st1 =>
    simp only [q] at h
    intro v G1 H1 as1 R1 X1 rv
    cases x with
    | ref i =>
      cases q2 : st1[i]? with
      | none => simp only [q2] at h; exact h.elim
      | some mo =>
        cases mo with
        | lck kds =>
          simp only [q2] at h
          obtain ⟨a, rfl, qa⟩ : ∃ a, v = .ref a ∧ as1[i]? = some a := by cases rv with | ref q => exact ⟨_, rfl, q⟩
          obtain ⟨hob, e1, oo⟩ := R1.at_ qa q2
          cases oo with
          | lck ek rr => exact ⟨a, _, _, rfl, e1, h.2 _ G1 H1 as1 R1 X1 (yl_vals e1 ek rr)⟩
        | _ => simp only [q2] at h; exact h.elim
    | _ => exact h.elim
/-- one pair behind the other -/
def mergeKD (kds more : List (Key × D)) : List (Key × D) := more.foldl (fun acc kv => putKD acc kv.1 kv.2) kds
theorem mergeKD_ok {K : PySem.W.Frag} {mg : Str → Option Value} {G : Hp} {as : List Addr} : ∀ {more : List (Key × V)} {moreD : List (Key × D)} {kvs : List (Key × V)} {kds : List (Key × D)}, more.map (·.1) = moreD.map (·.1) → RpA K mg G as (more.map (·.2)) (moreD.map (·.2)) → kvs.map (·.1) = kds.map (·.1) → RpA K mg G as (kvs.map (·.2)) (kds.map (·.2)) →
    (mergeK kvs more).map (·.1) = (mergeKD kds moreD).map (·.1) ∧ RpA K mg G as ((mergeK kvs more).map (·.2)) ((mergeKD kds moreD).map (·.2))
  | [], [], _, _, _, _, e, q => ⟨e, q⟩
  | [], _ :: _, _, _, e, _, _, _ => by simp at e
  | _ :: _, [], _, _, e, _, _, _ => by simp at e
  | (k1, v) :: r, (k2, d) :: s, kvs, kds, e, q, e0, q0 => by
    have e' : k1 = k2 ∧ r.map (·.1) = s.map (·.1) := by simpa using e
    obtain ⟨rfl, e'⟩ := e'
    cases q with
    | cons q1 q2 =>
      obtain ⟨p1, p2⟩ := putKD_ok k1 q1 e0 q0
      have := mergeKD_ok (kvs := putK kvs k1 v) (kds := putKD kds k1 d) e' q2 p1 p2
      exact this
/-- keys and values -/
def prsD : List (D × D) → Option (List (Key × D))
  | [] => some []
  | (a, b) :: r => match keyD a, prsD r with
    | some k, some s => some ((k, b) :: s)
    | _, _ => none
theorem prsD_ok {K : PySem.W.Frag} {mg : Str → Option Value} {G : Hp} {as : List Addr} : ∀ {ps : List (V × V)} {xs : List (D × D)} {kds : List (Key × D)}, RpA K mg G as (ps.map (·.1)) (xs.map (·.1)) → RpA K mg G as (ps.map (·.2)) (xs.map (·.2)) → prsD xs = some kds →
    ∃ kvs : List (Key × V), ps = kvs.map (fun kv => (kV kv.1, kv.2)) ∧ kvs.map (·.1) = kds.map (·.1) ∧ RpA K mg G as (kvs.map (·.2)) (kds.map (·.2)) ∧ kvs.length = xs.length
  | [], [], _, _, _, h => by cases h; exact ⟨[], rfl, rfl, .nil, rfl⟩
  | [], _ :: _, _, r, _, _ => by cases r
  | _ :: _, [], _, r, _, _ => by cases r
  | (v, w) :: r, (a, b) :: s, kds, r1, r2, h => by
    unfold prsD at h
    cases q1 : keyD a with
    | none => simp [q1] at h
    | some k =>
      cases q2 : prsD s with
      | none => simp [q1, q2] at h
      | some kd2 =>
        simp only [q1, q2, Option.some.injEq] at h
        subst h
        cases r1 with
        | cons a1 a2 =>
          cases r2 with
          | cons b1 b2 =>
            obtain ⟨kvs, e1, e2, e3, e4⟩ := prsD_ok a2 b2 q2
            refine ⟨(k, w) :: kvs, ?_, by simp [e2], .cons b1 e3, by simp [e4]⟩
            have : v = kV k := keyD_ok a1 q1
            simp [e1, this]
/-- the pairs of a display -/
def JPs (F : Fam g) (pos : Pos) (keys : List (Option Expr)) (values : List Expr) (m : XM (List (D × D))) : Prop := ∃ trs : WX → List (TE × TE), (∀ W X, F.mem W X → PPs X pos keys values (trs W)) ∧
  ∀ (W : WX) (G H : Hp) (as : List Addr) (st : Store) (σ : L2.St) (e : Nv) (Q : List (V × V) → Hp → Prop) (xs : List (D × D)) (st' : Store), Ri g.K g.mg G H as st → Rn g.K g.mg G as σ e → m e st = .ok xs st' →
    (∀ ps G' H' as', Ri g.K g.mg G' H' as' st' → Ext G H as G' H' as' → RpA g.K g.mg G' as' (ps.map (·.1)) (xs.map (·.1)) → RpA g.K g.mg G' as' (ps.map (·.2)) (xs.map (·.2)) → Q ps H') → tPairs (trs W) σ H Q
theorem jps_nil : JPs F pos [] [] (xpure []) := by
  refine ⟨fun _ => [], fun _ _ _ => pps_nil, ?_⟩
  intro W G H as st σ e Q xs st' R N h k
  cases h
  exact k [] G H as R Ext.refl .nil .nil
def xpair (mk mv : XM D) (ms : XM (List (D × D))) : XM (List (D × D)) := xbind mk fun x => xbind mv fun y => xbind ms fun r => xpure ((x, y) :: r)
theorem jps_cons {k v : Expr} {ks : List (Option Expr)} {vs : List Expr} {mk mv : XM D} {ms : XM (List (D × D))} (hk : JE F k mk) (hv : JE F v mv) (hr : JPs F pos ks vs ms) : JPs F pos (some k :: ks) (v :: vs) (xpair mk mv ms) := by
  obtain ⟨tk, pk, sk⟩ := hk
  obtain ⟨tv, pv, sv⟩ := hv
  obtain ⟨ts, ps, ss⟩ := hr
  refine ⟨fun W => (tk W, tv W) :: ts W, fun W X m => pps_cons (pk W X m) (pv W X m) (ps W X m), ?_⟩
  intro W G H as st σ e Q xs st' R N h kk
  unfold xpair xbind at h
  refine sk W G H as st σ e _ R N ?_
  cases q1 : mk e st with
  | stuck => simp [q1] at h
  | exc c p st1 => simp [q1] at h
  | ok x st1 =>
    simp only [q1] at h
    intro u G1 H1 as1 R1 X1 ru
    refine sv W G1 H1 as1 st1 σ e _ R1 (N.ext X1) ?_
    cases q2 : mv e st1 with
    | stuck => simp [q2] at h
    | exc c p st2 => simp [q2] at h
    | ok y st2 =>
      simp only [q2] at h
      intro w G2 H2 as2 R2 X2 rw'
      cases q3 : ms e st2 with
      | stuck => simp [q3] at h
      | exc c p st3 => simp [q3] at h
      | ok r st3 =>
        simp only [q3, xpure] at h
        cases h
        refine ss W G2 H2 as2 st2 σ e _ r st' R2 ((N.ext X1).ext X2) q3 fun ps3 G3 H3 as3 R3 X3 r1 r2 => ?_
        exact kk _ G3 H3 as3 R3 ((X1.trans X2).trans X3) (.cons ((ru.ext X2).ext X3) r1) (.cons (rw'.ext X3) r2)
/-- {k: v, ..} -/
def xdisp (m : XM (List (D × D))) : XM D := fun e st => match m e st with
  | .ok xs st' => (match prsD xs with
    | some kds => if xs.length ≤ 15 then .ok (.ref st'.length) (st' ++ [.dct (mergeKD [] kds)]) else .stuck
    | none => .stuck)
  | _ => .stuck
theorem je_disp {keys : List (Option Expr)} {values : List Expr} {m : XM (List (D × D))} (h : JPs F pos keys values m) (hall : keys.all (·.isSome) = true) (hl : keys.length = values.length) (h0 : keys ≠ []) (h15 : keys.length ≤ 15) : JE F (.Dict keys values pos) (xdisp m) := by
  obtain ⟨ts, ps, ss⟩ := h
  refine ⟨fun W => tDisp (ts W), fun W X m => pe_disp (ps W X m) hall hl h0 h15, ?_⟩
  intro W G H as st σ e Q R N h p hp
  unfold xdisp at h
  cases q1 : m e st with
  | stuck => simp [q1] at h; exact h.elim
  | exc c p st1 => simp [q1] at h; exact h.elim
  | ok xs st1 =>
    simp only [q1] at h
    cases q2 : prsD xs with
    | none => simp [q2] at h; exact h.elim
    | some kds =>
      simp only [q2] at h
      by_cases hl2 : xs.length ≤ 15
      · rw [if_pos hl2] at h
        have hd0 := R.none_of hp
        have X0 : Ext G H as G (upd H p (.dK [])) as := Ext.refl.touch hp
        refine ss W G (upd H p (.dK [])) as st σ e _ xs st1 (R.touch hd0.1 hd0.2) (N.ext X0) q1 fun ps1 G1 H1 as1 R1 X1 r1 r2 => ?_
        obtain ⟨b1, b2, b3⟩ := X1.beside upd_same hd0.1 hd0.2
        obtain ⟨kvs, e1, e2, e3, e4⟩ := prsD_ok r1 r2 q2
        refine ⟨b3, kvs, e1, by rw [e4]; exact hl2, ?_⟩
        obtain ⟨m1, m2⟩ := mergeKD_ok (kvs := []) (kds := []) e2 e3 rfl .nil
        have R2 := (R1.touch (o := .dK (mergeK [] kvs)) b1 b2).adopt (m := .dct (mergeKD [] kds)) upd_same b1 b2 (.dct m1 m2)
        refine h _ _ _ _ R2 (((X0.trans X1).touch hp).adopt hp) (.ref ?_)
        rw [← R1.len, List.getElem?_append_right (Nat.le_refl _), Nat.sub_self]; rfl
      · rw [if_neg hl2] at h; exact h.elim
/-- dict([(k, v), ..]) -/
def tupsD : List D → Option (List (D × D))
  | [] => some []
  | .tup [a, b] :: r => (tupsD r).map fun s => (a, b) :: s
  | _ => none
def dictPD (x : D) : XM D := fun _ st => match lstOf st x with
  | some xs => (match tupsD xs with
    | some ps => (match prsD ps with
      | some kds => .ok (.ref st.length) (st ++ [.dct (mergeKD [] kds)])
      | none => .stuck)
    | none => .stuck)
  | none => .stuck
theorem tupsD_ok {K : PySem.W.Frag} {mg : Str → Option Value} {G H : Hp} {as : List Addr} {st : Store} (R : Ri K mg G H as st) : ∀ {vs : List V} {xs : List D} {ps : List (D × D)} {kds : List (Key × D)}, RpA K mg G as vs xs → tupsD xs = some ps → prsD ps = some kds →
    ∃ (qs : List Addr) (kvs : List (Key × V)), vs = qs.map V.ref ∧ Paired (fun p kv => SqT K H p [kV kv.1, kv.2]) qs kvs ∧ kvs.map (·.1) = kds.map (·.1) ∧ RpA K mg G as (kvs.map (·.2)) (kds.map (·.2))
  | _, [], _, _, r, h, h2 => by cases r; cases h; cases h2; exact ⟨[], [], rfl, .nil, rfl, .nil⟩
  | _, x :: xs, ps, kds, r, h, h2 => by
    cases r with
    | cons r1 r2 =>
      match x, r1, h with
      | .tup [a, b], r1, h =>
        obtain ⟨s, e1, rfl⟩ := Option.map_eq_some_iff.mp (show (tupsD xs).map (fun s => (a, b) :: s) = some ps from h)
        unfold prsD at h2
        cases q1 : keyD a with
        | none => simp [q1] at h2
        | some k =>
          cases q2 : prsD s with
          | none => simp [q1, q2] at h2
          | some kd2 =>
            simp only [q1, q2, Option.some.injEq] at h2
            subst h2
            obtain ⟨qs, kvs, f1, f2, f3, f4⟩ := tupsD_ok R r2 e1 q2
            cases r1 with
            | tup sq rr =>
              rename_i ad us
              obtain ⟨u, w, rfl, ra, rb⟩ := rp2 rr
              have eu : u = kV k := keyD_ok ra q1
              subst eu
              exact ⟨ad :: qs, (k, w) :: kvs, by simp [f1], .cons (sqT_H R sq) f2, by simp [f3], .cons rb f4⟩
theorem cs_dictP : CallS F (.type "dict") (f1 dictPD) := by
  refine cs_1 (fun W X m => by have := call_dictP (X := X) (F.calm m); rw [F.hK m] at this; exact this) ?_
  intro W G H as st σ e x v Q R rx h
  unfold dictPD at h
  cases q1 : lstOf st x with
  | none => simp [q1] at h; exact h.elim
  | some xs =>
    cases q2 : tupsD xs with
    | none => simp [q1, q2] at h; exact h.elim
    | some ps =>
      cases q3 : prsD ps with
      | none => simp [q1, q2, q3] at h; exact h.elim
      | some kds =>
        simp only [q1, q2, q3] at h
        obtain ⟨a, vs, rfl, hs, rr⟩ := lstOf_ok R rx q1
        obtain ⟨qs, kvs, rfl, f2, f3, f4⟩ := tupsD_ok R rr q2 q3
        refine ⟨a, qs, kvs, rfl, .of hs, f2, fun p hp => ?_⟩
        obtain ⟨m1, m2⟩ := mergeKD_ok (kvs := []) (kds := []) f3 f4 rfl .nil
        obtain ⟨R', X'⟩ := R.moving (o := .dK (mergeK [] kvs)) (m := .dct (mergeKD [] kds)) hp (.dct m1 m2)
        exact h _ G _ _ R' X' (.ref (by rw [← R.len, List.getElem?_append_right (Nat.le_refl _), Nat.sub_self]; rfl))
end
end LS
end
section
set_option maxRecDepth 100000
set_option maxHeartbeats 2000000
namespace LS
open PySem PySem.Spec L2

/-! ## sorted -/
section raw
open PySem.W PyProof.Rows PySem.Calls
variable {prog : Program} {w : World} {A : Around} {E : Value → Shared → Prop} {s : Shared}
theorem sorted_seqA {l : Addr} {T : String} {o : Obj} {items : Array Value} {n : Nat} {β : Type} {bs : List β} {enc : β → PyData} {R : Value → β → Prop} {Q : Value → Shared → Prop} (hT : T = "list" ∨ T = "tuple") (ho : s.heap.get? l = some o) (hc : o.cls = .type T) (hd : o.data = .seq items n) (hsz : items.size ≤ sizeLine)
    (e : EachIs R items.toList bs) (er : EachIs (fun v b => ∃ as, Reads s.heap v (enc b) as) items.toList bs) (hal : AllAlike (bs.map enc)) (hk : Sortable (bs.map enc)) (hu : ∀ b, b ∈ bs → A.units + 2 + (enc b).depth < cLine)
    (h : ∀ (h' : Heap) (out : List Value) (ep : Nat) (hf : Heap), (∀ b o, s.heap.get? b = some o → h'.get? b = some o) → (∀ b o, h'.get? b = some o → hf.get? b = some o) → hf.get? h'.objs.size = some (seqObj "list" (List.toArray out) ep) → EachIs R out (bs.mergeSort (dataLe false enc)) → Q (.ref h'.objs.size) { s with heap := hf }) :
    wpAny (model prog w) A (call (.builtin "sorted") [.ref l]) Q E s := by
  refine call_function_entry_kw kind_sorted plain_sorted entry_sorted (args_sorted1 _) ?_
  unfold Builtin.«sorted»
  refine wpAny_bind (m := checkCount "sorted" 1 1 _) (wpAny_pure ?_)
  refine wpAny_bind (wpAny_collect_seq l hT ho hc hd (fun h' k => ?_) hsz)
  have hL : items.toList.length ≤ sizeLine := by simpa using hsz
  refine wpAny_bind (wpAny_newList ?_ hL)
  have hoL : (h'.push (seqObj "list" items.toList.toArray 0)).get? h'.objs.size = some (seqObj "list" items.toList.toArray 0) := Heap.get?_push_size _ rfl
  have er' : EachIs (fun v b => ∃ as, Reads (sortingHeap (h'.push (seqObj "list" items.toList.toArray 0)) h'.objs.size items.toList) v (enc b) as) items.toList bs := er.mono fun _ _ ⟨as, r⟩ => ⟨as, PyProof.Rows.Reads.keeps (fun b o q => by
    have hlt := Heap.lt_size (k b o q)
    exact sortingHeap_old (Nat.ne_of_lt hlt) (Heap.get?_push_of_some _ (k b o q))) r⟩
  refine wpAny_bind (wpAny_holding (wpAny_call_entry_kw slot_list_sort ⟨_, hoL, rfl⟩ entry_list_sort ?body (args_list_sort _)))
  case body =>
    show wpAny (model prog w) A.in1.in1 (Builtin.«list.sort» ⟨[.ref h'.objs.size], []⟩) _ _ { s with heap := h'.push (seqObj "list" items.toList.toArray 0) }
    have S := SortsAt.data (prog := prog) (w := w) (A := A.in1.in1) (s := { s with heap := sortingHeap (h'.push (seqObj "list" items.toList.toArray 0)) h'.objs.size items.toList }) (each_map (R := fun v d => ∃ as, Reads (sortingHeap (h'.push (seqObj "list" items.toList.toArray 0)) h'.objs.size items.toList) v d as) enc er') hal hk (bound_map hu)
    refine list_sort_vals (s := { s with heap := h'.push (seqObj "list" items.toList.toArray 0) }) hoL S hL ?_
    refine ⟨_, rfl, wpAny_pure ⟨_, rfl, ?_⟩⟩
    obtain ⟨ep, he⟩ := sortedHeap_at (vs := items.toList) (out := (sortVals (dataKind (sortingHeap (h'.push (seqObj "list" items.toList.toArray 0)) h'.objs.size items.toList) (bs.map enc)) false items.toList items.toList).toArray) hoL
    refine h h' _ ep _ k (fun b o q => ?_) he (sortVals_data false e er' hal)
    have hlt := Heap.lt_size q
    show (sortedHeap _ _ _ _).get? b = some o
    rw [sortedHeap_old (Nat.ne_of_lt hlt) (by rw [Heap.size_push]; exact Nat.lt_succ_of_lt hlt)]
    exact Heap.get?_push_of_some _ q
end raw
section
open PySem.W
theorem each_of_vals : ∀ {bs : List (V × PyData)} {its : List Value}, Vals (bs.map (·.1)) its → EachIs (fun v b => RelV b.1 v) its bs
  | [], _, r => by cases r; exact .nil
  | b :: bs, _, r => by
    cases r with
    | cons h t => exact .cons h (each_of_vals t)
theorem vals_of_each : ∀ {bs : List (V × PyData)} {its : List Value}, EachIs (fun v b => RelV b.1 v) its bs → Vals (bs.map (·.1)) its
  | [], _, r => by cases r; exact .nil
  | b :: bs, _, r => by
    cases r with
    | cons h t => exact .cons h (vals_of_each t)
def rSortA (K : PySem.W.Frag) : List V → Hp → VK → Prop := fun vs H Q => ∃ (a : Addr) (bs : List (V × PyData)), vs = [V.ref a] ∧ (SqL K H a (bs.map (·.1)) ∨ SqT K H a (bs.map (·.1))) ∧ (∀ b ∈ bs, Dp K H b.1 b.2) ∧ AllAlike (bs.map (·.2)) ∧ Sortable (bs.map (·.2)) ∧ (∀ b ∈ bs, b.2.depth ≤ 60) ∧
  ∀ p, H p = none → Q (.ref p) (upd H p (.lst ((bs.mergeSort (dataLe false (·.2))).map (·.1))))
theorem each_reads {X : Cx} {pins : List (Addr × Obj)} {σ : L2.St} {H : Hp} {s : Shared} (I : Inv X pins σ H s) : ∀ {bs : List (V × PyData)} {its : List Value}, (∀ b ∈ bs, Dp X.K H b.1 b.2) → EachIs (fun v b => RelV b.1 v) its bs → EachIs (fun v b => ∃ as, Reads s.heap v b.2 as) its bs
  | [], _, _, r => by cases r; exact .nil
  | b :: bs, _, hd, r => by
    cases r with
    | cons h t => exact .cons (Dp.reads I _ _ _ (hd b (by simp)) h) (each_reads I (fun c hc => hd c (by simp [hc])) t)
theorem cr_sortA {X : Cx} (hu : X.A.units + 65 < cLine) : CallR X (.builtin "sorted") (rSortA X.K) := by
  intro pins s σ H vs us Q I r h
  obtain ⟨a, bs, rfl, hs, hdp, hal, hk, hdep, q⟩ := h
  rw [Vals.ref1 r]
  have main : ∀ (T : String) (o : Obj) (its : List Value) (n : Nat), T = "list" ∨ T = "tuple" → s.heap.get? a = some o → o.cls = .type T → o.data = .seq its.toArray n → (bs.map (·.1)).length ≤ sizeLine → Vals (bs.map (·.1)) its → wpAny (model X.prog X.w) X.A (PySem.call (.builtin "sorted") [.ref a]) (EP X pins σ Q) X.xe s := by
    intro T o its n hT ho hc hd hz rv
    have e0 : EachIs (fun v b => RelV b.1 v) its.toArray.toList bs := by simpa using each_of_vals rv
    refine sorted_seqA (enc := fun b : V × PyData => b.2) hT ho hc hd (by simp; rw [← rv.length]; exact hz) e0 (each_reads I hdp e0) hal hk (fun b hb => by have := hdep b hb; omega) fun h' out ep hf k1 k2 he e1 => ?_
    have rv2 := vals_of_each e1
    have I' : Inv X pins σ H { s with heap := h' } := I.kept (t' := s.toks) k1
    have hlen : ((bs.mergeSort (dataLe false (·.2))).map (·.1)).length ≤ sizeLine := by
      rw [List.length_map, (List.mergeSort_perm _ _).length_eq]
      rw [List.length_map] at hz; exact hz
    exact ⟨.ref _, upd H h'.objs.size (.lst ((bs.mergeSort (dataLe false (·.2))).map (·.1))), I'.laid (t' := s.toks) k2 (Nat.le_refl _) ⟨hlen, out, ep, rv2, he⟩, rfl, q _ (I'.hok.fresh (Nat.le_refl _))⟩
  rcases hs with hs | hs
  · obtain ⟨its, rv, p, hz⟩ := I.list hs
    obtain ⟨o, ho, hc, n, hd⟩ := p.isList
    exact main "list" o its n (.inl rfl) ho hc hd hz rv
  · obtain ⟨its, rv, p, hz⟩ := I.tuple hs
    have p' : s.heap.IsTuple a its.toArray := p
    obtain ⟨o, ho, hc, n, hd⟩ := p'
    exact main "tuple" o its n (.inr rfl) ho hc hd hz rv
/-- of one thing, or none -/
def rSort1 (K : PySem.W.Frag) : List V → Hp → VK → Prop := fun vs H Q => ∃ (a : Addr) (xs : List V), vs = [V.ref a] ∧ SqL K H a xs ∧ xs.length ≤ 1 ∧ ∀ p, H p = none → Q (.ref p) (upd H p (.lst xs))
theorem cr_sort1 {X : Cx} : CallR X (.builtin "sorted") (rSort1 X.K) := by
  intro pins s σ H vs us Q I r h
  obtain ⟨a, xs, rfl, hs, h1, q⟩ := h
  obtain ⟨its, rv, hl, hz⟩ := I.list hs
  rw [Vals.ref1 r]
  have hli := rv.length
  refine SrtO.sorted_ord (ltv := fun _ _ => false) ⟨fun _ _ h => (by cases h), fun _ _ _ _ _ => rfl⟩ hl.isList (by rw [← rv.length]; exact hz) (fun h2 => by omega) fun out h1 h2 => ?_
  have eo : out = its := by
    have hp := h2.perm
    match its, hli with
    | [], _ => exact hp.eq_nil
    | [v], _ => exact List.perm_singleton.mp hp
    | _ :: _ :: _, hli => simp at hli; omega
  subst eo
  obtain ⟨ep, he'⟩ := PyProof.Rows.sortedAll_at s.heap out out.toArray
  exact ⟨.ref _, upd H (s.heap.objs.size + 1) (.lst xs), I.laid (t' := s.toks) (fun _ _ => PyProof.Rows.sortedAll_old) (Nat.le_succ _) ⟨hz, out, ep, rv, he'⟩, rfl, q _ (I.hok.fresh (Nat.le_succ _))⟩
end
section
variable {g : Gb} {F : Fam g} {pos : Pos}
open PySem.W (AllAlike Sortable alike dataLe dataLt sort_maps)
def encD (x : D) : PyData := (pyD x).getD .none
def sleD (x y : D) : Bool := !dataLt (encD y) (encD x)
def sortD (xs : List D) : List D := xs.mergeSort sleD
def isT1 : PyData → Bool
  | .tuple (_ :: _) => true
  | _ => false
def noT : PyData → Bool
  | .tuple _ => false
  | .none => false
  | _ => true
def srtOk (ps : List PyData) : Bool := (ps.all fun p => ps.all fun q => alike p q) && (ps.all isT1 || ps.all noT) && ps.all fun p => decide (p.depth ≤ 60)
def sortedD (x : D) : XM D := fun _ st => match seqOf st x with
  | some xs => (match pyDs xs with
    | some ps => if srtOk ps = true then .ok (.lst (sortD xs)) st else (match lstOf st x with
      | some ys => if ys.length ≤ 1 then .ok (.lst ys) st else .stuck
      | none => .stuck)
    | none => .stuck)
  | none => .stuck
theorem pyDs_get : ∀ {xs : List D} {ps : List PyData}, pyDs xs = some ps → (∀ x ∈ xs, ∃ p, pyD x = some p) ∧ ps = xs.map encD
  | [], ps, h => by cases h; exact ⟨by simp, rfl⟩
  | x :: r, ps, h => by
    unfold pyDs at h
    cases q1 : pyD x with
    | none => simp [q1] at h
    | some p =>
      cases q2 : pyDs r with
      | none => simp [q1, q2] at h
      | some ps2 =>
        simp only [q1, q2, Option.some.injEq] at h
        obtain ⟨a, b⟩ := pyDs_get q2
        refine ⟨fun y hy => ?_, ?_⟩
        · rcases List.mem_cons.mp hy with rfl | hy
          · exact ⟨p, q1⟩
          · exact a y hy
        · rw [← h, b]; simp [encD, q1]
theorem zip_rp {K : PySem.W.Frag} {mg : Str → Option Value} {G : Hp} {as : List Addr} : ∀ {vs : List V} {xs : List D}, RpA K mg G as vs xs → ∀ t ∈ vs.zip xs, Rp K mg G as t.1 t.2
  | _, _, .nil, t, h => by simp at h
  | _, _, .cons a b, t, h => by
    simp only [List.zip_cons_cons, List.mem_cons] at h
    rcases h with rfl | h
    · exact a
    · exact zip_rp b t h
theorem rp_zip {K : PySem.W.Frag} {mg : Str → Option Value} {G : Hp} {as : List Addr} : ∀ {ts : List (V × D)}, (∀ t ∈ ts, Rp K mg G as t.1 t.2) → RpA K mg G as (ts.map (·.1)) (ts.map (·.2))
  | [], _ => .nil
  | t :: r, h => .cons (h t (by simp)) (rp_zip fun u hu => h u (by simp [hu]))
theorem cs_sorted : CallS F (.builtin "sorted") (f1 sortedD) := by
  refine cs_1 (r := fun vs H Q => rSortA g.K vs H Q ∨ rSort1 g.K vs H Q) (fun W X m => by have := (cr_sortA (X := X) (units65 (F.room m))).or cr_sort1; rw [F.hK m] at this; exact this) ?_
  intro W G H as st σ e x v Q R rx h
  unfold sortedD at h
  cases q1 : seqOf st x with
  | none => simp only [q1] at h; exact h.elim
  | some xs =>
    simp only [q1] at h
    cases q2 : pyDs xs with
    | none => simp only [q2] at h; exact h.elim
    | some ps =>
      simp only [q2] at h
      obtain ⟨a, vs, rfl, hs, rr⟩ := seqOf_ok R rx q1
      by_cases hok : srtOk ps = true
      · rw [if_pos hok] at h
        obtain ⟨hall, eps⟩ := pyDs_get q2
        unfold srtOk at hok
        simp only [Bool.and_eq_true, Bool.or_eq_true, List.all_eq_true, decide_eq_true_eq] at hok
        obtain ⟨⟨k1, k2⟩, k3⟩ := hok
        have hlen := rr.len
        have efst : (vs.zip xs).map (·.1) = vs := List.map_fst_zip (by omega)
        have esnd : (vs.zip xs).map (·.2) = xs := List.map_snd_zip (by omega)
        have ebs : ((vs.zip xs).map fun t => (t.1, encD t.2)).map (·.1) = vs := by rw [List.map_map]; exact efst
        have ebs2 : ((vs.zip xs).map fun t => (t.1, encD t.2)).map (·.2) = ps := by
          rw [List.map_map, eps]
          have : ((fun x : V × PyData => x.2) ∘ fun t : V × D => (t.1, encD t.2)) = encD ∘ (·.2) := rfl
          rw [this, ← List.map_map, esnd]
        refine .inl ⟨a, (vs.zip xs).map fun t => (t.1, encD t.2), rfl, by rw [ebs]; exact hs, fun b hb => ?_, ?_, ?_, fun b hb => ?_, fun p hp => ?_⟩
        · obtain ⟨t, ht, rfl⟩ := List.mem_map.mp hb
          have rt := zip_rp rr t ht
          have hx : t.2 ∈ xs := by rw [← esnd]; exact List.mem_map.mpr ⟨t, ht, rfl⟩
          obtain ⟨p, hp⟩ := hall _ hx
          have := pyD_ok R rt hp
          show Dp g.K H t.1 (encD t.2)
          unfold encD; rw [hp]; exact this
        · rw [ebs2]; exact fun d hd d' hd' => k1 d hd d' hd'
        · rw [ebs2]
          rcases k2 with k2 | k2
          · refine .inl fun d hd => ?_
            have := k2 d hd
            match d, this with
            | .tuple (x :: r), _ => exact ⟨x, r, rfl⟩
          · refine .inr fun d hd => ?_
            have := k2 d hd
            exact ⟨fun z => (by subst z; cases this), fun ys z => (by subst z; cases this)⟩
        · have : b.2 ∈ ps := by rw [← ebs2]; exact List.mem_map.mpr ⟨b, hb, rfl⟩
          exact k3 _ this
        · have s1 := sort_maps (r := fun s t : V × D => sleD s.2 t.2) (s := dataLe false (fun b : V × PyData => b.2)) (fun t : V × D => (t.1, encD t.2)) (l := vs.zip xs) (fun _ _ _ _ => rfl)
          have s2 := sort_maps (r := fun s t : V × D => sleD s.2 t.2) (s := sleD) (fun t : V × D => t.2) (l := vs.zip xs) (fun _ _ _ _ => rfl)
          rw [← s1, List.map_map]
          rw [esnd] at s2
          refine PX.still R hp ?_ h
          refine .lst upd_same ?_
          show RpA g.K g.mg _ as (((vs.zip xs).mergeSort fun s t => sleD s.2 t.2).map (·.1)) (sortD xs)
          unfold sortD
          rw [← s2]
          refine (rp_zip fun t ht => ?_).ext (R.still (o := .lst _) hp).2
          exact zip_rp rr t ((List.mergeSort_perm _ _).mem_iff.mp ht)
      · rw [if_neg hok] at h
        split at h
        · rename_i ys hy
          by_cases hl : ys.length ≤ 1
          · rw [if_pos hl] at h
            obtain ⟨a', us, e', hs', rr'⟩ := lstOf_ok R rx hy
            cases e'
            refine .inr ⟨a, us, rfl, .of hs', by rw [rr'.len]; exact hl, fun p hp => ?_⟩
            exact PX.still R hp (.lst upd_same (rr'.ext (R.still (o := .lst us) hp).2)) h
          · rw [if_neg hl] at h; exact h.elim
        · exact h.elim

/-! ## methods of lists with one argument -/
def listy (st : Store) : D → Bool
  | .lst _ => true
  | .sq _ => true
  | .ref i => isLst st i
  | _ => false
theorem listy_ok {K : PySem.W.Frag} {mg : Str → Option Value} {G H : Hp} {as : List Addr} {st : Store} {v : V} {d : D} (R : Ri K mg G H as st) (r : Rp K mg G as v d) (h : listy st d = true) : tyV K "list" v H := by
  cases r with
  | lst s q => exact .inl ⟨rfl, _, .of (R.sub _ _ s)⟩
  | sq s q => exact .inl ⟨rfl, _, sqL_H R s⟩
  | ref q => exact ty_ref R (.ref q) h
  | _ => cases h
def xm1 (fop : D → D → XM D) (mo me : XM D) : XM D := xbind mo fun x => fun e st => if listy st x = true then (xbind me fun y => fop x y) e st else .stuck
theorem je_lm1 {o ex : Expr} {mo me : XM D} {apos : Pos} {name : Str} {id : String} {r : V → List V → Hp → VK → Prop} {fop : D → D → XM D} (slot : Slot "list" name id) (hty : typeOf (.builtin id) = pure (.type "method_descriptor")) (hm : ∀ W X, F.mem W X → MtR X id r)
    (hv : ∀ (W : WX) (G H : Hp) (as : List Addr) (st : Store) (σ : L2.St) (e : Nv) (x y : D) (v w : V) (Q : VK), Ri g.K g.mg G H as st → Rp g.K g.mg G as v x → Rp g.K g.mg G as w y → PX g.K g.mg W G H as σ (fop x y e st) Q → r v [w] H Q)
    (ho : JE F o mo) (he : JE F ex me) (h1 : ∀ env, attributeBase o name env (eval o env) = eval o env := by intro _; rfl) (h2 : (apos.endLine == pos.line) = true := by rfl)
    (hst : ∀ env, starEach [ex] env = (false, eval ex env) :: starEach [] env := by intro _; rfl)
    (hfew : ∀ env, ((backTo pos (starEach [ex] env)).all (fun x => !x.1) && (backToKw pos (keywordEach [] env)).all (fun x => x.1.isSome)
      && decide ([ex].length + ([] : List Keyword).length + (if ([] : List Keyword).isEmpty then 0 else 1) < 30)) = true := by intro _; rfl) : JE F (.Call (.Attribute o name apos) [ex] [] pos) (xm1 fop mo me) := by
  obtain ⟨t, p, s⟩ := ho
  obtain ⟨te, pe, se⟩ := he
  refine ⟨fun W => tBM g.K "list" r (t W) (tCons (te W) tNil), fun W X m => ?_, ?_⟩
  · have := pe_bm (cpos := pos) (apos := apos) PySem.F.plainAttrs_list slot hty (hm W X m) (p W X m) (pa_cons (pe W X m) pa_nil (hst _)) (h1 _) (hfew _) h2 (hst _) rfl
    rw [F.hK m] at this
    exact this
  · intro W G H as st σ e Q R N h
    refine s.one R N h fun x st1 v G1 H1 as1 R1 X1 N1 rv h1 => ?_
    by_cases hx : listy st1 x = true
    · rw [if_pos hx] at h1
      refine ⟨listy_ok R1 rv hx, ?_⟩
      refine se.one R1 N1 h1 fun y st2 w G2 H2 as2 R2 X2 N2 rw' h2 => ?_
      exact hv W G2 H2 as2 st2 σ e x y v w Q R2 (rv.ext X2) rw' h2
    · rw [if_neg hx] at h1; exact h1.elim
def pyListOf (st : Store) (x : D) : Option (List PyData) := match pyOf st x with
  | some (.list ps) => some ps
  | _ => none
theorem pyListOf_ok {K : PySem.W.Frag} {mg : Str → Option Value} {G H : Hp} {as : List Addr} {st : Store} {v : V} {x : D} {ps : List PyData} (R : Ri K mg G H as st) (r : Rp K mg G as v x) (h : pyListOf st x = some ps) : ∃ a, v = .ref a ∧ Dp K H v (.list ps) := by
  unfold pyListOf at h
  split at h
  · rename_i q e
    cases h
    have d := pyOf_ok R r e
    cases d with
    | lst s q => exact ⟨_, rfl, .lst s q⟩
  · cases h
def indexD (x y : D) : XM D := fun _ st => match pyListOf st x, pyOf st y with
  | some ps, some p => if (SeqAt.shaped (.list ps) && SeqAt.shaped p) = true then (match ps.findIdx? (fun z => PyData.eqv z p) with
    | some j => .ok (.int (j : Int)) st
    | none => .stuck) else .stuck
  | _, _ => .stuck
theorem je_index {o ex : Expr} {mo me : XM D} {apos : Pos} (ho : JE F o mo) (he : JE F ex me) (h1 : ∀ env, attributeBase o "index" env (eval o env) = eval o env := by intro _; rfl) (h2 : (apos.endLine == pos.line) = true := by rfl)
    (hst : ∀ env, starEach [ex] env = (false, eval ex env) :: starEach [] env := by intro _; rfl)
    (hfew : ∀ env, ((backTo pos (starEach [ex] env)).all (fun x => !x.1) && (backToKw pos (keywordEach [] env)).all (fun x => x.1.isSome)
      && decide ([ex].length + ([] : List Keyword).length + (if ([] : List Keyword).isEmpty then 0 else 1) < 30)) = true := by intro _; rfl) : JE F (.Call (.Attribute o "index" apos) [ex] [] pos) (xm1 indexD mo me) := by
  refine je_lm1 (r := rIndexD g.K) PySem.F.slot_list_index PySem.F.type_list_index (fun W X m => by have := mt_indexD (X := X) (units65 (F.room m)); rw [F.hK m] at this; exact this) ?_ ho he h1 h2 hst hfew
  intro W G H as st σ e x y v w Q R rx ry h
  unfold indexD at h
  cases q1 : pyListOf st x with
  | none => simp only [q1] at h; exact h.elim
  | some ps =>
    cases q2 : pyOf st y with
    | none => simp only [q1, q2] at h; exact h.elim
    | some p =>
      simp only [q1, q2] at h
      by_cases hs : (SeqAt.shaped (.list ps) && SeqAt.shaped p) = true
      · rw [if_pos hs] at h
        have hs' := Bool.and_eq_true_iff.mp hs
        cases q3 : ps.findIdx? (fun z => PyData.eqv z p) with
        | none => simp only [q3] at h; exact h.elim
        | some j =>
          simp only [q3] at h
          obtain ⟨a, rfl, d1⟩ := pyListOf_ok R rx q1
          obtain ⟨hj, e1, e2⟩ := List.findIdx?_eq_some_iff_getElem.mp q3
          refine ⟨a, w, p, ps, j, ps[j], rfl, rfl, d1, pyOf_ok R ry q2, hs'.1, hs'.2, List.getElem?_eq_getElem hj, e1, fun m z hm hz => ?_, h.pure R (.int _)⟩
          obtain ⟨hml, ez⟩ := List.getElem?_eq_some_iff.mp hz
          have := e2 m hm
          rw [ez] at this
          simpa using this
      · rw [if_neg hs] at h; exact h.elim
def rCntD (K : PySem.W.Frag) : V → List V → Hp → VK → Prop := fun x xs H Q => ∃ (a : Addr) (y : V) (d : PyData) (ds : List PyData), x = V.ref a ∧ xs = [y] ∧ Dp K H (V.ref a) (.list ds) ∧ Dp K H y d ∧
  PyData.plainAll ds = true ∧ d.plain = true ∧ d.depth ≤ 60 ∧ Q (.int ((ds.countP fun z => PyData.eqv z d : Nat) : Int)) H
theorem mt_countD {X : Cx} (hu : X.A.units + 65 < cLine) : MtR X "list.count" (rCntD X.K) := by
  intro pins s σ H x xs v us Q I rx rxs h
  obtain ⟨a, y, d, ds, rfl, rfl, hl, hy, sl, sd, hdep, q⟩ := h
  cases rx
  cases rxs with
  | cons ry rt =>
    rename_i uy ut
    cases rt
    obtain ⟨bs, r1⟩ := Dp.reads I d y uy hy ry
    cases hl with
    | lst hs ha =>
      obtain ⟨its, rv, pl, hlen⟩ := I.list hs
      obtain ⟨as, h4⟩ := Dp.readsAll I ds _ its ha rv
      have h2 : min (PyData.depthAll ds) d.depth ≤ d.depth := Nat.min_le_right _ _
      refine PySem.SeqAt.count_list_data (vs := its.toArray) pl.isList (by simpa using h4) r1 sl sd (by omega) ?_
      exact ⟨.int _, H, I.tok _, ⟨s.toks, rfl⟩, q⟩
def countD (x y : D) : XM D := fun _ st => match pyListOf st x, pyOf st y with
  | some ps, some p => if (PyData.plainAll ps && p.plain && decide (p.depth ≤ 60)) = true then .ok (.int ((ps.countP fun z => PyData.eqv z p : Nat) : Int)) st else .stuck
  | _, _ => .stuck
theorem je_count {o ex : Expr} {mo me : XM D} {apos : Pos} (ho : JE F o mo) (he : JE F ex me) (h1 : ∀ env, attributeBase o "count" env (eval o env) = eval o env := by intro _; rfl) (h2 : (apos.endLine == pos.line) = true := by rfl)
    (hst : ∀ env, starEach [ex] env = (false, eval ex env) :: starEach [] env := by intro _; rfl)
    (hfew : ∀ env, ((backTo pos (starEach [ex] env)).all (fun x => !x.1) && (backToKw pos (keywordEach [] env)).all (fun x => x.1.isSome)
      && decide ([ex].length + ([] : List Keyword).length + (if ([] : List Keyword).isEmpty then 0 else 1) < 30)) = true := by intro _; rfl) : JE F (.Call (.Attribute o "count" apos) [ex] [] pos) (xm1 countD mo me) := by
  refine je_lm1 (r := rCntD g.K) PySem.F.slot_list_count PySem.F.type_list_count (fun W X m => by have := mt_countD (X := X) (units65 (F.room m)); rw [F.hK m] at this; exact this) ?_ ho he h1 h2 hst hfew
  intro W G H as st σ e x y v w Q R rx ry h
  unfold countD at h
  cases q1 : pyListOf st x with
  | none => simp only [q1] at h; exact h.elim
  | some ps =>
    cases q2 : pyOf st y with
    | none => simp only [q1, q2] at h; exact h.elim
    | some p =>
      simp only [q1, q2] at h
      by_cases hs : (PyData.plainAll ps && p.plain && decide (p.depth ≤ 60)) = true
      · rw [if_pos hs] at h
        simp only [Bool.and_eq_true, decide_eq_true_eq] at hs
        obtain ⟨a, rfl, d1⟩ := pyListOf_ok R rx q1
        exact ⟨a, w, p, ps, rfl, rfl, d1, pyOf_ok R ry q2, hs.1.1, hs.1.2, hs.2, h.pure R (.int _)⟩
      · rw [if_neg hs] at h; exact h.elim

/-! ## comb, gcd, lcm of math: names of the module that are built-ins -/
theorem je_callMB {x : Str} {id : String} {p : Pos} {a : Expr} {es : List Expr} {ms : XM (List D)} {fop : List D → XM D} (hc : CallS F (.builtin id) fop) (hg : F.sc.names.lookup x = some .globalImplicit) (hm : g.mg x = some (.builtin id)) (ha : JA F (a :: es) ms)
    (hdb : (x == ("__debug__" : Str)) = false := by decide) (he : ∀ env, starEach (a :: es) env = (false, eval a env) :: starEach es env := by intro _; rfl) (hpl : ∀ env, (backTo pos (starEach es env)).any (·.1) = false := by intro _; rfl) :
    JE F (.Call (.Name x p) (a :: es) [] pos) (xcall fop ms) := by
  obtain ⟨r, hr, hv'⟩ := hc
  obtain ⟨ts, ps, ss⟩ := ha
  exact ⟨fun W => tCB r (ts W), fun W X m => pe_callMB (hr W X m) (by show X.env.scope.names.lookup x = _; rw [F.hsc m]; exact hg) (by rw [F.hmg m]; exact hm) (ps W X m) hdb (he _) (hpl _), callS_SE ss hv'⟩
theorem cr_comb {X : Cx} : CallR X (.builtin "math.comb") (fun xs H Q => ∃ a b : Int, xs = [.int a, .int b] ∧ (0 ≤ a ∧ 0 ≤ b ∧ a ≤ 18000) ∧ Q (.int (PySem.W.mcComb a b)) H) := by
  intro pins s σ H vs us Q I r h
  obtain ⟨a, b, rfl, ⟨h1, h2, h3⟩, q⟩ := h
  cases r with
  | cons r1 r2 =>
    cases r2 with
    | cons r2 r3 =>
      cases r3
      obtain ⟨t, rfl⟩ := r1
      obtain ⟨u, rfl⟩ := r2
      exact PySem.W.mc_comb_v h1 h2 (by omega) (.inr h3) rfl ⟨.int _, H, I.tok _, ⟨s.toks, rfl⟩, q⟩
def combD (x y : D) : XM D := fun _ st => match x, y with
  | .int a, .int b => if 0 ≤ a ∧ 0 ≤ b ∧ a ≤ 18000 then .ok (.int (PySem.W.mcComb a b)) st else .stuck
  | _, _ => .stuck
theorem cs_comb : CallS F (.builtin "math.comb") (f2 combD) := by
  refine cs_2 (fun W X m => cr_comb) ?_
  intro W G H as st σ e x y v w Q R rx ry h
  unfold combD at h
  split at h
  · rename_i a b
    cases rx; cases ry
    by_cases hc : 0 ≤ a ∧ 0 ≤ b ∧ a ≤ 18000
    · rw [if_pos hc] at h
      exact ⟨a, b, rfl, hc, h.pure R (.int _)⟩
    · rw [if_neg hc] at h; exact h.elim
  · exact h.elim
theorem cr_gcd {X : Cx} : CallR X (.builtin "math.gcd") (fun xs H Q => ∃ a b : Int, xs = [.int a, .int b] ∧ Q (.int ((a.natAbs.gcd b.natAbs : Nat) : Int)) H) := by
  intro pins s σ H vs us Q I r h
  obtain ⟨a, b, rfl, q⟩ := h
  cases r with
  | cons r1 r2 =>
    cases r2 with
    | cons r2 r3 =>
      cases r3
      obtain ⟨t, rfl⟩ := r1
      obtain ⟨u, rfl⟩ := r2
      exact PySem.W.mg_gcd_v rfl ⟨.int _, H, I.tok _, ⟨s.toks, rfl⟩, q⟩
def gcdD (x y : D) : XM D := fun _ st => match x, y with
  | .int a, .int b => .ok (.int ((a.natAbs.gcd b.natAbs : Nat) : Int)) st
  | _, _ => .stuck
theorem cs_gcd : CallS F (.builtin "math.gcd") (f2 gcdD) := by
  refine cs_2 (fun W X m => cr_gcd) ?_
  intro W G H as st σ e x y v w Q R rx ry h
  unfold gcdD at h
  split at h
  · rename_i a b
    cases rx; cases ry
    exact ⟨a, b, rfl, h.pure R (.int _)⟩
  · exact h.elim
theorem cr_lcm {X : Cx} : CallR X (.builtin "math.lcm") (fun xs H Q => ∃ a b : Int, xs = [.int a, .int b] ∧ (a.natAbs < 2 ^ 64 ∧ b.natAbs < 2 ^ 64) ∧ Q (.int ((a.natAbs.lcm b.natAbs : Nat) : Int)) H) := by
  intro pins s σ H vs us Q I r h
  obtain ⟨a, b, rfl, ⟨h1, h2⟩, q⟩ := h
  cases r with
  | cons r1 r2 =>
    cases r2 with
    | cons r2 r3 =>
      cases r3
      obtain ⟨t, rfl⟩ := r1
      obtain ⟨u, rfl⟩ := r2
      exact PySem.W.mc_lcm h1 h2 fun _ => ⟨.int _, H, I.tok _, ⟨s.toks, rfl⟩, q⟩
def lcmD (x y : D) : XM D := fun _ st => match x, y with
  | .int a, .int b => if a.natAbs < 2 ^ 64 ∧ b.natAbs < 2 ^ 64 then .ok (.int ((a.natAbs.lcm b.natAbs : Nat) : Int)) st else .stuck
  | _, _ => .stuck
theorem cs_lcm : CallS F (.builtin "math.lcm") (f2 lcmD) := by
  refine cs_2 (fun W X m => cr_lcm) ?_
  intro W G H as st σ e x y v w Q R rx ry h
  unfold lcmD at h
  split at h
  · rename_i a b
    cases rx; cases ry
    by_cases hc : a.natAbs < 2 ^ 64 ∧ b.natAbs < 2 ^ 64
    · rw [if_pos hc] at h
      exact ⟨a, b, rfl, hc, h.pure R (.int _)⟩
    · rw [if_neg hc] at h; exact h.elim
  · exact h.elim
end
end LS
end
section
set_option maxRecDepth 100000
set_option maxHeartbeats 2000000
namespace LS
open PySem PySem.Spec L2
theorem outG_hout {g : Gb} : ∀ (G H G1 H1 : Hp) (as as1 : List Addr) (st1 : Store) (n : Nat) (W : WX) (σ : L2.St) (d : D) (v : V) (Q : VK), Ri g.K g.mg G1 H1 as1 st1 → Ext G H as G1 H1 as1 → as.length = n → Rp g.K g.mg G1 as1 v d → PX g.K g.mg W G H as σ (outG n d st1) Q → Q v H1 :=
  fun _ _ _ _ _ _ _ _ _ _ _ _ _ R X _ r h => outG_ok R X r h
end LS
end
section
set_option maxRecDepth 100000
set_option maxHeartbeats 2000000
namespace LS
open PySem PySem.Spec L2
variable {e : Nv} {st : Store}
/-! ## plain laws that hang on no program -/
theorem outD_pl {d : D} {st : Store} (h : refsB 0 d = true) : outD 0 d st = .ok d [] := by
  have hs : stB 0 st = true := by simp [stB]
  unfold outD
  rw [if_pos hs]
  cases d <;> simp_all [refsB]
theorem runF_rt {n : Nat} {m : SM} {ds : List D} {d : D} {st' : Store} (h : m (ds.map some ++ List.replicate (n - ds.length) none) [] = .rt d st') (hd : refsB 0 d = true) : runF n m [] ds = .ok d [] := by
  unfold runF
  rw [h]
  exact outD_pl hd
theorem runF_nx {n : Nat} {m : SM} {ds : List D} {e' : Nv} {st' : Store} (h : m (ds.map some ++ List.replicate (n - ds.length) none) [] = .nx e' st') : runF n m [] ds = .ok .non [] := by
  unfold runF
  rw [h]
  exact outD_pl (d := .non) rfl
/-- a list that is made and given back still -/
theorem runF_ref {n : Nat} {m : SM} {ds xs : List D} {k : Nat} {st' : Store} (h : m (ds.map some ++ List.replicate (n - ds.length) none) [] = .rt (.ref k) st') (hk : st'[k]? = some (.lst xs)) (hx : refsBs 0 xs = true) : runF n m [] ds = .ok (.lst xs) [] := by
  unfold runF
  rw [h]
  have hs : stB 0 st' = true := by simp [stB]
  simp [outF, outD, hs, hk, hx]
theorem mem_enumD : ∀ {xs : List D} {k : Nat} {x : D}, x ∈ enumD k xs → ∃ (i : Nat) (y : D), y ∈ xs ∧ xs[i]? = some y ∧ x = .tup [.int ((k + i : Nat) : Int), y]
  | [], _, _, h => by simp [enumD] at h
  | y :: r, k, x, h => by
    simp only [enumD, List.mem_cons] at h
    rcases h with rfl | h
    · exact ⟨0, y, by simp, by simp, by simp⟩
    · obtain ⟨i, z, h1, h2, h3⟩ := mem_enumD h
      exact ⟨i + 1, z, by simp [h1], by simpa using h2, by rw [h3, show k + 1 + i = k + (i + 1) by omega]⟩
theorem mem_iD {ns : List Int} {x : D} (h : x ∈ iD ns) : ∃ n, n ∈ ns ∧ x = .int n := by
  unfold iD at h
  obtain ⟨n, h1, h2⟩ := List.mem_map.mp h
  exact ⟨n, h1, h2.symm⟩
theorem getD_at {a : List Int} {k : Nat} (h : k < a.length) : atI (iD a) (k : Int) = some (.int (a.getD k 0)) := by
  rw [atI_nat, iD_get, List.getD_eq_getElem?_getD, List.getElem?_eq_getElem h]; rfl
theorem getD_at1 {a : List Int} {k : Nat} (h : k + 1 < a.length) : atI (iD a) ((k : Int) + 1) = some (.int (a.getD (k + 1) 0)) := by
  rw [show (k : Int) + 1 = ((k + 1 : Nat) : Int) by omega]; exact getD_at h
@[simp] theorem atI_0 {α : Type} (x : α) (r : List α) : atI (x :: r) 0 = some x := by have := atI_nat (x :: r) 0; simpa using this
@[simp] theorem atI_1 {α : Type} (x y : α) (r : List α) : atI (x :: y :: r) 1 = some y := by have := atI_nat (x :: y :: r) 1; simpa using this
@[simp] theorem atI_2 {α : Type} (x y z : α) (r : List α) : atI (x :: y :: z :: r) 2 = some z := by have := atI_nat (x :: y :: z :: r) 2; simpa using this
theorem cut_to (xs : List D) (k : Nat) : cutD xs none (some (k : Int)) = xs.take k := by
  unfold cutD
  rw [HT.sIx_nat]
  simp [HT.sIx]
theorem cut_from (xs : List D) (k : Nat) : cutD xs (some (k : Int)) none = xs.drop k := by
  unfold cutD
  rw [HT.sIx_nat]
  simp [HT.sIx]
  by_cases h : k ≤ xs.length
  · rw [Nat.min_eq_left h]
    exact List.take_of_length_le (by simp)
  · rw [Nat.min_eq_right (by omega)]
    simp
    omega
@[simp] theorem eqO_l0 (st : Store) : eqO st (.lst []) (.lst []) = some true := by simpa using eqO_lints st [] []
@[simp] theorem eqO_lc0 (st : Store) (i : Int) (r : List Int) : eqO st (.lst (.int i :: iD r)) (.lst []) = some false := by simpa using eqO_lints st (i :: r) []
/-! ## the well -/
def Wl (m : MO) : Prop := ∃ a s c : Int, 0 ≤ a ∧ 0 ≤ s ∧ 0 ≤ c ∧ m = .lst [.int a, .int s, .int c]
theorem Wl.mo {m : MO} (h : Wl m) : moB 0 m = true := by obtain ⟨a, s, c, _, _, _, rfl⟩ := h; rfl
/-- what a def that is handed the well gives -/
theorem runF_w {n : Nat} {f : SM} {ds : List D} {d : D} {m m' : MO} {st : Store} (h : f (ds.map some ++ List.replicate (n - ds.length) none) [m] = .rt d (m' :: st)) (w : Wl m') (hd : refsB 0 d = true) : runF n f [m] ds = .ok d [m'] := by
  unfold runF
  rw [h]
  have w' := w
  obtain ⟨a, s, c, _, _, _, rfl⟩ := w'
  have hs : stB 1 (MO.lst [.int a, .int s, .int c] :: st) = true := by simp [stB, moB, refsBs, refsB]
  have hd1 : refsB 1 d = true := refsB_mono (by decide) hd
  simp only [outF, outD, List.length_singleton, hs, if_true]
  cases d <;> simp_all [refsB]
theorem refsIn_ok {n : Nat} {x y : D} (h : okD n x = true) (h2 : okD n y = true) : refsIn [x, y] = [] := by
  cases n with
  | zero => simp [okD] at h
  | succ n => cases x <;> cases y <;> simp_all [okD, refsIn]
/-! ## the new words -/
section
@[simp] theorem ap_star (m : XM D) (ms : XM (List D)) : xstar m ms e st = match m e st with | .ok x st1 => (match seqOf st1 x with | some xs => xbind ms (fun ys => xpure (xs ++ ys)) e st1 | none => .stuck) | .exc c p st' => .exc c p st' | .stuck => .stuck := by
  unfold xstar xbind
  cases m e st <;> rfl
@[simp] theorem seqOf_tup (xs : List D) : seqOf st (.tup xs) = some xs := rfl
@[simp] theorem seqOf_lst (xs : List D) : seqOf st (.lst xs) = some xs := rfl
@[simp] theorem seqOf_sq (xs : List D) : seqOf st (.sq xs) = some xs := rfl
@[simp] theorem lstOf_lst (xs : List D) : lstOf st (.lst xs) = some xs := rfl
@[simp] theorem lstOf_tup (xs : List D) : lstOf st (.tup xs) = none := rfl
@[simp] theorem sorted_ap (x : D) : sortedD x e st = match seqOf st x with
  | some xs => (match pyDs xs with
    | some ps => if srtOk ps = true then .ok (.lst (sortD xs)) st else (match lstOf st x with
      | some ys => if ys.length ≤ 1 then .ok (.lst ys) st else .stuck
      | none => .stuck)
    | none => .stuck)
  | none => .stuck := rfl
@[simp] theorem in_ap (x y : D) : inD x y e st = match inO st x y with | some b => .ok (.bl b) st | none => .stuck := rfl
@[simp] theorem notin_ap (x y : D) : notInD x y e st = match inO st x y with | some b => .ok (.bl (!b)) st | none => .stuck := rfl
theorem any_int (k : Int) : ∀ ns : List Int, (ns.any ((fun z => PyData.eqv z (.int k)) ∘ PyData.int)) = decide (k ∈ ns)
  | [] => by simp
  | n :: r => by
    rw [List.any_cons, any_int k r]
    simp only [Function.comp, PyData.eqv]
    by_cases h : n = k
    · simp [h]
    · have : ¬ k = n := fun z => h z.symm
      simp [h, this]
@[simp] theorem inO_int_lst (k : Int) (ns : List Int) : inO st (.int k) (.lst (iD ns)) = some (decide (k ∈ ns)) := by
  simp [inO, pyOf, pyD, any_int]
@[simp] theorem inO_int_tup (k : Int) (ns : List Int) : inO st (.int k) (.tup (iD ns)) = some (decide (k ∈ ns)) := by
  simp [inO, pyOf, pyD, any_int]
@[simp] theorem comb_ap (a b : Int) : combD (.int a) (.int b) e st = if 0 ≤ a ∧ 0 ≤ b ∧ a ≤ 18000 then .ok (.int (PySem.W.mcComb a b)) st else .stuck := rfl
@[simp] theorem gcd_ap (a b : Int) : gcdD (.int a) (.int b) e st = .ok (.int ((a.natAbs.gcd b.natAbs : Nat) : Int)) st := rfl
@[simp] theorem lcm_ap (a b : Int) : lcmD (.int a) (.int b) e st = if a.natAbs < 2 ^ 64 ∧ b.natAbs < 2 ^ 64 then .ok (.int ((a.natAbs.lcm b.natAbs : Nat) : Int)) st else .stuck := rfl
end
/-! ## sorted ints -/
theorem srtOk_int (ns : List Int) : srtOk (ns.map PyData.int) = true := by
  unfold srtOk
  simp [noT, PySem.W.alike, PyData.depth]
theorem sortD_int (ns : List Int) : sortD (iD ns) = iD (ns.mergeSort fun a b => decide (a ≤ b)) := by
  unfold sortD iD
  refine (PySem.W.sort_maps (r := fun a b : Int => decide (a ≤ b)) (s := sleD) D.int (l := ns) fun a _ b _ => ?_).symm
  show _ = !PySem.W.dataLt (.int b) (.int a)
  rw [PySem.W.dataLt_int, PySem.W.not_lt_int]
theorem sorted_int_lst (ns : List Int) : sortedD (.lst (iD ns)) e st = .ok (.lst (iD (ns.mergeSort fun a b => decide (a ≤ b)))) st := by
  simp [srtOk_int, sortD_int]
theorem sorted_int_tup (ns : List Int) : sortedD (.tup (iD ns)) e st = .ok (.lst (iD (ns.mergeSort fun a b => decide (a ≤ b)))) st := by
  simp [srtOk_int, sortD_int]
/-! ## dicts of ints to ints, as rows -/
abbrev Rw := List (Int × Int)
def dD (rows : Rw) : List (Key × D) := rows.map fun p => (.inl p.1, .int p.2)
def addR : Rw → Int → Int → Rw
  | [], k, c => [(k, c)]
  | (k', c') :: r, k, c => if k' = k then (k', c' + c) :: r else (k', c') :: addR r k c
def getR : Rw → Int → Option Int
  | [], _ => none
  | (k', c') :: r, k => if k' = k then some c' else getR r k
def keysR (rows : Rw) : List Int := rows.map (·.1)
@[simp] theorem dD_len (rows : Rw) : (dD rows).length = rows.length := by simp [dD]
theorem getKD_dD : ∀ (rows : Rw) (k : Int), getKD (dD rows) (.inl k) = (getR rows k).map D.int
  | [], _ => rfl
  | (k', c') :: r, k => by
    by_cases h : k' = k
    · simp [getKD, dD, getR, h]
    · have ih := getKD_dD r k
      simp [getKD, dD] at ih
      simp [getKD, dD, getR, h, List.find?_cons]
      exact ih
theorem getR_none {rows : Rw} {k : Int} (h : k ∉ keysR rows) : getR rows k = none := by
  induction rows with
  | nil => rfl
  | cons p r ih =>
    obtain ⟨k', c'⟩ := p
    have h' : ¬ k = k' ∧ k ∉ keysR r := by simpa [keysR] using h
    simp [getR, show ¬ k' = k from fun z => h'.1 z.symm, ih h'.2]
theorem anyK_dD (rows : Rw) (k : Int) : ((dD rows).any fun kv => decide (kv.1 = .inl k)) = decide (k ∈ keysR rows) := by
  induction rows with
  | nil => rfl
  | cons p r ih =>
    obtain ⟨k', c'⟩ := p
    have e1 : keysR ((k', c') :: r) = k' :: keysR r := rfl
    have e2 : dD ((k', c') :: r) = (.inl k', .int c') :: dD r := rfl
    rw [e1, e2, List.any_cons, ih]
    by_cases h : k' = k
    · simp [h]
    · have : ¬ k = k' := fun z => h z.symm
      simp [h, this]
theorem map_same {rows : Rw} {k v : Int} (h : k ∉ keysR rows) : (dD rows).map (fun kv => if kv.1 = .inl k then (kv.1, D.int v) else kv) = dD rows := by
  induction rows with
  | nil => rfl
  | cons p r ih =>
    obtain ⟨k', c'⟩ := p
    have h' : ¬ k = k' ∧ k ∉ keysR r := by simpa [keysR] using h
    have ih' := ih h'.2
    simp only [dD] at ih'
    simp [dD, show ¬ k' = k from fun z => h'.1 z.symm, ih']
theorem put_add {rows : Rw} {k c : Int} (nd : (keysR rows).Nodup) : putKD (dD rows) (.inl k) (.int ((getR rows k).getD 0 + c)) = dD (addR rows k c) := by
  unfold putKD
  rw [anyK_dD]
  by_cases hk : k ∈ keysR rows
  · simp only [hk, decide_true, if_true]
    induction rows with
    | nil => simp [keysR] at hk
    | cons p r ih =>
      obtain ⟨k', c'⟩ := p
      have nd' : k' ∉ keysR r ∧ (keysR r).Nodup := by simpa [keysR] using nd
      by_cases h : k' = k
      · subst h
        have := map_same (v := c' + c) nd'.1
        simp only [dD] at this
        simp [dD, getR, addR, this]
      · have hk' : k ∈ keysR r := by
          have : k = k' ∨ k ∈ keysR r := by simpa [keysR] using hk
          exact this.resolve_left fun z => h z.symm
        have ih' := ih nd'.2 hk'
        simp only [dD] at ih'
        simp [dD, getR, addR, h, ih']
  · simp only [hk, decide_false, Bool.false_eq_true, if_false]
    rw [getR_none hk]
    have : addR rows k c = rows ++ [(k, c)] := by
      clear nd
      induction rows with
      | nil => rfl
      | cons p r ih =>
        obtain ⟨k', c'⟩ := p
        have h' : ¬ k = k' ∧ k ∉ keysR r := by simpa [keysR] using hk
        simp [addR, show ¬ k' = k from fun z => h'.1 z.symm, ih h'.2]
    rw [this]
    simp [dD]
theorem mem_addR {rows : Rw} {k c x : Int} : x ∈ keysR (addR rows k c) ↔ x = k ∨ x ∈ keysR rows := by
  induction rows with
  | nil => simp [addR, keysR]
  | cons p r ih =>
    obtain ⟨k', c'⟩ := p
    unfold addR
    by_cases h : k' = k
    · rw [if_pos h]; simp [keysR, h]
    · rw [if_neg h]
      have e1 : keysR ((k', c') :: addR r k c) = k' :: keysR (addR r k c) := rfl
      have e2 : keysR ((k', c') :: r) = k' :: keysR r := rfl
      rw [e1, e2, List.mem_cons, List.mem_cons, ih]
      constructor
      · rintro (h | h | h)
        · exact .inr (.inl h)
        · exact .inl h
        · exact .inr (.inr h)
      · rintro (h | h | h)
        · exact .inr (.inl h)
        · exact .inl h
        · exact .inr (.inr h)
theorem nd_addR {rows : Rw} {k c : Int} (nd : (keysR rows).Nodup) : (keysR (addR rows k c)).Nodup := by
  induction rows with
  | nil => simp [addR, keysR]
  | cons p r ih =>
    obtain ⟨k', c'⟩ := p
    have nd' : k' ∉ keysR r ∧ (keysR r).Nodup := by simpa [keysR] using nd
    unfold addR
    by_cases h : k' = k
    · rw [if_pos h]; simpa [keysR] using nd
    · rw [if_neg h]
      have e1 : keysR ((k', c') :: addR r k c) = k' :: keysR (addR r k c) := rfl
      rw [e1, List.nodup_cons]
      refine ⟨fun z => ?_, ih nd'.2⟩
      rcases mem_addR.mp z with z | z
      · exact h z
      · exact nd'.1 z
/-- what a row is worth -/
def wR (φ : Int → Int) : Rw → Int
  | [] => 0
  | (k, c) :: r => c * φ k + wR φ r
theorem wR_add (φ : Int → Int) : ∀ (rows : Rw) (k c : Int), wR φ (addR rows k c) = wR φ rows + c * φ k
  | [], k, c => by simp [addR, wR]
  | (k', c') :: r, k, c => by
    unfold addR
    by_cases h : k' = k
    · rw [if_pos h]; subst h
      simp only [wR, Int.add_mul]; omega
    · rw [if_neg h]
      simp only [wR, wR_add φ r k c]; omega
def dl (k : Int) (x : Int) : Int := if x = k then 1 else 0
theorem wR_zero {φ : Int → Int} : ∀ {rows : Rw}, (∀ x ∈ keysR rows, φ x = 0) → wR φ rows = 0
  | [], _ => rfl
  | (k, c) :: r, h => by
    have h1 := h k (by simp [keysR])
    have h2 := wR_zero (rows := r) fun x hx => h x (by
      show x ∈ k :: keysR r
      exact List.mem_cons_of_mem _ hx)
    simp [wR, h1, h2]
theorem getR_w (k : Int) : ∀ {rows : Rw}, (keysR rows).Nodup → (getR rows k).getD 0 = wR (dl k) rows
  | [], _ => rfl
  | (k', c') :: r, nd => by
    have nd' : k' ∉ keysR r ∧ (keysR r).Nodup := by simpa [keysR] using nd
    unfold getR wR
    by_cases h : k' = k
    · subst h
      rw [if_pos rfl, wR_zero (rows := r) fun x hx => by
        unfold dl
        rw [if_neg fun z => nd'.1 (by rw [← z]; exact hx)]]
      simp [dl]
    · rw [if_neg h, getR_w k nd'.2]
      simp [dl, h]
theorem wR_congr {φ ψ : Int → Int} : ∀ {rows : Rw}, (∀ x ∈ keysR rows, φ x = ψ x) → wR φ rows = wR ψ rows
  | [], _ => rfl
  | (k, c) :: r, h => by
    have h1 := h k (by simp [keysR])
    have h2 := wR_congr (rows := r) fun x hx => h x (by
      show x ∈ k :: keysR r
      exact List.mem_cons_of_mem _ hx)
    simp [wR, h1, h2]
/-- keys within a stretch: not many -/
theorem keys_few {rows : Rw} {lo : Int} {n : Nat} (nd : (keysR rows).Nodup) (h : ∀ x ∈ keysR rows, lo ≤ x ∧ x < lo + n) : rows.length ≤ n := by
  have h1 : keysR rows ⊆ (List.range n).map fun (i : Nat) => lo + (i : Int) := fun x hx => by
    obtain ⟨a, b⟩ := h x hx
    exact List.mem_map.mpr ⟨(x - lo).toNat, by simp; omega, by omega⟩
  have := nd.length_le_of_subset h1
  simpa [keysR] using this
end LS
end
section
set_option maxRecDepth 100000
set_option maxHeartbeats 2000000
namespace LS
open PySem PySem.Spec L2
def top (i : Nat) : Stmt := PySem.Challenge.pw_leadsums_k77_whole_first_hits.main.body.getD i (.Pass ⟨0, 0, 0, 0⟩)
/-! ## the defs: mirrors and derivations (printed by gen.py) -/
structure GF (g : Gb) : Prop where
  b_abs : g.mg "abs" = none
  b_all : g.mg "all" = none
  b_bool : g.mg "bool" = none
  b_dict : g.mg "dict" = none
  b_divmod : g.mg "divmod" = none
  b_enumerate : g.mg "enumerate" = none
  b_int : g.mg "int" = none
  b_isinstance : g.mg "isinstance" = none
  b_len : g.mg "len" = none
  b_list : g.mg "list" = none
  b_max : g.mg "max" = none
  b_min : g.mg "min" = none
  b_range : g.mg "range" = none
  b_sorted : g.mg "sorted" = none
  b_str : g.mg "str" = none
  b_tuple : g.mg "tuple" = none
  c_LEAST_STEP : ∃ t, g.mg "LEAST_STEP" = some (.int (-1) t)
  c_MOST_COUNTED : ∃ t, g.mg "MOST_COUNTED" = some (.int (40) t)
  c_MOST_STEP : ∃ t, g.mg "MOST_STEP" = some (.int (9) t)
  c_MOST_STEPS : ∃ t, g.mg "MOST_STEPS" = some (.int (5) t)
  c_MOST_TIMES : ∃ t, g.mg "MOST_TIMES" = some (.int (30) t)
  v_comb : g.mg "comb" = some (.builtin "math.comb")
  d_u_law_take : ∃ f fd, g.mg "_law_take" = some (.ref f) ∧ FunD g.K "_law_take" "_law_take" (defArgs (top 35)) (defBody (top 35)) (defScope (top 35)) [] [] f fd
  d_u_law_of : ∃ f fd, g.mg "_law_of" = some (.ref f) ∧ FunD g.K "_law_of" "_law_of" (defArgs (top 36)) (defBody (top 36)) (defScope (top 36)) [] [] f fd
  d_u_law_steps : ∃ f fd, g.mg "_law_steps" = some (.ref f) ∧ FunD g.K "_law_steps" "_law_steps" (defArgs (top 38)) (defBody (top 38)) (defScope (top 38)) [] [] f fd
  d_u_law_counts : ∃ f fd, g.mg "_law_counts" = some (.ref f) ∧ FunD g.K "_law_counts" "_law_counts" (defArgs (top 39)) (defBody (top 39)) (defScope (top 39)) [] [] f fd
  d_is_whole : ∃ f fd, g.mg "is_whole" = some (.ref f) ∧ FunD g.K "is_whole" "is_whole" (defArgs (top 6)) (defBody (top 6)) (defScope (top 6)) [] [] f fd
  d_is_between : ∃ f fd, g.mg "is_between" = some (.ref f) ∧ FunD g.K "is_between" "is_between" (defArgs (top 7)) (defBody (top 7)) (defScope (top 7)) [] [] f fd
  d_wrong_in_steps : ∃ f fd, g.mg "wrong_in_steps" = some (.ref f) ∧ FunD g.K "wrong_in_steps" "wrong_in_steps" (defArgs (top 16)) (defBody (top 16)) (defScope (top 16)) [] [] f fd
  d_check_number : ∃ f fd, g.mg "check_number" = some (.ref f) ∧ FunD g.K "check_number" "check_number" (defArgs (top 9)) (defBody (top 9)) (defScope (top 9)) [] [] f fd
  d_check_steps : ∃ f fd, g.mg "check_steps" = some (.ref f) ∧ FunD g.K "check_steps" "check_steps" (defArgs (top 22)) (defBody (top 22)) (defScope (top 22)) [] [] f fd
  d_check_from : ∃ f fd, g.mg "check_from" = some (.ref f) ∧ FunD g.K "check_from" "check_from" (defArgs (top 11)) (defBody (top 11)) (defScope (top 11)) [] [] f fd
  d_next_counts : ∃ f fd, g.mg "next_counts" = some (.ref f) ∧ FunD g.K "next_counts" "next_counts" (defArgs (top 17)) (defBody (top 17)) (defScope (top 17)) [] [] f fd
  d_count_total_by : ∃ f fd, g.mg "count_total_by" = some (.ref f) ∧ FunD g.K "count_total_by" "count_total_by" (defArgs (top 18)) (defBody (top 18)) (defScope (top 18)) [] [] f fd
  d_count_hits_by : ∃ f fd, g.mg "count_hits_by" = some (.ref f) ∧ FunD g.K "count_hits_by" "count_hits_by" (defArgs (top 19)) (defBody (top 19)) (defScope (top 19)) [] [] f fd
  d_count_hits : ∃ f fd, g.mg "count_hits" = some (.ref f) ∧ FunD g.K "count_hits" "count_hits" (defArgs (top 24)) (defBody (top 24)) (defScope (top 24)) [] [] f fd
  d_u_law_same : ∃ f fd, g.mg "_law_same" = some (.ref f) ∧ FunD g.K "_law_same" "_law_same" (defArgs (top 37)) (defBody (top 37)) (defScope (top 37)) [] [] f fd
  d_check_whole : ∃ f fd, g.mg "check_whole" = some (.ref f) ∧ FunD g.K "check_whole" "check_whole" (defArgs (top 10)) (defBody (top 10)) (defScope (top 10)) [] [] f fd
  d_count_total : ∃ f fd, g.mg "count_total" = some (.ref f) ∧ FunD g.K "count_total" "count_total" (defArgs (top 23)) (defBody (top 23)) (defScope (top 23)) [] [] f fd
  d_binomial : ∃ f fd, g.mg "binomial" = some (.ref f) ∧ FunD g.K "binomial" "binomial" (defArgs (top 26)) (defBody (top 26)) (defScope (top 26)) [] [] f fd
  d_count_ending_by : ∃ f fd, g.mg "count_ending_by" = some (.ref f) ∧ FunD g.K "count_ending_by" "count_ending_by" (defArgs (top 27)) (defBody (top 27)) (defScope (top 27)) [] [] f fd
  d_count_first_by : ∃ f fd, g.mg "count_first_by" = some (.ref f) ∧ FunD g.K "count_first_by" "count_first_by" (defArgs (top 28)) (defBody (top 28)) (defScope (top 28)) [] [] f fd
  d_count_first : ∃ f fd, g.mg "count_first" = some (.ref f) ∧ FunD g.K "count_first" "count_first" (defArgs (top 32)) (defBody (top 32)) (defScope (top 32)) [] [] f fd
  d_count_ending : ∃ f fd, g.mg "count_ending" = some (.ref f) ∧ FunD g.K "count_ending" "count_ending" (defArgs (top 31)) (defBody (top 31)) (defScope (top 31)) [] [] f fd
  d_u_law_is_told : ∃ f fd, g.mg "_law_is_told" = some (.ref f) ∧ FunD g.K "_law_is_told" "_law_is_told" (defArgs (top 40)) (defBody (top 40)) (defScope (top 40)) [] [] f fd
  d_u_law_right : ∃ f fd, g.mg "_law_right" = some (.ref f) ∧ FunD g.K "_law_right" "_law_right" (defArgs (top 41)) (defBody (top 41)) (defScope (top 41)) [] [] f fd
  d_u_law_well : ∃ f fd, g.mg "_law_well" = some (.ref f) ∧ FunD g.K "_law_well" "_law_well" (defArgs (top 34)) (defBody (top 34)) (defScope (top 34)) [] [] f fd
  d_law : ∃ f fd, g.mg "law" = some (.ref f) ∧ FunD g.K "law" "law" (defArgs (top 42)) (defBody (top 42)) (defScope (top 42)) [] [] f fd
theorem bt_abs : bootBuiltins "abs" = some (.builtin "abs") := by decide +kernel
theorem bt_all : bootBuiltins "all" = some (.builtin "all") := by decide +kernel
theorem bt_bool : bootBuiltins "bool" = some (.type "bool") := by decide +kernel
theorem bt_dict : bootBuiltins "dict" = some (.type "dict") := by decide +kernel
theorem bt_divmod : bootBuiltins "divmod" = some (.builtin "divmod") := by decide +kernel
theorem bt_enumerate : bootBuiltins "enumerate" = some (.type "enumerate") := by decide +kernel
theorem bt_int : bootBuiltins "int" = some (.type "int") := by decide +kernel
theorem bt_isinstance : bootBuiltins "isinstance" = some (.builtin "isinstance") := by decide +kernel
theorem bt_len : bootBuiltins "len" = some (.builtin "len") := by decide +kernel
theorem bt_list : bootBuiltins "list" = some (.type "list") := by decide +kernel
theorem bt_max : bootBuiltins "max" = some (.builtin "max") := by decide +kernel
theorem bt_min : bootBuiltins "min" = some (.builtin "min") := by decide +kernel
theorem bt_range : bootBuiltins "range" = some (.type "range") := by decide +kernel
theorem bt_sorted : bootBuiltins "sorted" = some (.builtin "sorted") := by decide +kernel
theorem bt_str : bootBuiltins "str" = some (.type "str") := by decide +kernel
theorem bt_tuple : bootBuiltins "tuple" = some (.type "tuple") := by decide +kernel
/-- _law_take -/
theorem sc_u_law_take : FnScope ["well", "many", "digit"] ["well", "many"] (defScope (top 35)) := ⟨rfl, rfl, rfl, by decide +kernel, rfl, by decide +kernel, by decide +kernel⟩
def m_u_law_take : SM :=
  (sseq (sif (xbool (xop gtD (xop ixD (xvar 0) (xpure (.int 0))) (xpure (.int 0)))) (sseq (sasg (xcall (f2 divmodD) (xcons (xop ixD (xvar 0) (xpure (.int 0))) (xcons (xvar 1) (xpure [])))) (gtup 2 (gcons (gsub (xvar 0) (xpure (.int 0))) (gcons (gname 2) gnil)))) (sret (xvar 2))) snext) (sseq (sasg (xop addD (xop ixD (xvar 0) (xpure (.int 2))) (xpure (.int 1))) (gsub (xvar 0) (xpure (.int 2)))) (sseq (sasg (xop modD (xcall (f1 intD) (xcons (xop addD (xop addD (xop mulD (xop ixD (xvar 0) (xpure (.int 1))) (xpure (.int 39373))) (xop mulD (xop ixD (xvar 0) (xpure (.int 2))) (xpure (.int 30323)))) (xpure (.int 11))) (xpure []))) (xpure (.int 2147483543))) (gsub (xvar 0) (xpure (.int 1)))) (sret (xop modD (xcall (f1 intD) (xcons (xop divD (xop ixD (xvar 0) (xpure (.int 1))) (xpure (.int 128))) (xpure []))) (xvar 1))))))
abbrev D_u_law_take : DF := runF 3 m_u_law_take
theorem b_u_law_take {g : Gb} (GG : GF g) (b : Bd) (hr : Room 0 (b.A.deeper (PyProof.Rows.envOfC b.qual (defScope (top 35)) b.s.heap.objs.size b.f b.cdv))) :
    JSs (famB g 0 ["well", "many", "digit"] sc_u_law_take.nd (defScope (top 35)) b hr) (defBody (top 35)) m_u_law_take :=
  (jss_cons (js_if (jt_cmp os_gt (je_ix (je_var 0 rfl (.inl (by first | rfl | kernel_rfl))) je_int) je_int rfl) (jss_cons (js_asg (je_callB cs_divmod (by first | rfl | kernel_rfl) GG.b_divmod bt_divmod (ja_cons (je_ix (je_var 0 rfl (.inl (by first | rfl | kernel_rfl))) je_int) (ja_cons (je_var 1 rfl (.inl (by first | rfl | kernel_rfl))) ja_nil))) (jg_tup (jgs_cons (jg_sub (je_var 0 rfl (.inl (by first | rfl | kernel_rfl))) je_int (quiet_var _) (quiet_pure _)) (jgs_cons (jg_name 2 rfl (.inl (by first | rfl | kernel_rfl))) jgs_nil))))
      (jss_one (js_ret (je_var 2 rfl (.inl (by first | rfl | kernel_rfl)))))) jss_nil)
      (jss_cons (js_asg (je_op os_add (je_ix (je_var 0 rfl (.inl (by first | rfl | kernel_rfl))) je_int) je_int) (jg_sub (je_var 0 rfl (.inl (by first | rfl | kernel_rfl))) je_int (quiet_var _) (quiet_pure _)))
      (jss_cons (js_asg (je_op os_mod (je_callTy cs_int (by first | rfl | kernel_rfl) GG.b_int bt_int (ja_cons (je_op os_add (je_op os_add (je_op os_mul (je_ix (je_var 0 rfl (.inl (by first | rfl | kernel_rfl))) je_int) je_int) (je_op os_mul (je_ix (je_var 0 rfl (.inl (by first | rfl | kernel_rfl))) je_int) je_int)) je_int) ja_nil)) je_int) (jg_sub (je_var 0 rfl (.inl (by first | rfl | kernel_rfl))) je_int (quiet_var _) (quiet_pure _)))
      (jss_one (js_ret (je_op os_mod (je_callTy cs_int (by first | rfl | kernel_rfl) GG.b_int bt_int (ja_cons (je_op os_div (je_ix (je_var 0 rfl (.inl (by first | rfl | kernel_rfl))) je_int) je_int) ja_nil)) (je_var 1 rfl (.inl (by first | rfl | kernel_rfl)))))))))
theorem f_u_law_take {g : Gb} (GG : GF g) : Fn g (top 35) "_law_take" "_law_take" ["well", "many"] 1 D_u_law_take := by
  obtain ⟨f, fd, hx, D0⟩ := GG.d_u_law_take
  exact fn_mk outD outD_hout hx D0 sc_u_law_take (fun kV doc pm an cdv ct us hl => match us, hl with | [_, _], _ => rfl) (fun b hr => b_u_law_take GG b hr)
/-- _law_of -/
theorem sc_u_law_of : FnScope ["well", "things"] ["well", "things"] (defScope (top 36)) := ⟨rfl, rfl, rfl, by decide +kernel, rfl, by decide +kernel, by decide +kernel⟩
def m_u_law_of : SM :=
  (sret (xop ixD (xvar 1) (xfn 2 (D_u_law_take) (xcons (xvar 0) (xcons (xcall (f1 lenD) (xcons (xvar 1) (xpure []))) (xpure []))))))
abbrev D_u_law_of : DF := runF 2 m_u_law_of
theorem b_u_law_of {g : Gb} (GG : GF g) (b : Bd) (hr : Room 2 (b.A.deeper (PyProof.Rows.envOfC b.qual (defScope (top 36)) b.s.heap.objs.size b.f b.cdv))) :
    JSs (famB g 2 ["well", "things"] sc_u_law_of.nd (defScope (top 36)) b hr) (defBody (top 36)) m_u_law_of :=
  (jss_one (js_ret (je_ix (je_var 1 rfl (.inl (by first | rfl | kernel_rfl))) (je_call (f_u_law_take GG) (Nat.le_of_ble_eq_true rfl) (by first | rfl | kernel_rfl) (ja_cons (je_var 0 rfl (.inl (by first | rfl | kernel_rfl))) (ja_cons (je_callB cs_len (by first | rfl | kernel_rfl) GG.b_len bt_len (ja_cons (je_var 1 rfl (.inl (by first | rfl | kernel_rfl))) ja_nil)) ja_nil))))))
theorem f_u_law_of {g : Gb} (GG : GF g) : Fn g (top 36) "_law_of" "_law_of" ["well", "things"] 3 D_u_law_of := by
  obtain ⟨f, fd, hx, D0⟩ := GG.d_u_law_of
  exact fn_mk outD outD_hout hx D0 sc_u_law_of (fun kV doc pm an cdv ct us hl => match us, hl with | [_, _], _ => rfl) (fun b hr => b_u_law_of GG b hr)
/-- _law_steps -/
theorem sc_u_law_steps : FnScope ["well", "found", "turn", "step"] ["well"] (defScope (top 38)) := ⟨rfl, rfl, rfl, by decide +kernel, rfl, by decide +kernel, by decide +kernel⟩
def m_u_law_steps_b1 : SM :=
  (sseq (sset 3 (xfn 2 (D_u_law_take) (xcons (xvar 0) (xcons (xfn 2 (D_u_law_of) (xcons (xvar 0) (xcons (xtup (xcons (xpure (.int 3)) (xcons (xpure (.int 10)) (xpure [])))) (xpure [])))) (xpure []))))) (sset 1 (xop addD (xvar 1) (xif (xbool (xop notInD (xvar 3) (xvar 1))) (xlst (xcons (xvar 3) (xpure []))) (xlst (xpure []))))))
def m_u_law_steps : SM :=
  (sseq (sset 1 (xif (xbool (xop gtD (xfn 2 (D_u_law_take) (xcons (xvar 0) (xcons (xpure (.int 6)) (xpure [])))) (xpure (.int 0)))) (xlst (xcons (xop subD (xpure (.int 0)) (xpure (.int 1))) (xpure []))) (xlst (xpure [])))) (sseq (sfor (xrange1 (xop addD (xpure (.int 1)) (xfn 2 (D_u_law_take) (xcons (xvar 0) (xcons (xpure (.int 4)) (xpure [])))))) (gname 2) m_u_law_steps_b1) (sret (xcall (f1 tupleD) (xcons (xcall (f1 sortedD) (xcons (xvar 1) (xpure []))) (xpure []))))))
abbrev D_u_law_steps : DF := runF 4 m_u_law_steps
theorem b_u_law_steps {g : Gb} (GG : GF g) (b : Bd) (hr : Room 4 (b.A.deeper (PyProof.Rows.envOfC b.qual (defScope (top 38)) b.s.heap.objs.size b.f b.cdv))) :
    JSs (famB g 4 ["well", "found", "turn", "step"] sc_u_law_steps.nd (defScope (top 38)) b hr) (defBody (top 38)) m_u_law_steps :=
  (jss_cons (js_set 1 rfl (.inl (by first | rfl | kernel_rfl)) (je_if (jt_cmp os_gt (je_call (f_u_law_take GG) (Nat.le_of_ble_eq_true rfl) (by first | rfl | kernel_rfl) (ja_cons (je_var 0 rfl (.inl (by first | rfl | kernel_rfl))) (ja_cons je_int ja_nil))) je_int rfl) (je_lst (ja_cons (je_op os_sub je_int je_int) ja_nil)) (je_lst ja_nil)))
      (jss_cons (js_for (ji_range1 (by first | rfl | kernel_rfl) GG.b_range (je_op os_add je_int (je_call (f_u_law_take GG) (Nat.le_of_ble_eq_true rfl) (by first | rfl | kernel_rfl) (ja_cons (je_var 0 rfl (.inl (by first | rfl | kernel_rfl))) (ja_cons je_int ja_nil))))) (jg_name 2 rfl (.inl (by first | rfl | kernel_rfl))) (jss_cons (js_set 3 rfl (.inl (by first | rfl | kernel_rfl)) (je_call (f_u_law_take GG) (Nat.le_of_ble_eq_true rfl) (by first | rfl | kernel_rfl) (ja_cons (je_var 0 rfl (.inl (by first | rfl | kernel_rfl))) (ja_cons (je_call (f_u_law_of GG) (Nat.le_of_ble_eq_true rfl) (by first | rfl | kernel_rfl) (ja_cons (je_var 0 rfl (.inl (by first | rfl | kernel_rfl))) (ja_cons (je_tup (ja_cons je_int (ja_cons je_int ja_nil))) ja_nil))) ja_nil))))
      (jss_one (js_set 1 rfl (.inl (by first | rfl | kernel_rfl)) (je_op os_add (je_var 1 rfl (.inl (by first | rfl | kernel_rfl))) (je_if (jt_cmp os_notin (je_var 3 rfl (.inl (by first | rfl | kernel_rfl))) (je_var 1 rfl (.inl (by first | rfl | kernel_rfl))) rfl) (je_lst (ja_cons (je_var 3 rfl (.inl (by first | rfl | kernel_rfl))) ja_nil)) (je_lst ja_nil)))))))
      (jss_one (js_ret (je_callTy cs_tuple (by first | rfl | kernel_rfl) GG.b_tuple bt_tuple (ja_cons (je_callB cs_sorted (by first | rfl | kernel_rfl) GG.b_sorted bt_sorted (ja_cons (je_var 1 rfl (.inl (by first | rfl | kernel_rfl))) ja_nil)) ja_nil))))))
theorem f_u_law_steps {g : Gb} (GG : GF g) : Fn g (top 38) "_law_steps" "_law_steps" ["well"] 5 D_u_law_steps := by
  obtain ⟨f, fd, hx, D0⟩ := GG.d_u_law_steps
  exact fn_mk outD outD_hout hx D0 sc_u_law_steps (fun kV doc pm an cdv ct us hl => match us, hl with | [_], _ => rfl) (fun b hr => b_u_law_steps GG b hr)
/-- _law_counts -/
theorem sc_u_law_counts : FnScope ["steps", "times", "level", "totals", "ahead", "hits", "turn", "more", "on", "here", "step"] ["steps", "times", "level"] (defScope (top 39)) := ⟨rfl, rfl, rfl, by decide +kernel, rfl, by decide +kernel, by decide +kernel⟩
def m_u_law_counts_b1 : SM :=
  (sdput (xvar 7) (xop addD (xvar 9) (xvar 10)) (xop addD (xdget2 (xvar 7) (xop addD (xvar 9) (xvar 10)) (xpure (.int 0))) (xop dgetD (xvar 3) (xvar 9))))
def m_u_law_counts_b2 : SM :=
  (sfor (xwalk (xvar 0)) (gname 10) m_u_law_counts_b1)
def m_u_law_counts_b3 : SM :=
  (sdput (xvar 8) (xop addD (xvar 9) (xvar 10)) (xop addD (xdget2 (xvar 8) (xop addD (xvar 9) (xvar 10)) (xpure (.int 0))) (xop dgetD (xvar 4) (xvar 9))))
def m_u_law_counts_b4 : SM :=
  (sfor (xwalk (xvar 0)) (gname 10) m_u_law_counts_b3)
def m_u_law_counts_e1 : XM D :=
  (xtup (xcons (xvar 9) (xcons (xop dgetD (xvar 8) (xvar 9)) (xpure []))))
def m_u_law_counts_t1 : XM Bool :=
  (xbool (xop gtD (xvar 9) (xop subD (xpure (.int 0)) (xvar 2))))
def m_u_law_counts_b5 : SM :=
  (sseq (sasg (xtup (xcons xdnew (xcons xdnew (xpure [])))) (gtup 2 (gcons (gname 7) (gcons (gname 8) gnil)))) (sseq (sfor (xwalk (xcall (f1 dlistD) (xcons (xvar 3) (xpure [])))) (gname 9) m_u_law_counts_b2) (sseq (sfor (xwalk (xcall (f1 dlistD) (xcons (xvar 4) (xpure [])))) (gname 9) m_u_law_counts_b4) (sseq (sset 5 (xdget2 (xvar 8) (xop subD (xpure (.int 0)) (xvar 2)) (xpure (.int 0)))) (spar2 3 4 (xvar 7) (xcall (f1 dictPD) (xcons (elock 8 (xcomp (xkeysI (xvar 8)) [9] (gname 9) m_u_law_counts_t1 m_u_law_counts_e1)) (xpure []))))))))
def m_u_law_counts : SM :=
  (sseq (spar3 3 4 5 (xdisp (xpair (xpure (.int 0)) (xpure (.int 1)) (xpure []))) (xdisp (xpair (xpure (.int 0)) (xpure (.int 1)) (xpure []))) (xpure (.int 0))) (sseq (sfor (xrange1 (xvar 1)) (gname 6) m_u_law_counts_b5) (sret (xtup (xcons (xvar 3) (xcons (xvar 5) (xpure [])))))))
abbrev D_u_law_counts : DF := runG 11 m_u_law_counts
theorem b_u_law_counts {g : Gb} (GG : GF g) (b : Bd) (hr : Room 0 (b.A.deeper (PyProof.Rows.envOfC b.qual (defScope (top 39)) b.s.heap.objs.size b.f b.cdv))) :
    JSs (famB g 0 ["steps", "times", "level", "totals", "ahead", "hits", "turn", "more", "on", "here", "step"] sc_u_law_counts.nd (defScope (top 39)) b hr) (defBody (top 39)) m_u_law_counts :=
  (jss_cons (js_par3 3 4 5 rfl rfl rfl (by decide) (by decide) (by decide) (by first | rfl | kernel_rfl) (by first | rfl | kernel_rfl) (by first | rfl | kernel_rfl) (je_disp (jps_cons je_int je_int jps_nil) rfl rfl (by simp) (by decide)) (je_disp (jps_cons je_int je_int jps_nil) rfl rfl (by simp) (by decide)) je_int (fun W X m => by obtain ⟨rfl, rfl⟩ := m; first | rfl | kernel_rfl))
      (jss_cons (js_for (ji_range1 (by first | rfl | kernel_rfl) GG.b_range (je_var 1 rfl (.inl (by first | rfl | kernel_rfl)))) (jg_name 6 rfl (.inl (by first | rfl | kernel_rfl))) (jss_cons (js_asgF (je_tup (ja_cons je_dnew (ja_cons je_dnew ja_nil))) (jg_tup (jgs_cons (jg_name 7 rfl (.inl (by first | rfl | kernel_rfl))) (jgs_cons (jg_name 8 rfl (.inr (by first | rfl | kernel_rfl))) jgs_nil))) (by intro _; rfl) (fun W X m => by obtain ⟨rfl, rfl⟩ := m; first | rfl | kernel_rfl))
      (jss_cons (js_for (ji_seq (je_callTy cs_dlist (by first | rfl | kernel_rfl) GG.b_list bt_list (ja_cons (je_var 3 rfl (.inl (by first | rfl | kernel_rfl))) ja_nil))) (jg_name 9 rfl (.inl (by first | rfl | kernel_rfl))) (jss_one (js_for (ji_seq (je_var 0 rfl (.inl (by first | rfl | kernel_rfl)))) (jg_name 10 rfl (.inl (by first | rfl | kernel_rfl))) (jss_one (js_dput (je_var 7 rfl (.inl (by first | rfl | kernel_rfl))) (je_op os_add (je_var 9 rfl (.inl (by first | rfl | kernel_rfl))) (je_var 10 rfl (.inl (by first | rfl | kernel_rfl)))) (je_op os_add (je_dget2 (je_var 7 rfl (.inl (by first | rfl | kernel_rfl))) (je_op os_add (je_var 9 rfl (.inl (by first | rfl | kernel_rfl))) (je_var 10 rfl (.inl (by first | rfl | kernel_rfl)))) je_int) (je_dget (je_var 3 rfl (.inl (by first | rfl | kernel_rfl))) (je_var 9 rfl (.inl (by first | rfl | kernel_rfl))))))))))
      (jss_cons (js_for (ji_seq (je_callTy cs_dlist (by first | rfl | kernel_rfl) GG.b_list bt_list (ja_cons (je_var 4 rfl (.inl (by first | rfl | kernel_rfl))) ja_nil))) (jg_name 9 rfl (.inl (by first | rfl | kernel_rfl))) (jss_one (js_for (ji_seq (je_var 0 rfl (.inl (by first | rfl | kernel_rfl)))) (jg_name 10 rfl (.inl (by first | rfl | kernel_rfl))) (jss_one (js_dput (je_var 8 rfl (.inr (.inl (by first | rfl | kernel_rfl)))) (je_op os_add (je_var 9 rfl (.inl (by first | rfl | kernel_rfl))) (je_var 10 rfl (.inl (by first | rfl | kernel_rfl)))) (je_op os_add (je_dget2 (je_var 8 rfl (.inr (.inl (by first | rfl | kernel_rfl)))) (je_op os_add (je_var 9 rfl (.inl (by first | rfl | kernel_rfl))) (je_var 10 rfl (.inl (by first | rfl | kernel_rfl)))) je_int) (je_dget (je_var 4 rfl (.inl (by first | rfl | kernel_rfl))) (je_var 9 rfl (.inl (by first | rfl | kernel_rfl))))))))))
      (jss_cons (js_set 5 rfl (.inl (by first | rfl | kernel_rfl)) (je_dget2 (je_var 8 rfl (.inr (.inl (by first | rfl | kernel_rfl)))) (je_op os_sub je_int (je_var 2 rfl (.inr (.inl (by first | rfl | kernel_rfl))))) je_int))
      (jss_one (js_par2 3 4 rfl rfl (by decide) (by first | rfl | kernel_rfl) (by first | rfl | kernel_rfl) (je_var 7 rfl (.inl (by first | rfl | kernel_rfl))) (je_callTy cs_dictP (by first | rfl | kernel_rfl) GG.b_dict bt_dict (ja_cons (je_lock 8 (je_lc [("here", 9)] (ji_keys (je_var 8 rfl (.inr (.inl (by first | rfl | kernel_rfl))))) (by first | rfl | kernel_rfl) (jc_name 9 rfl (.inl (by first | rfl | kernel_rfl)) (by decide)) (jts_one (jt_cmp os_gt (je_var 9 rfl (.inl (by first | rfl | kernel_rfl))) (je_op os_sub je_int (je_var 2 rfl (.inr (.inl (by first | rfl | kernel_rfl))))) rfl)) (je_tup (ja_cons (je_var 9 rfl (.inl (by first | rfl | kernel_rfl))) (ja_cons (je_dget (je_var 8 rfl (.inr (.inl (by first | rfl | kernel_rfl)))) (je_var 9 rfl (.inl (by first | rfl | kernel_rfl)))) ja_nil))))) ja_nil)) (fun W X m => by obtain ⟨rfl, rfl⟩ := m; first | rfl | kernel_rfl))))))))
      (jss_one (js_ret (je_tup (ja_cons (je_var 3 rfl (.inl (by first | rfl | kernel_rfl))) (ja_cons (je_var 5 rfl (.inl (by first | rfl | kernel_rfl))) ja_nil)))))))
theorem f_u_law_counts {g : Gb} (GG : GF g) : Fn g (top 39) "_law_counts" "_law_counts" ["steps", "times", "level"] 1 D_u_law_counts := by
  obtain ⟨f, fd, hx, D0⟩ := GG.d_u_law_counts
  exact fn_mk outG outG_hout hx D0 sc_u_law_counts (fun kV doc pm an cdv ct us hl => match us, hl with | [_, _, _], _ => rfl) (fun b hr => b_u_law_counts GG b hr)
/-- is_whole -/
theorem sc_is_whole : FnScope ["value"] ["value"] (defScope (top 6)) := ⟨rfl, rfl, rfl, by decide +kernel, rfl, by decide +kernel, by decide +kernel⟩
def m_is_whole : SM :=
  (sret (xand (xcall (f2 isiD) (xcons (xvar 0) (xcons (xpure (.ty "int")) (xpure [])))) (xnot (xcall (f2 isiD) (xcons (xvar 0) (xcons (xpure (.ty "bool")) (xpure [])))))))
abbrev D_is_whole : DF := runF 1 m_is_whole
theorem b_is_whole {g : Gb} (GG : GF g) (b : Bd) (hr : Room 0 (b.A.deeper (PyProof.Rows.envOfC b.qual (defScope (top 6)) b.s.heap.objs.size b.f b.cdv))) :
    JSs (famB g 0 ["value"] sc_is_whole.nd (defScope (top 6)) b hr) (defBody (top 6)) m_is_whole :=
  (jss_one (js_ret (je_and (je_callB cs_isi (by first | rfl | kernel_rfl) GG.b_isinstance bt_isinstance (ja_cons (je_var 0 rfl (.inl (by first | rfl | kernel_rfl))) (ja_cons (je_gty (by first | rfl | kernel_rfl) GG.b_int bt_int) ja_nil))) (je_one (je_not (je_callB cs_isi (by first | rfl | kernel_rfl) GG.b_isinstance bt_isinstance (ja_cons (je_var 0 rfl (.inl (by first | rfl | kernel_rfl))) (ja_cons (je_gty (by first | rfl | kernel_rfl) GG.b_bool bt_bool) ja_nil))))))))
theorem f_is_whole {g : Gb} (GG : GF g) : Fn g (top 6) "is_whole" "is_whole" ["value"] 1 D_is_whole := by
  obtain ⟨f, fd, hx, D0⟩ := GG.d_is_whole
  exact fn_mk outD outD_hout hx D0 sc_is_whole (fun kV doc pm an cdv ct us hl => match us, hl with | [_], _ => rfl) (fun b hr => b_is_whole GG b hr)
/-- is_between -/
theorem sc_is_between : FnScope ["value", "low", "high"] ["value", "low", "high"] (defScope (top 7)) := ⟨rfl, rfl, rfl, by decide +kernel, rfl, by decide +kernel, by decide +kernel⟩
def m_is_between : SM :=
  (sret (xand (xfn 1 (D_is_whole) (xcons (xvar 0) (xpure []))) (xchain leD leD (xvar 1) (xvar 0) (xvar 2))))
abbrev D_is_between : DF := runF 3 m_is_between
theorem b_is_between {g : Gb} (GG : GF g) (b : Bd) (hr : Room 2 (b.A.deeper (PyProof.Rows.envOfC b.qual (defScope (top 7)) b.s.heap.objs.size b.f b.cdv))) :
    JSs (famB g 2 ["value", "low", "high"] sc_is_between.nd (defScope (top 7)) b hr) (defBody (top 7)) m_is_between :=
  (jss_one (js_ret (je_and (je_call (f_is_whole GG) (Nat.le_of_ble_eq_true rfl) (by first | rfl | kernel_rfl) (ja_cons (je_var 0 rfl (.inl (by first | rfl | kernel_rfl))) ja_nil)) (je_one (je_chain os_le os_le (je_var 1 rfl (.inl (by first | rfl | kernel_rfl))) (je_var 0 rfl (.inl (by first | rfl | kernel_rfl))) (je_var 2 rfl (.inl (by first | rfl | kernel_rfl))))))))
theorem f_is_between {g : Gb} (GG : GF g) : Fn g (top 7) "is_between" "is_between" ["value", "low", "high"] 3 D_is_between := by
  obtain ⟨f, fd, hx, D0⟩ := GG.d_is_between
  exact fn_mk outD outD_hout hx D0 sc_is_between (fun kV doc pm an cdv ct us hl => match us, hl with | [_, _, _], _ => rfl) (fun b hr => b_is_between GG b hr)
/-- wrong_in_steps -/
theorem sc_wrong_in_steps : FnScope ["value", "index", "each"] ["value"] (defScope (top 16)) := ⟨rfl, rfl, rfl, by decide +kernel, rfl, by decide +kernel, by decide +kernel⟩
def m_wrong_in_steps_b1 : SM :=
  (sif (tor (tnot (xtru (xfn 3 (D_is_between) (xcons (xvar 2) (xcons (xpure (.int (-1))) (xcons (xpure (.int (9))) (xpure []))))))) (tand (xbool (xop gtD (xvar 1) (xpure (.int 0)))) (xbool (xop leD (xvar 2) (xop ixD (xvar 0) (xop subD (xvar 1) (xpure (.int 1)))))))) (sret (xlst (xcons (xvar 1) (xpure [])))) snext)
def m_wrong_in_steps : SM :=
  (sseq (sif (tor (tnot (xtru (xcall (f2 isiD) (xcons (xvar 0) (xcons (xpure (.ty "tuple")) (xpure [])))))) (tnot (xbool (xchain leD leD (xpure (.int 1)) (xcall (f1 lenD) (xcons (xvar 0) (xpure []))) (xpure (.int (5))))))) (sret (xlst (xcons (xpure .non) (xpure [])))) snext) (sseq (sfor (xenum (xvar 0)) (gtup 2 (gcons (gname 1) (gcons (gname 2) gnil))) m_wrong_in_steps_b1) (sret (xlst (xpure [])))))
abbrev D_wrong_in_steps : DF := runF 3 m_wrong_in_steps
theorem b_wrong_in_steps {g : Gb} (GG : GF g) (b : Bd) (hr : Room 4 (b.A.deeper (PyProof.Rows.envOfC b.qual (defScope (top 16)) b.s.heap.objs.size b.f b.cdv))) :
    JSs (famB g 4 ["value", "index", "each"] sc_wrong_in_steps.nd (defScope (top 16)) b hr) (defBody (top 16)) m_wrong_in_steps :=
  (jss_cons (js_if (jw_or (jt_not (jt_tru (je_callB cs_isi (by first | rfl | kernel_rfl) GG.b_isinstance bt_isinstance (ja_cons (je_var 0 rfl (.inl (by first | rfl | kernel_rfl))) (ja_cons (je_gty (by first | rfl | kernel_rfl) GG.b_tuple bt_tuple) ja_nil))))) (jw_or1 (jt_not (jt_chain os_le os_le je_int (je_callB cs_len (by first | rfl | kernel_rfl) GG.b_len bt_len (ja_cons (je_var 0 rfl (.inl (by first | rfl | kernel_rfl))) ja_nil)) (je_gint (by first | rfl | kernel_rfl) GG.c_MOST_STEPS))))).jt (jss_one (js_ret (je_lst (ja_cons je_non ja_nil)))) jss_nil)
      (jss_cons (js_for (ji_enum (by first | rfl | kernel_rfl) GG.b_enumerate (je_var 0 rfl (.inl (by first | rfl | kernel_rfl)))) (jg_tup (jgs_cons (jg_name 1 rfl (.inl (by first | rfl | kernel_rfl))) (jgs_cons (jg_name 2 rfl (.inl (by first | rfl | kernel_rfl))) jgs_nil))) (jss_one (js_if (jw_or (jt_not (jt_tru (je_call (f_is_between GG) (Nat.le_of_ble_eq_true rfl) (by first | rfl | kernel_rfl) (ja_cons (je_var 2 rfl (.inl (by first | rfl | kernel_rfl))) (ja_cons (je_gint (by first | rfl | kernel_rfl) GG.c_LEAST_STEP) (ja_cons (je_gint (by first | rfl | kernel_rfl) GG.c_MOST_STEP) ja_nil)))))) (jw_or1 (jw_and (jt_cmp os_gt (je_var 1 rfl (.inl (by first | rfl | kernel_rfl))) je_int rfl) (jw_and1 (jt_cmp os_le (je_var 2 rfl (.inl (by first | rfl | kernel_rfl))) (je_ix (je_var 0 rfl (.inl (by first | rfl | kernel_rfl))) (je_op os_sub (je_var 1 rfl (.inl (by first | rfl | kernel_rfl))) je_int)) rfl))).jt)).jt (jss_one (js_ret (je_lst (ja_cons (je_var 1 rfl (.inl (by first | rfl | kernel_rfl))) ja_nil)))) jss_nil)))
      (jss_one (js_ret (je_lst ja_nil)))))
theorem f_wrong_in_steps {g : Gb} (GG : GF g) : Fn g (top 16) "wrong_in_steps" "wrong_in_steps" ["value"] 5 D_wrong_in_steps := by
  obtain ⟨f, fd, hx, D0⟩ := GG.d_wrong_in_steps
  exact fn_mk outD outD_hout hx D0 sc_wrong_in_steps (fun kV doc pm an cdv ct us hl => match us, hl with | [_], _ => rfl) (fun b hr => b_wrong_in_steps GG b hr)
/-- check_number -/
theorem sc_check_number : FnScope ["value", "low", "high"] ["value", "low", "high"] (defScope (top 9)) := ⟨rfl, rfl, rfl, by decide +kernel, rfl, by decide +kernel, by decide +kernel⟩
def m_check_number : SM :=
  (sif (tnot (xtru (xfn 3 (D_is_between) (xcons (xvar 0) (xcons (xvar 1) (xcons (xvar 2) (xpure []))))))) snever snext)
abbrev D_check_number : DF := runF 3 m_check_number
theorem b_check_number {g : Gb} (GG : GF g) (b : Bd) (hr : Room 4 (b.A.deeper (PyProof.Rows.envOfC b.qual (defScope (top 9)) b.s.heap.objs.size b.f b.cdv))) :
    JSs (famB g 4 ["value", "low", "high"] sc_check_number.nd (defScope (top 9)) b hr) (defBody (top 9)) m_check_number :=
  (jss_one (js_if (jt_not (jt_tru (je_call (f_is_between GG) (Nat.le_of_ble_eq_true rfl) (by first | rfl | kernel_rfl) (ja_cons (je_var 0 rfl (.inl (by first | rfl | kernel_rfl))) (ja_cons (je_var 1 rfl (.inl (by first | rfl | kernel_rfl))) (ja_cons (je_var 2 rfl (.inl (by first | rfl | kernel_rfl))) ja_nil)))))) (jss_one js_never) jss_nil))
theorem f_check_number {g : Gb} (GG : GF g) : Fn g (top 9) "check_number" "check_number" ["value", "low", "high"] 5 D_check_number := by
  obtain ⟨f, fd, hx, D0⟩ := GG.d_check_number
  exact fn_mk outD outD_hout hx D0 sc_check_number (fun kV doc pm an cdv ct us hl => match us, hl with | [_, _, _], _ => rfl) (fun b hr => b_check_number GG b hr)
/-- check_steps -/
theorem sc_check_steps : FnScope ["steps", "times", "index"] ["steps", "times"] (defScope (top 22)) := ⟨rfl, rfl, rfl, by decide +kernel, rfl, by decide +kernel, by decide +kernel⟩
def m_check_steps : SM :=
  (sseq (sfor (xwalk (xfn 1 (D_wrong_in_steps) (xcons (xvar 0) (xpure [])))) (gname 2) snever) (sdrop (xfn 3 (D_check_number) (xcons (xvar 1) (xcons (xpure (.int 0)) (xcons (xpure (.int (30))) (xpure [])))))))
abbrev D_check_steps : DF := runF 3 m_check_steps
theorem b_check_steps {g : Gb} (GG : GF g) (b : Bd) (hr : Room 6 (b.A.deeper (PyProof.Rows.envOfC b.qual (defScope (top 22)) b.s.heap.objs.size b.f b.cdv))) :
    JSs (famB g 6 ["steps", "times", "index"] sc_check_steps.nd (defScope (top 22)) b hr) (defBody (top 22)) m_check_steps :=
  (jss_cons (js_for (ji_seq (je_call (f_wrong_in_steps GG) (Nat.le_of_ble_eq_true rfl) (by first | rfl | kernel_rfl) (ja_cons (je_var 0 rfl (.inl (by first | rfl | kernel_rfl))) ja_nil))) (jg_name 2 rfl (.inl (by first | rfl | kernel_rfl))) (jss_one js_never))
      (jss_one (js_expr (je_call (f_check_number GG) (Nat.le_of_ble_eq_true rfl) (by first | rfl | kernel_rfl) (ja_cons (je_var 1 rfl (.inl (by first | rfl | kernel_rfl))) (ja_cons je_int (ja_cons (je_gint (by first | rfl | kernel_rfl) GG.c_MOST_TIMES) ja_nil)))))))
theorem f_check_steps {g : Gb} (GG : GF g) : Fn g (top 22) "check_steps" "check_steps" ["steps", "times"] 7 D_check_steps := by
  obtain ⟨f, fd, hx, D0⟩ := GG.d_check_steps
  exact fn_mk outD outD_hout hx D0 sc_check_steps (fun kV doc pm an cdv ct us hl => match us, hl with | [_, _], _ => rfl) (fun b hr => b_check_steps GG b hr)
/-- check_from -/
theorem sc_check_from : FnScope ["value", "low"] ["value", "low"] (defScope (top 11)) := ⟨rfl, rfl, rfl, by decide +kernel, rfl, by decide +kernel, by decide +kernel⟩
def m_check_from : SM :=
  (sif (tor (tnot (xtru (xfn 1 (D_is_whole) (xcons (xvar 0) (xpure []))))) (xbool (xop ltD (xvar 0) (xvar 1)))) snever snext)
abbrev D_check_from : DF := runF 2 m_check_from
theorem b_check_from {g : Gb} (GG : GF g) (b : Bd) (hr : Room 2 (b.A.deeper (PyProof.Rows.envOfC b.qual (defScope (top 11)) b.s.heap.objs.size b.f b.cdv))) :
    JSs (famB g 2 ["value", "low"] sc_check_from.nd (defScope (top 11)) b hr) (defBody (top 11)) m_check_from :=
  (jss_one (js_if (jw_or (jt_not (jt_tru (je_call (f_is_whole GG) (Nat.le_of_ble_eq_true rfl) (by first | rfl | kernel_rfl) (ja_cons (je_var 0 rfl (.inl (by first | rfl | kernel_rfl))) ja_nil)))) (jw_or1 (jt_cmp os_lt (je_var 0 rfl (.inl (by first | rfl | kernel_rfl))) (je_var 1 rfl (.inl (by first | rfl | kernel_rfl))) rfl))).jt (jss_one js_never) jss_nil))
theorem f_check_from {g : Gb} (GG : GF g) : Fn g (top 11) "check_from" "check_from" ["value", "low"] 3 D_check_from := by
  obtain ⟨f, fd, hx, D0⟩ := GG.d_check_from
  exact fn_mk outD outD_hout hx D0 sc_check_from (fun kV doc pm an cdv ct us hl => match us, hl with | [_, _], _ => rfl) (fun b hr => b_check_from GG b hr)
/-- next_counts -/
theorem sc_next_counts : FnScope ["steps", "counts", "found", "total", "many", "step"] ["steps", "counts"] (defScope (top 17)) := ⟨rfl, rfl, rfl, by decide +kernel, rfl, by decide +kernel, by decide +kernel⟩
def m_next_counts_b1 : SM :=
  (sdput (xvar 2) (xop addD (xvar 3) (xvar 5)) (xop addD (xdget2 (xvar 2) (xop addD (xvar 3) (xvar 5)) (xpure (.int 0))) (xvar 4)))
def m_next_counts_b2 : SM :=
  (sfor (xwalk (xvar 0)) (gname 5) m_next_counts_b1)
def m_next_counts : SM :=
  (sseq (sset 2 xdnew) (sseq (slock 1 (sfor (xitems (xvar 1)) (gtup 2 (gcons (gname 3) (gcons (gname 4) gnil))) m_next_counts_b2)) (sret (xvar 2))))
abbrev D_next_counts : DF := runG 6 m_next_counts
theorem b_next_counts {g : Gb} (GG : GF g) (b : Bd) (hr : Room 0 (b.A.deeper (PyProof.Rows.envOfC b.qual (defScope (top 17)) b.s.heap.objs.size b.f b.cdv))) :
    JSs (famB g 0 ["steps", "counts", "found", "total", "many", "step"] sc_next_counts.nd (defScope (top 17)) b hr) (defBody (top 17)) m_next_counts :=
  (jss_cons (js_set 2 rfl (.inl (by first | rfl | kernel_rfl)) je_dnew)
      (jss_cons (js_lock 1 (js_for (ji_items (je_var 1 rfl (.inl (by first | rfl | kernel_rfl)))) (jg_tup (jgs_cons (jg_name 3 rfl (.inl (by first | rfl | kernel_rfl))) (jgs_cons (jg_name 4 rfl (.inl (by first | rfl | kernel_rfl))) jgs_nil))) (jss_one (js_for (ji_seq (je_var 0 rfl (.inl (by first | rfl | kernel_rfl)))) (jg_name 5 rfl (.inl (by first | rfl | kernel_rfl))) (jss_one (js_dput (je_var 2 rfl (.inl (by first | rfl | kernel_rfl))) (je_op os_add (je_var 3 rfl (.inl (by first | rfl | kernel_rfl))) (je_var 5 rfl (.inl (by first | rfl | kernel_rfl)))) (je_op os_add (je_dget2 (je_var 2 rfl (.inl (by first | rfl | kernel_rfl))) (je_op os_add (je_var 3 rfl (.inl (by first | rfl | kernel_rfl))) (je_var 5 rfl (.inl (by first | rfl | kernel_rfl)))) je_int) (je_var 4 rfl (.inl (by first | rfl | kernel_rfl))))))))))
      (jss_one (js_ret (je_var 2 rfl (.inl (by first | rfl | kernel_rfl)))))))
theorem f_next_counts {g : Gb} (GG : GF g) : Fn g (top 17) "next_counts" "next_counts" ["steps", "counts"] 1 D_next_counts := by
  obtain ⟨f, fd, hx, D0⟩ := GG.d_next_counts
  exact fn_mk outG outG_hout hx D0 sc_next_counts (fun kV doc pm an cdv ct us hl => match us, hl with | [_, _], _ => rfl) (fun b hr => b_next_counts GG b hr)
/-- count_total_by -/
theorem sc_count_total_by : FnScope ["steps", "times", "ending", "counts", "_"] ["steps", "times", "ending"] (defScope (top 18)) := ⟨rfl, rfl, rfl, by decide +kernel, rfl, by decide +kernel, by decide +kernel⟩
def m_count_total_by_b1 : SM :=
  (sset 3 (xfn 2 (D_next_counts) (xcons (xvar 0) (xcons (xvar 3) (xpure [])))))
def m_count_total_by : SM :=
  (sseq (sset 3 (xdisp (xpair (xpure (.int 0)) (xpure (.int 1)) (xpure [])))) (sseq (sfor (xrange1 (xvar 1)) (gname 4) m_count_total_by_b1) (sret (xdget2 (xvar 3) (xvar 2) (xpure (.int 0))))))
abbrev D_count_total_by : DF := runF 5 m_count_total_by
theorem b_count_total_by {g : Gb} (GG : GF g) (b : Bd) (hr : Room 2 (b.A.deeper (PyProof.Rows.envOfC b.qual (defScope (top 18)) b.s.heap.objs.size b.f b.cdv))) :
    JSs (famB g 2 ["steps", "times", "ending", "counts", "_"] sc_count_total_by.nd (defScope (top 18)) b hr) (defBody (top 18)) m_count_total_by :=
  (jss_cons (js_set 3 rfl (.inl (by first | rfl | kernel_rfl)) (je_disp (jps_cons je_int je_int jps_nil) rfl rfl (by simp) (by decide)))
      (jss_cons (js_for (ji_range1 (by first | rfl | kernel_rfl) GG.b_range (je_var 1 rfl (.inl (by first | rfl | kernel_rfl)))) (jg_name 4 rfl (.inl (by first | rfl | kernel_rfl))) (jss_one (js_set 3 rfl (.inl (by first | rfl | kernel_rfl)) (je_call (f_next_counts GG) (Nat.le_of_ble_eq_true rfl) (by first | rfl | kernel_rfl) (ja_cons (je_var 0 rfl (.inl (by first | rfl | kernel_rfl))) (ja_cons (je_var 3 rfl (.inl (by first | rfl | kernel_rfl))) ja_nil))))))
      (jss_one (js_ret (je_dget2 (je_var 3 rfl (.inl (by first | rfl | kernel_rfl))) (je_var 2 rfl (.inl (by first | rfl | kernel_rfl))) je_int)))))
theorem f_count_total_by {g : Gb} (GG : GF g) : Fn g (top 18) "count_total_by" "count_total_by" ["steps", "times", "ending"] 3 D_count_total_by := by
  obtain ⟨f, fd, hx, D0⟩ := GG.d_count_total_by
  exact fn_mk outD outD_hout hx D0 sc_count_total_by (fun kV doc pm an cdv ct us hl => match us, hl with | [_, _, _], _ => rfl) (fun b hr => b_count_total_by GG b hr)
/-- count_hits_by -/
theorem sc_count_hits_by : FnScope ["steps", "times", "level"] ["steps", "times", "level"] (defScope (top 19)) := ⟨rfl, rfl, rfl, by decide +kernel, rfl, by decide +kernel, by decide +kernel⟩
def m_count_hits_by : SM :=
  (sret (xif (xbool (xop gtD (xvar 1) (xpure (.int 0)))) (xop divD (xop mulD (xvar 2) (xfn 3 (D_count_total_by) (xcons (xvar 0) (xcons (xvar 1) (xcons (xneg (xvar 2)) (xpure [])))))) (xvar 1)) (xpure (.int 0))))
abbrev D_count_hits_by : DF := runF 3 m_count_hits_by
theorem b_count_hits_by {g : Gb} (GG : GF g) (b : Bd) (hr : Room 4 (b.A.deeper (PyProof.Rows.envOfC b.qual (defScope (top 19)) b.s.heap.objs.size b.f b.cdv))) :
    JSs (famB g 4 ["steps", "times", "level"] sc_count_hits_by.nd (defScope (top 19)) b hr) (defBody (top 19)) m_count_hits_by :=
  (jss_one (js_ret (je_if (jt_cmp os_gt (je_var 1 rfl (.inl (by first | rfl | kernel_rfl))) je_int rfl) (je_op os_div (je_op os_mul (je_var 2 rfl (.inl (by first | rfl | kernel_rfl))) (je_call (f_count_total_by GG) (Nat.le_of_ble_eq_true rfl) (by first | rfl | kernel_rfl) (ja_cons (je_var 0 rfl (.inl (by first | rfl | kernel_rfl))) (ja_cons (je_var 1 rfl (.inl (by first | rfl | kernel_rfl))) (ja_cons (je_neg (je_var 2 rfl (.inl (by first | rfl | kernel_rfl)))) ja_nil))))) (je_var 1 rfl (.inl (by first | rfl | kernel_rfl)))) je_int)))
theorem f_count_hits_by {g : Gb} (GG : GF g) : Fn g (top 19) "count_hits_by" "count_hits_by" ["steps", "times", "level"] 5 D_count_hits_by := by
  obtain ⟨f, fd, hx, D0⟩ := GG.d_count_hits_by
  exact fn_mk outD outD_hout hx D0 sc_count_hits_by (fun kV doc pm an cdv ct us hl => match us, hl with | [_, _, _], _ => rfl) (fun b hr => b_count_hits_by GG b hr)
/-- count_hits -/
theorem sc_count_hits : FnScope ["steps", "times", "level"] ["steps", "times", "level"] (defScope (top 24)) := ⟨rfl, rfl, rfl, by decide +kernel, rfl, by decide +kernel, by decide +kernel⟩
def m_count_hits : SM :=
  (sseq (sdrop (xfn 2 (D_check_steps) (xcons (xvar 0) (xcons (xvar 1) (xpure []))))) (sseq (sdrop (xfn 2 (D_check_from) (xcons (xvar 2) (xcons (xpure (.int 1)) (xpure []))))) (sret (xfn 3 (D_count_hits_by) (xcons (xvar 0) (xcons (xvar 1) (xcons (xvar 2) (xpure []))))))))
abbrev D_count_hits : DF := runF 3 m_count_hits
theorem b_count_hits {g : Gb} (GG : GF g) (b : Bd) (hr : Room 8 (b.A.deeper (PyProof.Rows.envOfC b.qual (defScope (top 24)) b.s.heap.objs.size b.f b.cdv))) :
    JSs (famB g 8 ["steps", "times", "level"] sc_count_hits.nd (defScope (top 24)) b hr) (defBody (top 24)) m_count_hits :=
  (jss_cons (js_expr (je_call (f_check_steps GG) (Nat.le_of_ble_eq_true rfl) (by first | rfl | kernel_rfl) (ja_cons (je_var 0 rfl (.inl (by first | rfl | kernel_rfl))) (ja_cons (je_var 1 rfl (.inl (by first | rfl | kernel_rfl))) ja_nil))))
      (jss_cons (js_expr (je_call (f_check_from GG) (Nat.le_of_ble_eq_true rfl) (by first | rfl | kernel_rfl) (ja_cons (je_var 2 rfl (.inl (by first | rfl | kernel_rfl))) (ja_cons je_int ja_nil))))
      (jss_one (js_ret (je_call (f_count_hits_by GG) (Nat.le_of_ble_eq_true rfl) (by first | rfl | kernel_rfl) (ja_cons (je_var 0 rfl (.inl (by first | rfl | kernel_rfl))) (ja_cons (je_var 1 rfl (.inl (by first | rfl | kernel_rfl))) (ja_cons (je_var 2 rfl (.inl (by first | rfl | kernel_rfl))) ja_nil))))))))
theorem f_count_hits {g : Gb} (GG : GF g) : Fn g (top 24) "count_hits" "count_hits" ["steps", "times", "level"] 9 D_count_hits := by
  obtain ⟨f, fd, hx, D0⟩ := GG.d_count_hits
  exact fn_mk outD outD_hout hx D0 sc_count_hits (fun kV doc pm an cdv ct us hl => match us, hl with | [_, _, _], _ => rfl) (fun b hr => b_count_hits GG b hr)
/-- _law_same -/
theorem sc_u_law_same : FnScope ["told", "due", "at"] ["told", "due"] (defScope (top 37)) := ⟨rfl, rfl, rfl, by decide +kernel, rfl, by decide +kernel, by decide +kernel⟩
def m_u_law_same_s1 : SM :=
  (sif (tor (tand (xtru (xcall (f2 isiD) (xcons (xvar 1) (xcons (xpure (.ty "tuple")) (xpure []))))) (tnot (xtru (xcall (f2 isiD) (xcons (xvar 0) (xcons (xpure (.ty "tuple")) (xpure []))))))) (tand (xtru (xcall (f2 isiD) (xcons (xvar 1) (xcons (xpure (.ty "list")) (xpure []))))) (tnot (xtru (xcall (f2 isiD) (xcons (xvar 0) (xcons (xpure (.ty "list")) (xpure [])))))))) (sret (xpure (.bl false))) snext)
def m_u_law_same_e1 (RR : DF) : XM D :=
  (xfn 2 (RR) (xcons (xop ixD (xvar 0) (xvar 2)) (xcons (xop ixD (xvar 1) (xvar 2)) (xpure []))))
def m_u_law_same_s2 (RR : DF) : SM :=
  (sif (xtru (xbind (xvar 1) (isi2D "tuple" "list"))) (sret (xand (xop eqD (xcall (f1 lenD) (xcons (xvar 0) (xpure []))) (xcall (f1 lenD) (xcons (xvar 1) (xpure [])))) (xcall (f1 allD) (xcons (xcomp (xrange1 (xcall (f1 lenD) (xcons (xvar 1) (xpure [])))) [2] (gname 2) (xpure true) (m_u_law_same_e1 RR)) (xpure []))))) snext)
def m_u_law_same_s3 : SM :=
  (sif (tor (xbool (xop isD (xvar 1) (xpure .non))) (xbool (xop isD (xvar 0) (xpure .non)))) (sret (xand (xop isD (xvar 1) (xpure .non)) (xop isD (xvar 0) (xpure .non)))) snext)
def m_u_law_same_s4 : SM :=
  (sif (tor (xtru (xcall (f2 isiD) (xcons (xvar 1) (xcons (xpure (.ty "bool")) (xpure []))))) (xtru (xcall (f2 isiD) (xcons (xvar 0) (xcons (xpure (.ty "bool")) (xpure [])))))) (sret (xand (xcall (f2 isiD) (xcons (xvar 1) (xcons (xpure (.ty "bool")) (xpure [])))) (xand (xcall (f2 isiD) (xcons (xvar 0) (xcons (xpure (.ty "bool")) (xpure [])))) (xop eqD (xvar 1) (xvar 0))))) snext)
def m_u_law_same_s5 : SM :=
  (sif (xtru (xcall (f2 isiD) (xcons (xvar 1) (xcons (xpure (.ty "int")) (xpure []))))) (sret (xand (xcall (f2 isiD) (xcons (xvar 0) (xcons (xpure (.ty "int")) (xpure [])))) (xop eqD (xvar 0) (xvar 1)))) snext)
def m_u_law_same_s6 : SM :=
  (sif (xtru (xcall (f2 isiD) (xcons (xvar 1) (xcons (xpure (.ty "str")) (xpure []))))) (sret (xand (xcall (f2 isiD) (xcons (xvar 0) (xcons (xpure (.ty "str")) (xpure [])))) (xop eqD (xvar 0) (xvar 1)))) snext)
def m_u_law_same_s7 : SM :=
  (sret (xand (xcall (f2 isiD) (xcons (xvar 1) (xcons (xpure (.ty "dict")) (xpure [])))) (xand (xcall (f2 isiD) (xcons (xvar 0) (xcons (xpure (.ty "dict")) (xpure [])))) (xand (xop eqD (xcall (f1 lenD) (xcons (xvar 0) (xpure []))) (xcall (f1 lenD) (xcons (xvar 1) (xpure [])))) (xop eqD (xvar 0) (xvar 1))))))
def m_u_law_same (RR : DF) : SM :=
  (sseq m_u_law_same_s1 (sseq (m_u_law_same_s2 RR) (sseq m_u_law_same_s3 (sseq m_u_law_same_s4 (sseq m_u_law_same_s5 (sseq m_u_law_same_s6 m_u_law_same_s7))))))
def D_u_law_same : Nat → DF
  | 0 => fun _ _ => .stuck
  | n + 1 => runF 3 (m_u_law_same (D_u_law_same n))
theorem b_u_law_same {g : Gb} (GG : GF g) {RR : DF} {k : Nat} (RF : Fn g (top 37) "_law_same" "_law_same" ["told", "due"] (k + 1) RR) (b : Bd) (hr : Room (k + 1) (b.A.deeper (PyProof.Rows.envOfC b.qual (defScope (top 37)) b.s.heap.objs.size b.f b.cdv))) :
    JSs (famB g (k + 1) ["told", "due", "at"] sc_u_law_same.nd (defScope (top 37)) b hr) (defBody (top 37)) (m_u_law_same RR) :=
  (jss_cons (js_if (jw_or (jw_and (jt_tru (je_callB cs_isi (by first | rfl | kernel_rfl) GG.b_isinstance bt_isinstance (ja_cons (je_var 1 rfl (.inr (.inl (by first | rfl | kernel_rfl)))) (ja_cons (je_gty (by first | rfl | kernel_rfl) GG.b_tuple bt_tuple) ja_nil)))) (jw_and1 (jt_not (jt_tru (je_callB cs_isi (by first | rfl | kernel_rfl) GG.b_isinstance bt_isinstance (ja_cons (je_var 0 rfl (.inr (.inl (by first | rfl | kernel_rfl)))) (ja_cons (je_gty (by first | rfl | kernel_rfl) GG.b_tuple bt_tuple) ja_nil))))))).jt (jw_or1 (jw_and (jt_tru (je_callB cs_isi (by first | rfl | kernel_rfl) GG.b_isinstance bt_isinstance (ja_cons (je_var 1 rfl (.inr (.inl (by first | rfl | kernel_rfl)))) (ja_cons (je_gty (by first | rfl | kernel_rfl) GG.b_list bt_list) ja_nil)))) (jw_and1 (jt_not (jt_tru (je_callB cs_isi (by first | rfl | kernel_rfl) GG.b_isinstance bt_isinstance (ja_cons (je_var 0 rfl (.inr (.inl (by first | rfl | kernel_rfl)))) (ja_cons (je_gty (by first | rfl | kernel_rfl) GG.b_list bt_list) ja_nil))))))).jt)).jt (jss_one (js_ret je_bl)) jss_nil)
      (jss_cons (js_if (jt_tru (je_isi2 (by first | rfl | kernel_rfl) GG.b_isinstance bt_isinstance (je_var 1 rfl (.inr (.inl (by first | rfl | kernel_rfl)))) (by first | rfl | kernel_rfl) GG.b_tuple bt_tuple (by first | rfl | kernel_rfl) GG.b_list bt_list)) (jss_one (js_ret (je_and (je_cmp os_eq (je_callB cs_len (by first | rfl | kernel_rfl) GG.b_len bt_len (ja_cons (je_var 0 rfl (.inr (.inl (by first | rfl | kernel_rfl)))) ja_nil)) (je_callB cs_len (by first | rfl | kernel_rfl) GG.b_len bt_len (ja_cons (je_var 1 rfl (.inr (.inl (by first | rfl | kernel_rfl)))) ja_nil)) rfl) (je_one (je_callB cs_all (by first | rfl | kernel_rfl) GG.b_all bt_all (ja_cons (je_lc [("at", 2)] (ji_range1 (by first | rfl | kernel_rfl) GG.b_range (je_callB cs_len (by first | rfl | kernel_rfl) GG.b_len bt_len (ja_cons (je_var 1 rfl (.inr (.inl (by first | rfl | kernel_rfl)))) ja_nil))) (by first | rfl | kernel_rfl) (jc_name 2 rfl (.inl (by first | rfl | kernel_rfl)) (by decide)) jts_nil (je_call RF (Nat.le_refl _) (by first | rfl | kernel_rfl) (ja_cons (je_ix (je_var 0 rfl (.inr (.inl (by first | rfl | kernel_rfl)))) (je_var 2 rfl (.inl (by first | rfl | kernel_rfl)))) (ja_cons (je_ix (je_var 1 rfl (.inr (.inl (by first | rfl | kernel_rfl)))) (je_var 2 rfl (.inl (by first | rfl | kernel_rfl)))) ja_nil)))) ja_nil)))))) jss_nil)
      (jss_cons (js_if (jw_or (jt_cmp os_is (je_var 1 rfl (.inr (.inl (by first | rfl | kernel_rfl)))) je_non rfl) (jw_or1 (jt_cmp os_is (je_var 0 rfl (.inr (.inl (by first | rfl | kernel_rfl)))) je_non rfl))).jt (jss_one (js_ret (je_and (je_cmp os_is (je_var 1 rfl (.inr (.inl (by first | rfl | kernel_rfl)))) je_non rfl) (je_one (je_cmp os_is (je_var 0 rfl (.inr (.inl (by first | rfl | kernel_rfl)))) je_non rfl))))) jss_nil)
      (jss_cons (js_if (jw_or (jt_tru (je_callB cs_isi (by first | rfl | kernel_rfl) GG.b_isinstance bt_isinstance (ja_cons (je_var 1 rfl (.inr (.inl (by first | rfl | kernel_rfl)))) (ja_cons (je_gty (by first | rfl | kernel_rfl) GG.b_bool bt_bool) ja_nil)))) (jw_or1 (jt_tru (je_callB cs_isi (by first | rfl | kernel_rfl) GG.b_isinstance bt_isinstance (ja_cons (je_var 0 rfl (.inr (.inl (by first | rfl | kernel_rfl)))) (ja_cons (je_gty (by first | rfl | kernel_rfl) GG.b_bool bt_bool) ja_nil)))))).jt (jss_one (js_ret (je_and (je_callB cs_isi (by first | rfl | kernel_rfl) GG.b_isinstance bt_isinstance (ja_cons (je_var 1 rfl (.inr (.inl (by first | rfl | kernel_rfl)))) (ja_cons (je_gty (by first | rfl | kernel_rfl) GG.b_bool bt_bool) ja_nil))) (je_and (je_callB cs_isi (by first | rfl | kernel_rfl) GG.b_isinstance bt_isinstance (ja_cons (je_var 0 rfl (.inr (.inl (by first | rfl | kernel_rfl)))) (ja_cons (je_gty (by first | rfl | kernel_rfl) GG.b_bool bt_bool) ja_nil))) (je_one (je_cmp os_eq (je_var 1 rfl (.inr (.inl (by first | rfl | kernel_rfl)))) (je_var 0 rfl (.inr (.inl (by first | rfl | kernel_rfl)))) rfl)))))) jss_nil)
      (jss_cons (js_if (jt_tru (je_callB cs_isi (by first | rfl | kernel_rfl) GG.b_isinstance bt_isinstance (ja_cons (je_var 1 rfl (.inr (.inl (by first | rfl | kernel_rfl)))) (ja_cons (je_gty (by first | rfl | kernel_rfl) GG.b_int bt_int) ja_nil)))) (jss_one (js_ret (je_and (je_callB cs_isi (by first | rfl | kernel_rfl) GG.b_isinstance bt_isinstance (ja_cons (je_var 0 rfl (.inr (.inl (by first | rfl | kernel_rfl)))) (ja_cons (je_gty (by first | rfl | kernel_rfl) GG.b_int bt_int) ja_nil))) (je_one (je_cmp os_eq (je_var 0 rfl (.inr (.inl (by first | rfl | kernel_rfl)))) (je_var 1 rfl (.inr (.inl (by first | rfl | kernel_rfl)))) rfl))))) jss_nil)
      (jss_cons (js_if (jt_tru (je_callB cs_isi (by first | rfl | kernel_rfl) GG.b_isinstance bt_isinstance (ja_cons (je_var 1 rfl (.inr (.inl (by first | rfl | kernel_rfl)))) (ja_cons (je_gty (by first | rfl | kernel_rfl) GG.b_str bt_str) ja_nil)))) (jss_one (js_ret (je_and (je_callB cs_isi (by first | rfl | kernel_rfl) GG.b_isinstance bt_isinstance (ja_cons (je_var 0 rfl (.inr (.inl (by first | rfl | kernel_rfl)))) (ja_cons (je_gty (by first | rfl | kernel_rfl) GG.b_str bt_str) ja_nil))) (je_one (je_cmp os_eq (je_var 0 rfl (.inr (.inl (by first | rfl | kernel_rfl)))) (je_var 1 rfl (.inr (.inl (by first | rfl | kernel_rfl)))) rfl))))) jss_nil)
      (jss_one (js_ret (je_and (je_callB cs_isi (by first | rfl | kernel_rfl) GG.b_isinstance bt_isinstance (ja_cons (je_var 1 rfl (.inr (.inl (by first | rfl | kernel_rfl)))) (ja_cons (je_gty (by first | rfl | kernel_rfl) GG.b_dict bt_dict) ja_nil))) (je_and (je_callB cs_isi (by first | rfl | kernel_rfl) GG.b_isinstance bt_isinstance (ja_cons (je_var 0 rfl (.inr (.inl (by first | rfl | kernel_rfl)))) (ja_cons (je_gty (by first | rfl | kernel_rfl) GG.b_dict bt_dict) ja_nil))) (je_and (je_cmp os_eq (je_callB cs_len (by first | rfl | kernel_rfl) GG.b_len bt_len (ja_cons (je_var 0 rfl (.inr (.inl (by first | rfl | kernel_rfl)))) ja_nil)) (je_callB cs_len (by first | rfl | kernel_rfl) GG.b_len bt_len (ja_cons (je_var 1 rfl (.inr (.inl (by first | rfl | kernel_rfl)))) ja_nil)) rfl) (je_one (je_cmp os_eq (je_var 0 rfl (.inr (.inl (by first | rfl | kernel_rfl)))) (je_var 1 rfl (.inr (.inl (by first | rfl | kernel_rfl)))) rfl)))))))))))))
theorem f_u_law_same {g : Gb} (GG : GF g) : ∀ n : Nat, Fn g (top 37) "_law_same" "_law_same" ["told", "due"] (n + 1) (D_u_law_same n)
  | 0 => let ⟨f, fd, hx, D0⟩ := GG.d_u_law_same; fn_stuck hx D0 sc_u_law_same (fun kV doc pm an cdv ct us hl => match us, hl with | [_, _], _ => rfl)
  | n + 1 => by
    obtain ⟨f, fd, hx, D0⟩ := GG.d_u_law_same
    have RF := f_u_law_same GG n
    have := fn_mk outD outD_hout hx D0 sc_u_law_same (fun kV doc pm an cdv ct us hl => match us, hl with | [_, _], _ => rfl) (fun b hr => b_u_law_same GG RF b hr)
    rw [show n + 1 + 1 = n + 1 + 1 by omega]
    exact this
/-- check_whole -/
theorem sc_check_whole : FnScope ["value"] ["value"] (defScope (top 10)) := ⟨rfl, rfl, rfl, by decide +kernel, rfl, by decide +kernel, by decide +kernel⟩
def m_check_whole : SM :=
  (sif (tnot (xtru (xfn 1 (D_is_whole) (xcons (xvar 0) (xpure []))))) snever snext)
abbrev D_check_whole : DF := runF 1 m_check_whole
theorem b_check_whole {g : Gb} (GG : GF g) (b : Bd) (hr : Room 2 (b.A.deeper (PyProof.Rows.envOfC b.qual (defScope (top 10)) b.s.heap.objs.size b.f b.cdv))) :
    JSs (famB g 2 ["value"] sc_check_whole.nd (defScope (top 10)) b hr) (defBody (top 10)) m_check_whole :=
  (jss_one (js_if (jt_not (jt_tru (je_call (f_is_whole GG) (Nat.le_of_ble_eq_true rfl) (by first | rfl | kernel_rfl) (ja_cons (je_var 0 rfl (.inl (by first | rfl | kernel_rfl))) ja_nil)))) (jss_one js_never) jss_nil))
theorem f_check_whole {g : Gb} (GG : GF g) : Fn g (top 10) "check_whole" "check_whole" ["value"] 3 D_check_whole := by
  obtain ⟨f, fd, hx, D0⟩ := GG.d_check_whole
  exact fn_mk outD outD_hout hx D0 sc_check_whole (fun kV doc pm an cdv ct us hl => match us, hl with | [_], _ => rfl) (fun b hr => b_check_whole GG b hr)
/-- count_total -/
theorem sc_count_total : FnScope ["steps", "times", "ending"] ["steps", "times", "ending"] (defScope (top 23)) := ⟨rfl, rfl, rfl, by decide +kernel, rfl, by decide +kernel, by decide +kernel⟩
def m_count_total : SM :=
  (sseq (sdrop (xfn 2 (D_check_steps) (xcons (xvar 0) (xcons (xvar 1) (xpure []))))) (sseq (sdrop (xfn 1 (D_check_whole) (xcons (xvar 2) (xpure [])))) (sret (xfn 3 (D_count_total_by) (xcons (xvar 0) (xcons (xvar 1) (xcons (xvar 2) (xpure []))))))))
abbrev D_count_total : DF := runF 3 m_count_total
theorem b_count_total {g : Gb} (GG : GF g) (b : Bd) (hr : Room 8 (b.A.deeper (PyProof.Rows.envOfC b.qual (defScope (top 23)) b.s.heap.objs.size b.f b.cdv))) :
    JSs (famB g 8 ["steps", "times", "ending"] sc_count_total.nd (defScope (top 23)) b hr) (defBody (top 23)) m_count_total :=
  (jss_cons (js_expr (je_call (f_check_steps GG) (Nat.le_of_ble_eq_true rfl) (by first | rfl | kernel_rfl) (ja_cons (je_var 0 rfl (.inl (by first | rfl | kernel_rfl))) (ja_cons (je_var 1 rfl (.inl (by first | rfl | kernel_rfl))) ja_nil))))
      (jss_cons (js_expr (je_call (f_check_whole GG) (Nat.le_of_ble_eq_true rfl) (by first | rfl | kernel_rfl) (ja_cons (je_var 2 rfl (.inl (by first | rfl | kernel_rfl))) ja_nil)))
      (jss_one (js_ret (je_call (f_count_total_by GG) (Nat.le_of_ble_eq_true rfl) (by first | rfl | kernel_rfl) (ja_cons (je_var 0 rfl (.inl (by first | rfl | kernel_rfl))) (ja_cons (je_var 1 rfl (.inl (by first | rfl | kernel_rfl))) (ja_cons (je_var 2 rfl (.inl (by first | rfl | kernel_rfl))) ja_nil))))))))
theorem f_count_total {g : Gb} (GG : GF g) : Fn g (top 23) "count_total" "count_total" ["steps", "times", "ending"] 9 D_count_total := by
  obtain ⟨f, fd, hx, D0⟩ := GG.d_count_total
  exact fn_mk outD outD_hout hx D0 sc_count_total (fun kV doc pm an cdv ct us hl => match us, hl with | [_, _, _], _ => rfl) (fun b hr => b_count_total GG b hr)
/-- binomial -/
theorem sc_binomial : FnScope ["many", "few"] ["many", "few"] (defScope (top 26)) := ⟨rfl, rfl, rfl, by decide +kernel, rfl, by decide +kernel, by decide +kernel⟩
def m_binomial : SM :=
  (sret (xif (xbool (xchain leD leD (xpure (.int 0)) (xvar 1) (xvar 0))) (xcall (f2 combD) (xcons (xvar 0) (xcons (xvar 1) (xpure [])))) (xpure (.int 0))))
abbrev D_binomial : DF := runF 2 m_binomial
theorem b_binomial {g : Gb} (GG : GF g) (b : Bd) (hr : Room 0 (b.A.deeper (PyProof.Rows.envOfC b.qual (defScope (top 26)) b.s.heap.objs.size b.f b.cdv))) :
    JSs (famB g 0 ["many", "few"] sc_binomial.nd (defScope (top 26)) b hr) (defBody (top 26)) m_binomial :=
  (jss_one (js_ret (je_if (jt_chain os_le os_le je_int (je_var 1 rfl (.inl (by first | rfl | kernel_rfl))) (je_var 0 rfl (.inl (by first | rfl | kernel_rfl)))) (je_callMB cs_comb (by first | rfl | kernel_rfl) GG.v_comb (ja_cons (je_var 0 rfl (.inl (by first | rfl | kernel_rfl))) (ja_cons (je_var 1 rfl (.inl (by first | rfl | kernel_rfl))) ja_nil))) je_int)))
theorem f_binomial {g : Gb} (GG : GF g) : Fn g (top 26) "binomial" "binomial" ["many", "few"] 1 D_binomial := by
  obtain ⟨f, fd, hx, D0⟩ := GG.d_binomial
  exact fn_mk outD outD_hout hx D0 sc_binomial (fun kV doc pm an cdv ct us hl => match us, hl with | [_, _], _ => rfl) (fun b hr => b_binomial GG b hr)
/-- count_ending_by -/
theorem sc_count_ending_by : FnScope ["many", "ending"] ["many", "ending"] (defScope (top 27)) := ⟨rfl, rfl, rfl, by decide +kernel, rfl, by decide +kernel, by decide +kernel⟩
def m_count_ending_by : SM :=
  (sseq (sif (xbool (xop eqD (xop modD (xcall (f1 intD) (xcons (xop addD (xvar 0) (xvar 1)) (xpure []))) (xpure (.int 2))) (xpure (.int 1)))) (sret (xpure (.int 0))) snext) (sret (xfn 2 (D_binomial) (xcons (xvar 0) (xcons (xop divD (xop addD (xvar 0) (xvar 1)) (xpure (.int 2))) (xpure []))))))
abbrev D_count_ending_by : DF := runF 2 m_count_ending_by
theorem b_count_ending_by {g : Gb} (GG : GF g) (b : Bd) (hr : Room 2 (b.A.deeper (PyProof.Rows.envOfC b.qual (defScope (top 27)) b.s.heap.objs.size b.f b.cdv))) :
    JSs (famB g 2 ["many", "ending"] sc_count_ending_by.nd (defScope (top 27)) b hr) (defBody (top 27)) m_count_ending_by :=
  (jss_cons (js_if (jt_cmp os_eq (je_op os_mod (je_callTy cs_int (by first | rfl | kernel_rfl) GG.b_int bt_int (ja_cons (je_op os_add (je_var 0 rfl (.inl (by first | rfl | kernel_rfl))) (je_var 1 rfl (.inl (by first | rfl | kernel_rfl)))) ja_nil)) je_int) je_int rfl) (jss_one (js_ret je_int)) jss_nil)
      (jss_one (js_ret (je_call (f_binomial GG) (Nat.le_of_ble_eq_true rfl) (by first | rfl | kernel_rfl) (ja_cons (je_var 0 rfl (.inl (by first | rfl | kernel_rfl))) (ja_cons (je_op os_div (je_op os_add (je_var 0 rfl (.inl (by first | rfl | kernel_rfl))) (je_var 1 rfl (.inl (by first | rfl | kernel_rfl)))) je_int) ja_nil))))))
theorem f_count_ending_by {g : Gb} (GG : GF g) : Fn g (top 27) "count_ending_by" "count_ending_by" ["many", "ending"] 3 D_count_ending_by := by
  obtain ⟨f, fd, hx, D0⟩ := GG.d_count_ending_by
  exact fn_mk outD outD_hout hx D0 sc_count_ending_by (fun kV doc pm an cdv ct us hl => match us, hl with | [_, _], _ => rfl) (fun b hr => b_count_ending_by GG b hr)
/-- count_first_by -/
theorem sc_count_first_by : FnScope ["many", "level"] ["many", "level"] (defScope (top 28)) := ⟨rfl, rfl, rfl, by decide +kernel, rfl, by decide +kernel, by decide +kernel⟩
def m_count_first_by : SM :=
  (sret (xif (xbool (xop gtD (xvar 0) (xpure (.int 0)))) (xop divD (xop mulD (xvar 1) (xfn 2 (D_count_ending_by) (xcons (xvar 0) (xcons (xvar 1) (xpure []))))) (xvar 0)) (xpure (.int 0))))
abbrev D_count_first_by : DF := runF 2 m_count_first_by
theorem b_count_first_by {g : Gb} (GG : GF g) (b : Bd) (hr : Room 4 (b.A.deeper (PyProof.Rows.envOfC b.qual (defScope (top 28)) b.s.heap.objs.size b.f b.cdv))) :
    JSs (famB g 4 ["many", "level"] sc_count_first_by.nd (defScope (top 28)) b hr) (defBody (top 28)) m_count_first_by :=
  (jss_one (js_ret (je_if (jt_cmp os_gt (je_var 0 rfl (.inl (by first | rfl | kernel_rfl))) je_int rfl) (je_op os_div (je_op os_mul (je_var 1 rfl (.inl (by first | rfl | kernel_rfl))) (je_call (f_count_ending_by GG) (Nat.le_of_ble_eq_true rfl) (by first | rfl | kernel_rfl) (ja_cons (je_var 0 rfl (.inl (by first | rfl | kernel_rfl))) (ja_cons (je_var 1 rfl (.inl (by first | rfl | kernel_rfl))) ja_nil)))) (je_var 0 rfl (.inl (by first | rfl | kernel_rfl)))) je_int)))
theorem f_count_first_by {g : Gb} (GG : GF g) : Fn g (top 28) "count_first_by" "count_first_by" ["many", "level"] 5 D_count_first_by := by
  obtain ⟨f, fd, hx, D0⟩ := GG.d_count_first_by
  exact fn_mk outD outD_hout hx D0 sc_count_first_by (fun kV doc pm an cdv ct us hl => match us, hl with | [_, _], _ => rfl) (fun b hr => b_count_first_by GG b hr)
/-- count_first -/
theorem sc_count_first : FnScope ["times", "level"] ["times", "level"] (defScope (top 32)) := ⟨rfl, rfl, rfl, by decide +kernel, rfl, by decide +kernel, by decide +kernel⟩
def m_count_first : SM :=
  (sseq (sdrop (xfn 3 (D_check_number) (xcons (xvar 0) (xcons (xpure (.int 0)) (xcons (xpure (.int (40))) (xpure [])))))) (sseq (sdrop (xfn 2 (D_check_from) (xcons (xvar 1) (xcons (xpure (.int 1)) (xpure []))))) (sret (xfn 2 (D_count_first_by) (xcons (xvar 0) (xcons (xvar 1) (xpure [])))))))
abbrev D_count_first : DF := runF 2 m_count_first
theorem b_count_first {g : Gb} (GG : GF g) (b : Bd) (hr : Room 6 (b.A.deeper (PyProof.Rows.envOfC b.qual (defScope (top 32)) b.s.heap.objs.size b.f b.cdv))) :
    JSs (famB g 6 ["times", "level"] sc_count_first.nd (defScope (top 32)) b hr) (defBody (top 32)) m_count_first :=
  (jss_cons (js_expr (je_call (f_check_number GG) (Nat.le_of_ble_eq_true rfl) (by first | rfl | kernel_rfl) (ja_cons (je_var 0 rfl (.inl (by first | rfl | kernel_rfl))) (ja_cons je_int (ja_cons (je_gint (by first | rfl | kernel_rfl) GG.c_MOST_COUNTED) ja_nil)))))
      (jss_cons (js_expr (je_call (f_check_from GG) (Nat.le_of_ble_eq_true rfl) (by first | rfl | kernel_rfl) (ja_cons (je_var 1 rfl (.inl (by first | rfl | kernel_rfl))) (ja_cons je_int ja_nil))))
      (jss_one (js_ret (je_call (f_count_first_by GG) (Nat.le_of_ble_eq_true rfl) (by first | rfl | kernel_rfl) (ja_cons (je_var 0 rfl (.inl (by first | rfl | kernel_rfl))) (ja_cons (je_var 1 rfl (.inl (by first | rfl | kernel_rfl))) ja_nil)))))))
theorem f_count_first {g : Gb} (GG : GF g) : Fn g (top 32) "count_first" "count_first" ["times", "level"] 7 D_count_first := by
  obtain ⟨f, fd, hx, D0⟩ := GG.d_count_first
  exact fn_mk outD outD_hout hx D0 sc_count_first (fun kV doc pm an cdv ct us hl => match us, hl with | [_, _], _ => rfl) (fun b hr => b_count_first GG b hr)
/-- count_ending -/
theorem sc_count_ending : FnScope ["times", "ending"] ["times", "ending"] (defScope (top 31)) := ⟨rfl, rfl, rfl, by decide +kernel, rfl, by decide +kernel, by decide +kernel⟩
def m_count_ending : SM :=
  (sseq (sdrop (xfn 3 (D_check_number) (xcons (xvar 0) (xcons (xpure (.int 0)) (xcons (xpure (.int (40))) (xpure [])))))) (sseq (sdrop (xfn 1 (D_check_whole) (xcons (xvar 1) (xpure [])))) (sret (xfn 2 (D_count_ending_by) (xcons (xvar 0) (xcons (xvar 1) (xpure [])))))))
abbrev D_count_ending : DF := runF 2 m_count_ending
theorem b_count_ending {g : Gb} (GG : GF g) (b : Bd) (hr : Room 6 (b.A.deeper (PyProof.Rows.envOfC b.qual (defScope (top 31)) b.s.heap.objs.size b.f b.cdv))) :
    JSs (famB g 6 ["times", "ending"] sc_count_ending.nd (defScope (top 31)) b hr) (defBody (top 31)) m_count_ending :=
  (jss_cons (js_expr (je_call (f_check_number GG) (Nat.le_of_ble_eq_true rfl) (by first | rfl | kernel_rfl) (ja_cons (je_var 0 rfl (.inl (by first | rfl | kernel_rfl))) (ja_cons je_int (ja_cons (je_gint (by first | rfl | kernel_rfl) GG.c_MOST_COUNTED) ja_nil)))))
      (jss_cons (js_expr (je_call (f_check_whole GG) (Nat.le_of_ble_eq_true rfl) (by first | rfl | kernel_rfl) (ja_cons (je_var 1 rfl (.inl (by first | rfl | kernel_rfl))) ja_nil)))
      (jss_one (js_ret (je_call (f_count_ending_by GG) (Nat.le_of_ble_eq_true rfl) (by first | rfl | kernel_rfl) (ja_cons (je_var 0 rfl (.inl (by first | rfl | kernel_rfl))) (ja_cons (je_var 1 rfl (.inl (by first | rfl | kernel_rfl))) ja_nil)))))))
theorem f_count_ending {g : Gb} (GG : GF g) : Fn g (top 31) "count_ending" "count_ending" ["times", "ending"] 7 D_count_ending := by
  obtain ⟨f, fd, hx, D0⟩ := GG.d_count_ending
  exact fn_mk outD outD_hout hx D0 sc_count_ending (fun kV doc pm an cdv ct us hl => match us, hl with | [_, _], _ => rfl) (fun b hr => b_count_ending GG b hr)
/-- _law_is_told -/
theorem sc_u_law_is_told : FnScope ["well", "steps", "times", "level", "totals", "hits", "told", "ending", "own"] ["well", "steps", "times", "level"] (defScope (top 40)) := ⟨rfl, rfl, rfl, by decide +kernel, rfl, by decide +kernel, by decide +kernel⟩
def m_u_law_is_told_s1 : SM :=
  (sasg (xfn 3 (D_u_law_counts) (xcons (xvar 1) (xcons (xvar 2) (xcons (xvar 3) (xpure []))))) (gtup 2 (gcons (gname 4) (gcons (gname 5) gnil))))
def m_u_law_is_told_s2 : SM :=
  (sset 6 (xif (xbool (xop eqD (xfn 2 (D_u_law_take) (xcons (xvar 0) (xcons (xpure (.int 2)) (xpure [])))) (xpure (.int 0)))) (xfn 3 (D_count_hits) (xcons (xvar 1) (xcons (xvar 2) (xcons (xvar 3) (xpure []))))) (xfnK 0 [2, 1, 0] 3 (D_count_hits) (xpure []) (xcons (xvar 3) (xcons (xvar 2) (xcons (xvar 1) (xpure [])))))))
def m_u_law_is_told_s3 : SM :=
  (sif (tnot (xtru (xfn 2 (D_u_law_same 6) (xcons (xvar 6) (xcons (xvar 5) (xpure [])))))) (sret (xpure (.bl false))) snext)
def m_u_law_is_told_b1 : SM :=
  (sseq (sset 8 (xif (xbool (xop eqD (xfn 2 (D_u_law_take) (xcons (xvar 0) (xcons (xpure (.int 2)) (xpure [])))) (xpure (.int 0)))) (xfn 3 (D_count_total) (xcons (xvar 1) (xcons (xvar 2) (xcons (xvar 7) (xpure []))))) (xfnK 0 [2, 1, 0] 3 (D_count_total) (xpure []) (xcons (xvar 7) (xcons (xvar 2) (xcons (xvar 1) (xpure []))))))) (sif (tnot (xtru (xfn 2 (D_u_law_same 6) (xcons (xvar 8) (xcons (xdget2 (xvar 4) (xvar 7) (xpure (.int 0))) (xpure [])))))) (sret (xpure (.bl false))) snext))
def m_u_law_is_told_s4 : SM :=
  (sfor (xwalk (xtup (xcons (xop subD (xpure (.int 0)) (xvar 3)) (xcons (xfn 2 (D_u_law_take) (xcons (xvar 0) (xcons (xpure (.int 12)) (xpure [])))) (xcons (xfn 2 (D_u_law_of) (xcons (xvar 0) (xcons (xcall (f1 dlistD) (xcons (xvar 4) (xpure []))) (xpure [])))) (xpure [])))))) (gname 7) m_u_law_is_told_b1)
def m_u_law_is_told_s5 : SM :=
  (sif (xbool (xop neD (xop mulD (xvar 6) (xvar 2)) (xop mulD (xvar 3) (xfn 3 (D_count_total) (xcons (xvar 1) (xcons (xvar 2) (xcons (xop subD (xpure (.int 0)) (xvar 3)) (xpure [])))))))) (sret (xpure (.bl false))) snext)
def m_u_law_is_told_s6 : SM :=
  (sif (xbool (xop eqD (xvar 1) (xtup (xcons (xop subD (xpure (.int 0)) (xpure (.int 1))) (xcons (xpure (.int 1)) (xpure [])))))) (sret (xand (xop eqD (xvar 6) (xfn 2 (D_count_first) (xcons (xvar 2) (xcons (xvar 3) (xpure []))))) (xop eqD (xfn 3 (D_count_total) (xcons (xvar 1) (xcons (xvar 2) (xcons (xop subD (xpure (.int 0)) (xvar 3)) (xpure []))))) (xfn 2 (D_count_ending) (xcons (xvar 2) (xcons (xvar 3) (xpure []))))))) snext)
def m_u_law_is_told_s7 : SM :=
  (sret (xor' (xop inD (xop subD (xpure (.int 0)) (xpure (.int 1))) (xvar 1)) (xop eqD (xvar 6) (xpure (.int 0)))))
def m_u_law_is_told : SM :=
  (sseq m_u_law_is_told_s1 (sseq m_u_law_is_told_s2 (sseq m_u_law_is_told_s3 (sseq m_u_law_is_told_s4 (sseq m_u_law_is_told_s5 (sseq m_u_law_is_told_s6 m_u_law_is_told_s7))))))
abbrev D_u_law_is_told : DF := runF 9 m_u_law_is_told
theorem b_u_law_is_told {g : Gb} (GG : GF g) (b : Bd) (hr : Room 10 (b.A.deeper (PyProof.Rows.envOfC b.qual (defScope (top 40)) b.s.heap.objs.size b.f b.cdv))) :
    JSs (famB g 10 ["well", "steps", "times", "level", "totals", "hits", "told", "ending", "own"] sc_u_law_is_told.nd (defScope (top 40)) b hr) (defBody (top 40)) m_u_law_is_told :=
  (jss_cons (js_asg (je_call (f_u_law_counts GG) (Nat.le_of_ble_eq_true rfl) (by first | rfl | kernel_rfl) (ja_cons (je_var 1 rfl (.inl (by first | rfl | kernel_rfl))) (ja_cons (je_var 2 rfl (.inl (by first | rfl | kernel_rfl))) (ja_cons (je_var 3 rfl (.inl (by first | rfl | kernel_rfl))) ja_nil)))) (jg_tup (jgs_cons (jg_name 4 rfl (.inl (by first | rfl | kernel_rfl))) (jgs_cons (jg_name 5 rfl (.inl (by first | rfl | kernel_rfl))) jgs_nil))))
      (jss_cons (js_set 6 rfl (.inl (by first | rfl | kernel_rfl)) (je_if (jt_cmp os_eq (je_call (f_u_law_take GG) (Nat.le_of_ble_eq_true rfl) (by first | rfl | kernel_rfl) (ja_cons (je_var 0 rfl (.inl (by first | rfl | kernel_rfl))) (ja_cons je_int ja_nil))) je_int rfl) (je_call (f_count_hits GG) (Nat.le_of_ble_eq_true rfl) (by first | rfl | kernel_rfl) (ja_cons (je_var 1 rfl (.inl (by first | rfl | kernel_rfl))) (ja_cons (je_var 2 rfl (.inl (by first | rfl | kernel_rfl))) (ja_cons (je_var 3 rfl (.inl (by first | rfl | kernel_rfl))) ja_nil)))) (je_callK0 (ks := ["level", "times", "steps"]) (ix := [2, 1, 0]) (f_count_hits GG) (Nat.le_of_ble_eq_true rfl) (by first | rfl | kernel_rfl) (fun kV doc pm an cdv ct us ws hu hw => match us, hu, ws, hw with | [], _, [_, _, _], _ => rfl) rfl (jk_cons (je_var 3 rfl (.inl (by first | rfl | kernel_rfl))) (jk_cons (je_var 2 rfl (.inl (by first | rfl | kernel_rfl))) (jk_cons (je_var 1 rfl (.inl (by first | rfl | kernel_rfl))) jk_nil))))))
      (jss_cons (js_if (jt_not (jt_tru (je_call (f_u_law_same GG 6) (Nat.le_of_ble_eq_true rfl) (by first | rfl | kernel_rfl) (ja_cons (je_var 6 rfl (.inl (by first | rfl | kernel_rfl))) (ja_cons (je_var 5 rfl (.inl (by first | rfl | kernel_rfl))) ja_nil))))) (jss_one (js_ret je_bl)) jss_nil)
      (jss_cons (js_for (ji_seq (je_tup (ja_cons (je_op os_sub je_int (je_var 3 rfl (.inl (by first | rfl | kernel_rfl)))) (ja_cons (je_call (f_u_law_take GG) (Nat.le_of_ble_eq_true rfl) (by first | rfl | kernel_rfl) (ja_cons (je_var 0 rfl (.inl (by first | rfl | kernel_rfl))) (ja_cons je_int ja_nil))) (ja_cons (je_call (f_u_law_of GG) (Nat.le_of_ble_eq_true rfl) (by first | rfl | kernel_rfl) (ja_cons (je_var 0 rfl (.inl (by first | rfl | kernel_rfl))) (ja_cons (je_callTy cs_dlist (by first | rfl | kernel_rfl) GG.b_list bt_list (ja_cons (je_var 4 rfl (.inl (by first | rfl | kernel_rfl))) ja_nil)) ja_nil))) ja_nil))))) (jg_name 7 rfl (.inl (by first | rfl | kernel_rfl))) (jss_cons (js_set 8 rfl (.inl (by first | rfl | kernel_rfl)) (je_if (jt_cmp os_eq (je_call (f_u_law_take GG) (Nat.le_of_ble_eq_true rfl) (by first | rfl | kernel_rfl) (ja_cons (je_var 0 rfl (.inl (by first | rfl | kernel_rfl))) (ja_cons je_int ja_nil))) je_int rfl) (je_call (f_count_total GG) (Nat.le_of_ble_eq_true rfl) (by first | rfl | kernel_rfl) (ja_cons (je_var 1 rfl (.inl (by first | rfl | kernel_rfl))) (ja_cons (je_var 2 rfl (.inl (by first | rfl | kernel_rfl))) (ja_cons (je_var 7 rfl (.inl (by first | rfl | kernel_rfl))) ja_nil)))) (je_callK0 (ks := ["ending", "times", "steps"]) (ix := [2, 1, 0]) (f_count_total GG) (Nat.le_of_ble_eq_true rfl) (by first | rfl | kernel_rfl) (fun kV doc pm an cdv ct us ws hu hw => match us, hu, ws, hw with | [], _, [_, _, _], _ => rfl) rfl (jk_cons (je_var 7 rfl (.inl (by first | rfl | kernel_rfl))) (jk_cons (je_var 2 rfl (.inl (by first | rfl | kernel_rfl))) (jk_cons (je_var 1 rfl (.inl (by first | rfl | kernel_rfl))) jk_nil))))))
      (jss_one (js_if (jt_not (jt_tru (je_call (f_u_law_same GG 6) (Nat.le_of_ble_eq_true rfl) (by first | rfl | kernel_rfl) (ja_cons (je_var 8 rfl (.inl (by first | rfl | kernel_rfl))) (ja_cons (je_dget2 (je_var 4 rfl (.inl (by first | rfl | kernel_rfl))) (je_var 7 rfl (.inl (by first | rfl | kernel_rfl))) je_int) ja_nil))))) (jss_one (js_ret je_bl)) jss_nil))))
      (jss_cons (js_if (jt_cmp os_ne (je_op os_mul (je_var 6 rfl (.inl (by first | rfl | kernel_rfl))) (je_var 2 rfl (.inl (by first | rfl | kernel_rfl)))) (je_op os_mul (je_var 3 rfl (.inl (by first | rfl | kernel_rfl))) (je_call (f_count_total GG) (Nat.le_of_ble_eq_true rfl) (by first | rfl | kernel_rfl) (ja_cons (je_var 1 rfl (.inl (by first | rfl | kernel_rfl))) (ja_cons (je_var 2 rfl (.inl (by first | rfl | kernel_rfl))) (ja_cons (je_op os_sub je_int (je_var 3 rfl (.inl (by first | rfl | kernel_rfl)))) ja_nil))))) rfl) (jss_one (js_ret je_bl)) jss_nil)
      (jss_cons (js_if (jt_cmp os_eq (je_var 1 rfl (.inl (by first | rfl | kernel_rfl))) (je_tup (ja_cons (je_op os_sub je_int je_int) (ja_cons je_int ja_nil))) rfl) (jss_one (js_ret (je_and (je_cmp os_eq (je_var 6 rfl (.inl (by first | rfl | kernel_rfl))) (je_call (f_count_first GG) (Nat.le_of_ble_eq_true rfl) (by first | rfl | kernel_rfl) (ja_cons (je_var 2 rfl (.inl (by first | rfl | kernel_rfl))) (ja_cons (je_var 3 rfl (.inl (by first | rfl | kernel_rfl))) ja_nil))) rfl) (je_one (je_cmp os_eq (je_call (f_count_total GG) (Nat.le_of_ble_eq_true rfl) (by first | rfl | kernel_rfl) (ja_cons (je_var 1 rfl (.inl (by first | rfl | kernel_rfl))) (ja_cons (je_var 2 rfl (.inl (by first | rfl | kernel_rfl))) (ja_cons (je_op os_sub je_int (je_var 3 rfl (.inl (by first | rfl | kernel_rfl)))) ja_nil)))) (je_call (f_count_ending GG) (Nat.le_of_ble_eq_true rfl) (by first | rfl | kernel_rfl) (ja_cons (je_var 2 rfl (.inl (by first | rfl | kernel_rfl))) (ja_cons (je_var 3 rfl (.inl (by first | rfl | kernel_rfl))) ja_nil))) rfl))))) jss_nil)
      (jss_one (js_ret (je_or (je_cmp os_in (je_op os_sub je_int je_int) (je_var 1 rfl (.inl (by first | rfl | kernel_rfl))) rfl) (je_one (je_cmp os_eq (je_var 6 rfl (.inl (by first | rfl | kernel_rfl))) je_int rfl)))))))))))
theorem f_u_law_is_told {g : Gb} (GG : GF g) : Fn g (top 40) "_law_is_told" "_law_is_told" ["well", "steps", "times", "level"] 11 D_u_law_is_told := by
  obtain ⟨f, fd, hx, D0⟩ := GG.d_u_law_is_told
  exact fn_mk outD outD_hout hx D0 sc_u_law_is_told (fun kV doc pm an cdv ct us hl => match us, hl with | [_, _, _, _], _ => rfl) (fun b hr => b_u_law_is_told GG b hr)
/-- _law_right -/
theorem sc_u_law_right : FnScope ["well", "turn", "steps"] ["well"] (defScope (top 41)) := ⟨rfl, rfl, rfl, by decide +kernel, rfl, by decide +kernel, by decide +kernel⟩
def m_u_law_right_b1 : SM :=
  (sseq (sset 2 (xif (xbool (xop eqD (xop modD (xcall (f1 intD) (xcons (xvar 1) (xpure []))) (xpure (.int 5))) (xpure (.int 4)))) (xtup (xcons (xop subD (xpure (.int 0)) (xpure (.int 1))) (xcons (xpure (.int 1)) (xpure [])))) (xfn 1 (D_u_law_steps) (xcons (xvar 0) (xpure []))))) (sif (tnot (xtru (xfn 4 (D_u_law_is_told) (xcons (xvar 0) (xcons (xvar 2) (xcons (xfn 2 (D_u_law_take) (xcons (xvar 0) (xcons (xfn 2 (D_u_law_of) (xcons (xvar 0) (xcons (xtup (xcons (xpure (.int 6)) (xcons (xpure (.int 10)) (xcons (xpure (.int 31)) (xpure []))))) (xpure [])))) (xpure [])))) (xcons (xop addD (xpure (.int 1)) (xfn 2 (D_u_law_take) (xcons (xvar 0) (xcons (xfn 2 (D_u_law_of) (xcons (xvar 0) (xcons (xtup (xcons (xpure (.int 3)) (xcons (xpure (.int 9)) (xpure [])))) (xpure [])))) (xpure []))))) (xpure [])))))))) (sret (xpure (.bl false))) snext))
def m_u_law_right : SM :=
  (sseq (sfor (xrange1 (xpure (.int 16))) (gname 1) m_u_law_right_b1) (sret (xfn 2 (D_u_law_same 6) (xcons (xlst (xcons (xfn 3 (D_count_total) (xcons (xtup (xcons (xop subD (xpure (.int 0)) (xpure (.int 1))) (xcons (xpure (.int 1)) (xpure [])))) (xcons (xpure (.int 3)) (xcons (xop subD (xpure (.int 0)) (xpure (.int 1))) (xpure []))))) (xcons (xfn 3 (D_count_hits) (xcons (xtup (xcons (xop subD (xpure (.int 0)) (xpure (.int 1))) (xcons (xpure (.int 1)) (xpure [])))) (xcons (xpure (.int 3)) (xcons (xpure (.int 1)) (xpure []))))) (xcons (xfn 3 (D_count_total) (xcons (xtup (xcons (xpure (.int 5)) (xpure []))) (xcons (xpure (.int 0)) (xcons (xpure (.int 0)) (xpure []))))) (xcons (xfn 3 (D_count_hits) (xcons (xtup (xcons (xop subD (xpure (.int 0)) (xpure (.int 1))) (xpure []))) (xcons (xpure (.int 3)) (xcons (xpure (.int 3)) (xpure []))))) (xpure [])))))) (xcons (xlst (xcons (xpure (.int 3)) (xcons (xpure (.int 1)) (xcons (xpure (.int 1)) (xcons (xpure (.int 1)) (xpure [])))))) (xpure []))))))
abbrev D_u_law_right : DF := runF 3 m_u_law_right
theorem b_u_law_right {g : Gb} (GG : GF g) (b : Bd) (hr : Room 12 (b.A.deeper (PyProof.Rows.envOfC b.qual (defScope (top 41)) b.s.heap.objs.size b.f b.cdv))) :
    JSs (famB g 12 ["well", "turn", "steps"] sc_u_law_right.nd (defScope (top 41)) b hr) (defBody (top 41)) m_u_law_right :=
  (jss_cons (js_for (ji_range1 (by first | rfl | kernel_rfl) GG.b_range je_int) (jg_name 1 rfl (.inl (by first | rfl | kernel_rfl))) (jss_cons (js_set 2 rfl (.inl (by first | rfl | kernel_rfl)) (je_if (jt_cmp os_eq (je_op os_mod (je_callTy cs_int (by first | rfl | kernel_rfl) GG.b_int bt_int (ja_cons (je_var 1 rfl (.inl (by first | rfl | kernel_rfl))) ja_nil)) je_int) je_int rfl) (je_tup (ja_cons (je_op os_sub je_int je_int) (ja_cons je_int ja_nil))) (je_call (f_u_law_steps GG) (Nat.le_of_ble_eq_true rfl) (by first | rfl | kernel_rfl) (ja_cons (je_var 0 rfl (.inl (by first | rfl | kernel_rfl))) ja_nil))))
      (jss_one (js_if (jt_not (jt_tru (je_call (f_u_law_is_told GG) (Nat.le_of_ble_eq_true rfl) (by first | rfl | kernel_rfl) (ja_cons (je_var 0 rfl (.inl (by first | rfl | kernel_rfl))) (ja_cons (je_var 2 rfl (.inl (by first | rfl | kernel_rfl))) (ja_cons (je_call (f_u_law_take GG) (Nat.le_of_ble_eq_true rfl) (by first | rfl | kernel_rfl) (ja_cons (je_var 0 rfl (.inl (by first | rfl | kernel_rfl))) (ja_cons (je_call (f_u_law_of GG) (Nat.le_of_ble_eq_true rfl) (by first | rfl | kernel_rfl) (ja_cons (je_var 0 rfl (.inl (by first | rfl | kernel_rfl))) (ja_cons (je_tup (ja_cons je_int (ja_cons je_int (ja_cons je_int ja_nil)))) ja_nil))) ja_nil))) (ja_cons (je_op os_add je_int (je_call (f_u_law_take GG) (Nat.le_of_ble_eq_true rfl) (by first | rfl | kernel_rfl) (ja_cons (je_var 0 rfl (.inl (by first | rfl | kernel_rfl))) (ja_cons (je_call (f_u_law_of GG) (Nat.le_of_ble_eq_true rfl) (by first | rfl | kernel_rfl) (ja_cons (je_var 0 rfl (.inl (by first | rfl | kernel_rfl))) (ja_cons (je_tup (ja_cons je_int (ja_cons je_int ja_nil))) ja_nil))) ja_nil)))) ja_nil))))))) (jss_one (js_ret je_bl)) jss_nil))))
      (jss_one (js_ret (je_call (f_u_law_same GG 6) (Nat.le_of_ble_eq_true rfl) (by first | rfl | kernel_rfl) (ja_cons (je_lst (ja_cons (je_call (f_count_total GG) (Nat.le_of_ble_eq_true rfl) (by first | rfl | kernel_rfl) (ja_cons (je_tup (ja_cons (je_op os_sub je_int je_int) (ja_cons je_int ja_nil))) (ja_cons je_int (ja_cons (je_op os_sub je_int je_int) ja_nil)))) (ja_cons (je_call (f_count_hits GG) (Nat.le_of_ble_eq_true rfl) (by first | rfl | kernel_rfl) (ja_cons (je_tup (ja_cons (je_op os_sub je_int je_int) (ja_cons je_int ja_nil))) (ja_cons je_int (ja_cons je_int ja_nil)))) (ja_cons (je_call (f_count_total GG) (Nat.le_of_ble_eq_true rfl) (by first | rfl | kernel_rfl) (ja_cons (je_tup (ja_cons je_int ja_nil)) (ja_cons je_int (ja_cons je_int ja_nil)))) (ja_cons (je_call (f_count_hits GG) (Nat.le_of_ble_eq_true rfl) (by first | rfl | kernel_rfl) (ja_cons (je_tup (ja_cons (je_op os_sub je_int je_int) ja_nil)) (ja_cons je_int (ja_cons je_int ja_nil)))) ja_nil))))) (ja_cons (je_lst (ja_cons je_int (ja_cons je_int (ja_cons je_int (ja_cons je_int ja_nil))))) ja_nil))))))
theorem f_u_law_right {g : Gb} (GG : GF g) : Fn g (top 41) "_law_right" "_law_right" ["well"] 13 D_u_law_right := by
  obtain ⟨f, fd, hx, D0⟩ := GG.d_u_law_right
  exact fn_mk outD outD_hout hx D0 sc_u_law_right (fun kV doc pm an cdv ct us hl => match us, hl with | [_], _ => rfl) (fun b hr => b_u_law_right GG b hr)
/-- _law_well -/
theorem sc_u_law_well : FnScope ["script", "lap", "own", "stir", "each"] ["script", "lap"] (defScope (top 34)) := ⟨rfl, rfl, rfl, by decide +kernel, rfl, by decide +kernel, by decide +kernel⟩
def m_u_law_well_b1 : SM :=
  (sset 3 (xop modD (xcall (f1 intD) (xcons (xop addD (xop addD (xop mulD (xvar 3) (xpure (.int 44497))) (xop modD (xcall (f1 intD) (xcons (xvar 4) (xpure []))) (xpure (.int 2147483587)))) (xpure (.int 29))) (xpure []))) (xpure (.int 2147483563))))
def m_u_law_well : SM :=
  (sseq (sset 2 (xif (xbool (xop ltD (xvar 1) (xcall (f1 lenD) (xcons (xvar 0) (xpure []))))) (xcall (f1 intD) (xcons (xop ixD (xvar 0) (xvar 1)) (xpure []))) (xpure (.int 0)))) (sseq (sset 3 (xop addD (xpure (.int 52027)) (xop mulD (xpure (.int 6971)) (xvar 1)))) (sseq (sfor (xwalk (xop addD (xslice (xvar 0) (xpure none) (xpart (xpure (.int 8)))) (xlst (xcons (xvar 2) (xpure []))))) (gname 4) m_u_law_well_b1) (sret (xlstM (xcons (xif (tor (xbool (xop ltD (xvar 2) (xpure (.int 0)))) (xbool (xop geD (xvar 2) (xop powD (xpure (.int 10)) (xpure (.int 18)))))) (xcall (f1 absD) (xcons (xvar 2) (xpure []))) (xpure (.int 0))) (xcons (xvar 3) (xcons (xpure (.int 0)) (xpure [])))))))))
abbrev D_u_law_well : DF := runM 5 m_u_law_well
theorem b_u_law_well {g : Gb} (GG : GF g) (b : Bd) (hr : Room 0 (b.A.deeper (PyProof.Rows.envOfC b.qual (defScope (top 34)) b.s.heap.objs.size b.f b.cdv))) :
    JSs (famB g 0 ["script", "lap", "own", "stir", "each"] sc_u_law_well.nd (defScope (top 34)) b hr) (defBody (top 34)) m_u_law_well :=
  (jss_cons (js_set 2 rfl (.inl (by first | rfl | kernel_rfl)) (je_if (jt_cmp os_lt (je_var 1 rfl (.inl (by first | rfl | kernel_rfl))) (je_callB cs_len (by first | rfl | kernel_rfl) GG.b_len bt_len (ja_cons (je_var 0 rfl (.inl (by first | rfl | kernel_rfl))) ja_nil)) rfl) (je_callTy cs_int (by first | rfl | kernel_rfl) GG.b_int bt_int (ja_cons (je_ix (je_var 0 rfl (.inl (by first | rfl | kernel_rfl))) (je_var 1 rfl (.inl (by first | rfl | kernel_rfl)))) ja_nil)) je_int))
      (jss_cons (js_set 3 rfl (.inl (by first | rfl | kernel_rfl)) (je_op os_add je_int (je_op os_mul je_int (je_var 1 rfl (.inl (by first | rfl | kernel_rfl))))))
      (jss_cons (js_for (ji_seq (je_op os_add (je_slice (je_var 0 rfl (.inl (by first | rfl | kernel_rfl))) jo_none (jo_some je_int)) (je_lst (ja_cons (je_var 2 rfl (.inl (by first | rfl | kernel_rfl))) ja_nil)))) (jg_name 4 rfl (.inl (by first | rfl | kernel_rfl))) (jss_one (js_set 3 rfl (.inl (by first | rfl | kernel_rfl)) (je_op os_mod (je_callTy cs_int (by first | rfl | kernel_rfl) GG.b_int bt_int (ja_cons (je_op os_add (je_op os_add (je_op os_mul (je_var 3 rfl (.inl (by first | rfl | kernel_rfl))) je_int) (je_op os_mod (je_callTy cs_int (by first | rfl | kernel_rfl) GG.b_int bt_int (ja_cons (je_var 4 rfl (.inl (by first | rfl | kernel_rfl))) ja_nil)) je_int)) je_int) ja_nil)) je_int))))
      (jss_one (js_ret (je_lstM (ja_cons (je_if (jw_or (jt_cmp os_lt (je_var 2 rfl (.inl (by first | rfl | kernel_rfl))) je_int rfl) (jw_or1 (jt_cmp os_ge (je_var 2 rfl (.inl (by first | rfl | kernel_rfl))) (je_op os_pow je_int je_int) rfl))).jt (je_callB cs_abs (by first | rfl | kernel_rfl) GG.b_abs bt_abs (ja_cons (je_var 2 rfl (.inl (by first | rfl | kernel_rfl))) ja_nil)) je_int) (ja_cons (je_var 3 rfl (.inl (by first | rfl | kernel_rfl))) (ja_cons je_int ja_nil)))))))))
theorem f_u_law_well {g : Gb} (GG : GF g) : Fn g (top 34) "_law_well" "_law_well" ["script", "lap"] 1 D_u_law_well := by
  obtain ⟨f, fd, hx, D0⟩ := GG.d_u_law_well
  exact fn_mk outM outM_hout hx D0 sc_u_law_well (fun kV doc pm an cdv ct us hl => match us, hl with | [_, _], _ => rfl) (fun b hr => b_u_law_well GG b hr)
/-- law -/
theorem sc_law : FnScope ["script", "lap"] ["script"] (defScope (top 42)) := ⟨rfl, rfl, rfl, by decide +kernel, rfl, by decide +kernel, by decide +kernel⟩
def m_law_e1 : XM D :=
  (xfn 1 (D_u_law_right) (xcons (xfn 2 (D_u_law_well) (xcons (xvar 0) (xcons (xvar 1) (xpure [])))) (xpure [])))
def m_law : SM :=
  (sret (xcall (f1 allD) (xcons (xcomp (xrange1 (xcall (f2 max2D) (xcons (xpure (.int 2)) (xcons (xcall (f2 min2D) (xcons (xcall (f1 lenD) (xcons (xvar 0) (xpure []))) (xcons (xpure (.int 3)) (xpure [])))) (xpure []))))) [1] (gname 1) (xpure true) m_law_e1) (xpure []))))
abbrev D_law : DF := runF 2 m_law
theorem b_law {g : Gb} (GG : GF g) (b : Bd) (hr : Room 14 (b.A.deeper (PyProof.Rows.envOfC b.qual (defScope (top 42)) b.s.heap.objs.size b.f b.cdv))) :
    JSs (famB g 14 ["script", "lap"] sc_law.nd (defScope (top 42)) b hr) (defBody (top 42)) m_law :=
  (jss_one (js_ret (je_callB cs_all (by first | rfl | kernel_rfl) GG.b_all bt_all (ja_cons (je_lc [("lap", 1)] (ji_range1 (by first | rfl | kernel_rfl) GG.b_range (je_callB cs_max2 (by first | rfl | kernel_rfl) GG.b_max bt_max (ja_cons je_int (ja_cons (je_callB cs_min2 (by first | rfl | kernel_rfl) GG.b_min bt_min (ja_cons (je_callB cs_len (by first | rfl | kernel_rfl) GG.b_len bt_len (ja_cons (je_var 0 rfl (.inr (.inl (by first | rfl | kernel_rfl)))) ja_nil)) (ja_cons je_int ja_nil))) ja_nil)))) (by first | rfl | kernel_rfl) (jc_name 1 rfl (.inl (by first | rfl | kernel_rfl)) (by decide)) jts_nil (je_call (f_u_law_right GG) (Nat.le_of_ble_eq_true rfl) (by first | rfl | kernel_rfl) (ja_cons (je_call (f_u_law_well GG) (Nat.le_of_ble_eq_true rfl) (by first | rfl | kernel_rfl) (ja_cons (je_var 0 rfl (.inr (.inl (by first | rfl | kernel_rfl)))) (ja_cons (je_var 1 rfl (.inl (by first | rfl | kernel_rfl))) ja_nil))) ja_nil))) ja_nil))))
theorem f_law {g : Gb} (GG : GF g) : Fn g (top 42) "law" "law" ["script"] 15 D_law := by
  obtain ⟨f, fd, hx, D0⟩ := GG.d_law
  exact fn_mk outD outD_hout hx D0 sc_law (fun kV doc pm an cdv ct us hl => match us, hl with | [_], _ => rfl) (fun b hr => b_law GG b hr)
theorem ok_law {g : Gb} (GG : GF g) {f : Addr} {fd : FuncData} (D0 : FunD g.K "law" "law" (defArgs (top 42)) (defBody (top 42)) (defScope (top 42)) [] [] f fd) : FnOk g.P g.w g.K g.mg g.base (L2.CX g.P g.w) 15 f fd ["script"] (spS g 1 D_law) :=
  fn_ok outD outD_hout D0 sc_law (fun b hr => b_law GG b hr)
end LS
end
section
set_option maxRecDepth 100000
set_option maxHeartbeats 4000000
namespace LS
open PySem PySem.Spec L2
variable {e : Nv} {st : Store}
theorem c_is_whole (i : Int) : callD D_is_whole [.int i] e st = .ok (.bl true) st := callD0 rfl rfl (runF_rt (st' := []) (by simp [m_is_whole]) rfl) rfl
theorem c_is_between (i a b : Int) : callD D_is_between [.int i, .int a, .int b] e st = .ok (.bl (decide (a ≤ i) && decide (i ≤ b))) st := callD0 rfl rfl (runF_rt (st' := []) (by
  simp [m_is_between, c_is_whole]
  by_cases h : a ≤ i <;> simp [h]) rfl) rfl
theorem c_check_number (i a b : Int) (h : a ≤ i) (h2 : i ≤ b) : callD D_check_number [.int i, .int a, .int b] e st = .ok .non st := by
  refine callD0 rfl rfl (runF_nx (e' := [some (.int i), some (.int a), some (.int b)]) (st' := []) ?_) rfl
  simp [m_check_number, c_is_between, h, h2]
theorem c_check_whole (i : Int) : callD D_check_whole [.int i] e st = .ok .non st := by
  refine callD0 rfl rfl (runF_nx (e' := [some (.int i)]) (st' := []) ?_) rfl
  simp [m_check_whole, c_is_whole]
theorem c_check_from (i a : Int) (h : a ≤ i) : callD D_check_from [.int i, .int a] e st = .ok .non st := by
  refine callD0 rfl rfl (runF_nx (e' := [some (.int i), some (.int a)]) (st' := []) ?_) rfl
  have : ¬ i < a := by omega
  simp [m_check_from, c_is_whole, this]
/-- right steps -/
structure Stp (ss : List Int) : Prop where
  one : 1 ≤ ss.length
  five : ss.length ≤ 5
  asc : ss.Pairwise (· < ·)
  rng : ∀ s ∈ ss, -1 ≤ s ∧ s ≤ 9
theorem lp_wrong (ss : List Int) (h : Stp ss) (items : List D) : ∀ (r pre : List Int) (x1 x2 : Option D), pre ++ r = ss → ∃ y1 y2, sloop none items (gtup 2 (gcons (gname 1) (gcons (gname 2) gnil))) m_wrong_in_steps_b1 (enumD pre.length (iD r)) [some (.tup (iD ss)), x1, x2] [] = .nx [some (.tup (iD ss)), y1, y2] []
  | [], pre, x1, x2, _ => ⟨x1, x2, by simp [sloop, enumD]⟩
  | n :: r, pre, x1, x2, hp => by
    obtain ⟨y1, y2, q⟩ := lp_wrong ss h items r (pre ++ [n]) (some (.int (pre.length : Int))) (some (.int n)) (by simp [hp])
    refine ⟨y1, y2, ?_⟩
    have hn := h.rng n (by rw [← hp]; simp)
    have hb : m_wrong_in_steps_b1 [some (.tup (iD ss)), some (.int (pre.length : Int)), some (.int n)] [] = .nx [some (.tup (iD ss)), some (.int (pre.length : Int)), some (.int n)] [] := by
      rcases Nat.eq_zero_or_pos pre.length with h0 | h0
      · simp [m_wrong_in_steps_b1, c_is_between, hn, h0]
      · have e1 : (pre.length : Int) - 1 = ((pre.length - 1 : Nat) : Int) := by omega
        have hl : pre.length - 1 < pre.length := by omega
        have hg : atI (iD ss) ((pre.length : Int) - 1) = some (.int pre[pre.length - 1]) := by
          rw [e1, atI_nat, iD_get, ← hp, List.getElem?_append_left hl, List.getElem?_eq_getElem hl]; rfl
        have hlt : pre[pre.length - 1] < n := by
          have := h.asc
          rw [← hp, List.pairwise_append] at this
          exact this.2.2 _ (List.getElem_mem hl) n (by simp)
        have h1 : ¬ n ≤ pre[pre.length - 1] := by omega
        have h2 : 0 < pre.length := h0
        simp [m_wrong_in_steps_b1, c_is_between, hn, h2, hg, h1]
    have el : (pre ++ [n]).length = pre.length + 1 := by simp
    rw [el] at q
    have ee : enumD pre.length (iD (n :: r)) = .tup [.int (pre.length : Int), .int n] :: enumD (pre.length + 1) (iD r) := rfl
    rw [ee, sloop_cons rfl rfl hb, q]
theorem c_wrong_in_steps (ss : List Int) (h : Stp ss) : callD D_wrong_in_steps [.tup (iD ss)] e st = .ok (.lst []) st := by
  refine callD0 rfl (by simp [refsBs, refsB]) (runF_rt (st' := []) ?_ rfl) rfl
  have h1 : (1 : Int) ≤ (ss.length : Int) := by have := h.one; omega
  have h2 : (ss.length : Int) ≤ 5 := by have := h.five; omega
  obtain ⟨y1, y2, q⟩ := lp_wrong ss h (enumD 0 (iD ss)) ss [] none none rfl
  simp at q
  simp [m_wrong_in_steps, h1, h2, q]
theorem c_check_steps (ss : List Int) (n : Int) (h : Stp ss) (n0 : 0 ≤ n) (n1 : n ≤ 30) : callD D_check_steps [.tup (iD ss), .int n] e st = .ok .non st := by
  refine callD0 rfl (by simp [refsBs, refsB]) (runF_nx (e' := [some (.tup (iD ss)), some (.int n), none]) (st' := []) ?_) rfl
  simp [m_check_steps, c_wrong_in_steps ss h, c_check_number n 0 30 n0 n1, sloop]
/-! ## counts, one step on -/
def stepR (ss : List Int) (acc : Rw) (t c : Int) : Rw := ss.foldl (fun acc s => addR acc (t + s) c) acc
def nextR (ss : List Int) (rows : Rw) : Rw := rows.foldl (fun acc p => stepR ss acc p.1 p.2) []
def iterR (ss : List Int) : Nat → Rw
  | 0 => [(0, 1)]
  | n + 1 => nextR ss (iterR ss n)
/-- keys within a stretch -/
def InR (lo hi : Int) (rows : Rw) : Prop := (keysR rows).Nodup ∧ ∀ x ∈ keysR rows, lo ≤ x ∧ x ≤ hi
theorem InR.few {lo hi : Int} {rows : Rw} (h : InR lo hi rows) (hl : lo - 1 ≤ hi) (hh : hi - lo ≤ 1000) : rows.length < LIM := by
  have := keys_few (lo := lo) (n := (hi - lo + 1).toNat) h.1 fun x hx => by have := h.2 x hx; omega
  have : LIM = 1000000 := rfl
  omega
theorem InR.add {lo hi : Int} {rows : Rw} (h : InR lo hi rows) {k c : Int} (h1 : lo ≤ k) (h2 : k ≤ hi) : InR lo hi (addR rows k c) :=
  ⟨nd_addR h.1, fun x hx => by
    rcases mem_addR.mp hx with rfl | hx
    · exact ⟨h1, h2⟩
    · exact h.2 x hx⟩
theorem InR.step {lo hi t c : Int} : ∀ {ss : List Int} {rows : Rw}, InR lo hi rows → (∀ s ∈ ss, lo ≤ t + s ∧ t + s ≤ hi) → InR lo hi (stepR ss rows t c)
  | [], _, h, _ => h
  | s :: r, rows, h, hs => InR.step (ss := r) (h.add (hs s (by simp)).1 (hs s (by simp)).2) fun x hx => hs x (by simp [hx])
theorem InR.fold {lo hi : Int} {ss : List Int} : ∀ {rows acc : Rw}, InR lo hi acc → (∀ p ∈ rows, ∀ s ∈ ss, lo ≤ p.1 + s ∧ p.1 + s ≤ hi) → InR lo hi (rows.foldl (fun acc p => stepR ss acc p.1 p.2) acc)
  | [], _, h, _ => h
  | p :: r, acc, h, hs => InR.fold (rows := r) (h.step (hs p (by simp))) fun q hq => hs q (by simp [hq])
theorem InR.next {lo hi : Int} {ss : List Int} {rows : Rw} (h : InR lo hi rows) (hs : ∀ s ∈ ss, -1 ≤ s ∧ s ≤ 9) : InR (lo - 1) (hi + 9) (nextR ss rows) := by
  refine InR.fold ⟨by simp [keysR], by simp [keysR]⟩ fun p hp s h2 => ?_
  have h1 := h.2 p.1 (List.mem_map.mpr ⟨p, hp, rfl⟩)
  have := hs s h2
  omega
theorem InR.iter {ss : List Int} (hs : ∀ s ∈ ss, -1 ≤ s ∧ s ≤ 9) : ∀ n : Nat, InR (-(n : Int)) (9 * (n : Int)) (iterR ss n)
  | 0 => ⟨by simp [iterR, keysR], by simp [iterR, keysR]⟩
  | n + 1 => by
    have := (InR.iter hs n).next hs
    rw [show -((n + 1 : Nat) : Int) = -(n : Int) - 1 by omega, show 9 * ((n + 1 : Nat) : Int) = 9 * (n : Int) + 9 by omega]
    exact this
/-- the innermost loop: m[a + s] = m.get(a + s, 0) + c -/
theorem lp_step {lo hi : Int} (hh : hi - lo ≤ 1000) (hlo : lo - 1 ≤ hi) {body : SM} {gt : MG} {items : List D} (t c : Int) (mk : Option D → Nv) (st0 st1 : Store) (hg : ∀ x y rows, gt (.int x) (mk y) (st0 ++ .dct (dD rows) :: st1) = some (mk (some (.int x)), st0 ++ .dct (dD rows) :: st1))
    (hb : ∀ (s : Int) (rows : Rw), (keysR rows).Nodup → rows.length < LIM → body (mk (some (.int s))) (st0 ++ .dct (dD rows) :: st1) = .nx (mk (some (.int s))) (st0 ++ .dct (dD (addR rows (t + s) c)) :: st1)) : ∀ (ss : List Int) (rows : Rw) (x : Option D), InR lo hi rows → (∀ s ∈ ss, lo ≤ t + s ∧ t + s ≤ hi) →
    ∃ y, sloop none items gt body (iD ss) (mk x) (st0 ++ .dct (dD rows) :: st1) = .nx (mk y) (st0 ++ .dct (dD (stepR ss rows t c)) :: st1)
  | [], rows, x, _, _ => ⟨x, by simp [sloop, stepR]⟩
  | s :: r, rows, x, h, hs => by
    obtain ⟨y, q⟩ := lp_step hh hlo t c mk st0 st1 hg hb (items := items) r (addR rows (t + s) c) (some (.int s)) (h.add (hs s (by simp)).1 (hs s (by simp)).2) fun z hz => hs z (by simp [hz])
    exact ⟨y, by rw [iD_cons, sloop_cons rfl (hg s x rows) (hb s rows h.1 (h.few hlo hh)), q]; rfl⟩
end LS
end
section
set_option maxRecDepth 100000
set_option maxHeartbeats 4000000
namespace LS
open PySem PySem.Spec L2
variable {e : Nv} {st : Store}
@[simp] theorem keyD_int (i : Int) : keyD (.int i) = some (.inl i) := rfl
theorem getKD_d0 (rows : Rw) (k : Int) : (getKD (dD rows) (.inl k)).getD (.int 0) = .int ((getR rows k).getD 0) := by
  rw [getKD_dD]
  cases getR rows k <;> rfl
@[simp] theorem dct_at1 (m : MO) (rows : Rw) : dctOf [m, .dct (dD rows)] (.ref 1) = some (dD rows) := rfl
@[simp] theorem itemsD_dD (rows : Rw) : itemsD (dD rows) = rows.map fun p => .tup [.int p.1, .int p.2] := by simp [itemsD, dD, kD]
theorem nc_step (x0 x1 : Option D) (t c s : Int) (m : MO) (rows : Rw) (nd : (keysR rows).Nodup) (hl : rows.length < LIM) :
    m_next_counts_b1 [x0, x1, some (.ref 1), some (.int t), some (.int c), some (.int s)] [m, .dct (dD rows)] = .nx [x0, x1, some (.ref 1), some (.int t), some (.int c), some (.int s)] [m, .dct (dD (addR rows (t + s) c))] := by
  have := put_add (k := t + s) (c := c) nd
  simp [m_next_counts_b1, sdput, xdget2, getKD_d0, hl, this]
theorem nc_turn {lo hi : Int} (hh : hi - lo ≤ 1000) (hlo : lo - 1 ≤ hi) (ss : List Int) (x1 x5 : Option D) (t c : Int) (m : MO) (rows : Rw) (h : InR lo hi rows) (hs : ∀ s ∈ ss, lo ≤ t + s ∧ t + s ≤ hi) :
    ∃ y, m_next_counts_b2 [some (.tup (iD ss)), x1, some (.ref 1), some (.int t), some (.int c), x5] [m, .dct (dD rows)] = .nx [some (.tup (iD ss)), x1, some (.ref 1), some (.int t), some (.int c), y] [m, .dct (dD (stepR ss rows t c))] := by
  obtain ⟨y, q⟩ := lp_step hh hlo (items := iD ss) (body := m_next_counts_b1) (gt := gname 5) t c (fun y => [some (.tup (iD ss)), x1, some (.ref 1), some (.int t), some (.int c), y]) [m] [] (fun x y rows => by simp) (fun s rows nd hl => nc_step _ x1 t c s m rows nd hl) ss rows x5 h hs
  refine ⟨y, ?_⟩
  simp at q
  simp [m_next_counts_b2, q]
theorem nc_loop {lo hi : Int} (hh : hi - lo ≤ 1000) (hlo : lo - 1 ≤ hi) (ss : List Int) (x1 : Option D) (m : MO) (items : List D) : ∀ (rows acc : Rw) (x3 x4 x5 : Option D), InR lo hi acc → (∀ p ∈ rows, ∀ s ∈ ss, lo ≤ p.1 + s ∧ p.1 + s ≤ hi) →
    ∃ y3 y4 y5, sloop none items (gtup 2 (gcons (gname 3) (gcons (gname 4) gnil))) m_next_counts_b2 (itemsD (dD rows)) [some (.tup (iD ss)), x1, some (.ref 1), x3, x4, x5] [m, .dct (dD acc)] =
      .nx [some (.tup (iD ss)), x1, some (.ref 1), y3, y4, y5] [m, .dct (dD (rows.foldl (fun acc p => stepR ss acc p.1 p.2) acc))]
  | [], acc, x3, x4, x5, _, _ => ⟨x3, x4, x5, by simp [sloop]⟩
  | p :: r, acc, x3, x4, x5, h, hs => by
    obtain ⟨y, q⟩ := nc_turn hh hlo ss x1 x5 p.1 p.2 m acc h (hs p (by simp))
    obtain ⟨y3, y4, y5, q2⟩ := nc_loop hh hlo ss x1 m items r (stepR ss acc p.1 p.2) (some (.int p.1)) (some (.int p.2)) y (h.step (hs p (by simp))) fun z hz => hs z (by simp [hz])
    refine ⟨y3, y4, y5, ?_⟩
    have e1 : itemsD (dD (p :: r)) = .tup [.int p.1, .int p.2] :: itemsD (dD r) := by simp
    rw [e1, sloop_cons rfl (by simp) q, q2]; rfl
theorem dD_moB (rows : Rw) : refsBs 0 ((dD rows).map (·.2)) = true := by
  induction rows with
  | nil => rfl
  | cons p r ih => simp [dD, refsBs, refsB] at ih ⊢; exact ih
theorem next_ok {lo hi : Int} (hh : hi - lo ≤ 1000) (hlo : lo - 1 ≤ hi) (ss : List Int) (rows : Rw) (hs : ∀ p ∈ rows, ∀ s ∈ ss, lo ≤ p.1 + s ∧ p.1 + s ≤ hi) :
    D_next_counts [.dct (dD rows)] [.tup (iD ss), .ref 0] = .ok (.ref 1) [.dct (dD rows), .dct (dD (nextR ss rows))] := by
  obtain ⟨y3, y4, y5, q⟩ := nc_loop hh hlo ss (some (.ref 0)) (.lck (dD rows)) (itemsD (dD rows)) rows [] none none none ⟨by simp [keysR], by simp [keysR]⟩ hs
  have q' : sloop none (itemsD (dD rows)) (gtup 2 (gcons (gname 3) (gcons (gname 4) gnil))) m_next_counts_b2 (itemsD (dD rows)) [some (.tup (iD ss)), some (.ref 0), some (.ref 1), none, none, none] [.lck (dD rows), .dct []] = .nx [some (.tup (iD ss)), some (.ref 0), some (.ref 1), y3, y4, y5] [.lck (dD rows), .dct (dD (nextR ss rows))] := q
  simp only [runG, m_next_counts]
  simp [xdnew, slock, xitems, unlk, outF, outG, -itemsD_dD, q']
theorem c_next {lo hi : Int} (hh : hi - lo ≤ 1000) (hlo : lo - 1 ≤ hi) (ss : List Int) (rows : Rw) (hs : ∀ p ∈ rows, ∀ s ∈ ss, lo ≤ p.1 + s ∧ p.1 + s ≤ hi) (k : Nat) (hk : st[k]? = some (.dct (dD rows))) :
    callD D_next_counts [.tup (iD ss), .ref k] e st = .ok (.ref st.length) (st ++ [.dct (dD (nextR ss rows))]) := by
  have hl : k < st.length := (List.getElem?_eq_some_iff.mp hk).1
  rw [callD1N (i := k) (m := .dct (dD rows)) (m' := .dct (dD rows)) (r := .ref 1) (nw := [.dct (dD (nextR ss rows))]) rfl (by simp [argG, refsB]) hk (by simp [moB, dD_moB]) (next_ok hh hlo ss rows hs) (by simp [moB, dD_moB]) (by simp [moB, dD_moB])]
  have : st.set k (.dct (dD rows)) = st := by
    apply List.ext_getElem?
    intro j
    by_cases hj : k = j
    · subst hj; rw [List.getElem?_set_self hl, hk]
    · rw [List.getElem?_set_ne hj]
  rw [this]
  simp [mapR]
theorem mem_keys {rows : Rw} {p : Int × Int} (h : p ∈ rows) : p.1 ∈ keysR rows := List.mem_map.mpr ⟨p, h, rfl⟩
theorem iter_bound {ss : List Int} (hs : ∀ s ∈ ss, -1 ≤ s ∧ s ≤ 9) (n : Nat) : ∀ p ∈ iterR ss n, ∀ s ∈ ss, -(n : Int) - 1 ≤ p.1 + s ∧ p.1 + s ≤ 9 * (n : Int) + 9 := fun p hp s h => by
  have h1 := (InR.iter hs n).2 p.1 (mem_keys hp)
  have := hs s h
  omega
/-- the loop of count_total_by -/
theorem lp_total (ss : List Int) (hs : ∀ s ∈ ss, -1 ≤ s ∧ s ≤ 9) (x1 x2 : Option D) (items : List D) : ∀ (j n : Nat) (k : Nat) (x4 : Option D) (st : Store), n + j ≤ 60 → st[k]? = some (.dct (dD (iterR ss n))) →
    ∃ (k' : Nat) (y : Option D) (st' : Store), sloop none items (gname 4) m_count_total_by_b1 (rangeL (n : Int) j) [some (.tup (iD ss)), x1, x2, some (.ref k), x4] st = .nx [some (.tup (iD ss)), x1, x2, some (.ref k'), y] st' ∧ st'[k']? = some (.dct (dD (iterR ss (n + j))))
  | 0, n, k, x4, st, _, hk => ⟨k, x4, st, by simp [rangeL, sloop], hk⟩
  | j + 1, n, k, x4, st, hn, hk => by
    have hb : m_count_total_by_b1 [some (.tup (iD ss)), x1, x2, some (.ref k), some (.int (n : Int))] st = .nx [some (.tup (iD ss)), x1, x2, some (.ref st.length), some (.int (n : Int))] (st ++ [.dct (dD (iterR ss (n + 1)))]) := by
      simp [m_count_total_by_b1, c_next (lo := -(n : Int) - 1) (hi := 9 * (n : Int) + 9) (by omega) (by omega) ss (iterR ss n) (iter_bound hs n) k hk, iterR]
    obtain ⟨k', y, st', q, q2⟩ := lp_total ss hs x1 x2 items j (n + 1) st.length (some (.int (n : Int))) (st ++ [.dct (dD (iterR ss (n + 1)))]) (by omega) (by simp)
    refine ⟨k', y, st', ?_, by rw [show n + (j + 1) = n + 1 + j by omega]; exact q2⟩
    have er : rangeL (n : Int) (j + 1) = .int (n : Int) :: rangeL ((n + 1 : Nat) : Int) j := by
      unfold rangeL
      rw [List.range_succ_eq_map]
      simp
      intro i _
      omega
    rw [er, sloop_cons rfl rfl hb, q]
/-- how many tuples of n steps come to x -/
def cntR (ss : List Int) (n : Nat) (x : Int) : Int := (getR (iterR ss n) x).getD 0
theorem disp01 : mergeKD [] [(.inl 0, D.int 1)] = dD [(0, 1)] := by simp [mergeKD, putKD, dD]
theorem c_total_by (ss : List Int) (hs : ∀ s ∈ ss, -1 ≤ s ∧ s ≤ 9) (n : Nat) (hn : n ≤ 30) (x : Int) : callD D_count_total_by [.tup (iD ss), .int (n : Int), .int x] e st = .ok (.int (cntR ss n x)) st := by
  refine callD0 rfl (by simp [refsBs, refsB]) ?_ rfl
  obtain ⟨k', y, st', q, q2⟩ := lp_total ss hs (some (.int (n : Int))) (some (.int x)) (rangeL 0 n) n 0 0 none [.dct (dD [(0, 1)])] (by omega) rfl
  refine runF_rt (st' := st') ?_ rfl
  have rg : rngB (n : Int) = true := rngB_of (by omega) (by omega)
  have hd : dctOf st' (.ref k') = some (dD (iterR ss n)) := by simp at q2; simp [dctOf, q2]
  have g1 : sset 3 (xdisp (xpair (xpure (.int 0)) (xpure (.int 1)) (xpure []))) [some (.tup (iD ss)), some (.int (n : Int)), some (.int x), none, none] [] = .nx [some (.tup (iD ss)), some (.int (n : Int)), some (.int x), some (.ref 0), none] [.dct (dD [(0, 1)])] := by
    simp [xdisp, xpair, prsD, disp01]
  have g2 : sfor (xrange1 (xvar 1)) (gname 4) m_count_total_by_b1 [some (.tup (iD ss)), some (.int (n : Int)), some (.int x), some (.ref 0), none] [.dct (dD [(0, 1)])] = .nx [some (.tup (iD ss)), some (.int (n : Int)), some (.int x), some (.ref k'), y] st' := by
    have h1 : xrange1 (xvar 1) [some (.tup (iD ss)), some (.int (n : Int)), some (.int x), some (.ref 0), none] [.dct (dD [(0, 1)])] = .ok (rangeL 0 n, none) [.dct (dD [(0, 1)])] := by simp [rg]
    rw [ap_for, h1]
    exact q
  show m_count_total_by [some (.tup (iD ss)), some (.int (n : Int)), some (.int x), none, none] [] = _
  unfold m_count_total_by
  rw [seq_nx g1, seq_nx g2]
  refine ret_ok ?_
  simp [xdget2, hd, getKD_d0, cntR]
theorem c_total (ss : List Int) (h : Stp ss) (n : Nat) (hn : n ≤ 30) (x : Int) : callD D_count_total [.tup (iD ss), .int (n : Int), .int x] e st = .ok (.int (cntR ss n x)) st := by
  refine callD0 rfl (by simp [refsBs, refsB]) (runF_rt (st' := []) ?_ rfl) rfl
  simp [m_count_total, c_check_steps ss n h (by omega) (by omega), c_check_whole, c_total_by ss h.rng n hn]
/-- what count_hits tells -/
def hitR (ss : List Int) (n : Nat) (k : Int) : Int := if n = 0 then 0 else k * cntR ss n (-k) / (n : Int)
theorem c_hits_by (ss : List Int) (hs : ∀ s ∈ ss, -1 ≤ s ∧ s ≤ 9) (n : Nat) (hn : n ≤ 30) (k : Int) (k0 : 1 ≤ k) (k1 : k ≤ 1000) : callD D_count_hits_by [.tup (iD ss), .int (n : Int), .int k] e st = .ok (.int (hitR ss n k)) st := by
  refine callD0 rfl (by simp [refsBs, refsB]) (runF_rt (st' := []) ?_ rfl) rfl
  have mc : ∀ x : Int, mulC k x = true := fun x => by simp [mulC]; omega
  by_cases h0 : n = 0
  · subst h0; simp [m_count_hits_by, hitR]
  · have h1 : 0 < n := by omega
    have dc : divC (k * cntR ss n (-k)) (n : Int) = true := by simp [divC]; omega
    simp [m_count_hits_by, hitR, h0, h1, c_total_by ss hs n hn, mc, dc]
theorem c_hits (ss : List Int) (h : Stp ss) (n : Nat) (hn : n ≤ 30) (k : Int) (k0 : 1 ≤ k) (k1 : k ≤ 1000) : callD D_count_hits [.tup (iD ss), .int (n : Int), .int k] e st = .ok (.int (hitR ss n k)) st := by
  refine callD0 rfl (by simp [refsBs, refsB]) (runF_rt (st' := []) ?_ rfl) rfl
  simp [m_count_hits, c_check_steps ss n h (by omega) (by omega), c_check_from k 1 k0, c_hits_by ss h.rng n hn k k0 k1]
end LS
end
section
set_option maxRecDepth 100000
set_option maxHeartbeats 4000000
namespace LS
open PySem PySem.Spec L2
variable {e : Nv} {st : Store}
/-! ## the well -/
theorem lp_well (items : List D) (x0 x1 x2 : Option D) : ∀ (ns : List Int) (s : Int) (x3 : Option D), 0 ≤ s → ∃ (y : Option D) (s' : Int), 0 ≤ s' ∧ sloop none items (gname 4) m_u_law_well_b1 (iD ns) [x0, x1, x2, some (.int s), x3] [] = .nx [x0, x1, x2, some (.int s'), y] []
  | [], s, x3, h => ⟨x3, s, h, by simp [sloop]⟩
  | n :: r, s, x3, h => by
    have hp : (0 : Int) ≤ (s * 44497 + n % 2147483587 + 29) % 2147483563 := Int.emod_nonneg _ (by decide)
    obtain ⟨y, s', h', q⟩ := lp_well items x0 x1 x2 r ((s * 44497 + n % 2147483587 + 29) % 2147483563) (some (.int n)) hp
    refine ⟨y, s', h', ?_⟩
    have hb : m_u_law_well_b1 [x0, x1, x2, some (.int s), some (.int n)] [] = .nx [x0, x1, x2, some (.int ((s * 44497 + n % 2147483587 + 29) % 2147483563)), some (.int n)] [] := by
      simp [m_u_law_well_b1, mulC]
    rw [iD_cons, sloop_cons rfl rfl hb, q]
theorem c_well (ns : List Int) (lap : Int) (h0 : 0 ≤ lap) (hn : ns.length ≤ 63) : ∃ m, Wl m ∧ ∀ (e : Nv) (st : Store), callD D_u_law_well [.sq (iD ns), .int lap] e st = .ok (.ref st.length) (st ++ [m]) := by
  have main : ∀ o : Int, ((lap < (ns.length : Int) ∧ ns[lap.toNat]? = some o) ∨ (¬ lap < (ns.length : Int) ∧ o = 0)) → ∃ m, Wl m ∧ D_u_law_well [] [.sq (iD ns), .int lap] = .ok (.ref 0) [m] := by
    intro o ho
    obtain ⟨y, s', hs', q⟩ := lp_well ((iD ns).take 8 ++ [.int o]) (some (.sq (iD ns))) (some (.int lap)) (some (.int o)) (ns.take 8 ++ [o]) (52027 + 6971 * lap) none (by omega)
    have el : iD (ns.take 8 ++ [o]) = (iD ns).take 8 ++ [.int o] := by simp [iD, List.map_take]
    rw [el] at q
    have c8 : cutD (iD ns) none (some 8) = (iD ns).take 8 := cut_to _ 8
    have hl : min 8 ns.length + 1 ≤ LIM := by simp [LIM]; omega
    have l3 : 3 ≤ LIM := by decide
    have l1 : 1 ≤ LIM := by decide
    have pc : powC 10 18 = true := by decide
    have mc : mulC 6971 lap = true := by simp [mulC]
    have en : ((10 : Int) ^ (Int.toNat 18)) = 1000000000000000000 := by decide
    have sb : stB 0 [] = true := rfl
    refine ⟨.lst [.int (if o < 0 ∨ 1000000000000000000 ≤ o then (o.natAbs : Int) else 0), .int s', .int 0], ⟨_, s', 0, by split <;> omega, hs', by decide, rfl⟩, ?_⟩
    rcases ho with ⟨h, ho⟩ | ⟨h, rfl⟩
    · by_cases h2 : o < 0
      · simp [runM, m_u_law_well, h, atI_nn _ h0, ho, mc, c8, hl, l1, l3, q, h2, outF, outM, refsBs, refsB]
      · by_cases h3 : 1000000000000000000 ≤ o
        · simp [runM, m_u_law_well, h, atI_nn _ h0, ho, mc, c8, hl, l1, l3, q, h2, h3, pc, en, outF, outM, refsBs, refsB]
        · simp [runM, m_u_law_well, h, atI_nn _ h0, ho, mc, c8, hl, l1, l3, q, h2, h3, pc, en, outF, outM, refsBs, refsB]
    · simp [runM, m_u_law_well, h, mc, c8, hl, l1, l3, q, pc, en, outF, outM, refsBs, refsB]
  have ex : ∃ o : Int, (lap < (ns.length : Int) ∧ ns[lap.toNat]? = some o) ∨ (¬ lap < (ns.length : Int) ∧ o = 0) := by
    by_cases h : lap < (ns.length : Int)
    · have hl : lap.toNat < ns.length := by omega
      exact ⟨ns[lap.toNat], .inl ⟨h, List.getElem?_eq_getElem hl⟩⟩
    · exact ⟨0, .inr ⟨h, rfl⟩⟩
  obtain ⟨o, ho⟩ := ex
  obtain ⟨m, w, q⟩ := main o ho
  exact ⟨m, w, fun e st => callDM rfl (by simp [refsBs, refsB]) q w.mo⟩
theorem take_ok (m : MO) (hm : Wl m) (k : Int) (h0 : 0 < k) (h1 : k < 1073741824) : ∃ (d : Int) (m' : MO), Wl m' ∧ 0 ≤ d ∧ d < k ∧ D_u_law_take [m] [.ref 0, .int k] = .ok (.int d) [m'] := by
  obtain ⟨a, s, c, ha, hs, hc, rfl⟩ := hm
  have stb : ∀ x y z : Int, stB 1 [.lst [.int x, .int y, .int z]] = true := fun _ _ _ => rfl
  by_cases h : 0 < a
  · refine ⟨a % k, .lst [.int (a / k), .int s, .int c], ⟨a / k, s, c, Int.ediv_nonneg ha (by omega), hs, hc, rfl⟩, Int.emod_nonneg _ (by omega), Int.emod_lt_of_pos _ h0, ?_⟩
    simp [runF, m_u_law_take, h, h0, h1, ixN, outF, outD, stb, refsB]
  · have p : (0 : Int) ≤ (s * 39373 + (c + 1) * 30323 + 11) % 2147483543 := Int.emod_nonneg _ (by decide)
    refine ⟨(s * 39373 + (c + 1) * 30323 + 11) % 2147483543 / 128 % k, .lst [.int a, .int ((s * 39373 + (c + 1) * 30323 + 11) % 2147483543), .int (c + 1)], ⟨a, _, c + 1, ha, p, by omega, rfl⟩, Int.emod_nonneg _ (by omega), Int.emod_lt_of_pos _ h0, ?_⟩
    simp [runF, m_u_law_take, h, h0, h1, ixN, outF, outD, stb, refsB, mulC, divC]
theorem c_take (m : MO) (hm : Wl m) (k : Int) (h0 : 0 < k) (h1 : k < 1073741824) : ∃ (d : Int) (m' : MO), Wl m' ∧ 0 ≤ d ∧ d < k ∧ ∀ (e : Nv) (r : Store), callD D_u_law_take [.ref 0, .int k] e (m :: r) = .ok (.int d) (m' :: r) := by
  obtain ⟨d, m', w, a, b, q⟩ := take_ok m hm k h0 h1
  exact ⟨d, m', w, a, b, fun e r => callD1 (i := 0) rfl rfl rfl hm.mo q w.mo rfl⟩
/-- one of some ints -/
theorem c_of (m : MO) (hm : Wl m) (ns : List Int) (h1 : 0 < ns.length) (h2 : ns.length < 1000000) : ∃ (d : Int) (m' : MO), Wl m' ∧ d ∈ ns ∧ (∀ (e : Nv) (r : Store), callD D_u_law_of [.ref 0, .tup (iD ns)] e (m :: r) = .ok (.int d) (m' :: r)) ∧ ∀ (e : Nv) (r : Store), callD D_u_law_of [.ref 0, .lst (iD ns)] e (m :: r) = .ok (.int d) (m' :: r) := by
  obtain ⟨k, m', w, k0, k3, q⟩ := c_take m hm (ns.length : Int) (by omega) (by omega)
  have hk : k.toNat < ns.length := by omega
  have ha : atI (iD ns) k = some (.int ns[k.toNat]) := by
    rw [atI_nn _ k0, iD_get, List.getElem?_eq_getElem hk]; rfl
  refine ⟨ns[k.toNat], m', w, List.getElem_mem hk, fun e r => ?_, fun e r => ?_⟩
  · refine callD1 (i := 0) rfl (by simp [argG, refsB]) rfl hm.mo (runF_w (st := []) ?_ w rfl) w.mo rfl
    simp [m_u_law_of, loc1, q, ha]
  · refine callD1 (i := 0) rfl (by simp [argG, refsB]) rfl hm.mo (runF_w (st := []) ?_ w rfl) w.mo rfl
    simp [m_u_law_of, loc1, q, ha]
/-! ## own steps -/
def stepOn (ns : List Int) (s : Int) : List Int := ns ++ if s ∈ ns then [] else [s]
theorem steps_turn (m : MO) (hm : Wl m) (ns : List Int) (hl : ns.length ≤ 1000) (x2 x3 : Option D) : ∃ (s : Int) (m' : MO), Wl m' ∧ 0 ≤ s ∧ s ≤ 9 ∧ m_u_law_steps_b1 [some (.ref 0), some (.lst (iD ns)), x2, x3] [m] = .nx [some (.ref 0), some (.lst (iD (stepOn ns s))), x2, some (.int s)] [m'] := by
  obtain ⟨k, m1, w1, hk, q1, _⟩ := c_of m hm [3, 10] (by decide) (by decide)
  have hk' : k = 3 ∨ k = 10 := by simpa using hk
  obtain ⟨s, m2, w2, s0, s1, q2⟩ := c_take m1 w1 k (by omega) (by omega)
  refine ⟨s, m2, w2, s0, by omega, ?_⟩
  have l2 : 2 ≤ LIM := by decide
  have l1 : 1 ≤ LIM := by decide
  have l0 : 0 ≤ LIM := by decide
  have le : ns.length + 1 ≤ LIM := by simp [LIM]; omega
  have le0 : ns.length ≤ LIM := by simp [LIM]; omega
  simp at q1
  by_cases hm2 : s ∈ ns
  · simp [m_u_law_steps_b1, q1, q2, l1, l2, hm2, le0, stepOn]
  · simp [m_u_law_steps_b1, q1, q2, l1, l2, hm2, le, stepOn, iD_app]
theorem steps_loop (items : List D) : ∀ (n : Nat) (lo : Int) (m : MO) (ns : List Int) (x2 x3 : Option D), Wl m → ns.length + n ≤ 100 → ns.Nodup → (∀ s ∈ ns, -1 ≤ s ∧ s ≤ 9) →
    ∃ (ns' : List Int) (m' : MO) (y2 y3 : Option D), Wl m' ∧ ns'.Nodup ∧ (∀ s ∈ ns', -1 ≤ s ∧ s ≤ 9) ∧ ns'.length ≤ ns.length + n ∧ (0 < n → 0 < ns'.length) ∧ ns.length ≤ ns'.length ∧
      sloop none items (gname 2) m_u_law_steps_b1 ((List.range n).map fun (i : Nat) => .int (lo + (i : Int))) [some (.ref 0), some (.lst (iD ns)), x2, x3] [m] = .nx [some (.ref 0), some (.lst (iD ns')), y2, y3] [m']
  | 0, lo, m, ns, x2, x3, hm, _, nd, hr => ⟨ns, m, x2, x3, hm, nd, hr, by omega, by omega, Nat.le_refl _, by simp [sloop]⟩
  | n + 1, lo, m, ns, x2, x3, hm, hn, nd, hr => by
    obtain ⟨s, m1, w1, s0, s9, q⟩ := steps_turn m hm ns (by omega) (some (.int (lo + ((0 : Nat) : Int)))) x3
    have nd1 : (stepOn ns s).Nodup := by
      unfold stepOn
      by_cases h : s ∈ ns
      · simp [h, nd]
      · simp only [h, if_false]
        rw [List.nodup_append]
        exact ⟨nd, by simp, fun a ha b hb z => by
          have : b = s := by simpa using hb
          subst this; subst z; exact h ha⟩
    have hr1 : ∀ t ∈ stepOn ns s, -1 ≤ t ∧ t ≤ 9 := by
      intro t ht
      unfold stepOn at ht
      by_cases h : s ∈ ns
      · simp [h] at ht; exact hr t ht
      · simp [h] at ht
        rcases ht with ht | rfl
        · exact hr t ht
        · omega
    have hl1 : (stepOn ns s).length ≤ ns.length + 1 ∧ ns.length ≤ (stepOn ns s).length ∧ 0 < (stepOn ns s).length := by
      unfold stepOn
      by_cases h : s ∈ ns
      · have : 0 < ns.length := List.length_pos_of_mem h
        simp [h]; omega
      · simp [h]
    obtain ⟨ns', m', y2, y3, a1, a2, a3, a4, a5, a6, a7⟩ := steps_loop items n (lo + 1) m1 (stepOn ns s) (some (.int (lo + ((0 : Nat) : Int)))) (some (.int s)) w1 (by omega) nd1 hr1
    refine ⟨ns', m', y2, y3, a1, a2, a3, by omega, fun _ => by omega, by omega, ?_⟩
    rw [List.range_succ_eq_map, List.map_cons, List.map_map]
    rw [sloop_cons rfl rfl q]
    have : (List.range n).map ((fun (i : Nat) => D.int (lo + (i : Int))) ∘ Nat.succ) = (List.range n).map fun (i : Nat) => .int (lo + 1 + (i : Int)) := by
      apply List.map_congr_left
      intro i _
      simp only [Function.comp, Nat.succ_eq_add_one]
      congr 1; omega
    rw [this, a7]
theorem asc_of {ns : List Int} (h1 : ns.Pairwise (· ≤ ·)) (h2 : ns.Nodup) : ns.Pairwise (· < ·) := by
  have h3 : ns.Pairwise (fun a b => a ≠ b) := h2
  exact (h1.and h3).imp fun ⟨a, b⟩ => by omega
theorem stp_sorted {ns : List Int} (nd : ns.Nodup) (hr : ∀ s ∈ ns, -1 ≤ s ∧ s ≤ 9) (h1 : 1 ≤ ns.length) (h5 : ns.length ≤ 5) : Stp (ns.mergeSort fun a b => decide (a ≤ b)) := by
  have hp := List.mergeSort_perm ns fun a b => decide (a ≤ b)
  have hs : (ns.mergeSort fun a b => decide (a ≤ b)).Pairwise (· ≤ ·) := (List.pairwise_mergeSort (le := fun a b => decide (a ≤ b)) (fun a b c h1 h2 => by
    have := of_decide_eq_true h1; have := of_decide_eq_true h2; exact decide_eq_true (by omega)) (fun a b => by
    by_cases h : a ≤ b
    · simp [h]
    · have : b ≤ a := by omega
      simp [this]) ns).imp fun h => of_decide_eq_true h
  exact ⟨by rw [hp.length_eq]; exact h1, by rw [hp.length_eq]; exact h5, asc_of hs (hp.nodup_iff.mpr nd), fun s h => hr s (hp.mem_iff.mp h)⟩
theorem c_steps (m : MO) (hm : Wl m) : ∃ (ss : List Int) (m' : MO), Wl m' ∧ Stp ss ∧ ∀ (e : Nv) (r : Store), callD D_u_law_steps [.ref 0] e (m :: r) = .ok (.tup (iD ss)) (m' :: r) := by
  obtain ⟨d, m1, w1, d0, d1, q1⟩ := c_take m hm 6 (by decide) (by decide)
  obtain ⟨k, m2, w2, k0, k1, q2⟩ := c_take m1 w1 4 (by decide) (by decide)
  have first : ∃ ns0 : List Int, ns0.length ≤ 1 ∧ ns0.Nodup ∧ (∀ s ∈ ns0, -1 ≤ s ∧ s ≤ 9) ∧ ((0 < d ∧ ns0 = [0 - 1]) ∨ (¬ 0 < d ∧ ns0 = [])) := by
    by_cases h : 0 < d
    · exact ⟨[0 - 1], by simp, by simp, by simp, .inl ⟨h, rfl⟩⟩
    · exact ⟨[], by simp, by simp, by simp, .inr ⟨h, rfl⟩⟩
  obtain ⟨ns0, f1, f2, f3, f4⟩ := first
  obtain ⟨ns', m', y2, y3, a1, a2, a3, a4, a5, a6, a7⟩ := steps_loop (rangeL 0 (1 + k).toNat) (1 + k).toNat 0 m2 ns0 none none w2 (by omega) f2 f3
  refine ⟨ns'.mergeSort fun a b => decide (a ≤ b), m', a1, stp_sorted a2 a3 (a5 (by omega)) (by omega), fun e r => ?_⟩
  refine callD1 (i := 0) rfl rfl rfl hm.mo (runF_w (st := []) ?_ a1 (by simp [refsB])) a1.mo (by simp [refsB])
  have rg : rngB (1 + k) = true := rngB_of (by omega) (by omega)
  have l1 : 1 ≤ LIM := by decide
  have l0 : 0 ≤ LIM := by decide
  change sloop none (rangeL 0 (1 + k).toNat) (gname 2) m_u_law_steps_b1 (rangeL 0 (1 + k).toNat) _ _ = _ at a7
  rcases f4 with ⟨f4, rfl⟩ | ⟨f4, rfl⟩
  · simp at a7
    simp [m_u_law_steps, loc1, q1, f4, q2, rg, l1, a7, srtOk_int, sortD_int]
  · simp at a7
    simp [m_u_law_steps, loc1, q1, f4, q2, rg, l0, a7, srtOk_int, sortD_int]
end LS
end
section
set_option maxRecDepth 100000
set_option maxHeartbeats 4000000
namespace LS
open PySem PySem.Spec L2
/-! # the mathematics of first hits -/
def Sm (ss : List Int) (f : Int → Int) : Int := (ss.map f).sum
theorem Sm_cons (s : Int) (r : List Int) (f : Int → Int) : Sm (s :: r) f = f s + Sm r f := by simp [Sm]
theorem Sm_add (ss : List Int) (f h : Int → Int) : Sm ss (fun s => f s + h s) = Sm ss f + Sm ss h := by
  induction ss with
  | nil => rfl
  | cons s r ih => simp only [Sm_cons, ih]; omega
theorem Sm_mul (ss : List Int) (c : Int) (f : Int → Int) : Sm ss (fun s => c * f s) = c * Sm ss f := by
  induction ss with
  | nil => simp [Sm]
  | cons s r ih => simp only [Sm_cons, ih, Int.mul_add]
theorem Sm_congr {ss : List Int} {f h : Int → Int} (e : ∀ s ∈ ss, f s = h s) : Sm ss f = Sm ss h := by
  unfold Sm
  rw [List.map_congr_left e]
theorem Sm_swap (ss tt : List Int) (f : Int → Int → Int) : Sm ss (fun s => Sm tt fun t => f s t) = Sm tt fun t => Sm ss fun s => f s t := by
  induction ss with
  | nil =>
    have : ∀ tt : List Int, (0 : Int) = Sm tt fun _ => 0 := fun tt => by induction tt with | nil => rfl | cons s r ih => rw [Sm_cons, ← ih]; rfl
    exact this tt
  | cons s r ih => simp only [Sm_cons, ih, Sm_add]
/-- how many tuples of n steps have the total y -/
def Pn (ss : List Int) : Nat → Int → Int
  | 0, y => if y = 0 then 1 else 0
  | n + 1, y => Sm ss fun s => Pn ss n (y - s)
theorem wR_step (ss : List Int) (φ : Int → Int) : ∀ (acc : Rw) (t c : Int), wR φ (stepR ss acc t c) = wR φ acc + c * Sm ss fun s => φ (t + s) := by
  induction ss with
  | nil => intro acc t c; simp [stepR, Sm]
  | cons s r ih =>
    intro acc t c
    show wR φ (stepR r (addR acc (t + s) c) t c) = _
    rw [ih, wR_add, Sm_cons, Int.mul_add]; omega
theorem wR_fold (ss : List Int) (φ : Int → Int) : ∀ (rows acc : Rw), wR φ (rows.foldl (fun acc p => stepR ss acc p.1 p.2) acc) = wR φ acc + wR (fun t => Sm ss fun s => φ (t + s)) rows
  | [], acc => by simp [wR]
  | p :: r, acc => by
    rw [List.foldl_cons, wR_fold ss φ r, wR_step]
    simp only [wR]; omega
theorem wR_next (ss : List Int) (φ : Int → Int) (rows : Rw) : wR φ (nextR ss rows) = wR (fun t => Sm ss fun s => φ (t + s)) rows := by
  unfold nextR
  rw [wR_fold]; simp [wR]
theorem wR_iter (ss : List Int) (x : Int) : ∀ (n m : Nat), wR (fun t => Pn ss m (x - t)) (iterR ss n) = Pn ss (m + n) x
  | 0, m => by simp [iterR, wR]
  | n + 1, m => by
    show wR _ (nextR ss (iterR ss n)) = _
    rw [wR_next]
    have : (fun t => Sm ss fun s => Pn ss m (x - (t + s))) = fun t => Pn ss (m + 1) (x - t) := by
      funext t
      show _ = Sm ss fun s => Pn ss m (x - t - s)
      exact Sm_congr fun s _ => by rw [show x - (t + s) = x - t - s by omega]
    rw [this, wR_iter ss x n (m + 1)]
    rw [show m + 1 + n = m + (n + 1) by omega]
theorem cnt_Pn {ss : List Int} (hs : ∀ s ∈ ss, -1 ≤ s ∧ s ≤ 9) (n : Nat) (x : Int) : (getR (iterR ss n) x).getD 0 = Pn ss n x := by
  rw [getR_w x (InR.iter hs n).1]
  have := wR_iter ss x n 0
  rw [Nat.zero_add] at this
  rw [← this]
  congr 1
  funext t
  unfold dl Pn
  by_cases h : t = x
  · subst h; simp
  · rw [if_neg h, if_neg (by omega)]
/-- e times P is N times the sum of the steps' shares -/
theorem Pn_mean (ss : List Int) : ∀ (n : Nat) (y : Int), y * Pn ss (n + 1) y = ((n : Int) + 1) * Sm ss fun s => s * Pn ss n (y - s)
  | 0, y => by
    show y * (Sm ss fun s => Pn ss 0 (y - s)) = _
    rw [← Sm_mul]
    have : (fun s => y * Pn ss 0 (y - s)) = fun s => s * Pn ss 0 (y - s) := by
      funext s
      unfold Pn
      by_cases h : y - s = 0
      · rw [if_pos h]; omega
      · rw [if_neg h]; omega
    rw [this]; simp
  | n + 1, y => by
    have e1 : y * Pn ss (n + 2) y = Sm ss fun s => s * Pn ss (n + 1) (y - s) + (y - s) * Pn ss (n + 1) (y - s) := by
      show y * (Sm ss fun s => Pn ss (n + 1) (y - s)) = _
      rw [← Sm_mul]
      exact Sm_congr fun s _ => by rw [← Int.add_mul]; congr 1; omega
    rw [e1, Sm_add]
    have e2 : (Sm ss fun s => (y - s) * Pn ss (n + 1) (y - s)) = ((n : Int) + 1) * Sm ss fun s => s * Pn ss (n + 1) (y - s) := by
      rw [Sm_congr (h := fun s => ((n : Int) + 1) * Sm ss fun t => t * Pn ss n (y - s - t)) fun s _ => Pn_mean ss n (y - s)]
      rw [Sm_mul, Sm_swap]
      congr 1
      refine Sm_congr fun t _ => ?_
      show (Sm ss fun s => t * Pn ss n (y - s - t)) = t * Sm ss fun s => Pn ss n (y - t - s)
      rw [Sm_mul]
      congr 1
      exact Sm_congr fun s _ => by rw [show y - s - t = y - t - s by omega]
    rw [e2]
    have : ((n + 1 : Nat) : Int) + 1 = 1 + ((n : Int) + 1) := by omega
    rw [this, Int.add_mul (a := 1), Int.one_mul]
/-- from a height y: down to 0 first at the end -/
def Fp (ss : List Int) : Nat → Int → Int
  | 0, y => if y = 0 then 1 else 0
  | n + 1, y => if 1 ≤ y then Sm ss fun s => Fp ss n (y + s) else 0
theorem Fp_low (ss : List Int) (n : Nat) {y : Int} (h : y < 1) : Fp ss (n + 1) y = 0 := by
  unfold Fp; rw [if_neg (by omega)]
theorem hit_time {ss : List Int} (hs : ∀ s ∈ ss, -1 ≤ s) : ∀ (n : Nat) (k : Int), 0 ≤ k → (n : Int) * Fp ss n k = k * Pn ss n (-k)
  | 0, k, h => by
    simp [Pn]
    by_cases z : k = 0
    · simp [z]
    · simp [z]
  | 1, k, h => by
    by_cases h1 : 1 ≤ k
    · have e1 : Fp ss 1 k = Sm ss fun s => Fp ss 0 (k + s) := by
        show (if 1 ≤ k then _ else _) = _
        rw [if_pos h1]
      have e2 : Pn ss 1 (-k) = Sm ss fun s => Pn ss 0 (-k - s) := rfl
      rw [e1, e2, ← Sm_mul, ← Sm_mul]
      refine Sm_congr fun s m => ?_
      have := hs s m
      unfold Fp Pn
      by_cases z : k + s = 0
      · rw [if_pos z, if_pos (by omega)]
        have : k = 1 := by omega
        subst this; rfl
      · rw [if_neg z, if_neg (by omega)]; simp
    · have : k = 0 := by omega
      subst this
      simp [Fp_low]
  | n + 2, k, h => by
    by_cases h1 : 1 ≤ k
    · have e1 : Fp ss (n + 2) k = Sm ss fun s => Fp ss (n + 1) (k + s) := by
        show (if 1 ≤ k then _ else _) = _
        rw [if_pos h1]
      have key : ((n : Int) + 1) * Fp ss (n + 2) k = k * Pn ss (n + 2) (-k) + Sm ss fun s => s * Pn ss (n + 1) (-k - s) := by
        rw [e1, ← Sm_mul]
        have : (Sm ss fun s => ((n : Int) + 1) * Fp ss (n + 1) (k + s)) = Sm ss fun s => k * Pn ss (n + 1) (-k - s) + s * Pn ss (n + 1) (-k - s) := by
          refine Sm_congr fun s m => ?_
          have := hs s m
          have ih := hit_time hs (n + 1) (k + s) (by omega)
          rw [show ((n + 1 : Nat) : Int) = (n : Int) + 1 by omega] at ih
          rw [ih, ← Int.add_mul, show -(k + s) = -k - s by omega]
        rw [this, Sm_add, Sm_mul]
        rfl
      have mean := Pn_mean ss (n + 1) (-k)
      rw [show ((n + 1 : Nat) : Int) + 1 = (n : Int) + 2 by omega] at mean
      have m2 : -k * Pn ss (n + 2) (-k) = ((n : Int) + 2) * Sm ss fun s => s * Pn ss (n + 1) (-k - s) := mean
      -- (n + 1) (n + 2) F = (n + 2) k P - k P
      have h3 : ((n : Int) + 1) * (((n : Int) + 2) * Fp ss (n + 2) k) = ((n : Int) + 1) * (k * Pn ss (n + 2) (-k)) := by
        have a1 : ((n : Int) + 1) * (((n : Int) + 2) * Fp ss (n + 2) k) = ((n : Int) + 2) * (((n : Int) + 1) * Fp ss (n + 2) k) := by
          rw [← Int.mul_assoc, ← Int.mul_assoc, Int.mul_comm ((n : Int) + 1)]
        rw [a1, key, Int.mul_add, ← m2]
        have a2 : ((n : Int) + 2) * (k * Pn ss (n + 2) (-k)) = ((n : Int) + 1) * (k * Pn ss (n + 2) (-k)) + k * Pn ss (n + 2) (-k) := by
          rw [show (n : Int) + 2 = (n : Int) + 1 + 1 by omega, Int.add_mul, Int.one_mul]
        rw [a2, Int.neg_mul]; omega
      have : ((n + 2 : Nat) : Int) = (n : Int) + 2 := by omega
      rw [this]
      exact Int.eq_of_mul_eq_mul_left (by omega) h3
    · have : k = 0 := by omega
      subst this
      simp [Fp_low]
/-- the rows ahead -/
def fltR (k : Int) (rows : Rw) : Rw := rows.filter fun p => decide (0 - k < p.1)
def ahR (ss : List Int) (k : Int) : Nat → Rw
  | 0 => [(0, 1)]
  | n + 1 => fltR k (nextR ss (ahR ss k n))
def hsR (ss : List Int) (k : Int) : Nat → Int
  | 0 => 0
  | n + 1 => (getR (nextR ss (ahR ss k n)) (0 - k)).getD 0
theorem keys_flt (k : Int) (rows : Rw) : keysR (fltR k rows) = (keysR rows).filter fun x => decide (0 - k < x) := by
  simp only [keysR, fltR, List.filter_map]; rfl
theorem InR.flt {lo hi k : Int} {rows : Rw} (h : InR lo hi rows) : InR lo hi (fltR k rows) := by
  unfold InR
  rw [keys_flt]
  exact ⟨h.1.filter _, fun x hx => h.2 x (List.mem_filter.mp hx).1⟩
theorem InR.ah {ss : List Int} (hs : ∀ s ∈ ss, -1 ≤ s ∧ s ≤ 9) (k : Int) : ∀ n : Nat, InR (-(n : Int)) (9 * (n : Int)) (ahR ss k n)
  | 0 => ⟨by simp [ahR, keysR], by simp [ahR, keysR]⟩
  | n + 1 => by
    have := ((InR.ah hs k n).next hs).flt (k := k)
    rw [show -((n + 1 : Nat) : Int) = -(n : Int) - 1 by omega, show 9 * ((n + 1 : Nat) : Int) = 9 * (n : Int) + 9 by omega]
    exact this
theorem ah_up {ss : List Int} {k : Int} (k0 : 1 ≤ k) : ∀ (n : Nat), ∀ x ∈ keysR (ahR ss k n), 1 ≤ k + x
  | 0, x, h => by simp [ahR, keysR] at h; subst h; omega
  | n + 1, x, h => by
    have h' : x ∈ keysR (fltR k (nextR ss (ahR ss k n))) := h
    rw [keys_flt] at h'
    have := of_decide_eq_true (List.mem_filter.mp h').2
    omega
theorem wR_flt {φ : Int → Int} {k : Int} (h : ∀ x, ¬ 0 - k < x → φ x = 0) : ∀ rows : Rw, wR φ (fltR k rows) = wR φ rows
  | [] => rfl
  | (x, c) :: r => by
    have ih := wR_flt h r
    unfold fltR at ih ⊢
    by_cases q : 0 - k < x
    · rw [List.filter_cons_of_pos (by simpa using q)]
      simp only [wR, ih]
    · rw [List.filter_cons_of_neg (by simpa using q), ih]
      simp [wR, h x q]
theorem wR_ah {ss : List Int} {k : Int} (k0 : 1 ≤ k) : ∀ (n m : Nat), wR (fun t => Fp ss (m + 1) (k + t)) (ahR ss k n) = Fp ss (m + 1 + n) k
  | 0, m => by simp [ahR, wR]
  | n + 1, m => by
    show wR _ (fltR k (nextR ss (ahR ss k n))) = _
    rw [wR_flt (fun x hx => Fp_low ss m (by omega)), wR_next]
    rw [wR_congr (ψ := fun t => Fp ss (m + 2) (k + t)) fun t ht => ?_]
    · rw [wR_ah k0 n (m + 1), show m + 1 + 1 + n = m + 1 + (n + 1) by omega]
    · have := ah_up k0 n t ht
      show _ = if 1 ≤ k + t then Sm ss fun s => Fp ss (m + 1) (k + t + s) else 0
      rw [if_pos this]
      exact Sm_congr fun s _ => by rw [Int.add_assoc]
theorem hs_Fp {ss : List Int} (hs : ∀ s ∈ ss, -1 ≤ s ∧ s ≤ 9) {k : Int} (k0 : 1 ≤ k) (n : Nat) : hsR ss k (n + 1) = Fp ss (n + 1) k := by
  show (getR (nextR ss (ahR ss k n)) (0 - k)).getD 0 = _
  rw [getR_w (0 - k) ((InR.ah hs k n).next hs).1, wR_next]
  rw [wR_congr (ψ := fun t => Fp ss 1 (k + t)) fun t ht => ?_]
  · have := wR_ah (ss := ss) k0 n 0
    rw [this, show 0 + 1 + n = n + 1 by omega]
  · have := ah_up k0 n t ht
    show _ = if 1 ≤ k + t then Sm ss fun s => Fp ss 0 (k + t + s) else 0
    rw [if_pos this]
    refine Sm_congr fun s _ => ?_
    unfold dl Fp
    by_cases z : t + s = 0 - k
    · rw [if_pos z, if_pos (by omega)]
    · rw [if_neg z, if_neg (by omega)]
end LS
end
section
set_option maxRecDepth 100000
set_option maxHeartbeats 4000000
namespace LS
open PySem PySem.Spec L2
variable {e : Nv} {st : Store}
/-! ## the law's own counts -/
@[simp] theorem mid_get (st : Store) (x : MO) (r : Store) : (st ++ x :: r)[st.length]? = some x := by simp
@[simp] theorem mid_set (st : Store) (x y : MO) (r : Store) : (st ++ x :: r).set st.length y = st ++ y :: r := by simp
theorem left_get {st r : Store} {k : Nat} {m : MO} (h : st[k]? = some m) : (st ++ r)[k]? = some m := by
  rw [List.getElem?_append_left (List.getElem?_eq_some_iff.mp h).1]; exact h
theorem dct_left {st r : Store} {k : Nat} {rows : Rw} (h : st[k]? = some (.dct (dD rows))) : dctOf (st ++ r) (.ref k) = some (dD rows) := by
  have := left_get (r := r) h
  simp [dctOf, this]
theorem dct_mid (st : Store) (rows : Rw) (r : Store) : dctOf (st ++ .dct (dD rows) :: r) (.ref st.length) = some (dD rows) := by simp [dctOf]
theorem lck_mid (st : Store) (rows : Rw) (r : Store) : dctOf (st ++ .lck (dD rows) :: r) (.ref st.length) = some (dD rows) := by simp [dctOf]
theorem getR_mem : ∀ {rows : Rw} {p : Int × Int}, (keysR rows).Nodup → p ∈ rows → getR rows p.1 = some p.2
  | [], p, _, h => by simp at h
  | (k', c') :: r, p, nd, h => by
    have nd' : k' ∉ keysR r ∧ (keysR r).Nodup := by simpa [keysR] using nd
    rcases List.mem_cons.mp h with rfl | h
    · simp [getR]
    · have : ¬ k' = p.1 := fun z => nd'.1 (by rw [z]; exact mem_keys h)
      simp [getR, this, getR_mem nd'.2 h]
section
variable (x0 x1 x2 x4 x5 x6 x8 : Option D)
theorem b1_step (kt : Nat) (T : Rw) (t c s : Int) (st r : Store) (M : Rw) (hT : st[kt]? = some (.dct (dD T))) (hc : getR T t = some c) (nd : (keysR M).Nodup) (hl : M.length < LIM) :
    m_u_law_counts_b1 [x0, x1, x2, some (.ref kt), x4, x5, x6, some (.ref st.length), x8, some (.int t), some (.int s)] (st ++ .dct (dD M) :: r) =
      .nx [x0, x1, x2, some (.ref kt), x4, x5, x6, some (.ref st.length), x8, some (.int t), some (.int s)] (st ++ .dct (dD (addR M (t + s) c)) :: r) := by
  have p := put_add (k := t + s) (c := c) nd
  have h1 := dct_mid st M r
  have h2 := dct_left (r := .dct (dD M) :: r) hT
  have h3 : getKD (dD T) (.inl t) = some (.int c) := by rw [getKD_dD, hc]; rfl
  simp [m_u_law_counts_b1, sdput, xdget2, dgetD, h1, h2, h3, getKD_d0, hl, p]
theorem b3_step (x3 x7 : Option D) (ka : Nat) (A : Rw) (t c s : Int) (st r : Store) (M : Rw) (hT : st[ka]? = some (.dct (dD A))) (hc : getR A t = some c) (nd : (keysR M).Nodup) (hl : M.length < LIM) :
    m_u_law_counts_b3 [x0, x1, x2, x3, some (.ref ka), x5, x6, x7, some (.ref st.length), some (.int t), some (.int s)] (st ++ .dct (dD M) :: r) =
      .nx [x0, x1, x2, x3, some (.ref ka), x5, x6, x7, some (.ref st.length), some (.int t), some (.int s)] (st ++ .dct (dD (addR M (t + s) c)) :: r) := by
  have p := put_add (k := t + s) (c := c) nd
  have h1 := dct_mid st M r
  have h2 := dct_left (r := .dct (dD M) :: r) hT
  have h3 : getKD (dD A) (.inl t) = some (.int c) := by rw [getKD_dD, hc]; rfl
  simp [m_u_law_counts_b3, sdput, xdget2, dgetD, h1, h2, h3, getKD_d0, hl, p]
end
section
variable {lo hi : Int} (hh : hi - lo ≤ 1000) (hlo : lo - 1 ≤ hi) (ss : List Int) (x1 x2 x4 x5 x6 x8 : Option D)
include hh hlo
theorem b2_loop (kt : Nat) (T : Rw) (ndT : (keysR T).Nodup) (st r : Store) (hT : st[kt]? = some (.dct (dD T))) (items : List D) : ∀ (rows acc : Rw) (x9 x10 : Option D), (∀ p ∈ rows, p ∈ T) → InR lo hi acc → (∀ p ∈ rows, ∀ s ∈ ss, lo ≤ p.1 + s ∧ p.1 + s ≤ hi) →
    ∃ y9 y10, sloop none items (gname 9) m_u_law_counts_b2 (iD (keysR rows)) [some (.tup (iD ss)), x1, x2, some (.ref kt), x4, x5, x6, some (.ref st.length), x8, x9, x10] (st ++ .dct (dD acc) :: r) =
      .nx [some (.tup (iD ss)), x1, x2, some (.ref kt), x4, x5, x6, some (.ref st.length), x8, y9, y10] (st ++ .dct (dD (rows.foldl (fun acc p => stepR ss acc p.1 p.2) acc)) :: r)
  | [], acc, x9, x10, _, _, _ => ⟨x9, x10, by simp [sloop, keysR]⟩
  | p :: rs, acc, x9, x10, hm, h, hs => by
    have hc := getR_mem ndT (hm p (by simp))
    obtain ⟨y, q⟩ := lp_step hh hlo (items := iD ss) (body := m_u_law_counts_b1) (gt := gname 10) p.1 p.2 (fun y => [some (.tup (iD ss)), x1, x2, some (.ref kt), x4, x5, x6, some (.ref st.length), x8, some (.int p.1), y]) st r (fun x y rows => by simp) (fun s rows nd hl => b1_step _ x1 x2 x4 x5 x6 x8 kt T p.1 p.2 s st r rows hT hc nd hl) ss acc x10 h (hs p (by simp))
    obtain ⟨y9, y10, q2⟩ := b2_loop kt T ndT st r hT items rs (stepR ss acc p.1 p.2) (some (.int p.1)) y (fun z hz => hm z (by simp [hz])) (h.step (hs p (by simp))) fun z hz => hs z (by simp [hz])
    refine ⟨y9, y10, ?_⟩
    have hb : m_u_law_counts_b2 [some (.tup (iD ss)), x1, x2, some (.ref kt), x4, x5, x6, some (.ref st.length), x8, some (.int p.1), x10] (st ++ .dct (dD acc) :: r) = .nx [some (.tup (iD ss)), x1, x2, some (.ref kt), x4, x5, x6, some (.ref st.length), x8, some (.int p.1), y] (st ++ .dct (dD (stepR ss acc p.1 p.2)) :: r) := by
      show sfor (xwalk (xvar 0)) (gname 10) m_u_law_counts_b1 _ _ = _
      rw [ap_for]
      simp only [ap_walk, ap_var, List.getElem?_cons_zero, src_tup]
      exact q
    have e1 : iD (keysR (p :: rs)) = .int p.1 :: iD (keysR rs) := rfl
    rw [e1, sloop_cons rfl (by simp) hb, q2]; rfl
theorem b4_loop (x3 x7 : Option D) (ka : Nat) (A : Rw) (ndT : (keysR A).Nodup) (st r : Store) (hT : st[ka]? = some (.dct (dD A))) (items : List D) : ∀ (rows acc : Rw) (x9 x10 : Option D), (∀ p ∈ rows, p ∈ A) → InR lo hi acc → (∀ p ∈ rows, ∀ s ∈ ss, lo ≤ p.1 + s ∧ p.1 + s ≤ hi) →
    ∃ y9 y10, sloop none items (gname 9) m_u_law_counts_b4 (iD (keysR rows)) [some (.tup (iD ss)), x1, x2, x3, some (.ref ka), x5, x6, x7, some (.ref st.length), x9, x10] (st ++ .dct (dD acc) :: r) =
      .nx [some (.tup (iD ss)), x1, x2, x3, some (.ref ka), x5, x6, x7, some (.ref st.length), y9, y10] (st ++ .dct (dD (rows.foldl (fun acc p => stepR ss acc p.1 p.2) acc)) :: r)
  | [], acc, x9, x10, _, _, _ => ⟨x9, x10, by simp [sloop, keysR]⟩
  | p :: rs, acc, x9, x10, hm, h, hs => by
    have hc := getR_mem ndT (hm p (by simp))
    obtain ⟨y, q⟩ := lp_step hh hlo (items := iD ss) (body := m_u_law_counts_b3) (gt := gname 10) p.1 p.2 (fun y => [some (.tup (iD ss)), x1, x2, x3, some (.ref ka), x5, x6, x7, some (.ref st.length), some (.int p.1), y]) st r (fun x y rows => by simp) (fun s rows nd hl => b3_step _ x1 x2 x5 x6 x3 x7 ka A p.1 p.2 s st r rows hT hc nd hl) ss acc x10 h (hs p (by simp))
    obtain ⟨y9, y10, q2⟩ := b4_loop x3 x7 ka A ndT st r hT items rs (stepR ss acc p.1 p.2) (some (.int p.1)) y (fun z hz => hm z (by simp [hz])) (h.step (hs p (by simp))) fun z hz => hs z (by simp [hz])
    refine ⟨y9, y10, ?_⟩
    have hb : m_u_law_counts_b4 [some (.tup (iD ss)), x1, x2, x3, some (.ref ka), x5, x6, x7, some (.ref st.length), some (.int p.1), x10] (st ++ .dct (dD acc) :: r) = .nx [some (.tup (iD ss)), x1, x2, x3, some (.ref ka), x5, x6, x7, some (.ref st.length), some (.int p.1), y] (st ++ .dct (dD (stepR ss acc p.1 p.2)) :: r) := by
      show sfor (xwalk (xvar 0)) (gname 10) m_u_law_counts_b3 _ _ = _
      rw [ap_for]
      simp only [ap_walk, ap_var, List.getElem?_cons_zero, src_tup]
      exact q
    have e1 : iD (keysR (p :: rs)) = .int p.1 :: iD (keysR rs) := rfl
    rw [e1, sloop_cons rfl (by simp) hb, q2]; rfl
end
/-- the pairs of a row -/
def prsR (rows : Rw) : List D := rows.map fun p => .tup [.int p.1, .int p.2]
theorem tups_prs : ∀ rows : Rw, tupsD (prsR rows) = some (rows.map fun p => (.int p.1, .int p.2))
  | [] => rfl
  | p :: r => by
    show (tupsD (prsR r)).map _ = _
    rw [tups_prs r]; rfl
theorem prs_prs : ∀ rows : Rw, prsD (rows.map fun p => (D.int p.1, D.int p.2)) = some (dD rows)
  | [] => rfl
  | p :: r => by
    have := prs_prs r
    simp [prsD, this, dD]
theorem put_new {rows : Rw} {k v : Int} (h : k ∉ keysR rows) : putKD (dD rows) (.inl k) (.int v) = dD (rows ++ [(k, v)]) := by
  unfold putKD
  rw [anyK_dD]
  simp [h, dD]
theorem merge_self : ∀ (rows acc : Rw), (keysR (acc ++ rows)).Nodup → mergeKD (dD acc) (dD rows) = dD (acc ++ rows)
  | [], acc, _ => by simp [mergeKD, dD]
  | p :: r, acc, nd => by
    have h1 : p.1 ∉ keysR acc := fun h => by
      have nd' : (keysR acc ++ (p.1 :: keysR r)).Nodup := by simpa [keysR] using nd
      rw [List.nodup_append] at nd'
      exact nd'.2.2 _ h _ (by simp) rfl
    have := merge_self r (acc ++ [p]) (by simpa using nd)
    have e1 : mergeKD (dD acc) (dD (p :: r)) = mergeKD (putKD (dD acc) (.inl p.1) (.int p.2)) (dD r) := rfl
    rw [e1, put_new h1, this]
    simp
theorem keys_list (rows : Rw) : ((dD rows).map fun kv => kD kv.1) = iD (keysR rows) := by simp [dD, kD, iD, keysR]
theorem keysD_list (rows : Rw) : keysD (dD rows) = iD (keysR rows) := by simp [keysD, dD, kD, iD, keysR]
theorem comp_filt (k : Int) (A : Rw) (ndA : (keysR A).Nodup) (x0 x1 x3 x4 x5 x6 x7 x10 : Option D) (st r : Store) (items : List D) : ∀ (rows : Rw) (acc : List D), (∀ p ∈ rows, p ∈ A) → acc.length + rows.length ≤ LIM →
    cloop none items (gname 9) m_u_law_counts_t1 m_u_law_counts_e1 [x0, x1, some (.int k), x3, x4, x5, x6, x7, some (.ref st.length), none, x10] (iD (keysR rows)) acc (st ++ .lck (dD A) :: r) = .ok (acc ++ prsR (fltR k rows)) (st ++ .lck (dD A) :: r)
  | [], acc, _, _ => by simp [cloop, keysR, prsR, fltR]
  | p :: rs, acc, hm, hl => by
    have hl' : acc.length + (rs.length + 1) ≤ LIM := by simpa using hl
    have hc := getR_mem ndA (hm p (by simp))
    have h1 := lck_mid st A r
    have h3 : getKD (dD A) (.inl p.1) = some (.int p.2) := by rw [getKD_dD, hc]; rfl
    have l2 : 2 ≤ LIM := by decide
    have e1 : iD (keysR (p :: rs)) = .int p.1 :: iD (keysR rs) := rfl
    rw [e1]
    unfold cloop
    by_cases q : 0 - k < p.1
    · have ht : m_u_law_counts_t1 [x0, x1, some (.int k), x3, x4, x5, x6, x7, some (.ref st.length), some (.int p.1), x10] (st ++ .lck (dD A) :: r) = .ok true (st ++ .lck (dD A) :: r) := by simp [m_u_law_counts_t1]; omega
      have he : m_u_law_counts_e1 [x0, x1, some (.int k), x3, x4, x5, x6, x7, some (.ref st.length), some (.int p.1), x10] (st ++ .lck (dD A) :: r) = .ok (.tup [.int p.1, .int p.2]) (st ++ .lck (dD A) :: r) := by simp [m_u_law_counts_e1, dgetD, h1, h3, l2]
      have ih := comp_filt k A ndA x0 x1 x3 x4 x5 x6 x7 x10 st r items rs (acc ++ [.tup [.int p.1, .int p.2]]) (fun z hz => hm z (by simp [hz])) (by simp; omega)
      have ef : fltR k (p :: rs) = p :: fltR k rs := by unfold fltR; rw [List.filter_cons_of_pos (by simpa using q)]
      simp only [srcOk_none, if_true, ap_gname, List.set_cons_succ, List.set_cons_zero, ht, he]
      rw [if_pos (by omega), ih, ef]
      simp [prsR]
    · have ht : m_u_law_counts_t1 [x0, x1, some (.int k), x3, x4, x5, x6, x7, some (.ref st.length), some (.int p.1), x10] (st ++ .lck (dD A) :: r) = .ok false (st ++ .lck (dD A) :: r) := by simp [m_u_law_counts_t1]; omega
      have ih := comp_filt k A ndA x0 x1 x3 x4 x5 x6 x7 x10 st r items rs acc (fun z hz => hm z (by simp [hz])) (by omega)
      have ef : fltR k (p :: rs) = fltR k rs := by unfold fltR; rw [List.filter_cons_of_neg (by simpa using q)]
      simp only [srcOk_none, if_true, ap_gname, List.set_cons_succ, List.set_cons_zero, ht]
      rw [ih, ef]
end LS
end
section
set_option maxRecDepth 100000
set_option maxHeartbeats 4000000
namespace LS
open PySem PySem.Spec L2
variable {e : Nv} {st : Store}
theorem turn_counts (ss : List Int) (hs : ∀ s ∈ ss, -1 ≤ s ∧ s ≤ 9) (n : Nat) (hn : n ≤ 60) (k : Int) (kt ka : Nat) (T A : Rw) (x1 x5 x6 x7 x8 x9 x10 : Option D) (st : Store) (hT : st[kt]? = some (.dct (dD T))) (hA : st[ka]? = some (.dct (dD A)))
    (iT : InR (-(n : Int)) (9 * (n : Int)) T) (iA : InR (-(n : Int)) (9 * (n : Int)) A) :
    ∃ y9 y10, m_u_law_counts_b5 [some (.tup (iD ss)), x1, some (.int k), some (.ref kt), some (.ref ka), x5, x6, x7, x8, x9, x10] st =
      .nx [some (.tup (iD ss)), x1, some (.int k), some (.ref st.length), some (.ref (st.length + 2)), some (.int ((getR (nextR ss A) (0 - k)).getD 0)), x6, some (.ref st.length), some (.ref (st.length + 1)), y9, y10]
        (st ++ [.dct (dD (nextR ss T)), .dct (dD (nextR ss A)), .dct (dD (fltR k (nextR ss A)))]) := by
  have bT : ∀ p ∈ T, ∀ s ∈ ss, -(n : Int) - 1 ≤ p.1 + s ∧ p.1 + s ≤ 9 * (n : Int) + 9 := fun p hp s h => by
    have h1 := iT.2 p.1 (mem_keys hp); have := hs s h; omega
  have bA : ∀ p ∈ A, ∀ s ∈ ss, -(n : Int) - 1 ≤ p.1 + s ∧ p.1 + s ≤ 9 * (n : Int) + 9 := fun p hp s h => by
    have h1 := iA.2 p.1 (mem_keys hp); have := hs s h; omega
  have i0 : InR (-(n : Int) - 1) (9 * (n : Int) + 9) [] := ⟨by simp [keysR], by simp [keysR]⟩
  have iA1 := iA.next hs
  obtain ⟨y9, y10, q2⟩ := b2_loop (lo := -(n : Int) - 1) (hi := 9 * (n : Int) + 9) (by omega) (by omega) ss x1 (some (.int k)) (some (.ref ka)) x5 x6 (some (.ref (st.length + 1))) kt T iT.1 st [.dct []] hT (iD (keysR T)) T [] x9 x10 (fun _ h => h) i0 bT
  have hA1 : (st ++ [MO.dct (dD (nextR ss T))])[ka]? = some (.dct (dD A)) := left_get hA
  obtain ⟨z9, z10, q3⟩ := b4_loop (lo := -(n : Int) - 1) (hi := 9 * (n : Int) + 9) (by omega) (by omega) ss x1 (some (.int k)) x5 x6 (some (.ref kt)) (some (.ref st.length)) ka A iA.1 (st ++ [MO.dct (dD (nextR ss T))]) [] hA1 (iD (keysR A)) A [] y9 y10 (fun _ h => h) i0 bA
  have l1 : (st ++ [MO.dct (dD (nextR ss T))]).length = st.length + 1 := by simp
  rw [l1] at q3
  have e12 : ∀ m : MO, (st ++ [MO.dct (dD (nextR ss T))]) ++ m :: [] = st ++ [MO.dct (dD (nextR ss T)), m] := fun m => by simp
  rw [e12, e12] at q3
  change sloop none (iD (keysR T)) (gname 9) m_u_law_counts_b2 (iD (keysR T)) [some (.tup (iD ss)), x1, some (.int k), some (.ref kt), some (.ref ka), x5, x6, some (.ref st.length), some (.ref (st.length + 1)), x9, x10] (st ++ [.dct [], .dct []]) = .nx [some (.tup (iD ss)), x1, some (.int k), some (.ref kt), some (.ref ka), x5, x6, some (.ref st.length), some (.ref (st.length + 1)), y9, y10] (st ++ [.dct (dD (nextR ss T)), .dct []]) at q2
  change sloop none (iD (keysR A)) (gname 9) m_u_law_counts_b4 (iD (keysR A)) [some (.tup (iD ss)), x1, some (.int k), some (.ref kt), some (.ref ka), x5, x6, some (.ref st.length), some (.ref (st.length + 1)), y9, y10] (st ++ [.dct (dD (nextR ss T)), .dct []]) = .nx [some (.tup (iD ss)), x1, some (.int k), some (.ref kt), some (.ref ka), x5, x6, some (.ref st.length), some (.ref (st.length + 1)), z9, z10] (st ++ [.dct (dD (nextR ss T)), .dct (dD (nextR ss A))]) at q3
  have l2 : 2 ≤ LIM := by decide
  refine ⟨z9, z10, ?_⟩
  unfold m_u_law_counts_b5
  have g1 : sasg (xtup (xcons xdnew (xcons xdnew (xpure [])))) (gtup 2 (gcons (gname 7) (gcons (gname 8) gnil))) [some (.tup (iD ss)), x1, some (.int k), some (.ref kt), some (.ref ka), x5, x6, x7, x8, x9, x10] st = .nx [some (.tup (iD ss)), x1, some (.int k), some (.ref kt), some (.ref ka), x5, x6, some (.ref st.length), some (.ref (st.length + 1)), x9, x10] (st ++ [.dct [], .dct []]) := by
    simp [xdnew, l2]
  have d1 : dctOf (st ++ [MO.dct [], .dct []]) (.ref kt) = some (dD T) := dct_left hT
  have d2 : dctOf (st ++ [MO.dct (dD (nextR ss T)), .dct []]) (.ref ka) = some (dD A) := dct_left hA
  have g2 : sfor (xwalk (xcall (f1 dlistD) (xcons (xvar 3) (xpure [])))) (gname 9) m_u_law_counts_b2 [some (.tup (iD ss)), x1, some (.int k), some (.ref kt), some (.ref ka), x5, x6, some (.ref st.length), some (.ref (st.length + 1)), x9, x10] (st ++ [.dct [], .dct []]) = .nx [some (.tup (iD ss)), x1, some (.int k), some (.ref kt), some (.ref ka), x5, x6, some (.ref st.length), some (.ref (st.length + 1)), y9, y10] (st ++ [.dct (dD (nextR ss T)), .dct []]) := by
    rw [ap_for]
    have : xwalk (xcall (f1 dlistD) (xcons (xvar 3) (xpure []))) [some (.tup (iD ss)), x1, some (.int k), some (.ref kt), some (.ref ka), x5, x6, some (.ref st.length), some (.ref (st.length + 1)), x9, x10] (st ++ [.dct [], .dct []]) = .ok (iD (keysR T), none) (st ++ [.dct [], .dct []]) := by
      simp only [ap_walk, ap_call, ap_cons, ap_bind, ap_var, ap_pure, f1_ap, List.getElem?_cons_succ, List.getElem?_cons_zero, dlistD, d1, keys_list, src_lst]
    rw [this]
    exact q2
  have g3 : sfor (xwalk (xcall (f1 dlistD) (xcons (xvar 4) (xpure [])))) (gname 9) m_u_law_counts_b4 [some (.tup (iD ss)), x1, some (.int k), some (.ref kt), some (.ref ka), x5, x6, some (.ref st.length), some (.ref (st.length + 1)), y9, y10] (st ++ [.dct (dD (nextR ss T)), .dct []]) = .nx [some (.tup (iD ss)), x1, some (.int k), some (.ref kt), some (.ref ka), x5, x6, some (.ref st.length), some (.ref (st.length + 1)), z9, z10] (st ++ [.dct (dD (nextR ss T)), .dct (dD (nextR ss A))]) := by
    rw [ap_for]
    have : xwalk (xcall (f1 dlistD) (xcons (xvar 4) (xpure []))) [some (.tup (iD ss)), x1, some (.int k), some (.ref kt), some (.ref ka), x5, x6, some (.ref st.length), some (.ref (st.length + 1)), y9, y10] (st ++ [.dct (dD (nextR ss T)), .dct []]) = .ok (iD (keysR A), none) (st ++ [.dct (dD (nextR ss T)), .dct []]) := by
      simp only [ap_walk, ap_call, ap_cons, ap_bind, ap_var, ap_pure, f1_ap, List.getElem?_cons_succ, List.getElem?_cons_zero, dlistD, d2, keys_list, src_lst]
    rw [this]
    exact q3
  have i1 : (st ++ [MO.dct (dD (nextR ss T)), .dct (dD (nextR ss A))])[st.length + 1]? = some (.dct (dD (nextR ss A))) := by
    rw [List.getElem?_append_right (by omega)]; simp
  have d3 : dctOf (st ++ [MO.dct (dD (nextR ss T)), .dct (dD (nextR ss A))]) (.ref (st.length + 1)) = some (dD (nextR ss A)) := by simp only [dctOf, i1]
  have g4 : sset 5 (xdget2 (xvar 8) (xop subD (xpure (.int 0)) (xvar 2)) (xpure (.int 0))) [some (.tup (iD ss)), x1, some (.int k), some (.ref kt), some (.ref ka), x5, x6, some (.ref st.length), some (.ref (st.length + 1)), z9, z10] (st ++ [.dct (dD (nextR ss T)), .dct (dD (nextR ss A))]) =
      .nx [some (.tup (iD ss)), x1, some (.int k), some (.ref kt), some (.ref ka), some (.int ((getR (nextR ss A) (0 - k)).getD 0)), x6, some (.ref st.length), some (.ref (st.length + 1)), z9, z10] (st ++ [.dct (dD (nextR ss T)), .dct (dD (nextR ss A))]) := by
    refine set_ok ?_
    simp [xdget2, d3, getKD_d0]
  have s1 : ∀ m : MO, (st ++ [MO.dct (dD (nextR ss T)), m]).set (st.length + 1) (MO.lck (dD (nextR ss A))) = (st ++ [MO.dct (dD (nextR ss T))]) ++ MO.lck (dD (nextR ss A)) :: [] := fun m => by
    rw [List.set_append_right _ _ (by omega)]; simp
  have s2 : ((st ++ [MO.dct (dD (nextR ss T))]) ++ MO.lck (dD (nextR ss A)) :: []).set (st.length + 1) (.dct (dD (nextR ss A))) = st ++ [MO.dct (dD (nextR ss T)), .dct (dD (nextR ss A))] := by
    have := mid_set (st ++ [MO.dct (dD (nextR ss T))]) (MO.lck (dD (nextR ss A))) (.dct (dD (nextR ss A))) []
    rw [l1] at this
    rw [this]; simp
  have few : (nextR ss A).length < LIM := iA1.few (by omega) (by omega)
  have q5 := comp_filt k (nextR ss A) iA1.1 (some (.tup (iD ss))) x1 (some (.ref kt)) (some (.ref ka)) (some (.int ((getR (nextR ss A) (0 - k)).getD 0))) x6 (some (.ref st.length)) z10 (st ++ [MO.dct (dD (nextR ss T))]) [] (iD (keysR (nextR ss A))) (nextR ss A) [] (fun _ h => h) (by simp; omega)
  rw [l1] at q5
  have i2 : ((st ++ [MO.dct (dD (nextR ss T))]) ++ MO.lck (dD (nextR ss A)) :: [])[st.length + 1]? = some (MO.lck (dD (nextR ss A))) := by
    have := mid_get (st ++ [MO.dct (dD (nextR ss T))]) (MO.lck (dD (nextR ss A))) []
    rw [l1] at this; exact this
  have c5 : elock 8 (xcomp (xkeysI (xvar 8)) [9] (gname 9) m_u_law_counts_t1 m_u_law_counts_e1) [some (.tup (iD ss)), x1, some (.int k), some (.ref kt), some (.ref ka), some (.int ((getR (nextR ss A) (0 - k)).getD 0)), x6, some (.ref st.length), some (.ref (st.length + 1)), z9, z10] (st ++ [.dct (dD (nextR ss T)), .dct (dD (nextR ss A))]) = .ok (.lst (prsR (fltR k (nextR ss A)))) (st ++ [.dct (dD (nextR ss T)), .dct (dD (nextR ss A))]) := by
    unfold elock
    simp only [List.getElem?_cons_succ, List.getElem?_cons_zero, i1, s1]
    rw [ap_comp]
    have hk : xkeysI (xvar 8) [some (.tup (iD ss)), x1, some (.int k), some (.ref kt), some (.ref ka), some (.int ((getR (nextR ss A) (0 - k)).getD 0)), x6, some (.ref st.length), some (.ref (st.length + 1)), z9, z10] ((st ++ [MO.dct (dD (nextR ss T))]) ++ MO.lck (dD (nextR ss A)) :: []) = .ok (iD (keysR (nextR ss A)), none) ((st ++ [MO.dct (dD (nextR ss T))]) ++ MO.lck (dD (nextR ss A)) :: []) := by
      unfold xkeysI xbind
      simp only [ap_var, List.getElem?_cons_succ, List.getElem?_cons_zero, i2, keysD_list]
    rw [hk]
    simp only [ap_wipe1, List.set_cons_succ, List.set_cons_zero]
    rw [q5]
    simp only [List.nil_append, s2]
  have nf : (keysR (fltR k (nextR ss A))).Nodup := (iA1.flt (k := k)).1
  have g5 : spar2 3 4 (xvar 7) (xcall (f1 dictPD) (xcons (elock 8 (xcomp (xkeysI (xvar 8)) [9] (gname 9) m_u_law_counts_t1 m_u_law_counts_e1)) (xpure []))) [some (.tup (iD ss)), x1, some (.int k), some (.ref kt), some (.ref ka), some (.int ((getR (nextR ss A) (0 - k)).getD 0)), x6, some (.ref st.length), some (.ref (st.length + 1)), z9, z10] (st ++ [.dct (dD (nextR ss T)), .dct (dD (nextR ss A))]) =
      .nx [some (.tup (iD ss)), x1, some (.int k), some (.ref st.length), some (.ref (st.length + 2)), some (.int ((getR (nextR ss A) (0 - k)).getD 0)), x6, some (.ref st.length), some (.ref (st.length + 1)), z9, z10] (st ++ [.dct (dD (nextR ss T)), .dct (dD (nextR ss A)), .dct (dD (fltR k (nextR ss A)))]) := by
    have hm : mergeKD [] (dD (fltR k (nextR ss A))) = dD (fltR k (nextR ss A)) := by
      have := merge_self (fltR k (nextR ss A)) [] (by simpa using nf)
      simpa [dD] using this
    simp only [ap_par2, ap_sbind, ap_var, List.getElem?_cons_succ, List.getElem?_cons_zero, ap_call, ap_cons, ap_bind, ap_pure, c5, f1_ap, dictPD, lstOf_lst, tups_prs, prs_prs, hm]
    simp
  rw [seq_nx g1, seq_nx g2, seq_nx g3, seq_nx g4, g5]
theorem dct_mo (rows : Rw) : moB 0 (.dct (dD rows)) = true := by simp [moB, dD_moB]
theorem loop_counts (ss : List Int) (hs : ∀ s ∈ ss, -1 ≤ s ∧ s ≤ 9) (k : Int) (x1 : Option D) (items : List D) : ∀ (j n : Nat) (kt ka : Nat) (x6 x7 x8 x9 x10 : Option D) (st : Store), n + j ≤ 60 → st[kt]? = some (.dct (dD (iterR ss n))) → st[ka]? = some (.dct (dD (ahR ss k n))) → st.all (moB 0) = true →
    ∃ (kt' ka' : Nat) (y6 y7 y8 y9 y10 : Option D) (st' : Store), sloop none items (gname 6) m_u_law_counts_b5 (rangeL (n : Int) j) [some (.tup (iD ss)), x1, some (.int k), some (.ref kt), some (.ref ka), some (.int (hsR ss k n)), x6, x7, x8, x9, x10] st = .nx [some (.tup (iD ss)), x1, some (.int k), some (.ref kt'), some (.ref ka'), some (.int (hsR ss k (n + j))), y6, y7, y8, y9, y10] st' ∧ st'[kt']? = some (.dct (dD (iterR ss (n + j)))) ∧ st'.all (moB 0) = true
  | 0, n, kt, ka, x6, x7, x8, x9, x10, st, _, hT, _, hm => ⟨kt, ka, x6, x7, x8, x9, x10, st, by simp [rangeL, sloop], hT, hm⟩
  | j + 1, n, kt, ka, x6, x7, x8, x9, x10, st, hn, hT, hA, hm => by
    obtain ⟨y9, y10, q⟩ := turn_counts ss hs n (by omega) k kt ka _ _ x1 (some (.int (hsR ss k n))) (some (.int (n : Int))) x7 x8 x9 x10 st hT hA (InR.iter hs n) (InR.ah hs k n)
    obtain ⟨kt', ka', y6, y7, y8, z9, z10, st', q2, q3, q4⟩ := loop_counts ss hs k x1 items j (n + 1) st.length (st.length + 2) (some (.int (n : Int))) (some (.ref st.length)) (some (.ref (st.length + 1))) y9 y10 (st ++ [.dct (dD (nextR ss (iterR ss n))), .dct (dD (nextR ss (ahR ss k n))), .dct (dD (fltR k (nextR ss (ahR ss k n))))]) (by omega)
      (by rw [List.getElem?_append_right (by omega)]; simp [iterR]) (by rw [List.getElem?_append_right (by omega)]; simp [ahR]) (by rw [List.all_append, hm]; simp [dct_mo])
    refine ⟨kt', ka', y6, y7, y8, z9, z10, st', ?_, by rw [show n + (j + 1) = n + 1 + j by omega]; exact q3, q4⟩
    have er : rangeL (n : Int) (j + 1) = .int (n : Int) :: rangeL ((n + 1 : Nat) : Int) j := by
      unfold rangeL
      rw [List.range_succ_eq_map]
      simp
      intro i _
      omega
    rw [er, sloop_cons rfl (by simp) q]
    have eh : (getR (nextR ss (ahR ss k n)) (0 - k)).getD 0 = hsR ss k (n + 1) := rfl
    rw [eh, q2, show n + (j + 1) = n + 1 + j by omega]
theorem c_counts (ss : List Int) (hs : ∀ s ∈ ss, -1 ≤ s ∧ s ≤ 9) (n : Nat) (hn : n ≤ 30) (k : Int) : ∃ (j : Nat) (nw : Store), nw[j]? = some (.dct (dD (iterR ss n))) ∧ ∀ (e : Nv) (st : Store), callD D_u_law_counts [.tup (iD ss), .int (n : Int), .int k] e st = .ok (.tup [.ref (st.length + j), .int (hsR ss k n)]) (st ++ nw) := by
  obtain ⟨kt, ka, y6, y7, y8, y9, y10, st', q, q2, q3⟩ := loop_counts ss hs k (some (.int (n : Int))) (rangeL 0 n) n 0 0 1 none none none none none [.dct (dD [(0, 1)]), .dct (dD [(0, 1)])] (by omega) rfl rfl (by simp [dct_mo])
  rw [Nat.zero_add] at q q2
  refine ⟨kt, st', q2, fun e st => ?_⟩
  have l2 : 2 ≤ LIM := by decide
  have rg : rngB (n : Int) = true := rngB_of (by omega) (by omega)
  have g1 : spar3 3 4 5 (xdisp (xpair (xpure (.int 0)) (xpure (.int 1)) (xpure []))) (xdisp (xpair (xpure (.int 0)) (xpure (.int 1)) (xpure []))) (xpure (.int 0)) [some (.tup (iD ss)), some (.int (n : Int)), some (.int k), none, none, none, none, none, none, none, none] [] =
      .nx [some (.tup (iD ss)), some (.int (n : Int)), some (.int k), some (.ref 0), some (.ref 1), some (.int (hsR ss k 0)), none, none, none, none, none] [.dct (dD [(0, 1)]), .dct (dD [(0, 1)])] := by
    simp [xdisp, xpair, prsD, disp01, hsR]
  have g2 : sfor (xrange1 (xvar 1)) (gname 6) m_u_law_counts_b5 [some (.tup (iD ss)), some (.int (n : Int)), some (.int k), some (.ref 0), some (.ref 1), some (.int (hsR ss k 0)), none, none, none, none, none] [.dct (dD [(0, 1)]), .dct (dD [(0, 1)])] = .nx [some (.tup (iD ss)), some (.int (n : Int)), some (.int k), some (.ref kt), some (.ref ka), some (.int (hsR ss k n)), y6, y7, y8, y9, y10] st' := by
    have h1 : xrange1 (xvar 1) [some (.tup (iD ss)), some (.int (n : Int)), some (.int k), some (.ref 0), some (.ref 1), some (.int (hsR ss k 0)), none, none, none, none, none] [.dct (dD [(0, 1)]), .dct (dD [(0, 1)])] = .ok (rangeL 0 n, none) [.dct (dD [(0, 1)]), .dct (dD [(0, 1)])] := by simp [rg]
    rw [ap_for, h1]
    exact q
  have g3 : sret (xtup (xcons (xvar 3) (xcons (xvar 5) (xpure [])))) [some (.tup (iD ss)), some (.int (n : Int)), some (.int k), some (.ref kt), some (.ref ka), some (.int (hsR ss k n)), y6, y7, y8, y9, y10] st' = .rt (.tup [.ref kt, .int (hsR ss k n)]) st' := ret_ok (by simp [l2])
  have main : D_u_law_counts [] [.tup (iD ss), .int (n : Int), .int k] = .ok (.tup [.ref kt, .int (hsR ss k n)]) st' := by
    show outF outG 0 (m_u_law_counts [some (.tup (iD ss)), some (.int (n : Int)), some (.int k), none, none, none, none, none, none, none, none] []) = _
    unfold m_u_law_counts
    rw [seq_nx g1, seq_nx g2, g3]
    rfl
  rw [callD0N rfl (by simp [refsBs, refsB]) main q3]
  simp [mapR, mapRs]
end LS
end
section
set_option maxRecDepth 100000
set_option maxHeartbeats 8000000
namespace LS
open PySem PySem.Spec L2
variable {e : Nv} {st : Store}
/-! ## the same -/
theorem same_refl : ∀ (n : Nat) (x : D), okD n x = true → ∀ (e : Nv) (st : Store), callD (D_u_law_same n) [x, x] e st = .ok (.bl true) st := by
  intro n
  induction n with
  | zero => intro x h; simp [okD] at h
  | succ n ih =>
    intro x h e st
    refine callD0 (refsIn_ok h h) (by have := refsB_okD _ _ h; simp [refsBs, this]) (runF_rt (st' := []) ?_ rfl) rfl
    have seq : ∀ (xs : List D) (x0 x1 : D), decide (xs.length ≤ LIM) && xs.all (okD n) = true → (∀ i : Int, ∀ e st, ixD x0 (.int i) e st = match atI xs i with | some d => .ok d st | none => .stuck) → (∀ i : Int, ∀ e st, ixD x1 (.int i) e st = match atI xs i with | some d => .ok d st | none => .stuck) →
        cloop none (rangeL 0 xs.length) (gname 2) (xpure true) (m_u_law_same_e1 (D_u_law_same n)) [some x0, some x1, none] (rangeL 0 xs.length) [] [] = .ok (List.replicate xs.length (.bl true)) [] := by
      intro xs x0 x1 hx h0 h1
      have hx' : xs.length ≤ LIM ∧ xs.all (okD n) = true := by simpa using hx
      have := cloop_pure (src := none) (items := rangeL 0 xs.length) (gt := gname 2) (mt := xpure true) (me := m_u_law_same_e1 (D_u_law_same n)) (e := [some x0, some x1, none]) (st := []) (fun _ => true) (fun _ => .bl true) rfl (rangeL 0 xs.length) [] (by
        intro y hy
        obtain ⟨i, hi, rfl⟩ := mem_rangeL hy
        have hg : xs[i]? = some xs[i] := List.getElem?_eq_getElem hi
        have ok : okD n xs[i] = true := List.all_eq_true.mp hx'.2 _ (List.getElem_mem hi)
        refine ⟨_, rfl, rfl, fun _ => ?_⟩
        simp [m_u_law_same_e1, h0, h1, atI_nat, hg, ih _ ok]) (by simp [rangeL_len]; exact hx'.1)
      rw [this]
      have : ∀ (l : List D), (l.filter fun _ => true).map (fun _ => D.bl true) = List.replicate l.length (.bl true) := fun l => by rw [filter_yes]; exact List.map_const' ..
      rw [this, rangeL_len]
      rfl
    cases x with
    | non => simp [m_u_law_same, m_u_law_same_s1, m_u_law_same_s2, m_u_law_same_s3]
    | bl b => simp [m_u_law_same, m_u_law_same_s1, m_u_law_same_s2, m_u_law_same_s3, m_u_law_same_s4]
    | int i => simp [m_u_law_same, m_u_law_same_s1, m_u_law_same_s2, m_u_law_same_s3, m_u_law_same_s4, m_u_law_same_s5]
    | str s =>
      have hs : SeqAt.shaped (.str s) = true := by
        have : s.cps.all (· < 0x110000) = true := by simpa [okD] using h
        simp [SeqAt.shaped, PyData.canLay0, PyData.depth, PyData.strOk, this]
      simp [m_u_law_same, m_u_law_same_s1, m_u_law_same_s2, m_u_law_same_s3, m_u_law_same_s4, m_u_law_same_s5, m_u_law_same_s6, eqO, pyOf, pyD, hs, PyData.eqv]
    | tup xs =>
      have hx : decide (xs.length ≤ LIM) && xs.all (okD n) = true := by simpa [okD] using h
      have hx' : xs.length ≤ LIM ∧ xs.all (okD n) = true := by simpa using hx
      have q := seq xs (.tup xs) (.tup xs) hx (fun _ _ _ => rfl) (fun _ _ _ => rfl)
      have r := rngB_nat hx'.1
      have g1 : m_u_law_same_s1 [some (.tup xs), some (.tup xs), none] [] = .nx [some (.tup xs), some (.tup xs), none] [] := by simp [m_u_law_same_s1]
      have g2 : m_u_law_same_s2 (D_u_law_same n) [some (.tup xs), some (.tup xs), none] [] = .rt (.bl true) [] := by
        unfold m_u_law_same_s2
        exact (sif_t (st' := []) (by simp)).trans (ret_ok ((and_t (st' := []) (by simp)).trans (all_yes (n := xs.length) (by simp [r, q]))))
      exact (seq_nx g1).trans (seq_rt g2)
    | lst xs =>
      have hx : decide (xs.length ≤ LIM) && xs.all (okD n) = true := by simpa [okD] using h
      have hx' : xs.length ≤ LIM ∧ xs.all (okD n) = true := by simpa using hx
      have q := seq xs (.lst xs) (.lst xs) hx (fun _ _ _ => rfl) (fun _ _ _ => rfl)
      have r := rngB_nat hx'.1
      have g1 : m_u_law_same_s1 [some (.lst xs), some (.lst xs), none] [] = .nx [some (.lst xs), some (.lst xs), none] [] := by simp [m_u_law_same_s1]
      have g2 : m_u_law_same_s2 (D_u_law_same n) [some (.lst xs), some (.lst xs), none] [] = .rt (.bl true) [] := by
        unfold m_u_law_same_s2
        exact (sif_t (st' := []) (by simp)).trans (ret_ok ((and_t (st' := []) (by simp)).trans (all_yes (n := xs.length) (by simp [r, q]))))
      exact (seq_nx g1).trans (seq_rt g2)
    | ty _ => simp [okD] at h
    | glo _ => simp [okD] at h
    | sq _ => simp [okD] at h
    | ref _ => simp [okD] at h

theorem c_same_int (a : Int) : callD (D_u_law_same 6) [.int a, .int a] e st = .ok (.bl true) st := same_refl 6 (.int a) rfl e st
/-! ## what is told comes to the hits -/
theorem hit_hs {ss : List Int} (hs : ∀ s ∈ ss, -1 ≤ s ∧ s ≤ 9) {k : Int} (k0 : 1 ≤ k) (n : Nat) : hitR ss n k = hsR ss k n ∧ (n : Int) * hsR ss k n = k * cntR ss n (-k) := by
  cases n with
  | zero =>
    have : cntR ss 0 (-k) = 0 := by
      simp [cntR, iterR, getR]
      rw [if_neg (by omega)]; rfl
    simp [hitR, hsR, this]
  | succ n =>
    have e1 := hs_Fp hs k0 n
    have e2 := hit_time (fun s h => (hs s h).1) (n + 1) k (by omega)
    have e3 : cntR ss (n + 1) (-k) = Pn ss (n + 1) (-k) := cnt_Pn hs (n + 1) (-k)
    rw [e1, e3]
    refine ⟨?_, e2⟩
    unfold hitR
    rw [if_neg (by omega), e3, ← e2]
    exact Int.mul_ediv_cancel_left _ (by omega)
/-- no step down: no hit -/
theorem no_down {ss : List Int} (hs : ∀ s ∈ ss, -1 ≤ s ∧ s ≤ 9) (h : -1 ∉ ss) {k : Int} (k0 : 1 ≤ k) (n : Nat) : hsR ss k n = 0 := by
  have zero : ∀ (n : Nat) (k : Int), 1 ≤ k → Fp ss n k = 0 := by
    intro n
    induction n with
    | zero => intro k hk; unfold Fp; rw [if_neg (by omega)]
    | succ n ih =>
      intro k hk
      unfold Fp
      rw [if_pos hk, Sm_congr (h := fun _ => 0) fun s m => ih (k + s) (by
        have := hs s m
        have : s ≠ -1 := fun z => h (z ▸ m)
        omega)]
      have : ∀ tt : List Int, (Sm tt fun _ => 0) = 0 := fun tt => by induction tt with | nil => rfl | cons s r ih => rw [Sm_cons, ih]; rfl
      exact this ss
  cases n with
  | zero => rfl
  | succ n => rw [hs_Fp hs k0 n]; exact zero _ k k0
/-! ## both steps: closed words -/
def binI (a b : Int) : Int := if 0 ≤ b ∧ b ≤ a then PySem.W.mcComb a b else 0
def endI (n y : Int) : Int := if (n + y) % 2 = 1 then 0 else binI n ((n + y) / 2)
theorem end_tab : ((List.range 30).all fun n => (List.range 91).all fun j => decide (endI ((n : Int) + 1) ((j : Int) - 45) = endI (n : Int) ((j : Int) - 44) + endI (n : Int) ((j : Int) - 46))) = true := by decide +kernel
theorem end_sym : ((List.range 31).all fun n => (List.range 12).all fun j => decide (endI (n : Int) (-(j : Int)) = endI (n : Int) (j : Int))) = true := by decide +kernel
theorem end_zero : ((List.range 91).all fun j => decide (endI 0 ((j : Int) - 45) = if (j : Int) - 45 = 0 then 1 else 0)) = true := by decide +kernel
theorem Pn_end : ∀ (n : Nat) (y : Int), n ≤ 30 → -45 + (n : Int) ≤ y → y ≤ 45 - (n : Int) → Pn [-1, 1] n y = endI n y
  | 0, y, _, h1, h2 => by
    have := List.all_eq_true.mp end_zero (y + 45).toNat (by simp; omega)
    have := of_decide_eq_true this
    rw [show (((y + 45).toNat : Nat) : Int) - 45 = y by omega] at this
    rw [show ((0 : Nat) : Int) = 0 from rfl, this]; rfl
  | n + 1, y, hn, h1, h2 => by
    have e1 : Pn [-1, 1] (n + 1) y = Pn [-1, 1] n (y + 1) + Pn [-1, 1] n (y - 1) := by
      show Sm [-1, 1] _ = _
      simp [Sm]
    rw [e1, Pn_end n (y + 1) (by omega) (by omega) (by omega), Pn_end n (y - 1) (by omega) (by omega) (by omega)]
    have := List.all_eq_true.mp (List.all_eq_true.mp end_tab n (by simp; omega)) (y + 45).toNat (by simp; omega)
    have := of_decide_eq_true this
    rw [show (((y + 45).toNat : Nat) : Int) - 45 = y by omega, show (((y + 45).toNat : Nat) : Int) - 44 = y + 1 by omega, show (((y + 45).toNat : Nat) : Int) - 46 = y - 1 by omega] at this
    rw [show ((n + 1 : Nat) : Int) = (n : Int) + 1 by omega, this]
theorem c_binomial (a b : Int) (h : 0 ≤ a) (h2 : a ≤ 1000) : callD D_binomial [.int a, .int b] e st = .ok (.int (binI a b)) st := by
  refine callD0 rfl rfl (runF_rt (st' := []) ?_ rfl) rfl
  by_cases h1 : 0 ≤ b
  · by_cases h3 : b ≤ a
    · have : a ≤ 18000 := by omega
      simp [m_binomial, binI, h1, h3, h, this]
    · simp [m_binomial, binI, h1, h3]
  · simp [m_binomial, binI, h1]
theorem c_ending_by (n y : Int) (h : 0 ≤ n) (h2 : n ≤ 1000) : callD D_count_ending_by [.int n, .int y] e st = .ok (.int (endI n y)) st := by
  refine callD0 rfl rfl (runF_rt (st' := []) ?_ rfl) rfl
  have dc : divC (n + y) 2 = true := by simp [divC]
  by_cases h1 : (n + y) % 2 = 1
  · simp [m_count_ending_by, endI, h1]
  · simp [m_count_ending_by, endI, h1, dc, c_binomial n _ h h2]
theorem c_first_by (n k : Int) (h : 0 ≤ n) (h2 : n ≤ 1000) (k0 : 0 ≤ k) (k1 : k ≤ 1000) : callD D_count_first_by [.int n, .int k] e st = .ok (.int (if 0 < n then k * endI n k / n else 0)) st := by
  refine callD0 rfl rfl (runF_rt (st' := []) ?_ rfl) rfl
  have mc : ∀ x : Int, mulC k x = true := fun x => by simp [mulC]; omega
  by_cases h1 : 0 < n
  · have dc : divC (k * endI n k) n = true := by simp [divC]; omega
    simp [m_count_first_by, h1, c_ending_by n k h h2, mc, dc]
  · simp [m_count_first_by, h1]
theorem c_first (n k : Int) (h : 0 ≤ n) (h2 : n ≤ 40) (k0 : 1 ≤ k) (k1 : k ≤ 1000) : callD D_count_first [.int n, .int k] e st = .ok (.int (if 0 < n then k * endI n k / n else 0)) st := by
  refine callD0 rfl rfl (runF_rt (st' := []) ?_ rfl) rfl
  simp [m_count_first, c_check_number n 0 40 h h2, c_check_from k 1 k0, c_first_by n k h (by omega) (by omega) k1]
theorem c_ending (n y : Int) (h : 0 ≤ n) (h2 : n ≤ 40) : callD D_count_ending [.int n, .int y] e st = .ok (.int (endI n y)) st := by
  refine callD0 rfl rfl (runF_rt (st' := []) ?_ rfl) rfl
  simp [m_count_ending, c_check_number n 0 40 h h2, c_check_whole, c_ending_by n y h (by omega)]
theorem both_end {n : Nat} (hn : n ≤ 30) {k : Int} (k0 : 1 ≤ k) (k1 : k ≤ 9) : cntR [0 - 1, 1] n (-k) = endI n k ∧ hitR [0 - 1, 1] n k = if (0 : Int) < n then k * endI n k / n else 0 := by
  have e1 : cntR [0 - 1, 1] n (-k) = endI n k := by
    have : cntR [0 - 1, 1] n (-k) = Pn [0 - 1, 1] n (-k) := cnt_Pn (by simp) n (-k)
    rw [this]
    have e2 : Pn [0 - 1, 1] n (-k) = endI n (-k) := Pn_end n (-k) hn (by omega) (by omega)
    rw [e2]
    have := List.all_eq_true.mp (List.all_eq_true.mp end_sym n (by simp; omega)) k.toNat (by simp; omega)
    have := of_decide_eq_true this
    rw [show ((k.toNat : Nat) : Int) = k by omega] at this
    exact this
  refine ⟨e1, ?_⟩
  unfold hitR
  rw [e1]
  by_cases h : n = 0
  · subst h; simp
  · rw [if_neg h, if_pos (by omega)]
end LS
end
section
set_option maxRecDepth 100000
set_option maxHeartbeats 8000000
namespace LS
open PySem PySem.Spec L2
variable {e : Nv} {st : Store}
section
variable (ss : List Int) (n : Nat) (k : Int) (hr : Stp ss) (hn : n ≤ 30) (k0 : 1 ≤ k) (k1 : k ≤ 9) (j : Nat) (nw : Store) (hj : nw[j]? = some (.dct (dD (iterR ss n))))
abbrev VI (a b c d : Option D) : Nv := [some (.ref 0), some (.tup (iD ss)), some (.int (n : Int)), some (.int k), some (.ref (1 + j)), some (.int (hsR ss k n)), a, c, d]
include hj in
theorem tot_at (m : MO) : dctOf (m :: nw) (.ref (1 + j)) = some (dD (iterR ss n)) := by
  rw [Nat.add_comm 1 j]
  simp [dctOf, hj]
include hr hn k0 k1 in
theorem told_s2 (m : MO) (hm : Wl m) : ∃ m', Wl m' ∧ m_u_law_is_told_s2 (VI ss n k j none none none none) (m :: nw) = .nx (VI ss n k j (some (.int (hitR ss n k))) none none none) (m' :: nw) := by
  obtain ⟨d, m1, w1, d0, d1, q1⟩ := c_take m hm 2 (by decide) (by decide)
  have ch := fun e st => c_hits (e := e) (st := st) ss hr n hn k k0 (by omega)
  refine ⟨m1, w1, ?_⟩
  unfold m_u_law_is_told_s2
  refine set_ok ?_
  by_cases h : d = 0
  · simp [q1, h, ch]
  · simp [q1, h, ch, pick]
include hr hn hj in
theorem told_b1 (m : MO) (hm : Wl m) (t y : Int) (x8 : Option D) : ∃ (m' : MO) (z : Option D), Wl m' ∧ m_u_law_is_told_b1 (VI ss n k j (some (.int t)) none (some (.int y)) x8) (m :: nw) = .nx (VI ss n k j (some (.int t)) none (some (.int y)) z) (m' :: nw) := by
  obtain ⟨d, m1, w1, d0, d1, q1⟩ := c_take m hm 2 (by decide) (by decide)
  have ch := fun e st => c_total (e := e) (st := st) ss hr n hn y
  have ht := tot_at ss n j nw hj m1
  have hs := fun e st => c_same_int (e := e) (st := st) (cntR ss n y)
  refine ⟨m1, some (.int (cntR ss n y)), w1, ?_⟩
  have g1 : sset 8 (xif (xbool (xop eqD (xfn 2 (D_u_law_take) (xcons (xvar 0) (xcons (xpure (.int 2)) (xpure [])))) (xpure (.int 0)))) (xfn 3 (D_count_total) (xcons (xvar 1) (xcons (xvar 2) (xcons (xvar 7) (xpure []))))) (xfnK 0 [2, 1, 0] 3 (D_count_total) (xpure []) (xcons (xvar 7) (xcons (xvar 2) (xcons (xvar 1) (xpure []))))))
      (VI ss n k j (some (.int t)) none (some (.int y)) x8) (m :: nw) = .nx (VI ss n k j (some (.int t)) none (some (.int y)) (some (.int (cntR ss n y)))) (m1 :: nw) := by
    refine set_ok ?_
    by_cases h : d = 0
    · simp [q1, h, ch]
    · simp [q1, h, ch, pick]
  unfold m_u_law_is_told_b1
  rw [seq_nx g1]
  refine (sif_f (tnot_ok (b := true) (tru_ok ?_))).trans (ap_next ..)
  have hg : (getKD (dD (iterR ss n)) (.inl y)).getD (.int 0) = .int (cntR ss n y) := getKD_d0 _ _
  simp [xdget2, ht, hg, hs]
include hr hn hj in
theorem told_s4 (m : MO) (hm : Wl m) (t : Int) : ∃ (m' : MO) (y z : Option D), Wl m' ∧ m_u_law_is_told_s4 (VI ss n k j (some (.int t)) none none none) (m :: nw) = .nx (VI ss n k j (some (.int t)) none y z) (m' :: nw) := by
  obtain ⟨d, m1, w1, d0, d1, q1⟩ := c_take m hm 12 (by decide) (by decide)
  have ne : 0 < (keysR (iterR ss n)).length := by
    have key : ∀ n : Nat, 0 < (iterR ss n).length := by
      intro n
      induction n with
      | zero => simp [iterR]
      | succ n ih =>
        show 0 < (nextR ss (iterR ss n)).length
        have grow : ∀ (tt : List Int) (acc : Rw) (a c : Int), acc.length ≤ (stepR tt acc a c).length := by
          intro tt
          induction tt with
          | nil => intro acc a c; exact Nat.le_refl _
          | cons s r ih =>
            intro acc a c
            refine Nat.le_trans ?_ (ih (addR acc (a + s) c) a c)
            generalize a + s = b
            induction acc with
            | nil => simp
            | cons p r ih2 =>
              obtain ⟨k', c'⟩ := p
              unfold addR
              split
              · simp
              · simpa using ih2
        have one : ∀ (acc : Rw) (b c : Int), 0 < (addR acc b c).length := by
          intro acc b c
          cases acc with
          | nil => simp [addR]
          | cons p r => obtain ⟨k', c'⟩ := p; unfold addR; split <;> simp
        have fold : ∀ (rows acc : Rw), acc.length ≤ (rows.foldl (fun acc p => stepR ss acc p.1 p.2) acc).length := by
          intro rows
          induction rows with
          | nil => intro acc; exact Nat.le_refl _
          | cons p r ih => intro acc; exact Nat.le_trans (grow ss acc p.1 p.2) (ih _)
        cases hi : iterR ss n with
        | nil => rw [hi] at ih; simp at ih
        | cons p r =>
          unfold nextR
          rw [List.foldl_cons]
          refine Nat.lt_of_lt_of_le ?_ (fold r _)
          have := hr.one
          cases ss with
          | nil => simp at this
          | cons s tt => exact Nat.lt_of_lt_of_le (one [] (p.1 + s) p.2) (grow tt _ p.1 p.2)
    simpa [keysR] using key n
  have few : (keysR (iterR ss n)).length < 1000000 := by
    have := (InR.iter hr.rng n).few (by omega) (by omega)
    simpa [keysR, LIM] using this
  obtain ⟨x, m2, w2, hx, _, q2⟩ := c_of m1 w1 (keysR (iterR ss n)) ne few
  obtain ⟨m3, z1, w3, b1⟩ := told_b1 ss n k hr hn j nw hj m2 w2 t (0 - k) none
  obtain ⟨m4, z2, w4, b2⟩ := told_b1 ss n k hr hn j nw hj m3 w3 t d z1
  obtain ⟨m5, z3, w5, b3⟩ := told_b1 ss n k hr hn j nw hj m4 w4 t x z2
  refine ⟨m5, some (.int x), z3, w5, ?_⟩
  have ht := tot_at ss n j nw hj m1
  have l3 : 3 ≤ LIM := by decide
  have hd : dlistD (.ref (1 + j)) = fun (_ : Nv) st => match dctOf st (.ref (1 + j)) with | some kvs => .ok (.lst (kvs.map fun kv => kD kv.1)) st | none => .stuck := rfl
  unfold m_u_law_is_told_s4
  rw [ap_for]
  have hw : xwalk (xtup (xcons (xop subD (xpure (.int 0)) (xvar 3)) (xcons (xfn 2 (D_u_law_take) (xcons (xvar 0) (xcons (xpure (.int 12)) (xpure [])))) (xcons (xfn 2 (D_u_law_of) (xcons (xvar 0) (xcons (xcall (f1 dlistD) (xcons (xvar 4) (xpure []))) (xpure [])))) (xpure [])))))
      (VI ss n k j (some (.int t)) none none none) (m :: nw) = .ok ([.int (0 - k), .int d, .int x], none) (m2 :: nw) := by
    simp [q1, hd, ht, keys_list, q2, l3]
  rw [hw]
  simp only
  rw [sloop_cons rfl (by simp) b1, sloop_cons rfl (by simp) b2, sloop_cons rfl (by simp) b3]
  simp [sloop]
include hr hn k0 k1 in
theorem told_s5 (m : MO) (y z : Option D) : m_u_law_is_told_s5 (VI ss n k j (some (.int (hsR ss k n))) none y z) (m :: nw) = .nx (VI ss n k j (some (.int (hsR ss k n))) none y z) (m :: nw) := by
  have ch := fun e st => c_total (e := e) (st := st) ss hr n hn (-k)
  obtain ⟨_, e2⟩ := hit_hs hr.rng k0 n
  have mc1 : mulC (hsR ss k n) (n : Int) = true := by simp [mulC]; omega
  have mc2 : ∀ x : Int, mulC k x = true := fun x => by simp [mulC]; omega
  have e3 : hsR ss k n * (n : Int) = k * cntR ss n (-k) := by rw [Int.mul_comm, e2]
  unfold m_u_law_is_told_s5
  refine (sif_f ?_).trans (ap_next ..)
  simp [ch, mc1, mc2, e3]
include hr hn k0 k1 in
theorem told_end (m : MO) (y z : Option D) : sseq m_u_law_is_told_s6 m_u_law_is_told_s7 (VI ss n k j (some (.int (hsR ss k n))) none y z) (m :: nw) = .rt (.bl true) (m :: nw) := by
  obtain ⟨e1, _⟩ := hit_hs hr.rng k0 n
  have l2 : 2 ≤ LIM := by decide
  have eqt : ∀ st, eqO st (.tup (iD ss)) (.tup [.int (0 - 1), .int 1]) = some (decide (ss = [0 - 1, 1])) := fun st => eqO_tiD st ss [0 - 1, 1]
  by_cases h : ss = [0 - 1, 1]
  · refine seq_rt ?_
    unfold m_u_law_is_told_s6
    refine (sif_t (st' := m :: nw) ?_).trans (ret_ok ?_)
    · have := eqt (m :: nw)
      simp at this
      simp [l2, this]
      simpa using h
    · obtain ⟨b1, b2⟩ := both_end hn k0 k1
      have cf := fun e st => c_first (e := e) (st := st) (n : Int) k (by omega) (by omega) k0 (by omega)
      have ce := fun e st => c_ending (e := e) (st := st) (n : Int) k (by omega) (by omega)
      have ch := fun e st => c_total (e := e) (st := st) ss hr n hn (-k)
      have h1 : hsR ss k n = if (0 : Int) < n then k * endI n k / n else 0 := by rw [← e1, h]; exact b2
      have h2 : cntR ss n (-k) = endI n k := by rw [h]; exact b1
      refine (and_t (st' := m :: nw) ?_).trans ?_
      · simp only [ap_op, ap_bind, ap_var, List.getElem?_cons_succ, List.getElem?_cons_zero, ap_fn, ap_cons, ap_pure, List.length_cons, List.length_nil, Nat.zero_add, Nat.reduceAdd, if_true, cf, h1, eq_ap, eqO_int, decide_true]
      · simp [ch, ce, h2]
  · have g6 : m_u_law_is_told_s6 (VI ss n k j (some (.int (hsR ss k n))) none y z) (m :: nw) = .nx (VI ss n k j (some (.int (hsR ss k n))) none y z) (m :: nw) := by
      unfold m_u_law_is_told_s6
      refine (sif_f (st' := m :: nw) ?_).trans (ap_next ..)
      have := eqt (m :: nw)
      simp at this
      simp at h
      simp [l2, this, h]
    rw [seq_nx g6]
    unfold m_u_law_is_told_s7
    refine ret_ok ?_
    by_cases hd : -1 ∈ ss
    · exact or_t (st' := m :: nw) (by simp [hd])
    · have h0 := no_down hr.rng hd k0 n
      exact (or_f (st' := m :: nw) (by simp [hd])).trans (by simp [h0])
end
theorem c_told (m : MO) (hm : Wl m) (ss : List Int) (n : Nat) (k : Int) (hr : Stp ss) (hn : n ≤ 30) (k0 : 1 ≤ k) (k1 : k ≤ 9) : ∃ m', Wl m' ∧ ∀ (e : Nv) (r : Store), callD D_u_law_is_told [.ref 0, .tup (iD ss), .int (n : Int), .int k] e (m :: r) = .ok (.bl true) (m' :: r) := by
  obtain ⟨j, nw, hj, qc⟩ := c_counts ss hr.rng n hn k
  obtain ⟨m1, w1, q2⟩ := told_s2 ss n k hr hn k0 k1 j nw m hm
  obtain ⟨e1, _⟩ := hit_hs hr.rng k0 n
  rw [e1] at q2
  obtain ⟨m2, y, z, w2, q4⟩ := told_s4 ss n k hr hn j nw hj m1 w1 (hsR ss k n)
  have q1 : m_u_law_is_told_s1 [some (.ref 0), some (.tup (iD ss)), some (.int (n : Int)), some (.int k), none, none, none, none, none] [m] = .nx (VI ss n k j none none none none) (m :: nw) := by
    simp [m_u_law_is_told_s1, qc]
  have q3 : m_u_law_is_told_s3 (VI ss n k j (some (.int (hsR ss k n))) none none none) (m1 :: nw) = .nx (VI ss n k j (some (.int (hsR ss k n))) none none none) (m1 :: nw) := by
    have hs := fun e st => c_same_int (e := e) (st := st) (hsR ss k n)
    unfold m_u_law_is_told_s3
    exact (sif_f (tnot_ok (b := true) (tru_ok (by simp [hs])))).trans (ap_next ..)
  have q5 := told_s5 ss n k hr hn k0 k1 j nw m2 y z
  have q6 := told_end ss n k hr hn k0 k1 j nw m2 y z
  refine ⟨m2, w2, fun e r => ?_⟩
  refine callD1 (i := 0) rfl (by simp [argG, refsB]) rfl hm.mo (runF_w (st := nw) ?_ w2 rfl) w2.mo rfl
  show m_u_law_is_told [some (.ref 0), some (.tup (iD ss)), some (.int (n : Int)), some (.int k), none, none, none, none, none] [m] = _
  unfold m_u_law_is_told
  rw [seq_nx q1, seq_nx q2, seq_nx q3, seq_nx q4, seq_nx q5]
  exact q6
end LS
end
section
set_option maxRecDepth 100000
set_option maxHeartbeats 8000000
namespace LS
open PySem PySem.Spec L2
variable {e : Nv} {st : Store}
theorem stp_both : Stp [0 - 1, 1] := ⟨by decide, by decide, by decide, by decide⟩
/-- one turn -/
theorem turn_ok (m : MO) (hm : Wl m) (t : Nat) (x2 : Option D) : ∃ (y2 : Option D) (m' : MO), Wl m' ∧ m_u_law_right_b1 [some (.ref 0), some (.int (0 + (t : Int))), x2] [m] = .nx [some (.ref 0), some (.int (0 + (t : Int))), y2] [m'] := by
  have l2 : 2 ≤ LIM := by decide
  have l3 : 3 ≤ LIM := by decide
  have hi : ∃ (ss : List Int) (m1 : MO), Wl m1 ∧ Stp ss ∧ (xif (xbool (xop eqD (xop modD (xcall (f1 intD) (xcons (xvar 1) (xpure []))) (xpure (.int 5))) (xpure (.int 4)))) (xtup (xcons (xop subD (xpure (.int 0)) (xpure (.int 1))) (xcons (xpure (.int 1)) (xpure [])))) (xfn 1 (D_u_law_steps) (xcons (xvar 0) (xpure [])))) [some (.ref 0), some (.int (0 + (t : Int))), x2] [m] = .ok (.tup (iD ss)) [m1] := by
    by_cases h : (t : Int) % 5 = 4
    · exact ⟨[0 - 1, 1], m, hm, stp_both, by simp [h, l2]⟩
    · obtain ⟨ss, m1, w1, hs, q⟩ := c_steps m hm
      exact ⟨ss, m1, w1, hs, by simp [h, q]⟩
  obtain ⟨ss, m1, w1, hs, q⟩ := hi
  obtain ⟨k, m2, w2, hk, q2, _⟩ := c_of m1 w1 [6, 10, 31] (by decide) (by decide)
  have hk' : k = 6 ∨ k = 10 ∨ k = 31 := by simpa using hk
  obtain ⟨n, m3, w3, n0, n1, q3⟩ := c_take m2 w2 k (by omega) (by omega)
  obtain ⟨k4, m4, w4, hk4, q4, _⟩ := c_of m3 w3 [3, 9] (by decide) (by decide)
  have hk4' : k4 = 3 ∨ k4 = 9 := by simpa using hk4
  obtain ⟨d, m5, w5, d0, d1, q5⟩ := c_take m4 w4 k4 (by omega) (by omega)
  obtain ⟨m6, w6, q6⟩ := c_told m5 w5 ss n.toNat (1 + d) hs (by omega) (by omega) (by omega)
  rw [Int.toNat_of_nonneg n0] at q6
  simp at q2 q4
  refine ⟨some (.tup (iD ss)), m6, w6, ?_⟩
  unfold m_u_law_right_b1
  rw [seq_nx (set_ok q)]
  exact (sif_f (st' := [m6]) (tnot_ok (b := true) (tru_ok (by simp [l2, l3, q2, q3, q4, q5, q6])))).trans (ap_next ..)
theorem c_right (m : MO) (hm : Wl m) : ∃ m', Wl m' ∧ D_u_law_right [m] [.ref 0] = .ok (.bl true) [m'] := by
  obtain ⟨e', st', q, ⟨y, m', ee, es, w⟩⟩ := sloop_inv (src := none) (items := rangeL 0 16) (gt := gname 1) (body := m_u_law_right_b1) (fun e st => ∃ (y : Option D × Option D) (m : MO), e = [some (.ref 0), y.1, y.2] ∧ st = [m] ∧ Wl m) (fun _ _ _ => rfl) (rangeL 0 16) (by
    rintro x hx e st ⟨y, m, rfl, rfl, w⟩
    obtain ⟨i, hi, rfl⟩ := mem_rangeL hx
    obtain ⟨y2, m', w', q⟩ := turn_ok m w i y.2
    exact ⟨_, _, rfl, _, _, .inl q, ⟨_, y2⟩, m', rfl, rfl, w'⟩) [some (.ref 0), none, none] [m] ⟨(none, none), m, rfl, rfl, hm⟩
  subst ee es
  refine ⟨m', w, runF_w (st := []) ?_ w rfl⟩
  have rg : rngB 16 = true := by decide
  have g1 : sfor (xrange1 (xpure (.int 16))) (gname 1) m_u_law_right_b1 [some (.ref 0), none, none] [m] = .nx [some (.ref 0), y.1, y.2] [m'] := by
    have e16 : (Int.toNat 16) = 16 := rfl
    simp [rg, e16, q]
  have s5 : Stp [5] := ⟨by decide, by decide, by decide, by decide⟩
  have s1 : Stp [0 - 1] := ⟨by decide, by decide, by decide, by decide⟩
  have a1 := fun e st => c_total (e := e) (st := st) [0 - 1, 1] stp_both 3 (by decide) (0 - 1)
  have a2 := fun e st => c_hits (e := e) (st := st) [0 - 1, 1] stp_both 3 (by decide) 1 (by decide) (by decide)
  have a3 := fun e st => c_total (e := e) (st := st) [5] s5 0 (by decide) 0
  have a4 := fun e st => c_hits (e := e) (st := st) [0 - 1] s1 3 (by decide) 3 (by decide) (by decide)
  have v1 : cntR [0 - 1, 1] 3 (0 - 1) = 3 := by decide +kernel
  have v2 : hitR [0 - 1, 1] 3 1 = 1 := by decide +kernel
  have v3 : cntR [5] 0 0 = 1 := by decide +kernel
  have v4 : hitR [0 - 1] 3 3 = 1 := by decide +kernel
  rw [v1] at a1
  rw [v2] at a2
  rw [v3] at a3
  rw [v4] at a4
  have ok : okD 6 (.lst [.int 3, .int 1, .int 1, .int 1]) = true := by decide
  have hT := same_refl 6 _ ok
  have l1 : 1 ≤ LIM := by decide
  have l2 : 2 ≤ LIM := by decide
  have l4 : 4 ≤ LIM := by decide
  show m_u_law_right [some (.ref 0), none, none] [m] = _
  unfold m_u_law_right
  rw [seq_nx g1]
  refine ret_ok ?_
  simp at a1 a2 a3 a4 hT
  simp [l1, l2, l4, a1, a2, a3, a4, hT]
theorem lap_ok (ns : List Int) (hn : ns.length ≤ 63) (lap : Nat) (x1 : Option D) (st : Store) : ∃ st2, m_law_e1 [some (.sq (iD ns)), some (.int (0 + (lap : Int)))] st = .ok (.bl true) st2 := by
  obtain ⟨m, w, q⟩ := c_well ns (0 + (lap : Int)) (by omega) hn
  obtain ⟨m', w', q'⟩ := c_right m w
  have h1 : ∀ e : Nv, callD D_u_law_right [.ref st.length] e (st ++ [m]) = .ok (.bl true) ((st ++ [m]).set st.length m') := fun e => callD1 (i := st.length) rfl (by simp [argG]) (by simp) w.mo q' w'.mo rfl
  refine ⟨(st ++ [m]).set st.length m', ?_⟩
  unfold m_law_e1
  rw [ap_fn, ap_cons, ap_bind, ap_fn]
  have h2 : (xcons (xvar 0) (xcons (xvar 1) (xpure []))) [some (.sq (iD ns)), some (.int (0 + (lap : Int)))] st = .ok [.sq (iD ns), .int (0 + (lap : Int))] st := by simp
  rw [h2]
  simp only [List.length_cons, List.length_nil, Nat.zero_add, if_true]
  rw [q]
  exact h1 [some (.sq (iD ns)), some (.int (0 + (lap : Int)))]
theorem law_ok (ns : List Int) (hn : ns.length ≤ 63) : D_law [] [.sq (iD ns)] = .ok (.bl true) [] := by
  obtain ⟨n, hn3, en⟩ : ∃ n : Nat, n ≤ 3 ∧ max (2 : Int) (min (ns.length : Int) 3) = (n : Int) := ⟨(max (2 : Int) (min (ns.length : Int) 3)).toNat, by omega, by omega⟩
  obtain ⟨ds, st', q, hl, hp, _⟩ := cloop_inv (src := none) (items := rangeL 0 n) (gt := gname 1) (mt := xpure true) (me := m_law_e1) (e := [some (.sq (iD ns)), none]) (fun _ => True) (fun d => d = .bl true) (fun _ _ => rfl) (rangeL 0 n) [] [] (by
    intro x hx st _
    obtain ⟨i, hi, rfl⟩ := mem_rangeL hx
    obtain ⟨st2, q⟩ := lap_ok ns hn i none st
    exact ⟨_, rfl, rfl, .bl true, st2, q, rfl, trivial⟩) trivial (by simp [rangeL_len, LIM]; omega)
  have hd : ds = List.replicate ds.length (.bl true) := List.eq_replicate_of_mem hp
  refine runF_rt (st' := st') (d := .bl true) ?_ rfl
  show m_law [some (.sq (iD ns)), none] [] = _
  unfold m_law
  refine ret_ok (all_yes (n := ds.length) ?_)
  rw [← hd]
  have rg : rngB (n : Int) = true := rngB_of (by omega) (by omega)
  have h1 : xrange1 (xcall (f2 max2D) (xcons (xpure (.int 2)) (xcons (xcall (f2 min2D) (xcons (xcall (f1 lenD) (xcons (xvar 0) (xpure []))) (xcons (xpure (.int 3)) (xpure [])))) (xpure [])))) [some (.sq (iD ns)), none] [] = .ok (rangeL 0 n, none) [] := by
    simp [en, rg]
  rw [ap_comp, h1]
  simp only [ap_wipe1]
  simp at q
  simp [q]
end LS
end
namespace HD
open PySem PySem.Spec PyProof.Rows L2
def df (x : Str) (i : Nat) : He.DefD := ⟨(x, none), x, x, defArgs (LS.top i), defBody (LS.top i), defScope (LS.top i), [], []⟩
def fn0 : List He.DefD := [df "is_whole" 6, df "is_between" 7, df "check_number" 9, df "check_whole" 10, df "check_from" 11, df "wrong_in_steps" 16, df "next_counts" 17, df "count_total_by" 18, df "count_hits_by" 19, df "check_steps" 22, df "count_total" 23, df "count_hits" 24, df "binomial" 26, df "count_ending_by" 27, df "count_first_by" 28, df "count_ending" 31, df "count_first" 32, df "_law_well" 34, df "_law_take" 35, df "_law_of" 36, df "_law_same" 37, df "_law_steps" 38, df "_law_counts" 39, df "_law_is_told" 40, df "_law_right" 41, df "law" 42]
def fn : List He.DefD := fn0
def fa0 : List He.Fa := [.glo "is_whole", .glo "is_between", .glo "check_number", .glo "check_whole", .glo "check_from", .glo "wrong_in_steps", .glo "next_counts", .glo "count_total_by", .glo "count_hits_by", .glo "check_steps", .glo "count_total", .glo "count_hits", .glo "binomial", .glo "count_ending_by", .glo "count_first_by", .glo "count_ending", .glo "count_first", .glo "_law_well", .glo "_law_take", .glo "_law_of", .glo "_law_same", .glo "_law_steps", .glo "_law_counts", .glo "_law_is_told", .glo "_law_right", .glo "law", .free "abs", .free "all", .free "bool", .free "dict"]
def fa1 : List He.Fa := [.free "divmod", .free "enumerate", .free "int", .free "isinstance", .free "len", .free "list", .free "max", .free "min", .free "range", .free "sorted", .free "str", .free "tuple", .int "MOST_STEPS" (5), .int "LEAST_STEP" (-1), .int "MOST_STEP" (9), .int "MOST_TIMES" (30), .int "MOST_COUNTED" (40)]
def fa : List He.Fa := fa0 ++ fa1
def ls0 : List Str := ["comb", "SumError", "InvalidNumber", "InvalidSteps", "is_whole", "is_between", "check_number", "check_whole", "check_from", "MOST_STEPS", "LEAST_STEP", "MOST_STEP", "wrong_in_steps", "next_counts", "count_total_by", "count_hits_by", "MOST_TIMES", "check_steps", "count_total", "count_hits", "binomial", "count_ending_by", "count_first_by", "MOST_COUNTED", "count_ending", "count_first", "_law_well", "_law_take", "_law_of", "_law_same"]
def ls1 : List Str := ["_law_steps", "_law_counts", "_law_is_told", "_law_right"]
def ls : List Str := ls0 ++ ls1
abbrev R : PySem.W.OpenRow := PySem.W.OpenLaw.row PySem.Challenge.rw_leadsums_k77_whole_first_hits
/-- further facts: any test of the part of the heap -/
def fx : List (PySem.W.Frag → Bool) := [fun K => He.eqO (PySem.W.nsIn K mainGlobals "comb") (some (some (.builtin "math.comb")))]
def hookX (n : Nat) (fa : List He.Fa) (fn : List He.DefD) (fx : List (PySem.W.Frag → Bool)) : PySem.W.Hook where
  α := He.AlD × Bool
  obs := fun s => (He.obsDG n fa fn s.heap.get?, fx.all fun f => f (He.frG s.heap.get? (He.asD s.heap.get? n)))
  val := fun _ => (He.valD fn, true)
  says := fun _ h => ∃ K : PySem.W.Frag, K.In h ∧ He.SaysD fa fn K ∧ (fx.all fun f => f K) = true
  of := fun _ _ e => ⟨_, He.frG_in, congrArg (fun z : He.AlD × Bool => z.1) e, congrArg (fun z : He.AlD × Bool => z.2) e⟩
  keeps := fun _ _ _ ⟨K, hK, c, d⟩ k => ⟨K, PySem.W.Frag.In.keeps hK k, c, d⟩
abbrev hk : PySem.W.Hook := hookX 4 fa fn fx
def ob (s : PySem.W.SharedT) : He.AlD × Bool := (He.obsDG 4 fa fn (HandSHeadRun.getT s), fx.all fun f => f (He.frG (HandSHeadRun.getT s) (He.asD (HandSHeadRun.getT s) 4)))
theorem ob_eq (s : PySem.W.SharedT) : ob s = hk.obs s.abs := by
  have e : HandSHeadRun.getT s = s.abs.heap.get? := funext (HandSHeadRun.getT_eq s)
  unfold ob
  rw [e] <;> rfl
theorem run (w : World) : HandSHeadRun.RunEqI R (PySem.W.view R.prog [0, 42]) hk ob 4000 ls w := by
  show _ = _
  kernel_rfl
theorem facts {P : Program} {w : World} {K : PySem.W.Frag} {h : Heap} {mg : Str → Option Value} (X : K.In h) (G : h.Ns mainGlobals mg) (c : He.SaysD fa fn K) (cx : (fx.all fun f => f K) = true) (base : Heap) : LS.GF ⟨P, w, K, mg, base⟩ where
    b_abs := He.free_ok X G (c.fact 26 (f := .free "abs") rfl)
    b_all := He.free_ok X G (c.fact 27 (f := .free "all") rfl)
    b_bool := He.free_ok X G (c.fact 28 (f := .free "bool") rfl)
    b_dict := He.free_ok X G (c.fact 29 (f := .free "dict") rfl)
    b_divmod := He.free_ok X G (c.fact 30 (f := .free "divmod") rfl)
    b_enumerate := He.free_ok X G (c.fact 31 (f := .free "enumerate") rfl)
    b_int := He.free_ok X G (c.fact 32 (f := .free "int") rfl)
    b_isinstance := He.free_ok X G (c.fact 33 (f := .free "isinstance") rfl)
    b_len := He.free_ok X G (c.fact 34 (f := .free "len") rfl)
    b_list := He.free_ok X G (c.fact 35 (f := .free "list") rfl)
    b_max := He.free_ok X G (c.fact 36 (f := .free "max") rfl)
    b_min := He.free_ok X G (c.fact 37 (f := .free "min") rfl)
    b_range := He.free_ok X G (c.fact 38 (f := .free "range") rfl)
    b_sorted := He.free_ok X G (c.fact 39 (f := .free "sorted") rfl)
    b_str := He.free_ok X G (c.fact 40 (f := .free "str") rfl)
    b_tuple := He.free_ok X G (c.fact 41 (f := .free "tuple") rfl)
    c_LEAST_STEP := He.int_ok X G (c.fact 43 (f := .int "LEAST_STEP" (-1)) rfl)
    c_MOST_COUNTED := He.int_ok X G (c.fact 46 (f := .int "MOST_COUNTED" (40)) rfl)
    c_MOST_STEP := He.int_ok X G (c.fact 44 (f := .int "MOST_STEP" (9)) rfl)
    c_MOST_STEPS := He.int_ok X G (c.fact 42 (f := .int "MOST_STEPS" (5)) rfl)
    c_MOST_TIMES := He.int_ok X G (c.fact 45 (f := .int "MOST_TIMES" (30)) rfl)
    v_comb := PySem.W.mg_of X G (He.eqO_ok (List.all_eq_true.mp cx _ (List.mem_of_getElem? (show fx[0]? = some _ from rfl))))
    d_u_law_take := let ⟨fd, F⟩ := c.def_ 18 (d := df "_law_take" 35) rfl; ⟨_, fd, He.glo_ok X G (c.fact 18 (f := .glo "_law_take") rfl), F⟩
    d_u_law_of := let ⟨fd, F⟩ := c.def_ 19 (d := df "_law_of" 36) rfl; ⟨_, fd, He.glo_ok X G (c.fact 19 (f := .glo "_law_of") rfl), F⟩
    d_u_law_steps := let ⟨fd, F⟩ := c.def_ 21 (d := df "_law_steps" 38) rfl; ⟨_, fd, He.glo_ok X G (c.fact 21 (f := .glo "_law_steps") rfl), F⟩
    d_u_law_counts := let ⟨fd, F⟩ := c.def_ 22 (d := df "_law_counts" 39) rfl; ⟨_, fd, He.glo_ok X G (c.fact 22 (f := .glo "_law_counts") rfl), F⟩
    d_is_whole := let ⟨fd, F⟩ := c.def_ 0 (d := df "is_whole" 6) rfl; ⟨_, fd, He.glo_ok X G (c.fact 0 (f := .glo "is_whole") rfl), F⟩
    d_is_between := let ⟨fd, F⟩ := c.def_ 1 (d := df "is_between" 7) rfl; ⟨_, fd, He.glo_ok X G (c.fact 1 (f := .glo "is_between") rfl), F⟩
    d_wrong_in_steps := let ⟨fd, F⟩ := c.def_ 5 (d := df "wrong_in_steps" 16) rfl; ⟨_, fd, He.glo_ok X G (c.fact 5 (f := .glo "wrong_in_steps") rfl), F⟩
    d_check_number := let ⟨fd, F⟩ := c.def_ 2 (d := df "check_number" 9) rfl; ⟨_, fd, He.glo_ok X G (c.fact 2 (f := .glo "check_number") rfl), F⟩
    d_check_steps := let ⟨fd, F⟩ := c.def_ 9 (d := df "check_steps" 22) rfl; ⟨_, fd, He.glo_ok X G (c.fact 9 (f := .glo "check_steps") rfl), F⟩
    d_check_from := let ⟨fd, F⟩ := c.def_ 4 (d := df "check_from" 11) rfl; ⟨_, fd, He.glo_ok X G (c.fact 4 (f := .glo "check_from") rfl), F⟩
    d_next_counts := let ⟨fd, F⟩ := c.def_ 6 (d := df "next_counts" 17) rfl; ⟨_, fd, He.glo_ok X G (c.fact 6 (f := .glo "next_counts") rfl), F⟩
    d_count_total_by := let ⟨fd, F⟩ := c.def_ 7 (d := df "count_total_by" 18) rfl; ⟨_, fd, He.glo_ok X G (c.fact 7 (f := .glo "count_total_by") rfl), F⟩
    d_count_hits_by := let ⟨fd, F⟩ := c.def_ 8 (d := df "count_hits_by" 19) rfl; ⟨_, fd, He.glo_ok X G (c.fact 8 (f := .glo "count_hits_by") rfl), F⟩
    d_count_hits := let ⟨fd, F⟩ := c.def_ 11 (d := df "count_hits" 24) rfl; ⟨_, fd, He.glo_ok X G (c.fact 11 (f := .glo "count_hits") rfl), F⟩
    d_u_law_same := let ⟨fd, F⟩ := c.def_ 20 (d := df "_law_same" 37) rfl; ⟨_, fd, He.glo_ok X G (c.fact 20 (f := .glo "_law_same") rfl), F⟩
    d_check_whole := let ⟨fd, F⟩ := c.def_ 3 (d := df "check_whole" 10) rfl; ⟨_, fd, He.glo_ok X G (c.fact 3 (f := .glo "check_whole") rfl), F⟩
    d_count_total := let ⟨fd, F⟩ := c.def_ 10 (d := df "count_total" 23) rfl; ⟨_, fd, He.glo_ok X G (c.fact 10 (f := .glo "count_total") rfl), F⟩
    d_binomial := let ⟨fd, F⟩ := c.def_ 12 (d := df "binomial" 26) rfl; ⟨_, fd, He.glo_ok X G (c.fact 12 (f := .glo "binomial") rfl), F⟩
    d_count_ending_by := let ⟨fd, F⟩ := c.def_ 13 (d := df "count_ending_by" 27) rfl; ⟨_, fd, He.glo_ok X G (c.fact 13 (f := .glo "count_ending_by") rfl), F⟩
    d_count_first_by := let ⟨fd, F⟩ := c.def_ 14 (d := df "count_first_by" 28) rfl; ⟨_, fd, He.glo_ok X G (c.fact 14 (f := .glo "count_first_by") rfl), F⟩
    d_count_first := let ⟨fd, F⟩ := c.def_ 16 (d := df "count_first" 32) rfl; ⟨_, fd, He.glo_ok X G (c.fact 16 (f := .glo "count_first") rfl), F⟩
    d_count_ending := let ⟨fd, F⟩ := c.def_ 15 (d := df "count_ending" 31) rfl; ⟨_, fd, He.glo_ok X G (c.fact 15 (f := .glo "count_ending") rfl), F⟩
    d_u_law_is_told := let ⟨fd, F⟩ := c.def_ 23 (d := df "_law_is_told" 40) rfl; ⟨_, fd, He.glo_ok X G (c.fact 23 (f := .glo "_law_is_told") rfl), F⟩
    d_u_law_right := let ⟨fd, F⟩ := c.def_ 24 (d := df "_law_right" 41) rfl; ⟨_, fd, He.glo_ok X G (c.fact 24 (f := .glo "_law_right") rfl), F⟩
    d_u_law_well := let ⟨fd, F⟩ := c.def_ 17 (d := df "_law_well" 34) rfl; ⟨_, fd, He.glo_ok X G (c.fact 17 (f := .glo "_law_well") rfl), F⟩
    d_law := let ⟨fd, F⟩ := c.def_ 25 (d := df "law" 42) rfl; ⟨_, fd, He.glo_ok X G (c.fact 25 (f := .glo "law") rfl), F⟩
theorem facts_law {P : Program} {w : World} {K : PySem.W.Frag} {h : Heap} {mg : Str → Option Value} {fl : Addr} (X : K.In h) (G : h.Ns mainGlobals mg) (hfa : mg ("law" : Str) = some (.ref fl)) (c : He.SaysD fa fn K) (cx : (fx.all fun f => f K) = true) :
    ∃ fd : FuncData, (∀ (s : Shared) (v : Value), BindsTo s fd ⟨[v], []⟩ [("script", v)]) ∧ ∀ base : Heap, K.In base → base.Ns mainGlobals mg → FnOk P w K mg base (L2.CX P w) 15 fl fd ["script"] (LS.spS ⟨P, w, K, mg, base⟩ 1 LS.D_law) := by
  obtain ⟨fd, F⟩ := c.def_ 25 (d := df "law" 42) rfl
  have e := hfa.symm.trans (He.glo_ok X G (c.fact 25 (f := .glo "law") rfl))
  cases e
  have b := FunD.bindsA (ps := ["script"]) F fun _ _ _ _ _ _ us hl => match us, hl with | [_], _ => rfl
  exact ⟨fd, fun s v => b s [v] rfl, fun base _ _ => LS.ok_law (facts X G c cx base) F⟩
end HD

theorem PySem.Challenge.cw_leadsums_k77_whole_first_hits_holds : PySem.Challenge.rw_leadsums_k77_whole_first_hits.Holds := by
  w_on; o_law
  refine HandSHeadRun.head_imp (r := PySem.W.OpenLaw.row PySem.Challenge.rw_leadsums_k77_whole_first_hits) (q := PySem.W.view (PySem.W.OpenLaw.row PySem.Challenge.rw_leadsums_k77_whole_first_hits).prog [0, 42]) (H := HD.hk) (ob := HD.ob) (M := 4000) (loose := HD.ls) (d := HandSHeadRun.topDef (PySem.W.OpenLaw.row PySem.Challenge.rw_leadsums_k77_whole_first_hits).prog 42) (kwd := []) HD.ob_eq
    HD.run (by kernel_rfl) (by kernel_rfl) (by kernel_rfl) (by rfl) (by first | assumption | decide +kernel) (by decide +kernel) ⟨rfl, rfl, rfl, rfl, rfl, by decide +kernel⟩ ?hw ?hc
  case hw => w_witness2
  case hc =>
    refine LS.walk_w (l := PySem.Challenge.rw_leadsums_k77_whole_first_hits) (n := 63) (k := 15) (x := "script") rfl (by decide) (by kernel_rfl) ⟨rfl, by decide, by decide⟩ ?_
    intro w mg fa h Y G hmg0
    obtain ⟨K, KX, c, cx⟩ := Y
    have hmg : mg ("law" : PySem.Str) = some (.ref fa) := by
      have e : (HandSHeadRun.topDef (PySem.W.OpenLaw.row PySem.Challenge.rw_leadsums_k77_whole_first_hits).prog 42).name = ("law" : PySem.Str) := by kernel_rfl
      rw [← e]
      exact hmg0
    obtain ⟨fd, hb, hF⟩ := HD.facts_law (P := (PySem.Challenge.rw_leadsums_k77_whole_first_hits).prog) (w := w) KX G hmg c cx
    exact ⟨K, fd, LS.D_law, KX, hb, LS.law_ok, hF⟩
