import PyProof.Rows.All
import Wide.All
import OpenK.AllK
import Wide.FinOn
import HandS.ForExc
import HandS.Comp
import HandS.Flow
import HandS.IsInst
import HandS.Deep
import HandS.TupAny
import HandS.Wide
import HandS.SetKeys
import HandS.Sort
import HandS.Defaults
import HandS.Zip
import KE.GoesNew
import HandS.Style
import HandS.HeadEnd
import KE.KStateDown
import Lean
import HandS.Base
import HandS.Call
import HandS.Ends
import HandS.More
import HandS.Words
import HandS.WordsExc
import HandS.Head0
import HandS.Head1
import HandS.Head2
import HandS.HeadHook1
import HandS.HeadHook2
import PySem.Challenge.RW_leadsums_k75_whole_tubs_that_spill
set_option Elab.async false
set_option linter.all false
set_option maxRecDepth 100000
set_option maxHeartbeats 0
section
set_option maxRecDepth 100000
set_option maxHeartbeats 2000000
namespace LS
open PySem PySem.Spec PyProof.Rows L2

/-! ## data, stores, outcomes -/
/-- values as data: scalars, names of the top, tuples and lists that stand still, the i-th moving object -/
inductive D where
  | non | bl (b : Bool) | int (i : Int) | str (s : Str) | ty (n : String) | glo (x : Str)
  | tup (xs : List D) | lst (xs : List D) | sq (xs : List D) | ref (i : Nat)
/-- moving objects -/
inductive MO where
  | lst (xs : List D)
abbrev Store := List MO
abbrev Nv := List (Option D)
abbrev Pay := Option (Str × D)
/-- an expression's outcome -/
inductive RX (α : Type) where
  | ok (a : α) (st : Store) | exc (c : Str) (p : Pay) (st : Store) | stuck
/-- a statement's outcome -/
inductive RS where
  | nx (e : Nv) (st : Store) | rt (d : D) (st : Store) | bk (e : Nv) (st : Store) | ct (e : Nv) (st : Store) | exc (c : Str) (p : Pay) (e : Nv) (st : Store) | stuck
abbrev XM (α : Type) := Nv → Store → RX α
abbrev SM := Nv → Store → RS
@[reducible] def xpure {α : Type} (a : α) : XM α := fun _ st => .ok a st
def xbind {α β : Type} (m : XM α) (f : α → XM β) : XM β := fun e st => match m e st with
  | .ok a st' => f a e st'
  | .exc c p st' => .exc c p st'
  | .stuck => .stuck
/-- a value's operation that changes nothing -/
def xopt {α : Type} (o : Option α) : XM α := fun _ st => match o with
  | some a => .ok a st
  | none => .stuck

/-! ## what stands for what -/
section
variable (K : PySem.W.Frag) (mg : Str → Option Value)
mutual
inductive Rp (G : Hp) (as : List Addr) : V → D → Prop
  | non : Rp G as .non .non
  | bl (b : Bool) : Rp G as (.bl b) (.bl b)
  | int (i : Int) : Rp G as (.int i) (.int i)
  | str (x : Str) : Rp G as (.str x) (.str x)
  | ty (n : String) : Rp G as (.ty n) (.ty n)
  | glo (x : Str) (a : Addr) : mg x = some (.ref a) → Rp G as (.ref a) (.glo x)
  | tup {a : Addr} {vs : List V} {ds : List D} : SqT K G a vs → RpA G as vs ds → Rp G as (.ref a) (.tup ds)
  | lst {a : Addr} {vs : List V} {ds : List D} : G a = some (.lst vs) → RpA G as vs ds → Rp G as (.ref a) (.lst ds)
  | sq {a : Addr} {vs : List V} {ds : List D} : SqL K G a vs → RpA G as vs ds → Rp G as (.ref a) (.sq ds)
  | ref {a : Addr} {i : Nat} : as[i]? = some a → Rp G as (.ref a) (.ref i)
inductive RpA (G : Hp) (as : List Addr) : List V → List D → Prop
  | nil : RpA G as [] []
  | cons {v : V} {vs : List V} {d : D} {ds : List D} : Rp G as v d → RpA G as vs ds → RpA G as (v :: vs) (d :: ds)
end
/-- a moving object -/
inductive Ro (G : Hp) (as : List Addr) : HO → MO → Prop
  | lst {vs : List V} {ds : List D} : RpA K mg G as vs ds → Ro G as (.lst vs) (.lst ds)
/-- the store -/
structure Ri (G H : Hp) (as : List Addr) (st : Store) : Prop where
  sub : ∀ a o, G a = some o → H a = some o
  len : as.length = st.length
  nd : as.Nodup
  out : ∀ a ∈ as, G a = none
  obj : ∀ (i : Nat) a o, as[i]? = some a → st[i]? = some o → ∃ ho, H a = some ho ∧ Ro K mg G as ho o
/-- the names -/
structure Rn (G : Hp) (as : List Addr) (σ : L2.St) (e : Nv) : Prop where
  len : σ.length = e.length
  at_ : ∀ (i : Nat) x, e[i]? = some (some x) → ∃ v, σ[i]? = some (some v) ∧ Rp K mg G as v x
end
/-- what comes later -/
structure Ext (G H : Hp) (as : List Addr) (G' H' : Hp) (as' : List Addr) : Prop where
  sub : ∀ a o, G a = some o → G' a = some o
  pre : as <+: as'
  keep : ∀ a o, H a = some o → a ∉ as → H' a = some o
  frG : ∀ a, G a = none → H a ≠ none → G' a = none
  frA : ∀ a ∈ as', a ∉ as → H a = none
  dom : ∀ a, H a ≠ none → H' a ≠ none

section
variable {K : PySem.W.Frag} {mg : Str → Option Value} {G H G' H' G1 H1 : Hp} {as as' as1 : List Addr} {σ : L2.St} {e : Nv} {st st' : Store}
theorem Ext.refl : Ext G H as G H as := ⟨fun _ _ h => h, List.prefix_refl _, fun _ _ h _ => h, fun _ h _ => h, fun a h h' => absurd h h', fun _ h => h⟩
theorem Ext.trans (a : Ext G H as G1 H1 as1) (b : Ext G1 H1 as1 G' H' as') : Ext G H as G' H' as' where
  sub := fun x o h => b.sub x o (a.sub x o h)
  pre := a.pre.trans b.pre
  keep := fun x o h n => by
    refine b.keep x o (a.keep x o h n) fun m => ?_
    have := a.frA x m n
    rw [h] at this; cases this
  frG := fun x g h => b.frG x (a.frG x g h) (a.dom x h)
  frA := fun x m n => by
    by_cases q : x ∈ as1
    · exact a.frA x q n
    · have h1 := b.frA x m q
      cases h : H x with
      | none => rfl
      | some o => exact absurd h1 (a.dom x (by rw [h]; exact fun z => nomatch z))
  dom := fun x h => b.dom x (a.dom x h)
theorem sqL_sub (h : ∀ a o, G a = some o → G' a = some o) {a : Addr} {vs : List V} (s : SqL K G a vs) : SqL K G' a vs := by
  rcases s with (s | ⟨o, s⟩) | s
  · exact .inl (.inl (h _ _ s))
  · exact .inl (.inr ⟨o, h _ _ s⟩)
  · exact .inr s
theorem sqT_sub (h : ∀ a o, G a = some o → G' a = some o) {a : Addr} {vs : List V} (s : SqT K G a vs) : SqT K G' a vs := by
  rcases s with (s | ⟨o, s⟩) | s
  · exact .inl (.inl (h _ _ s))
  · exact .inl (.inr ⟨o, h _ _ s⟩)
  · exact .inr s
theorem pre_get {α : Type} {as as' : List α} (h : as <+: as') {i : Nat} {a : α} (q : as[i]? = some a) : as'[i]? = some a := by
  obtain ⟨t, rfl⟩ := h
  rw [List.getElem?_append_left (List.getElem?_eq_some_iff.mp q).1]
  exact q
mutual
theorem Rp.mono (hs : ∀ a o, G a = some o → G' a = some o) (hp : as <+: as') : ∀ {d : D} {v : V}, Rp K mg G as v d → Rp K mg G' as' v d
  | .non, _, h => by cases h; exact .non
  | .bl _, _, h => by cases h; exact .bl _
  | .int _, _, h => by cases h; exact .int _
  | .str _, _, h => by cases h; exact .str _
  | .ty _, _, h => by cases h; exact .ty _
  | .glo _, _, h => by cases h; rename_i a q; exact .glo _ _ q
  | .tup ds, _, h => by cases h with | tup s r => exact .tup (sqT_sub hs s) (RpA.mono hs hp r)
  | .lst ds, _, h => by cases h with | lst s r => exact .lst (hs _ _ s) (RpA.mono hs hp r)
  | .sq ds, _, h => by cases h with | sq s r => exact .sq (sqL_sub hs s) (RpA.mono hs hp r)
  | .ref i, _, h => by cases h with | ref q => exact .ref (pre_get hp q)
theorem RpA.mono (hs : ∀ a o, G a = some o → G' a = some o) (hp : as <+: as') : ∀ {ds : List D} {vs : List V}, RpA K mg G as vs ds → RpA K mg G' as' vs ds
  | [], _, h => by cases h; exact .nil
  | d :: ds, _, h => by cases h with | cons a b => exact .cons (Rp.mono hs hp a) (RpA.mono hs hp b)
end
theorem Rp.ext (x : Ext G H as G' H' as') {d : D} {v : V} (h : Rp K mg G as v d) : Rp K mg G' as' v d := h.mono x.sub x.pre
theorem RpA.ext (x : Ext G H as G' H' as') {d : List D} {v : List V} (h : RpA K mg G as v d) : RpA K mg G' as' v d := h.mono x.sub x.pre
theorem Rn.ext (x : Ext G H as G' H' as') (h : Rn K mg G as σ e) : Rn K mg G' as' σ e :=
  ⟨h.len, fun i d q => let ⟨v, a, r⟩ := h.at_ i d q; ⟨v, a, r.ext x⟩⟩
theorem Ro.ext (x : Ext G H as G' H' as') {ho : HO} {o : MO} (h : Ro K mg G as ho o) : Ro K mg G' as' ho o := by
  cases h with | lst r => exact .lst (r.ext x)
theorem RpA.len : ∀ {vs : List V} {ds : List D}, RpA K mg G as vs ds → vs.length = ds.length
  | _, _, .nil => rfl
  | _, _, .cons _ t => congrArg (· + 1) t.len
theorem RpA.get : ∀ {vs : List V} {ds : List D} {i : Nat} {d : D}, RpA K mg G as vs ds → ds[i]? = some d → ∃ v, vs[i]? = some v ∧ Rp K mg G as v d
  | _, _, _, _, .nil, h => by simp at h
  | _, _, 0, _, .cons r _, h => by simp at h; subst h; exact ⟨_, rfl, r⟩
  | _, _, i + 1, _, .cons _ t, h => by
    obtain ⟨v, a, b⟩ := t.get (i := i) (by simpa using h)
    exact ⟨v, by simpa using a, b⟩
theorem RpA.getV : ∀ {vs : List V} {ds : List D} {i : Nat} {v : V}, RpA K mg G as vs ds → vs[i]? = some v → ∃ d, ds[i]? = some d ∧ Rp K mg G as v d
  | _, _, _, _, .nil, h => by simp at h
  | _, _, 0, _, .cons r _, h => by simp at h; subst h; exact ⟨_, rfl, r⟩
  | _, _, i + 1, _, .cons _ t, h => by
    obtain ⟨v, a, b⟩ := t.getV (i := i) (by simpa using h)
    exact ⟨v, by simpa using a, b⟩
theorem RpA.append : ∀ {vs ws : List V} {ds es : List D}, RpA K mg G as vs ds → RpA K mg G as ws es → RpA K mg G as (vs ++ ws) (ds ++ es)
  | _, _, _, _, .nil, h => h
  | _, _, _, _, .cons r t, h => .cons r (t.append h)
theorem RpA.take : ∀ {vs : List V} {ds : List D} (n : Nat), RpA K mg G as vs ds → RpA K mg G as (vs.take n) (ds.take n)
  | _, _, 0, _ => .nil
  | _, _, _ + 1, .nil => .nil
  | _, _, n + 1, .cons r t => .cons r (t.take n)
theorem RpA.drop : ∀ {vs : List V} {ds : List D} (n : Nat), RpA K mg G as vs ds → RpA K mg G as (vs.drop n) (ds.drop n)
  | _, _, 0, h => h
  | _, _, _ + 1, .nil => .nil
  | _, _, n + 1, .cons r t => t.drop n
theorem RpA.set : ∀ {vs : List V} {ds : List D} (n : Nat) {v : V} {d : D}, RpA K mg G as vs ds → Rp K mg G as v d → RpA K mg G as (vs.set n v) (ds.set n d)
  | _, _, _, _, _, .nil, _ => .nil
  | _, _, 0, _, _, .cons _ t, q => .cons q t
  | _, _, n + 1, _, _, .cons r t, q => .cons r (t.set n q)
theorem RpA.reverse {vs : List V} {ds : List D} (h : RpA K mg G as vs ds) : RpA K mg G as vs.reverse ds.reverse := by
  induction vs generalizing ds with
  | nil => cases h; exact .nil
  | cons v vs ih =>
    cases h with
    | cons r t =>
      rw [List.reverse_cons, List.reverse_cons]
      exact (ih t).append (.cons r .nil)
theorem RpA.ints : ∀ (ns : List Int) {vs : List V}, RpA K mg G as vs (ns.map D.int) → vs = ns.map V.int
  | [], _, h => by cases h; rfl
  | n :: ns, _, h => by
    cases h with
    | cons r t =>
      cases r
      rw [RpA.ints ns t] <;> rfl
theorem RpA.of_ints : ∀ (ns : List Int), RpA K mg G as (ns.map V.int) (ns.map D.int)
  | [] => .nil
  | n :: ns => .cons (.int n) (RpA.of_ints ns)
theorem RpA.bls : ∀ (bs : List Bool) {vs : List V}, RpA K mg G as vs (bs.map D.bl) → vs = bs.map V.bl
  | [], _, h => by cases h; rfl
  | n :: ns, _, h => by
    cases h with
    | cons r t =>
      cases r
      rw [RpA.bls ns t] <;> rfl

/-- a new object that stands still -/
theorem Ri.still {p : Addr} {o : HO} (R : Ri K mg G H as st) (n : H p = none) : Ri K mg (upd G p o) (upd H p o) as st ∧ Ext G H as (upd G p o) (upd H p o) as := by
  have gn : G p = none := by
    cases q : G p with
    | none => rfl
    | some u => rw [R.sub _ _ q] at n; cases n
  have na : ∀ a ∈ as, a ≠ p := fun a ha z => by
    subst z
    obtain ⟨i, hi, e⟩ := List.getElem_of_mem ha
    have hi' : i < st.length := by rw [← R.len]; exact hi
    obtain ⟨ho, q, _⟩ := R.obj i a st[i] (by rw [List.getElem?_eq_getElem hi, e]) (List.getElem?_eq_getElem hi')
    rw [n] at q; cases q
  have x : Ext G H as (upd G p o) (upd H p o) as := by
    refine ⟨fun a u h => ?_, List.prefix_refl _, fun a u h _ => ?_, fun a g h => ?_, fun a h h' => absurd h h', fun a h => ?_⟩
    · rw [upd_ne (ne_of_none h gn)]; exact h
    · rw [upd_ne (ne_of_none h n)]; exact h
    · have : a ≠ p := fun z => by subst z; exact h n
      rw [upd_ne this]; exact g
    · by_cases z : a = p
      · subst z; rw [upd_same]; exact fun z => nomatch z
      · rw [upd_ne z]; exact h
  refine ⟨⟨fun a u h => ?_, R.len, R.nd, fun a ha => ?_, fun i a u ha hu => ?_⟩, x⟩
  · by_cases z : a = p
    · subst z; rw [upd_same] at h ⊢; exact h
    · rw [upd_ne z] at h ⊢; exact R.sub _ _ h
  · rw [upd_ne (na a ha)]; exact R.out a ha
  · obtain ⟨ho, q, r⟩ := R.obj i a u ha hu
    refine ⟨ho, ?_, r.ext x⟩
    rw [upd_ne (na a (List.mem_of_getElem? ha))]; exact q
/-- a new moving object -/
theorem Ri.moving {p : Addr} {o : HO} {m : MO} (R : Ri K mg G H as st) (n : H p = none) (r : Ro K mg G as o m) : Ri K mg G (upd H p o) (as ++ [p]) (st ++ [m]) ∧ Ext G H as G (upd H p o) (as ++ [p]) := by
  have gn : G p = none := by
    cases q : G p with
    | none => rfl
    | some u => rw [R.sub _ _ q] at n; cases n
  have na : ∀ a ∈ as, a ≠ p := fun a ha z => by
    subst z
    obtain ⟨i, hi, e⟩ := List.getElem_of_mem ha
    have hi' : i < st.length := by rw [← R.len]; exact hi
    obtain ⟨ho, q, _⟩ := R.obj i a st[i] (by rw [List.getElem?_eq_getElem hi, e]) (List.getElem?_eq_getElem hi')
    rw [n] at q; cases q
  have x : Ext G H as G (upd H p o) (as ++ [p]) := by
    refine ⟨fun _ _ h => h, List.prefix_append _ _, fun a u h _ => ?_, fun _ g _ => g, fun a h h' => ?_, fun a h => ?_⟩
    · rw [upd_ne (ne_of_none h n)]; exact h
    · rcases List.mem_append.mp h with h | h
      · exact absurd h h'
      · have : a = p := by simpa using h
        subst this; exact n
    · by_cases z : a = p
      · subst z; rw [upd_same]; exact fun z => nomatch z
      · rw [upd_ne z]; exact h
  refine ⟨⟨fun a u h => ?_, by simp [R.len], ?_, fun a ha => ?_, fun i a u ha hu => ?_⟩, x⟩
  · rw [upd_ne (ne_of_none h gn)]; exact R.sub _ _ h
  · rw [List.nodup_append]
    refine ⟨R.nd, by simp, fun a ha b hb => ?_⟩
    have : b = p := by simpa using hb
    rw [this]; exact na a ha
  · rcases List.mem_append.mp ha with ha | ha
    · exact R.out a ha
    · have : a = p := by simpa using ha
      subst this; exact gn
  · by_cases hi : i < as.length
    · rw [List.getElem?_append_left hi] at ha
      rw [List.getElem?_append_left (by rw [← R.len]; exact hi)] at hu
      obtain ⟨ho, q, r⟩ := R.obj i a u ha hu
      refine ⟨ho, ?_, r.ext x⟩
      rw [upd_ne (na a (List.mem_of_getElem? ha))]; exact q
    · rw [List.getElem?_append_right (by omega)] at ha
      rw [List.getElem?_append_right (by rw [← R.len]; omega)] at hu
      have h0 : i - as.length = 0 := by
        have := (List.getElem?_eq_some_iff.mp ha).1
        simp at this; omega
      have h1 : i - st.length = 0 := by rw [← R.len]; exact h0
      rw [h0] at ha; rw [h1] at hu
      simp at ha hu
      subst ha hu
      exact ⟨o, upd_same, r.ext x⟩
/-- a moving object changes -/
theorem Ri.change {i : Nat} {a : Addr} {o : HO} {m : MO} (R : Ri K mg G H as st) (ha : as[i]? = some a) (r : Ro K mg G as o m) : Ri K mg G (upd H a o) as (st.set i m) ∧ Ext G H as G (upd H a o) as := by
  have hm : a ∈ as := List.mem_of_getElem? ha
  have gn := R.out a hm
  refine ⟨⟨fun b u h => ?_, by simp [R.len], R.nd, R.out, fun j b u hb hu => ?_⟩, ⟨fun _ _ h => h, List.prefix_refl _, fun b u h n => ?_, fun _ g _ => g, fun b h h' => absurd h h', fun b h => ?_⟩⟩
  · rw [upd_ne (ne_of_none h gn)]; exact R.sub _ _ h
  · by_cases z : j = i
    · subst z
      rw [ha] at hb; cases hb
      have hj : j < st.length := by rw [← R.len]; exact (List.getElem?_eq_some_iff.mp ha).1
      rw [List.getElem?_set_self hj] at hu; cases hu
      exact ⟨o, upd_same, r⟩
    · rw [List.getElem?_set_ne (Ne.symm z)] at hu
      obtain ⟨ho, q, r'⟩ := R.obj j b u hb hu
      refine ⟨ho, ?_, r'⟩
      have : b ≠ a := fun z' => z (by
        subst z'
        obtain ⟨h1, e1⟩ := List.getElem?_eq_some_iff.mp hb
        obtain ⟨h2, e2⟩ := List.getElem?_eq_some_iff.mp ha
        exact (List.getElem_inj R.nd).mp (e1.trans e2.symm))
      rw [upd_ne this]; exact q
  · have : b ≠ a := fun z => n (z ▸ hm)
    rw [upd_ne this]; exact h
  · by_cases z : b = a
    · subst z; rw [upd_same]; exact fun z => nomatch z
    · rw [upd_ne z]; exact h
theorem Ri.at_ {i : Nat} {a : Addr} {m : MO} (R : Ri K mg G H as st) (ha : as[i]? = some a) (hm : st[i]? = some m) : ∃ ho, H a = some ho ∧ Ro K mg G as ho m := R.obj i a m ha hm
end

/-! ## what is wanted of an outcome -/
/-- an exception's value -/
def ExR (K : PySem.W.Frag) (mg : Str → Option Value) (G H : Hp) (as : List Addr) (c : Str) (p : Pay) (cls : Value) (d : Option Addr) : Prop :=
  mg c = some cls ∧ (∃ C, cls = .ref C) ∧ match p with
    | none => d = none
    | some (f, x) => ∃ dx v, d = some dx ∧ H dx = some (.xd [(f, v)]) ∧ dx ∉ as ∧ Rp K mg G as v x
def PX (K : PySem.W.Frag) (mg : Str → Option Value) (W : WX) (G H : Hp) (as : List Addr) (σ : L2.St) (r : RX D) (Q : VK) : Prop := match r with
  | .ok x st' => ∀ v G' H' as', Ri K mg G' H' as' st' → Ext G H as G' H' as' → Rp K mg G' as' v x → Q v H'
  | .exc c p st' => ∀ cls d G' H' as', Ri K mg G' H' as' st' → Ext G H as G' H' as' → ExR K mg G' H' as' c p cls d → W cls d σ H'
  | .stuck => False
def PXB (K : PySem.W.Frag) (mg : Str → Option Value) (W : WX) (G H : Hp) (as : List Addr) (σ : L2.St) (r : RX Bool) (Q : Bool → Hp → Prop) : Prop := match r with
  | .ok x st' => ∀ G' H' as', Ri K mg G' H' as' st' → Ext G H as G' H' as' → Q x H'
  | .exc c p st' => ∀ cls d G' H' as', Ri K mg G' H' as' st' → Ext G H as G' H' as' → ExR K mg G' H' as' c p cls d → W cls d σ H'
  | .stuck => False
def PXA (K : PySem.W.Frag) (mg : Str → Option Value) (W : WX) (G H : Hp) (as : List Addr) (σ : L2.St) (r : RX (List D)) (Q : List V → Hp → Prop) : Prop := match r with
  | .ok x st' => ∀ v G' H' as', Ri K mg G' H' as' st' → Ext G H as G' H' as' → RpA K mg G' as' v x → Q v H'
  | .exc c p st' => ∀ cls d G' H' as', Ri K mg G' H' as' st' → Ext G H as G' H' as' → ExR K mg G' H' as' c p cls d → W cls d σ H'
  | .stuck => False
def PS_ (K : PySem.W.Frag) (mg : Str → Option Value) (W : WX) (G H : Hp) (as : List Addr) (n : Nat) (r : RS) (E : Ends) : Prop := match r with
  | .nx e st' => ∀ σ' G' H' as', Ri K mg G' H' as' st' → Rn K mg G' as' σ' e → Ext G H as G' H' as' → E.nx σ' H'
  | .bk e st' => ∀ σ' G' H' as', Ri K mg G' H' as' st' → Rn K mg G' as' σ' e → Ext G H as G' H' as' → E.bk σ' H'
  | .ct e st' => ∀ σ' G' H' as', Ri K mg G' H' as' st' → Rn K mg G' as' σ' e → Ext G H as G' H' as' → E.ct σ' H'
  | .rt x st' => ∀ v G' H' as', Ri K mg G' H' as' st' → Ext G H as G' H' as' → Rp K mg G' as' v x → E.rt v H'
  | .exc c p e st' => ∀ σ' cls d G' H' as', Ri K mg G' H' as' st' → Rn K mg G' as' σ' e → Ext G H as G' H' as' → ExR K mg G' H' as' c p cls d → W cls d σ' H'
  | .stuck => False
end LS
end
section
set_option maxRecDepth 100000
set_option maxHeartbeats 2000000
namespace LS
open PySem PySem.Spec L2

/-! ## families of contexts, judgements -/
structure Gb where
  P : Program
  w : World
  K : PySem.W.Frag
  mg : Str → Option Value
  base : Heap
structure Fam (g : Gb) where
  k : Nat
  N : List Str
  sc : Scope
  nd : N.Nodup
  own : Str → Bool
  mem : WX → Cx → Prop
  prog : ∀ {W X}, mem W X → X.prog = g.P
  w : ∀ {W X}, mem W X → X.w = g.w
  hK : ∀ {W X}, mem W X → X.K = g.K
  hmg : ∀ {W X}, mem W X → X.mg = g.mg
  base : ∀ {W X}, mem W X → X.base = g.base
  hN : ∀ {W X}, mem W X → X.N = N
  hsc : ∀ {W X}, mem W X → X.env.scope = sc
  calm : ∀ {W X}, mem W X → X.calm = true
  room : ∀ {W X}, mem W X → Room k X.A
  takes : ∀ {W X}, mem W X → Takes X W
  pass : ∀ {W X}, mem W X → PassesOwn (model X.prog X.w) X.A X.env X.xe
  fn : ∀ {W X}, mem W X → ∀ x, own x = true → Loc sc x → X.fn x = true ∨ X.env.scope.names.lookup x = some .local

section
variable {g : Gb}
def SE (g : Gb) (t : WX → TE) (m : XM D) : Prop := ∀ (W : WX) (G H : Hp) (as : List Addr) (st : Store) (σ : L2.St) (e : Nv) (Q : VK), Ri g.K g.mg G H as st → Rn g.K g.mg G as σ e → PX g.K g.mg W G H as σ (m e st) Q → t W σ H Q
def ST (g : Gb) (t : WX → TT) (m : XM Bool) : Prop := ∀ (W : WX) (G H : Hp) (as : List Addr) (st : Store) (σ : L2.St) (e : Nv) (Q : Bool → Hp → Prop), Ri g.K g.mg G H as st → Rn g.K g.mg G as σ e → PXB g.K g.mg W G H as σ (m e st) Q → t W σ H Q
def SA (g : Gb) (t : WX → TA) (m : XM (List D)) : Prop := ∀ (W : WX) (G H : Hp) (as : List Addr) (st : Store) (σ : L2.St) (e : Nv) (Q : List V → Hp → Prop), Ri g.K g.mg G H as st → Rn g.K g.mg G as σ e → PXA g.K g.mg W G H as σ (m e st) Q → t W σ H Q
def SS (g : Gb) (t : WX → TS) (m : SM) : Prop := ∀ (W : WX) (G H : Hp) (as : List Addr) (st : Store) (σ : L2.St) (e : Nv) (E : Ends), Ri g.K g.mg G H as st → Rn g.K g.mg G as σ e → PS_ g.K g.mg W G H as e.length (m e st) E → t W E σ H
variable (F : Fam g)
def JE (ex : Expr) (m : XM D) : Prop := ∃ t : WX → TE, (∀ W X, F.mem W X → PE X ex (t W)) ∧ SE g t m
def JT (ex : Expr) (m : XM Bool) : Prop := ∃ t : WX → TT, (∀ W X, F.mem W X → PT X ex (t W)) ∧ ST g t m
def JA (ex : List Expr) (m : XM (List D)) : Prop := ∃ t : WX → TA, (∀ W X, F.mem W X → PA X ex (t W)) ∧ SA g t m
def JS (s : Stmt) (m : SM) : Prop := ∃ t : WX → TS, (∀ W X, F.mem W X → L2.PS X s (t W)) ∧ SS g t m
def JSs (s : List Stmt) (m : SM) : Prop := ∃ t : WX → TS, (∀ W X, F.mem W X → PSs X s (t W)) ∧ SS g t m
end

/-! ## carrying what is wanted -/
section
variable {K : PySem.W.Frag} {mg : Str → Option Value} {W : WX} {G H G1 H1 : Hp} {as as1 : List Addr} {σ : L2.St} {e : Nv} {st : Store} {n : Nat}
theorem PX.ext {r : RX D} {Q : VK} (h : PX K mg W G H as σ r Q) (x : Ext G H as G1 H1 as1) : PX K mg W G1 H1 as1 σ r Q := by
  cases r with
  | ok d st' => exact fun v G' H' as' R y => h v G' H' as' R (x.trans y)
  | exc c p st' => exact fun cls d G' H' as' R y => h cls d G' H' as' R (x.trans y)
  | stuck => exact h
theorem PXB.ext {r : RX Bool} {Q : Bool → Hp → Prop} (h : PXB K mg W G H as σ r Q) (x : Ext G H as G1 H1 as1) : PXB K mg W G1 H1 as1 σ r Q := by
  cases r with
  | ok d st' => exact fun G' H' as' R y => h G' H' as' R (x.trans y)
  | exc c p st' => exact fun cls d G' H' as' R y => h cls d G' H' as' R (x.trans y)
  | stuck => exact h
theorem PXA.ext {r : RX (List D)} {Q : List V → Hp → Prop} (h : PXA K mg W G H as σ r Q) (x : Ext G H as G1 H1 as1) : PXA K mg W G1 H1 as1 σ r Q := by
  cases r with
  | ok d st' => exact fun v G' H' as' R y => h v G' H' as' R (x.trans y)
  | exc c p st' => exact fun cls d G' H' as' R y => h cls d G' H' as' R (x.trans y)
  | stuck => exact h
theorem PS_.ext {r : RS} {E : Ends} (h : PS_ K mg W G H as n r E) (x : Ext G H as G1 H1 as1) : PS_ K mg W G1 H1 as1 n r E := by
  cases r with
  | nx e st' => exact fun σ G' H' as' R N y => h σ G' H' as' R N (x.trans y)
  | bk e st' => exact fun σ G' H' as' R N y => h σ G' H' as' R N (x.trans y)
  | ct e st' => exact fun σ G' H' as' R N y => h σ G' H' as' R N (x.trans y)
  | rt d st' => exact fun v G' H' as' R y => h v G' H' as' R (x.trans y)
  | exc c p e st' => exact fun σ cls d G' H' as' R N y => h σ cls d G' H' as' R N (x.trans y)
  | stuck => exact h
end
/-! the first part of a row of parts -/
section
variable {g : Gb} {W : WX} {G H : Hp} {as : List Addr} {σ : L2.St} {e : Nv} {st : Store}
theorem SE.one {t : WX → TE} {m : XM D} {f : D → XM D} {Q Q1 : VK} (s : SE g t m) (R : Ri g.K g.mg G H as st) (N : Rn g.K g.mg G as σ e) (h : PX g.K g.mg W G H as σ (xbind m f e st) Q)
    (k : ∀ x st1 v G1 H1 as1, Ri g.K g.mg G1 H1 as1 st1 → Ext G H as G1 H1 as1 → Rn g.K g.mg G1 as1 σ e → Rp g.K g.mg G1 as1 v x → PX g.K g.mg W G1 H1 as1 σ (f x e st1) Q → Q1 v H1) : t W σ H Q1 := by
  refine s W G H as st σ e Q1 R N ?_
  unfold xbind at h
  cases q : m e st with
  | ok x st1 =>
    rw [q] at h
    exact fun v G1 H1 as1 R1 X1 rv => k x st1 v G1 H1 as1 R1 X1 (N.ext X1) rv (PX.ext (r := f x e st1) h X1)
  | exc c p st1 => rw [q] at h; exact h
  | stuck => rw [q] at h; exact h.elim
theorem SE.oneA {t : WX → TE} {m : XM D} {f : D → XM (List D)} {Q : List V → Hp → Prop} {Q1 : VK} (s : SE g t m) (R : Ri g.K g.mg G H as st) (N : Rn g.K g.mg G as σ e) (h : PXA g.K g.mg W G H as σ (xbind m f e st) Q)
    (k : ∀ x st1 v G1 H1 as1, Ri g.K g.mg G1 H1 as1 st1 → Ext G H as G1 H1 as1 → Rn g.K g.mg G1 as1 σ e → Rp g.K g.mg G1 as1 v x → PXA g.K g.mg W G1 H1 as1 σ (f x e st1) Q → Q1 v H1) : t W σ H Q1 := by
  refine s W G H as st σ e Q1 R N ?_
  unfold xbind at h
  cases q : m e st with
  | ok x st1 =>
    rw [q] at h
    exact fun v G1 H1 as1 R1 X1 rv => k x st1 v G1 H1 as1 R1 X1 (N.ext X1) rv (PXA.ext (r := f x e st1) h X1)
  | exc c p st1 => rw [q] at h; exact h
  | stuck => rw [q] at h; exact h.elim
theorem SE.oneB {t : WX → TE} {m : XM D} {f : D → XM Bool} {Q : Bool → Hp → Prop} {Q1 : VK} (s : SE g t m) (R : Ri g.K g.mg G H as st) (N : Rn g.K g.mg G as σ e) (h : PXB g.K g.mg W G H as σ (xbind m f e st) Q)
    (k : ∀ x st1 v G1 H1 as1, Ri g.K g.mg G1 H1 as1 st1 → Ext G H as G1 H1 as1 → Rn g.K g.mg G1 as1 σ e → Rp g.K g.mg G1 as1 v x → PXB g.K g.mg W G1 H1 as1 σ (f x e st1) Q → Q1 v H1) : t W σ H Q1 := by
  refine s W G H as st σ e Q1 R N ?_
  unfold xbind at h
  cases q : m e st with
  | ok x st1 =>
    rw [q] at h
    exact fun v G1 H1 as1 R1 X1 rv => k x st1 v G1 H1 as1 R1 X1 (N.ext X1) rv (PXB.ext (r := f x e st1) h X1)
  | exc c p st1 => rw [q] at h; exact h
  | stuck => rw [q] at h; exact h.elim
theorem ST.one {t : WX → TT} {m : XM Bool} {f : Bool → XM D} {Q : VK} {Q1 : Bool → Hp → Prop} (s : ST g t m) (R : Ri g.K g.mg G H as st) (N : Rn g.K g.mg G as σ e) (h : PX g.K g.mg W G H as σ (xbind m f e st) Q)
    (k : ∀ x st1 G1 H1 as1, Ri g.K g.mg G1 H1 as1 st1 → Ext G H as G1 H1 as1 → Rn g.K g.mg G1 as1 σ e → PX g.K g.mg W G1 H1 as1 σ (f x e st1) Q → Q1 x H1) : t W σ H Q1 := by
  refine s W G H as st σ e Q1 R N ?_
  unfold xbind at h
  cases q : m e st with
  | ok x st1 =>
    rw [q] at h
    exact fun G1 H1 as1 R1 X1 => k x st1 G1 H1 as1 R1 X1 (N.ext X1) (PX.ext (r := f x e st1) h X1)
  | exc c p st1 => rw [q] at h; exact h
  | stuck => rw [q] at h; exact h.elim
theorem ST.oneB {t : WX → TT} {m : XM Bool} {f : Bool → XM Bool} {Q Q1 : Bool → Hp → Prop} (s : ST g t m) (R : Ri g.K g.mg G H as st) (N : Rn g.K g.mg G as σ e) (h : PXB g.K g.mg W G H as σ (xbind m f e st) Q)
    (k : ∀ x st1 G1 H1 as1, Ri g.K g.mg G1 H1 as1 st1 → Ext G H as G1 H1 as1 → Rn g.K g.mg G1 as1 σ e → PXB g.K g.mg W G1 H1 as1 σ (f x e st1) Q → Q1 x H1) : t W σ H Q1 := by
  refine s W G H as st σ e Q1 R N ?_
  unfold xbind at h
  cases q : m e st with
  | ok x st1 =>
    rw [q] at h
    exact fun G1 H1 as1 R1 X1 => k x st1 G1 H1 as1 R1 X1 (N.ext X1) (PXB.ext (r := f x e st1) h X1)
  | exc c p st1 => rw [q] at h; exact h
  | stuck => rw [q] at h; exact h.elim
theorem SA.one {t : WX → TA} {m : XM (List D)} {f : List D → XM D} {Q : VK} {Q1 : List V → Hp → Prop} (s : SA g t m) (R : Ri g.K g.mg G H as st) (N : Rn g.K g.mg G as σ e) (h : PX g.K g.mg W G H as σ (xbind m f e st) Q)
    (k : ∀ x st1 v G1 H1 as1, Ri g.K g.mg G1 H1 as1 st1 → Ext G H as G1 H1 as1 → Rn g.K g.mg G1 as1 σ e → RpA g.K g.mg G1 as1 v x → PX g.K g.mg W G1 H1 as1 σ (f x e st1) Q → Q1 v H1) : t W σ H Q1 := by
  refine s W G H as st σ e Q1 R N ?_
  unfold xbind at h
  cases q : m e st with
  | ok x st1 =>
    rw [q] at h
    exact fun v G1 H1 as1 R1 X1 rv => k x st1 v G1 H1 as1 R1 X1 (N.ext X1) rv (PX.ext (r := f x e st1) h X1)
  | exc c p st1 => rw [q] at h; exact h
  | stuck => rw [q] at h; exact h.elim
theorem SA.oneA {t : WX → TA} {m : XM (List D)} {f : List D → XM (List D)} {Q Q1 : List V → Hp → Prop} (s : SA g t m) (R : Ri g.K g.mg G H as st) (N : Rn g.K g.mg G as σ e) (h : PXA g.K g.mg W G H as σ (xbind m f e st) Q)
    (k : ∀ x st1 v G1 H1 as1, Ri g.K g.mg G1 H1 as1 st1 → Ext G H as G1 H1 as1 → Rn g.K g.mg G1 as1 σ e → RpA g.K g.mg G1 as1 v x → PXA g.K g.mg W G1 H1 as1 σ (f x e st1) Q → Q1 v H1) : t W σ H Q1 := by
  refine s W G H as st σ e Q1 R N ?_
  unfold xbind at h
  cases q : m e st with
  | ok x st1 =>
    rw [q] at h
    exact fun v G1 H1 as1 R1 X1 rv => k x st1 v G1 H1 as1 R1 X1 (N.ext X1) rv (PXA.ext (r := f x e st1) h X1)
  | exc c p st1 => rw [q] at h; exact h
  | stuck => rw [q] at h; exact h.elim

end
section
variable {K : PySem.W.Frag} {mg : Str → Option Value} {W : WX} {G H : Hp} {as : List Addr} {σ : L2.St} {st : Store}
/-- the end of a pure row -/
theorem PX.pure {d : D} {v : V} {Q : VK} (R : Ri K mg G H as st) (r : Rp K mg G as v d) (h : PX K mg W G H as σ (.ok d st) Q) : Q v H := h v G H as R Ext.refl r
/-- .. of a new thing that stands still -/
theorem PX.still {d : D} {Q : VK} {p : Addr} {o : HO} (R : Ri K mg G H as st) (n : H p = none) (r : Rp K mg (upd G p o) as (.ref p) d) (h : PX K mg W G H as σ (.ok d st) Q) : Q (.ref p) (upd H p o) :=
  let ⟨R', x⟩ := R.still (o := o) n; h _ _ _ as R' x r
end
end LS
end
section
set_option maxRecDepth 100000
set_option maxHeartbeats 2000000
namespace LS
open PySem PySem.Spec L2

def LIM : Nat := 1000000
theorem lim_le {n : Nat} (h : n ≤ LIM) : n ≤ sizeLine := Nat.le_trans h (by rw [sizeLine_eq]; decide)
theorem lim_lt {n : Nat} (h : n < LIM) : n < sizeLine := Nat.lt_of_lt_of_le h (by rw [sizeLine_eq]; decide)

/-! ## lists and rows -/
def lstOf (st : Store) : D → Option (List D)
  | .lst xs => some xs
  | .ref i => match st[i]? with
    | some (.lst xs) => some xs
    | none => none
  | _ => none
def seqOf (st : Store) : D → Option (List D)
  | .tup xs => some xs
  | .sq xs => some xs
  | d => lstOf st d
section
variable {K : PySem.W.Frag} {mg : Str → Option Value} {G H : Hp} {as : List Addr} {st : Store} {v : V} {d : D} {xs : List D}
theorem sqL_H (R : Ri K mg G H as st) {a : Addr} {vs : List V} (h : SqL K G a vs) : SqL K H a vs := sqL_sub R.sub h
theorem sqT_H (R : Ri K mg G H as st) {a : Addr} {vs : List V} (h : SqT K G a vs) : SqT K H a vs := sqT_sub R.sub h
theorem lstOf_ok (R : Ri K mg G H as st) (r : Rp K mg G as v d) (h : lstOf st d = some xs) : ∃ a vs, v = .ref a ∧ H a = some (.lst vs) ∧ RpA K mg G as vs xs := by
  cases r with
  | lst s q =>
    have e : _ = xs := Option.some.inj h
    subst e
    exact ⟨_, _, rfl, R.sub _ _ s, q⟩
  | ref q =>
    rename_i a i
    unfold lstOf at h
    cases hs : st[i]? with
    | none => simp [hs] at h
    | some m =>
      cases m with
      | lst ys =>
        simp only [hs, Option.some.injEq] at h
        subst h
        obtain ⟨ho, e, o⟩ := R.at_ q hs
        cases o with | lst r => exact ⟨_, _, rfl, e, r⟩
  | _ => cases h
theorem seqOf_ok (R : Ri K mg G H as st) (r : Rp K mg G as v d) (h : seqOf st d = some xs) : ∃ a vs, v = .ref a ∧ (SqL K H a vs ∨ SqT K H a vs) ∧ RpA K mg G as vs xs := by
  cases r with
  | tup s q =>
    have e : _ = xs := Option.some.inj h
    subst e
    exact ⟨_, _, rfl, .inr (sqT_H R s), q⟩
  | sq s q =>
    have e : _ = xs := Option.some.inj h
    subst e
    exact ⟨_, _, rfl, .inl (sqL_H R s), q⟩
  | lst s q =>
    obtain ⟨a, vs, e, h1, h2⟩ := lstOf_ok R (Rp.lst s q) h
    exact ⟨a, vs, e, .inl (.of h1), h2⟩
  | ref q =>
    obtain ⟨a, vs, e, h1, h2⟩ := lstOf_ok R (Rp.ref q) h
    exact ⟨a, vs, e, .inl (.of h1), h2⟩
  | _ => cases h
end

/-! ## names and constants -/
section
variable {g : Gb} {F : Fam g} {pos : Pos}
def xvar (i : Nat) : XM D := fun e st => match e[i]? with
  | some (some d) => .ok d st
  | _ => .stuck
theorem je_var (i : Nat) {x : Str} (hN : F.N[i]? = some x) (hv : Vis F.sc x) (hd : (x == ("__debug__" : Str)) = false := by decide) (hcd : (x == ("__classdict__" : Str)) = false := by decide) : JE F (.Name x pos) (xvar i) := by
  refine ⟨fun _ => tVar i, fun W X m => pe_var (by rw [F.hN m]; exact hN) (by rw [F.hsc m]; exact hv) hd hcd, ?_⟩
  intro W G H as st σ e Q R N h
  unfold xvar at h
  split at h
  · rename_i d q
    obtain ⟨v, e1, r⟩ := N.at_ _ _ q
    exact ⟨v, e1, h.pure R r⟩
  · exact h.elim
theorem je_c {v : V} {d : D} {ex : Expr} (hp : ∀ X : Cx, PE X ex (tC v)) (hr : ∀ G as, Rp g.K g.mg G as v d) : JE F ex (xpure d) :=
  ⟨fun _ => tC v, fun _ X _ => hp X, fun W G H as st σ e Q R N h => h.pure R (hr G as)⟩
theorem je_int {i : Int} {j} : JE F (.Constant (.int i) j pos) (xpure (.int i)) := je_c (fun _ => pe_int) fun _ _ => .int i
theorem je_bl {b : Bool} {j} : JE F (.Constant (.bool b) j pos) (xpure (.bl b)) := je_c (fun _ => pe_bl) fun _ _ => .bl b
theorem je_non {j} : JE F (.Constant .none j pos) (xpure .non) := je_c (fun _ => pe_non) fun _ _ => .non
theorem je_str {x : Str} {j} : JE F (.Constant (.str x) j pos) (xpure (.str x)) := je_c (fun _ => pe_str) fun _ _ => .str x
theorem je_gint {x : Str} {i : Int} (hg : F.sc.names.lookup x = some .globalImplicit) (hm : ∃ t, g.mg x = some (.int i t)) (hd : (x == ("__debug__" : Str)) = false := by decide) : JE F (.Name x pos) (xpure (.int i)) := by
  obtain ⟨t, hm⟩ := hm
  refine ⟨fun _ => tC (.int i), fun W X m => pe_glob (u := .int i t) (by show X.env.scope.names.lookup x = _; rw [F.hsc m]; exact hg) (by rw [F.hmg m]; exact hm) ⟨t, rfl⟩ hd, ?_⟩
  exact fun W G H as st σ e Q R N h => h.pure R (.int i)
theorem je_gstr {x : Str} {z : Str} (hg : F.sc.names.lookup x = some .globalImplicit) (hm : ∃ t, g.mg x = some (.str z t)) (hd : (x == ("__debug__" : Str)) = false := by decide) : JE F (.Name x pos) (xpure (.str z)) := by
  obtain ⟨t, hm⟩ := hm
  refine ⟨fun _ => tC (.str z), fun W X m => pe_glob (u := .str z t) (by show X.env.scope.names.lookup x = _; rw [F.hsc m]; exact hg) (by rw [F.hmg m]; exact hm) ⟨t, rfl⟩ hd, ?_⟩
  exact fun W G H as st σ e Q R N h => h.pure R (.str z)
theorem je_gfn {x : Str} {a : Addr} (hg : F.sc.names.lookup x = some .globalImplicit) (hm : g.mg x = some (.ref a)) (hd : (x == ("__debug__" : Str)) = false := by decide) : JE F (.Name x pos) (xpure (.glo x)) := by
  refine ⟨fun _ => tC (.ref a), fun W X m => pe_glob (u := .ref a) (by show X.env.scope.names.lookup x = _; rw [F.hsc m]; exact hg) (by rw [F.hmg m]; exact hm) rfl hd, ?_⟩
  exact fun W G H as st σ e Q R N h => h.pure R (.glo x a hm)
/-- a built-in class by its name -/
theorem je_gty {x : Str} {n : String} (hg : F.sc.names.lookup x = some .globalImplicit) (hm : g.mg x = none) (hv : bootBuiltins x = some (.type n)) (hn : x ≠ "__name__" := by decide) (hd : (x == ("__debug__" : Str)) = false := by decide) : JE F (.Name x pos) (xpure (.ty n)) := by
  refine ⟨fun _ => tC (.ty n), fun W X m => pe_bltn (u := .type n) (by show X.env.scope.names.lookup x = _; rw [F.hsc m]; exact hg) (by rw [F.hmg m]; exact hm) hv rfl hn hd, ?_⟩
  exact fun W G H as st σ e Q R N h => h.pure R (.ty n)

/-! ## arguments, displays -/
theorem ja_nil : JA F [] (xpure []) := ⟨fun _ => tNil, fun _ _ _ => pa_nil, fun W G H as st σ e Q R N h => h [] G H as R Ext.refl .nil⟩
def xcons (m : XM D) (ms : XM (List D)) : XM (List D) := xbind m fun x => xbind ms fun xs => xpure (x :: xs)
theorem ja_cons {ex : Expr} {es : List Expr} {m : XM D} {ms : XM (List D)} (h : JE F ex m) (hs : JA F es ms) (hst : ∀ env, starEach (ex :: es) env = (false, eval ex env) :: starEach es env := by intro _; rfl) : JA F (ex :: es) (xcons m ms) := by
  obtain ⟨t, p, s⟩ := h
  obtain ⟨ts, ps, ss⟩ := hs
  refine ⟨fun W => tCons (t W) (ts W), fun W X m => pa_cons (p W X m) (ps W X m) (hst _), ?_⟩
  intro W G H as st σ e Q R N h
  refine s.oneA R N h fun x st1 v G1 H1 as1 R1 X1 N1 rv h1 => ?_
  refine ss.oneA R1 N1 h1 fun xs st2 vs G2 H2 as2 R2 X2 N2 rvs h2 => ?_
  exact h2 _ _ _ _ R2 Ext.refl (.cons (rv.ext X2) rvs)
def xtup (ms : XM (List D)) : XM D := xbind ms fun xs => fun _ st => if xs.length ≤ LIM then .ok (.tup xs) st else .stuck
theorem je_tup {es : List Expr} {k : Nat} {ms : XM (List D)} (hs : JA F es ms) : JE F (.Tuple es k pos) (xtup ms) := by
  obtain ⟨ts, ps, ss⟩ := hs
  refine ⟨fun W => tTup (ts W), fun W X m => pe_tup (ps W X m), ?_⟩
  intro W G H as st σ e Q R N h
  refine ss.one R N h fun xs st1 vs G1 H1 as1 R1 X1 N1 rv h1 => ?_
  by_cases hl : xs.length ≤ LIM
  · rw [if_pos hl] at h1
    refine ⟨by rw [rv.len]; exact lim_le hl, fun p hp => ?_⟩
    exact PX.still R1 hp (.tup (.inl (.inl upd_same)) (rv.ext (R1.still (o := .tup vs) hp).2)) h1
  · rw [if_neg hl] at h1; exact h1.elim
/-- a list that stands still from now on -/
def xlst (ms : XM (List D)) : XM D := xbind ms fun xs => fun _ st => if xs.length ≤ LIM then .ok (.lst xs) st else .stuck
theorem je_lst {es : List Expr} {ms : XM (List D)} (hs : JA F es ms) : JE F (.List es pos) (xlst ms) := by
  obtain ⟨ts, ps, ss⟩ := hs
  refine ⟨fun W => tLst (ts W), fun W X m => pe_lst (ps W X m), ?_⟩
  intro W G H as st σ e Q R N h
  refine ss.one R N h fun xs st1 vs G1 H1 as1 R1 X1 N1 rv h1 => ?_
  by_cases hl : xs.length ≤ LIM
  · rw [if_pos hl] at h1
    refine ⟨by rw [rv.len]; exact lim_le hl, fun p hp => ?_⟩
    exact PX.still R1 hp (.lst upd_same (rv.ext (R1.still (o := .lst vs) hp).2)) h1
  · rw [if_neg hl] at h1; exact h1.elim
/-- a list that will move -/
def xlstM (ms : XM (List D)) : XM D := xbind ms fun xs => fun _ st => if xs.length ≤ LIM then .ok (.ref st.length) (st ++ [.lst xs]) else .stuck
theorem je_lstM {es : List Expr} {ms : XM (List D)} (hs : JA F es ms) : JE F (.List es pos) (xlstM ms) := by
  obtain ⟨ts, ps, ss⟩ := hs
  refine ⟨fun W => tLst (ts W), fun W X m => pe_lst (ps W X m), ?_⟩
  intro W G H as st σ e Q R N h
  refine ss.one R N h fun xs st1 vs G1 H1 as1 R1 X1 N1 rv h1 => ?_
  by_cases hl : xs.length ≤ LIM
  · rw [if_pos hl] at h1
    refine ⟨by rw [rv.len]; exact lim_le hl, fun p hp => ?_⟩
    obtain ⟨R2, X2⟩ := R1.moving (o := .lst vs) hp (.lst rv)
    refine h1 _ _ _ _ R2 X2 (.ref ?_)
    rw [← R1.len, List.getElem?_append_right (Nat.le_refl _), Nat.sub_self]; rfl
  · rw [if_neg hl] at h1; exact h1.elim

/-! ## operators on values -/
def OpS (F : Fam g) (f : Value → Value → Sem Value) (fop : D → D → XM D) : Prop := ∃ r : R2, (∀ W X, F.mem W X → OpR X f r) ∧
  ∀ (W : WX) (G H : Hp) (as : List Addr) (st : Store) (σ : L2.St) (e : Nv) (x y : D) (v w : V) (Q : VK), Ri g.K g.mg G H as st → Rp g.K g.mg G as v x → Rp g.K g.mg G as w y → PX g.K g.mg W G H as σ (fop x y e st) Q → r v w H Q
def xop (fop : D → D → XM D) (ma mb : XM D) : XM D := xbind ma fun x => xbind mb fun y => fop x y
theorem je_op {a b : Expr} {op : Operator} {ma mb : XM D} {fop : D → D → XM D} (ho : OpS F (binaryOp op) fop) (ha : JE F a ma) (hb : JE F b mb) : JE F (.BinOp a op b pos) (xop fop ma mb) := by
  obtain ⟨r, hr, hv⟩ := ho
  obtain ⟨ta, pa, sa⟩ := ha
  obtain ⟨tb, pb, sb⟩ := hb
  refine ⟨fun W => tOp r (ta W) (tb W), fun W X m => pe_op (hr W X m) (pa W X m) (pb W X m), ?_⟩
  intro W G H as st σ e Q R N h
  refine sa.one R N h fun x st1 v G1 H1 as1 R1 X1 N1 rv h1 => ?_
  refine sb.one R1 N1 h1 fun y st2 w G2 H2 as2 R2 X2 N2 rw' h2 => ?_
  exact hv W G2 H2 as2 st2 σ e x y v w Q R2 (rv.ext X2) rw' h2
theorem je_cmp {a b : Expr} {op : CmpOp} {ma mb : XM D} {fop : D → D → XM D} (ho : OpS F (compareOp op) fop) (ha : JE F a ma) (hb : JE F b mb) (hm : behindInMarks op b = false) : JE F (.Compare a [op] [b] pos) (xop fop ma mb) := by
  obtain ⟨r, hr, hv⟩ := ho
  obtain ⟨ta, pa, sa⟩ := ha
  obtain ⟨tb, pb, sb⟩ := hb
  refine ⟨fun W => tOp r (ta W) (tb W), fun W X m => pe_cmpR (hr W X m) (pa W X m) (pb W X m) hm, ?_⟩
  intro W G H as st σ e Q R N h
  refine sa.one R N h fun x st1 v G1 H1 as1 R1 X1 N1 rv h1 => ?_
  refine sb.one R1 N1 h1 fun y st2 w G2 H2 as2 R2 X2 N2 rw' h2 => ?_
  exact hv W G2 H2 as2 st2 σ e x y v w Q R2 (rv.ext X2) rw' h2
/-- a bool asked for -/
def xbool (m : XM D) : XM Bool := xbind m fun x => fun _ st => match x with
  | .bl b => .ok b st
  | _ => .stuck
theorem SE.bool {t : WX → TE} {m : XM D} (s : SE g t m) : ST g (fun W => tTest (t W)) (xbool m) := by
  intro W G H as st σ e Q R N h
  refine s.oneB R N h fun x st1 v G1 H1 as1 R1 X1 N1 rv h1 => ?_
  cases rv with
  | bl b => exact ⟨b, rfl, h1 G1 H1 as1 R1 Ext.refl⟩
  | _ => exact h1.elim
theorem jt_cmp {a b : Expr} {op : CmpOp} {ma mb : XM D} {fop : D → D → XM D} (ho : OpS F (compareOp op) fop) (ha : JE F a ma) (hb : JE F b mb) (hm : behindInMarks op b = false) : JT F (.Compare a [op] [b] pos) (xbool (xop fop ma mb)) := by
  obtain ⟨r, hr, hv⟩ := ho
  obtain ⟨ta, pa, sa⟩ := ha
  obtain ⟨tb, pb, sb⟩ := hb
  refine ⟨fun W => tTest (tOp r (ta W) (tb W)), fun W X m => pt_cmpR (hr W X m) (pa W X m) (pb W X m) hm, SE.bool (t := fun W => tOp r (ta W) (tb W)) ?_⟩
  intro W G H as st σ e Q R N h
  refine sa.one R N h fun x st1 v G1 H1 as1 R1 X1 N1 rv h1 => ?_
  refine sb.one R1 N1 h1 fun y st2 w G2 H2 as2 R2 X2 N2 rw' h2 => ?_
  exact hv W G2 H2 as2 st2 σ e x y v w Q R2 (rv.ext X2) rw' h2
/-- a op b op' c -/
def xchain (f f' : D → D → XM D) (ma mb mc : XM D) : XM D := xbind ma fun x => xbind mb fun y => xbind (f x y) fun z => match z with
  | .bl true => xbind mc fun w => f' y w
  | .bl false => xpure (.bl false)
  | _ => fun _ _ => .stuck
theorem chain_SE {r r' : R2} {ta tb tc : WX → TE} {ma mb mc : XM D} {f f' : D → D → XM D}
    (hv : ∀ (W : WX) (G H : Hp) (as : List Addr) (st : Store) (σ : L2.St) (e : Nv) (x y : D) (v w : V) (Q : VK), Ri g.K g.mg G H as st → Rp g.K g.mg G as v x → Rp g.K g.mg G as w y → PX g.K g.mg W G H as σ (f x y e st) Q → r v w H Q)
    (hv' : ∀ (W : WX) (G H : Hp) (as : List Addr) (st : Store) (σ : L2.St) (e : Nv) (x y : D) (v w : V) (Q : VK), Ri g.K g.mg G H as st → Rp g.K g.mg G as v x → Rp g.K g.mg G as w y → PX g.K g.mg W G H as σ (f' x y e st) Q → r' v w H Q)
    (sa : SE g ta ma) (sb : SE g tb mb) (sc : SE g tc mc) : SE g (fun W => tChain r r' (ta W) (tb W) (tc W)) (xchain f f' ma mb mc) := by
  intro W G H as st σ e Q R N h
  refine sa.one R N h fun x st1 v G1 H1 as1 R1 X1 N1 rv h1 => ?_
  refine sb.one R1 N1 h1 fun y st2 w G2 H2 as2 R2 X2 N2 rw' h2 => ?_
  refine hv W G2 H2 as2 st2 σ e x y v w _ R2 (rv.ext X2) rw' ?_
  unfold xbind at h2
  cases q : f x y e st2 with
  | stuck => rw [q] at h2; exact h2.elim
  | exc c p st3 => rw [q] at h2; exact h2
  | ok z st3 =>
    rw [q] at h2
    intro u G3 H3 as3 R3 X3 ru
    cases ru with
    | bl b =>
      cases b with
      | false => exact ⟨false, rfl, iteF ((PX.ext (r := .ok (.bl false) st3) h2 X3).pure R3 (.bl false))⟩
      | true =>
        refine ⟨true, rfl, iteT ?_⟩
        have h3 : PX g.K g.mg W G3 H3 as3 σ (xbind mc (fun w => f' y w) e st3) Q := PX.ext (r := xbind mc (fun w => f' y w) e st3) h2 X3
        refine sc.one R3 ((N2.ext X3)) h3 fun w' st4 z' G4 H4 as4 R4 X4 N4 rz h4 => ?_
        exact hv' W G4 H4 as4 st4 σ e y w' w z' Q R4 ((rw'.ext X3).ext X4) rz h4
    | _ => exact h2.elim
theorem je_chain {a b c : Expr} {op op' : CmpOp} {ma mb mc : XM D} {f f' : D → D → XM D} (ho : OpS F (compareOp op) f) (ho' : OpS F (compareOp op') f') (ha : JE F a ma) (hb : JE F b mb) (hc : JE F c mc) (hm : lastMarks [op, op'] [b, c] = false := by with_unfolding_all rfl) :
    JE F (.Compare a [op, op'] [b, c] pos) (xchain f f' ma mb mc) := by
  obtain ⟨r, hr, hv⟩ := ho
  obtain ⟨r', hr', hv'⟩ := ho'
  obtain ⟨ta, pa, sa⟩ := ha
  obtain ⟨tb, pb, sb⟩ := hb
  obtain ⟨tc, pc, sc⟩ := hc
  exact ⟨fun W => tChain r r' (ta W) (tb W) (tc W), fun W X m => pe_chain (hr W X m) (hr' W X m) (pa W X m) (pb W X m) (pc W X m) hm, chain_SE hv hv' sa sb sc⟩
theorem jt_chain {a b c : Expr} {op op' : CmpOp} {ma mb mc : XM D} {f f' : D → D → XM D} (ho : OpS F (compareOp op) f) (ho' : OpS F (compareOp op') f') (ha : JE F a ma) (hb : JE F b mb) (hc : JE F c mc) (hm : lastMarks [op, op'] [b, c] = false := by with_unfolding_all rfl) :
    JT F (.Compare a [op, op'] [b, c] pos) (xbool (xchain f f' ma mb mc)) := by
  obtain ⟨r, hr, hv⟩ := ho
  obtain ⟨r', hr', hv'⟩ := ho'
  obtain ⟨ta, pa, sa⟩ := ha
  obtain ⟨tb, pb, sb⟩ := hb
  obtain ⟨tc, pc, sc⟩ := hc
  exact ⟨fun W => tTest (tChain r r' (ta W) (tb W) (tc W)), fun W X m => pt_chain (hr W X m) (hr' W X m) (pa W X m) (pb W X m) (pc W X m) hm, SE.bool (chain_SE hv hv' sa sb sc)⟩

/-! ## tests -/
/-- an expression as a test, by its truth -/
def truD (st : Store) : D → Option Bool
  | .non => some false
  | .bl b => some b
  | .int i => some (i != 0)
  | .str s => if s.length ≤ LIM then some ((s.length : Int) != 0) else none
  | d => (seqOf st d).map fun xs => !xs.isEmpty
def xtru (m : XM D) : XM Bool := xbind m fun x => fun _ st => match truD st x with
  | some b => .ok b st
  | none => .stuck
theorem isEmpty_rp {K : PySem.W.Frag} {mg : Str → Option Value} {G : Hp} {as : List Addr} {vs : List V} {xs : List D} (h : RpA K mg G as vs xs) : vs.isEmpty = xs.isEmpty := by cases h <;> rfl
theorem truD_ok {K : PySem.W.Frag} {mg : Str → Option Value} {G H : Hp} {as : List Addr} {st : Store} {v : V} {x : D} {b : Bool} (R : Ri K mg G H as st) (r : Rp K mg G as v x) (h : truD st x = some b) : TruV K v H b := by
  have sq : ∀ xs, seqOf st x = some xs → b = !xs.isEmpty → TruV K v H b := fun xs h1 e => by
    obtain ⟨a, vs, rfl, h2, h3⟩ := seqOf_ok R r h1
    rw [e, ← isEmpty_rp h3]
    rcases h2 with h2 | h2
    · exact .inl ⟨vs, h2, rfl⟩
    · exact .inr (.inl ⟨vs, h2, rfl⟩)
  have sq' : (seqOf st x).map (fun xs => !xs.isEmpty) = some b → TruV K v H b := fun h1 => by
    obtain ⟨xs, h2, h3⟩ := Option.map_eq_some_iff.mp h1
    exact sq xs h2 h3.symm
  cases r with
  | non => exact (Option.some.inj h).symm
  | bl b' => exact (Option.some.inj h).symm
  | int i => exact (Option.some.inj h).symm
  | str s =>
    unfold truD at h
    by_cases hl : s.length ≤ LIM
    · simp only [hl, if_true, Option.some.injEq] at h
      exact ⟨lim_le hl, h.symm⟩
    · simp [hl] at h
  | ty n => cases h
  | glo x a q => cases h
  | tup s q => exact sq' h
  | lst s q => exact sq' h
  | sq s q => exact sq' h
  | ref q => exact sq' h
theorem jt_tru {ex : Expr} {m : XM D} (h : JE F ex m) (he : ∀ env whole, isTrue ex env whole = (do let v ← whole; standAt ex.pos; holding [v] (truthy v)) := by intro _ _; rfl) : JT F ex (xtru m) := by
  obtain ⟨t, p, s⟩ := h
  refine ⟨fun W => fun σ H Q => t W σ H fun x H' => ∃ k, TruV g.K x H' k ∧ Q k H', fun W X m => by have := pt_truth (p W X m) (he _); rw [F.hK m] at this; exact this, ?_⟩
  intro W G H as st σ e Q R N h
  refine s.oneB R N h fun x st1 v G1 H1 as1 R1 X1 N1 rv h1 => ?_
  cases q : truD st1 x with
  | none => simp [q] at h1; exact h1.elim
  | some b =>
    simp only [q] at h1
    exact ⟨b, truD_ok R1 rv q, h1 _ _ _ R1 Ext.refl⟩
def tnot (m : XM Bool) : XM Bool := xbind m fun b => xpure (!b)
theorem jt_not {a : Expr} {m : XM Bool} (h : JT F a m) : JT F (.UnaryOp .Not a pos) (tnot m) := by
  obtain ⟨t, p, s⟩ := h
  refine ⟨fun W => tNot (t W), fun W X m => pt_not (p W X m), ?_⟩
  intro W G H as st σ e Q R N h
  refine s.oneB R N h fun b st1 G1 H1 as1 R1 X1 N1 h1 => ?_
  exact h1 _ _ _ R1 Ext.refl
def tand (m n : XM Bool) : XM Bool := xbind m fun b => if b = true then n else xpure false
def tor (m n : XM Bool) : XM Bool := xbind m fun b => if b = true then xpure true else n
/-- a row of and | or as a test -/
def JW (F : Fam g) (ex : Expr) (m : XM Bool) : Prop := ∃ t : WX → TT, (∀ W X, F.mem W X → PW X ex (t W)) ∧ ST g t m
theorem JW.jt {ex : Expr} {m : XM Bool} (h : JW F ex m) : JT F ex m := let ⟨t, p, s⟩ := h; ⟨t, fun W X m => (p W X m).pt, s⟩
theorem jw_and1 {a : Expr} {m : XM Bool} (h : JT F a m) : JW F (.BoolOp .And [a] pos) m := let ⟨t, p, s⟩ := h; ⟨t, fun W X m => pw_and1 (p W X m), s⟩
theorem jw_or1 {a : Expr} {m : XM Bool} (h : JT F a m) : JW F (.BoolOp .Or [a] pos) m := let ⟨t, p, s⟩ := h; ⟨t, fun W X m => pw_or1 (p W X m), s⟩
theorem jw_and {a b : Expr} {rest : List Expr} {m n : XM Bool} (h : JT F a m) (h' : JW F (.BoolOp .And (b :: rest) pos) n) : JW F (.BoolOp .And (a :: b :: rest) pos) (tand m n) := by
  obtain ⟨t, p, s⟩ := h
  obtain ⟨t', p', s'⟩ := h'
  refine ⟨fun W => tAnd (t W) (t' W), fun W X m => pw_and (p W X m) (p' W X m), ?_⟩
  intro W G H as st σ e Q R N h
  refine s.oneB R N h fun b st1 G1 H1 as1 R1 X1 N1 h1 => ?_
  cases b with
  | true => exact iteT (s' W G1 H1 as1 st1 σ e Q R1 N1 h1)
  | false => exact iteF (h1 _ _ _ R1 Ext.refl)
theorem jw_or {a b : Expr} {rest : List Expr} {m n : XM Bool} (h : JT F a m) (h' : JW F (.BoolOp .Or (b :: rest) pos) n) : JW F (.BoolOp .Or (a :: b :: rest) pos) (tor m n) := by
  obtain ⟨t, p, s⟩ := h
  obtain ⟨t', p', s'⟩ := h'
  refine ⟨fun W => tOr (t W) (t' W), fun W X m => pw_or (p W X m) (p' W X m), ?_⟩
  intro W G H as st σ e Q R N h
  refine s.oneB R N h fun b st1 G1 H1 as1 R1 X1 N1 h1 => ?_
  cases b with
  | true => exact iteT (h1 _ _ _ R1 Ext.refl)
  | false => exact iteF (s' W G1 H1 as1 st1 σ e Q R1 N1 h1)

/-! ## and, or, not as values; a if t else b -/
theorem je_one {a : Expr} {op} {m : XM D} (h : JE F a m) : JE F (.BoolOp op [a] pos) m := let ⟨t, p, s⟩ := h; ⟨t, fun W X m => pe_one (p W X m), s⟩
def xand (m n : XM D) : XM D := xbind m fun x => fun e st => match truD st x with
  | some true => n e st
  | some false => .ok x st
  | none => .stuck
def xor' (m n : XM D) : XM D := xbind m fun x => fun e st => match truD st x with
  | some false => n e st
  | some true => .ok x st
  | none => .stuck
theorem je_and {a b : Expr} {rest : List Expr} {m n : XM D} (h : JE F a m) (h' : JE F (.BoolOp .And (b :: rest) pos) n) : JE F (.BoolOp .And (a :: b :: rest) pos) (xand m n) := by
  obtain ⟨t, p, s⟩ := h
  obtain ⟨t', p', s'⟩ := h'
  refine ⟨fun W => tAndT g.K (t W) (t' W), fun W X m => by have := pe_andT (p W X m) (p' W X m); rw [F.hK m] at this; exact this, ?_⟩
  intro W G H as st σ e Q R N h
  refine s.one R N h fun x st1 v G1 H1 as1 R1 X1 N1 rv h1 => ?_
  cases q : truD st1 x with
  | none => simp [q] at h1; exact h1.elim
  | some b =>
    refine ⟨b, truD_ok R1 rv q, ?_⟩
    cases b with
    | true => exact iteT (s' W G1 H1 as1 st1 σ e Q R1 N1 (by simpa only [q] using h1))
    | false => exact iteF (PX.pure R1 rv (σ := σ) (W := W) (by simpa only [q] using h1))
theorem je_or {a b : Expr} {rest : List Expr} {m n : XM D} (h : JE F a m) (h' : JE F (.BoolOp .Or (b :: rest) pos) n) : JE F (.BoolOp .Or (a :: b :: rest) pos) (xor' m n) := by
  obtain ⟨t, p, s⟩ := h
  obtain ⟨t', p', s'⟩ := h'
  refine ⟨fun W => tOrT g.K (t W) (t' W), fun W X m => by have := pe_orT (p W X m) (p' W X m); rw [F.hK m] at this; exact this, ?_⟩
  intro W G H as st σ e Q R N h
  refine s.one R N h fun x st1 v G1 H1 as1 R1 X1 N1 rv h1 => ?_
  cases q : truD st1 x with
  | none => simp [q] at h1; exact h1.elim
  | some b =>
    refine ⟨b, truD_ok R1 rv q, ?_⟩
    cases b with
    | false => exact iteF (s' W G1 H1 as1 st1 σ e Q R1 N1 (by simpa only [q] using h1))
    | true => exact iteT (PX.pure R1 rv (σ := σ) (W := W) (by simpa only [q] using h1))
def xnot (m : XM D) : XM D := xbind m fun x => fun _ st => match truD st x with
  | some b => .ok (.bl (!b)) st
  | none => .stuck
theorem je_not {a : Expr} {m : XM D} (h : JE F a m) : JE F (.UnaryOp .Not a pos) (xnot m) := by
  obtain ⟨t, p, s⟩ := h
  refine ⟨fun W => tNotT g.K (t W), fun W X m => by have := pe_notT (pos := pos) (p W X m); rw [F.hK m] at this; exact this, ?_⟩
  intro W G H as st σ e Q R N h
  refine s.one R N h fun x st1 v G1 H1 as1 R1 X1 N1 rv h1 => ?_
  cases q : truD st1 x with
  | none => simp [q] at h1; exact h1.elim
  | some b => exact ⟨b, truD_ok R1 rv q, PX.pure R1 (.bl (!b)) (σ := σ) (W := W) (by simpa only [q] using h1)⟩
def xif (c : XM Bool) (m n : XM D) : XM D := xbind c fun b => if b = true then m else n
theorem je_if {c a b : Expr} {mc : XM Bool} {m n : XM D} (hc : JT F c mc) (ha : JE F a m) (hb : JE F b n) : JE F (.IfExp c a b pos) (xif mc m n) := by
  obtain ⟨tc, pc, sc⟩ := hc
  obtain ⟨ta, pa, sa⟩ := ha
  obtain ⟨tb, pb, sb⟩ := hb
  refine ⟨fun W => tIf (tc W) (ta W) (tb W), fun W X m => pe_ifExp (pc W X m) (pa W X m) (pb W X m), ?_⟩
  intro W G H as st σ e Q R N h
  refine sc.one R N h fun b st1 G1 H1 as1 R1 X1 N1 h1 => ?_
  cases b with
  | true => exact iteT (sa W G1 H1 as1 st1 σ e Q R1 N1 h1)
  | false => exact iteF (sb W G1 H1 as1 st1 σ e Q R1 N1 h1)
/-- a minus ahead -/
def xneg (m : XM D) : XM D := xbind m fun x => fun _ st => match x with
  | .int i => .ok (.int (-i)) st
  | _ => .stuck
theorem je_neg {a : Expr} {m : XM D} (h : JE F a m) : JE F (.UnaryOp .USub a pos) (xneg m) := by
  obtain ⟨t, p, s⟩ := h
  refine ⟨fun W => tUn (rU fun i => .int (-i)) (t W), fun W X m => pe_un un_neg (p W X m), ?_⟩
  intro W G H as st σ e Q R N h
  refine s.one R N h fun x st1 v G1 H1 as1 R1 X1 N1 rv h1 => ?_
  cases rv with
  | int i => exact ⟨i, rfl, PX.pure R1 (.int (-i)) h1⟩
  | _ => exact h1.elim
end
end LS
end
section
set_option maxRecDepth 100000
set_option maxHeartbeats 2000000
namespace LS
open PySem PySem.Spec L2

/-! ## data as the library's data -/
mutual
def pyD : D → Option PyData
  | .non => some .none
  | .bl b => some (.bool b)
  | .int i => some (.int i)
  | .str s => some (.str s)
  | .tup xs => (pyDs xs).map .tuple
  | .lst xs => (pyDs xs).map .list
  | .sq xs => (pyDs xs).map .list
  | _ => none
def pyDs : List D → Option (List PyData)
  | [] => some []
  | d :: ds => match pyD d, pyDs ds with
    | some p, some ps => some (p :: ps)
    | _, _ => none
end
def pyOf (st : Store) : D → Option PyData
  | .ref i => match st[i]? with
    | some (.lst xs) => (pyDs xs).map .list
    | none => none
  | d => pyD d
section
variable {K : PySem.W.Frag} {mg : Str → Option Value} {G H : Hp} {as : List Addr} {st : Store}
mutual
theorem pyD_ok (R : Ri K mg G H as st) : ∀ {d : D} {v : V} {p : PyData}, Rp K mg G as v d → pyD d = some p → Dp K H v p
  | .non, _, _, r, h => by cases r; cases h; exact .non
  | .bl _, _, _, r, h => by cases r; cases h; exact .bl _
  | .int _, _, _, r, h => by cases r; cases h; exact .int _
  | .str _, _, _, r, h => by cases r; cases h; exact .str _
  | .ty _, _, _, _, h => by cases h
  | .glo _, _, _, _, h => by cases h
  | .ref _, _, _, _, h => by cases h
  | .tup xs, _, _, r, h => by
    cases r with
    | tup s q =>
      obtain ⟨ps, e, rfl⟩ := Option.map_eq_some_iff.mp (show (pyDs xs).map PyData.tuple = some _ from h)
      exact .tup (sqT_H R s) (pyDs_ok R q e)
  | .lst xs, _, _, r, h => by
    cases r with
    | lst s q =>
      obtain ⟨ps, e, rfl⟩ := Option.map_eq_some_iff.mp (show (pyDs xs).map PyData.list = some _ from h)
      exact .lst (.of (R.sub _ _ s)) (pyDs_ok R q e)
  | .sq xs, _, _, r, h => by
    cases r with
    | sq s q =>
      obtain ⟨ps, e, rfl⟩ := Option.map_eq_some_iff.mp (show (pyDs xs).map PyData.list = some _ from h)
      exact .lst (sqL_H R s) (pyDs_ok R q e)
theorem pyDs_ok (R : Ri K mg G H as st) : ∀ {ds : List D} {vs : List V} {ps : List PyData}, RpA K mg G as vs ds → pyDs ds = some ps → DpAll K H vs ps
  | [], _, _, r, h => by cases r; cases h; exact .nil
  | d :: ds, _, _, r, h => by
    cases r with
    | cons a b =>
      unfold pyDs at h
      split at h
      · rename_i p qs e1 e2
        cases h
        exact .cons (pyD_ok R a e1) (pyDs_ok R b e2)
      · cases h
end
theorem pyOf_ok (R : Ri K mg G H as st) {d : D} {v : V} {p : PyData} (r : Rp K mg G as v d) (h : pyOf st d = some p) : Dp K H v p := by
  cases r with
  | ref q =>
    rename_i a i
    unfold pyOf at h
    cases hs : st[i]? with
    | none => simp [hs] at h
    | some m =>
      cases m with
      | lst ys =>
        simp only [hs] at h
        obtain ⟨ps, e, rfl⟩ := Option.map_eq_some_iff.mp h
        obtain ⟨ho, e1, o⟩ := R.at_ q hs
        cases o with | lst r' => exact .lst (.of e1) (pyDs_ok R r' e)
  | non => exact pyD_ok R .non h
  | bl b => exact pyD_ok R (.bl b) h
  | int i => exact pyD_ok R (.int i) h
  | str i => exact pyD_ok R (.str i) h
  | ty n => cases h
  | glo x a q => cases h
  | tup s q => exact pyD_ok R (.tup s q) h
  | lst s q => exact pyD_ok R (.lst s q) h
  | sq s q => exact pyD_ok R (.sq s q) h
end
def intsOf : List D → Option (List Int)
  | [] => some []
  | .int i :: r => (intsOf r).map (i :: ·)
  | _ => none
def blsOf : List D → Option (List Bool)
  | [] => some []
  | .bl i :: r => (blsOf r).map (i :: ·)
  | _ => none
theorem intsOf_eq : ∀ {ds : List D} {ns : List Int}, intsOf ds = some ns → ds = ns.map D.int
  | [], _, h => by cases h; rfl
  | .int i :: r, _, h => by
    obtain ⟨ps, e, rfl⟩ := Option.map_eq_some_iff.mp (show (intsOf r).map (i :: ·) = some _ from h)
    rw [intsOf_eq e]; rfl
theorem intsOf_map : ∀ ns : List Int, intsOf (ns.map D.int) = some ns
  | [] => rfl
  | n :: ns => by show (intsOf (ns.map D.int)).map (n :: ·) = _; rw [intsOf_map ns]; rfl
theorem blsOf_eq : ∀ {ds : List D} {ns : List Bool}, blsOf ds = some ns → ds = ns.map D.bl
  | [], _, h => by cases h; rfl
  | .bl i :: r, _, h => by
    obtain ⟨ps, e, rfl⟩ := Option.map_eq_some_iff.mp (show (blsOf r).map (i :: ·) = some _ from h)
    rw [blsOf_eq e]; rfl
theorem blsOf_map : ∀ ns : List Bool, blsOf (ns.map D.bl) = some ns
  | [] => rfl
  | n :: ns => by show (blsOf (ns.map D.bl)).map (n :: ·) = _; rw [blsOf_map ns]; rfl

/-! ## operators -/
section
variable {g : Gb} {F : Fam g}
abbrev dpure (o : Option D) : XM D := fun _ st => match o with
  | some d => .ok d st
  | none => .stuck
def addD (x y : D) : XM D := fun _ st => match x, y with
  | .int i, .int j => .ok (.int (i + j)) st
  | .str a, .str b => if a.length + b.length ≤ LIM then .ok (.str (a ++ b)) st else .stuck
  | .tup xs, .tup ys => if xs.length + ys.length ≤ LIM then .ok (.tup (xs ++ ys)) st else .stuck
  | x, y => match lstOf st x, lstOf st y with
    | some xs, some ys => if xs.length + ys.length ≤ LIM then .ok (.lst (xs ++ ys)) st else .stuck
    | _, _ => .stuck
theorem or1 {f : Value → Value → Sem Value} {X : Cx} {r r' : R2} (h : OpR X f r) (h' : OpR X f r') : OpR X f (fun x y H Q => r x y H Q ∨ r' x y H Q) := h.or h'
theorem addD_lst {K : PySem.W.Frag} {mg : Str → Option Value} {W : WX} {G H : Hp} {as : List Addr} {st : Store} {σ : L2.St} {x y : D} {v w : V} {Q : VK} (R : Ri K mg G H as st) (rx : Rp K mg G as v x) (ry : Rp K mg G as w y)
    (h : PX K mg W G H as σ (match lstOf st x, lstOf st y with | some xs, some ys => if xs.length + ys.length ≤ LIM then .ok (.lst (xs ++ ys)) st else .stuck | _, _ => .stuck) Q) : rCat v w H Q := by
  cases e1 : lstOf st x with
  | none => simp [e1] at h; exact h.elim
  | some xs =>
    cases e2 : lstOf st y with
    | none => simp [e1, e2] at h; exact h.elim
    | some ys =>
      simp only [e1, e2] at h
      by_cases hl : xs.length + ys.length ≤ LIM
      · rw [if_pos hl] at h
        obtain ⟨a, vs, rfl, h1, r1⟩ := lstOf_ok R rx e1
        obtain ⟨b, ws, rfl, h2, r2⟩ := lstOf_ok R ry e2
        refine ⟨a, b, vs, ws, rfl, rfl, h1, h2, by rw [r1.len, r2.len]; exact lim_le hl, fun p hp => ?_⟩
        obtain ⟨R', x'⟩ := R.still (o := .lst (vs ++ ws)) hp
        exact h _ _ _ _ R' x' (.lst upd_same ((r1.append r2).ext x'))
      · rw [if_neg hl] at h; exact h.elim
theorem os_add : OpS F (binaryOp .Add) addD := by
  refine ⟨fun x y H Q => rI0 (fun i j => .int (i + j)) x y H Q ∨ (∃ i j, x = .str i ∧ y = .str j ∧ i.length + j.length ≤ sizeLine ∧ Q (.str (i ++ j)) H) ∨ rCatA g.K x y H Q ∨ rCat x y H Q,
    fun W X m => op_add.or (op_add_str.or (OpR.or (by have := op_catA (X := X); rw [F.hK m] at this; exact this) op_cat)), ?_⟩
  intro W G H as st σ e x y v w Q R rx ry h
  unfold addD at h
  split at h
  · cases rx; cases ry; exact .inl ⟨_, _, rfl, rfl, h.pure R (.int _)⟩
  · rename_i a b
    cases rx; cases ry
    by_cases hl : a.length + b.length ≤ LIM
    · rw [if_pos hl] at h
      exact .inr (.inl ⟨_, _, rfl, rfl, lim_le hl, h.pure R (.str _)⟩)
    · rw [if_neg hl] at h; exact h.elim
  · rename_i xs ys
    by_cases hl : xs.length + ys.length ≤ LIM
    · rw [if_pos hl] at h
      cases rx with
      | tup s1 r1 =>
        cases ry with
        | tup s2 r2 =>
          rename_i a vs b ws
          refine .inr (.inr (.inl ⟨a, b, vs, ws, rfl, rfl, sqT_H R s1, sqT_H R s2, by rw [r1.len, r2.len]; exact lim_le hl, fun z => ?_, fun _ z => ?_, fun _ _ p hp => ?_⟩))
          · subst z; cases r1
            exact h.pure R (.tup s2 r2)
          · subst z; cases r2
            rw [List.append_nil] at h
            exact h.pure R (.tup s1 r1)
          · obtain ⟨R', x'⟩ := R.still (o := .tup (vs ++ ws)) hp
            exact h _ _ _ _ R' x' (.tup (.inl (.inl upd_same)) ((r1.append r2).ext x'))
    · rw [if_neg hl] at h; exact h.elim
  · exact .inr (.inr (.inr (addD_lst R rx ry h)))
def i2 (c : Int → Int → Bool) (f : Int → Int → D) (x y : D) : XM D := fun _ st => match x, y with
  | .int i, .int j => if c i j = true then .ok (f i j) st else .stuck
  | _, _ => .stuck
theorem os_i2 {fv : Value → Value → Sem Value} {C : Int → Int → Prop} {c : Int → Int → Bool} {f : Int → Int → D} {fV : Int → Int → V} (h : ∀ X : Cx, OpR X fv (rI C fV)) (hc : ∀ i j, c i j = true → C i j) (hf : ∀ i j G as, Rp g.K g.mg G as (fV i j) (f i j)) : OpS F fv (i2 c f) := by
  refine ⟨rI C fV, fun W X m => h X, ?_⟩
  intro W G H as st σ e x y v w Q R rx ry q
  unfold i2 at q
  split at q
  · rename_i i j
    cases rx; cases ry
    by_cases hl : c i j = true
    · rw [if_pos hl] at q
      exact ⟨i, j, rfl, rfl, hc i j hl, q.pure R (hf i j _ _)⟩
    · rw [if_neg hl] at q; exact q.elim
  · exact q.elim
theorem op_of0 {fv : Value → Value → Sem Value} {X : Cx} {fV : Int → Int → V} (h : OpR X fv (rI0 fV)) : OpR X fv (rI (fun _ _ => True) fV) := by
  intro pins s σ H x y v u Q I rx ry q
  obtain ⟨i, j, e1, e2, _, q⟩ := q
  exact h pins s σ H x y v u Q I rx ry ⟨i, j, e1, e2, q⟩
abbrev subD : D → D → XM D := i2 (fun _ _ => true) fun i j => .int (i - j)
theorem os_sub : OpS F (binaryOp .Sub) subD := os_i2 (fun _ => op_of0 op_sub) (fun _ _ _ => trivial) fun _ _ _ _ => .int _
def mulC (i j : Int) : Bool := decide (i.natAbs < 2 ^ 64) || decide (j.natAbs < 2 ^ 64) || decide (i.natAbs.log2 + j.natAbs.log2 < 1000000)
abbrev mulD : D → D → XM D := i2 mulC fun i j => .int (i * j)
theorem op_mulA {X : Cx} : OpR X (binaryOp .Mult) (rI (fun i j => mulC i j = true) fun i j => .int (i * j)) := by
  intro pins s σ H x y v u Q I rx ry q
  obtain ⟨i, j, e1, e2, c, q⟩ := q
  unfold mulC at c
  simp only [Bool.or_eq_true, decide_eq_true_eq] at c
  rcases c with (c | c) | c
  · exact op_mul pins s σ H x y v u Q I rx ry ⟨i, j, e1, e2, .inl (by omega), q⟩
  · exact op_mul pins s σ H x y v u Q I rx ry ⟨i, j, e1, e2, .inr (by omega), q⟩
  · exact op_mulW pins s σ H x y v u Q I rx ry ⟨i, j, e1, e2, c, q⟩
theorem os_mul : OpS F (binaryOp .Mult) mulD := os_i2 (fun _ => op_mulA) (fun _ _ h => h) fun _ _ _ _ => .int _
def divC (_ j : Int) : Bool := decide (0 < j) && (decide (j.natAbs < 1073741824) || decide (j.natAbs.log2 < 9000))
abbrev divD : D → D → XM D := i2 divC fun i j => .int (i / j)
theorem op_divA {X : Cx} : OpR X (binaryOp .FloorDiv) (rI (fun i j => divC i j = true) fun i j => .int (i / j)) := by
  intro pins s σ H x y v u Q I rx ry q
  obtain ⟨i, j, e1, e2, c, q⟩ := q
  unfold divC at c
  simp only [Bool.and_eq_true, Bool.or_eq_true, decide_eq_true_eq] at c
  rcases c with ⟨c0, c | c⟩
  · exact op_fdiv pins s σ H x y v u Q I rx ry ⟨i, j, e1, e2, ⟨c0, by omega⟩, q⟩
  · exact op_fdivW pins s σ H x y v u Q I rx ry ⟨i, j, e1, e2, ⟨c0, c⟩, q⟩
theorem os_div : OpS F (binaryOp .FloorDiv) divD := os_i2 (fun _ => op_divA) (fun _ _ h => h) fun _ _ _ _ => .int _
abbrev modD : D → D → XM D := i2 (fun _ j => decide (0 < j)) fun i j => .int (i % j)
theorem os_mod : OpS F (binaryOp .Mod) modD := os_i2 (fun _ => op_mod) (fun _ _ h => of_decide_eq_true h) fun _ _ _ _ => .int _
def powC (i j : Int) : Bool := decide (0 ≤ j) && decide (j ≤ 1000000) && decide (i.natAbs < 2 ^ 64)
theorem powC_ok {i j : Int} (h : powC i j = true) : CPow i j := by
  unfold powC at h
  simp only [Bool.and_eq_true, decide_eq_true_eq] at h
  exact ⟨h.1.1, h.1.2, h.2⟩
abbrev powD : D → D → XM D := i2 powC fun i j => .int (i ^ j.toNat)
theorem os_pow : OpS F (binaryOp .Pow) powD := os_i2 (fun _ => op_pow) (fun _ _ h => powC_ok h) fun _ _ _ _ => .int _
abbrev shlD : D → D → XM D := i2 powC fun i j => .int (i * 2 ^ j.toNat)
theorem os_shl : OpS F (binaryOp .LShift) shlD := os_i2 (fun _ => op_shl) (fun _ _ h => powC_ok h) fun _ _ _ _ => .int _

/-! ### comparisons -/
def eqO (st : Store) (x y : D) : Option Bool := match pyOf st x, pyOf st y with
  | some p, some q => if (SeqAt.shaped p && SeqAt.shaped q) = true then some (PyData.eqv p q) else none
  | _, _ => none
def eqD (x y : D) : XM D := fun _ st => match eqO st x y with
  | some b => .ok (.bl b) st
  | none => .stuck
def neD (x y : D) : XM D := fun _ st => match eqO st x y with
  | some b => .ok (.bl (!b)) st
  | none => .stuck
theorem eqO_ok {K : PySem.W.Frag} {mg : Str → Option Value} {G H : Hp} {as : List Addr} {st : Store} {x y : D} {v w : V} {b : Bool} (R : Ri K mg G H as st) (rx : Rp K mg G as v x) (ry : Rp K mg G as w y) (h : eqO st x y = some b) :
    ∃ p q, Dp K H v p ∧ Dp K H w q ∧ SeqAt.shaped p = true ∧ SeqAt.shaped q = true ∧ PyData.eqv p q = b := by
  unfold eqO at h
  split at h
  · rename_i p q e1 e2
    by_cases hs : (SeqAt.shaped p && SeqAt.shaped q) = true
    · rw [if_pos hs] at h
      have hs' := Bool.and_eq_true_iff.mp hs
      exact ⟨p, q, pyOf_ok R rx e1, pyOf_ok R ry e2, hs'.1, hs'.2, Option.some.inj h⟩
    · rw [if_neg hs] at h; cases h
  · cases h
theorem os_eq : OpS F (compareOp .Eq) eqD := by
  refine ⟨rEqD g.K, fun W X m => by have := op_eqD (X := X) (F.room m).units; rw [F.hK m] at this; exact this, ?_⟩
  intro W G H as st σ e x y v w Q R rx ry h
  unfold eqD at h
  cases q : eqO st x y with
  | none => simp [q] at h; exact h.elim
  | some b =>
    simp only [q] at h
    obtain ⟨p, p', d1, d2, s1, s2, e1⟩ := eqO_ok R rx ry q
    exact ⟨p, p', d1, d2, s1, s2, by rw [e1]; exact h.pure R (.bl b)⟩
theorem os_ne : OpS F (compareOp .NotEq) neD := by
  refine ⟨rNeD g.K, fun W X m => by have := op_neD (X := X) (F.room m).units; rw [F.hK m] at this; exact this, ?_⟩
  intro W G H as st σ e x y v w Q R rx ry h
  unfold neD at h
  cases q : eqO st x y with
  | none => simp [q] at h; exact h.elim
  | some b =>
    simp only [q] at h
    obtain ⟨p, p', d1, d2, s1, s2, e1⟩ := eqO_ok R rx ry q
    exact ⟨p, p', d1, d2, s1, s2, by rw [e1]; exact h.pure R (.bl (!b))⟩
def ltD (x y : D) : XM D := fun _ st => match x, y with
  | .int i, .int j => .ok (.bl (decide (i < j))) st
  | .tup xs, .tup ys => match intsOf xs, intsOf ys with
    | some ns, some ms => .ok (.bl (HT.lexLt ns ms)) st
    | _, _ => .stuck
  | _, _ => .stuck
theorem os_lt : OpS F (compareOp .Lt) ltD := by
  refine ⟨fun x y H Q => rI0 (fun i j => .bl (decide (i < j))) x y H Q ∨ rLtT g.K x y H Q, fun W X m => op_lt.or (by have := op_ltT (X := X) (F.room m).units0; rw [F.hK m] at this; exact this), ?_⟩
  intro W G H as st σ e x y v w Q R rx ry h
  unfold ltD at h
  split at h
  · cases rx; cases ry; exact .inl ⟨_, _, rfl, rfl, h.pure R (.bl _)⟩
  · split at h
    · rename_i xs ys ns ms e1 e2
      cases intsOf_eq e1; cases intsOf_eq e2
      cases rx with
      | tup s1 r1 =>
        cases ry with
        | tup s2 r2 =>
          cases RpA.ints _ r1
          cases RpA.ints _ r2
          exact .inr ⟨_, _, ns, ms, rfl, rfl, sqT_H R s1, sqT_H R s2, h.pure R (.bl _)⟩
    · exact h.elim
  · exact h.elim
abbrev leD : D → D → XM D := i2 (fun _ _ => true) fun i j => .bl (decide (i ≤ j))
theorem os_le : OpS F (compareOp .LtE) leD := os_i2 (fun _ => op_of0 op_le) (fun _ _ _ => trivial) fun _ _ _ _ => .bl _
abbrev gtD : D → D → XM D := i2 (fun _ _ => true) fun i j => .bl (decide (j < i))
theorem os_gt : OpS F (compareOp .Gt) gtD := os_i2 (fun _ => op_of0 op_gt) (fun _ _ _ => trivial) fun _ _ _ _ => .bl _
abbrev geD : D → D → XM D := i2 (fun _ _ => true) fun i j => .bl (decide (j ≤ i))
theorem os_ge : OpS F (compareOp .GtE) geD := os_i2 (fun _ => op_of0 op_ge) (fun _ _ _ => trivial) fun _ _ _ _ => .bl _
def isN : D → Bool
  | .non => true
  | _ => false
def isD (x y : D) : XM D := fun _ st => match y with
  | .non => .ok (.bl (isN x)) st
  | _ => .stuck
def isntD (x y : D) : XM D := fun _ st => match y with
  | .non => .ok (.bl (!isN x)) st
  | _ => .stuck
theorem isN_ok {K : PySem.W.Frag} {mg : Str → Option Value} {G : Hp} {as : List Addr} {x : D} {v : V} (r : Rp K mg G as v x) : decide (v = .non) = isN x := by
  cases r <;> first | rfl | exact decide_eq_false (fun z => nomatch z)
theorem os_is : OpS F (compareOp .Is) isD := by
  refine ⟨fun x y H Q => y = .non ∧ Q (.bl (decide (x = .non))) H, fun W X m => op_isN, ?_⟩
  intro W G H as st σ e x y v w Q R rx ry h
  cases ry with
  | non => exact ⟨rfl, by rw [isN_ok rx]; exact PX.pure R (.bl _) h⟩
  | _ => exact h.elim
theorem os_isnt : OpS F (compareOp .IsNot) isntD := by
  refine ⟨fun x y H Q => y = .non ∧ Q (.bl (!decide (x = .non))) H, fun W X m => op_notN, ?_⟩
  intro W G H as st σ e x y v w Q R rx ry h
  cases ry with
  | non => exact ⟨rfl, by rw [isN_ok rx]; exact PX.pure R (.bl _) h⟩
  | _ => exact h.elim
/-- x in a list, a tuple -/
def rInA (K : PySem.W.Frag) : R2 := fun x y H Q => ∃ d ds, Dp K H x d ∧ (Dp K H y (.list ds) ∨ Dp K H y (.tuple ds)) ∧ SeqAt.shaped d = true ∧ SeqAt.shaped (.list ds) = true ∧ Q (.bl (ds.any fun z => PyData.eqv z d)) H
def rNotInA (K : PySem.W.Frag) : R2 := fun x y H Q => ∃ d ds, Dp K H x d ∧ (Dp K H y (.list ds) ∨ Dp K H y (.tuple ds)) ∧ SeqAt.shaped d = true ∧ SeqAt.shaped (.list ds) = true ∧ Q (.bl (!ds.any fun z => PyData.eqv z d)) H
theorem room_in {A : Around} {ds : List PyData} {d : PyData} (h : SeqAt.shaped d = true) (hu : A.units + 65 < cLine) : A.units + 1 + min (PyData.depthAll ds) d.depth < cLine := by
  have h1 := SeqAt.depth_of_shaped h
  have h2 : min (PyData.depthAll ds) d.depth ≤ d.depth := Nat.min_le_right _ _
  omega
theorem op_inA {X : Cx} (hu : X.A.units + 65 < cLine) : OpR X (compareOp .In) (rInA X.K) := by
  intro pins s σ H x y v u Q I rx ry h
  obtain ⟨d, ds, hd, he, sd, se, q⟩ := h
  obtain ⟨as, r1⟩ := Dp.reads I d x v hd rx
  rcases he with he | he
  · obtain ⟨bs, r2⟩ := Dp.reads I (.list ds) y u he ry
    exact SeqAt.in_list_reads r2 r1 (SeqAt.canLay_of_shaped se) (SeqAt.canLay_of_shaped sd) (room_in sd hu) ⟨.bl _, H, I, rfl, q⟩
  · obtain ⟨bs, r2⟩ := Dp.reads I (.tuple ds) y u he ry
    exact SeqAt.in_tuple_reads r2 r1 (SeqAt.canLay_of_shaped se) (SeqAt.canLay_of_shaped sd) (room_in sd hu) ⟨.bl _, H, I, rfl, q⟩
theorem op_notInA {X : Cx} (hu : X.A.units + 65 < cLine) : OpR X (compareOp .NotIn) (rNotInA X.K) := by
  intro pins s σ H x y v u Q I rx ry h
  obtain ⟨d, ds, hd, he, sd, se, q⟩ := h
  obtain ⟨as, r1⟩ := Dp.reads I d x v hd rx
  rcases he with he | he
  · obtain ⟨bs, r2⟩ := Dp.reads I (.list ds) y u he ry
    exact SeqAt.notIn_list_reads r2 r1 (SeqAt.canLay_of_shaped se) (SeqAt.canLay_of_shaped sd) (room_in sd hu) ⟨.bl _, H, I, rfl, q⟩
  · obtain ⟨bs, r2⟩ := Dp.reads I (.tuple ds) y u he ry
    exact SeqAt.notIn_tuple_reads r2 r1 (SeqAt.canLay_of_shaped se) (SeqAt.canLay_of_shaped sd) (room_in sd hu) ⟨.bl _, H, I, rfl, q⟩
def inO (st : Store) (x y : D) : Option Bool := match pyOf st x, pyOf st y with
  | some p, some (.list qs) => if (SeqAt.shaped p && SeqAt.shaped (.list qs)) = true then some (qs.any fun z => PyData.eqv z p) else none
  | some p, some (.tuple qs) => if (SeqAt.shaped p && SeqAt.shaped (.list qs)) = true then some (qs.any fun z => PyData.eqv z p) else none
  | _, _ => none
def inD (x y : D) : XM D := fun _ st => match inO st x y with
  | some b => .ok (.bl b) st
  | none => .stuck
def notInD (x y : D) : XM D := fun _ st => match inO st x y with
  | some b => .ok (.bl (!b)) st
  | none => .stuck
theorem inO_ok {K : PySem.W.Frag} {mg : Str → Option Value} {G H : Hp} {as : List Addr} {st : Store} {x y : D} {v w : V} {b : Bool} (R : Ri K mg G H as st) (rx : Rp K mg G as v x) (ry : Rp K mg G as w y) (h : inO st x y = some b) :
    ∃ d ds, Dp K H v d ∧ (Dp K H w (.list ds) ∨ Dp K H w (.tuple ds)) ∧ SeqAt.shaped d = true ∧ SeqAt.shaped (.list ds) = true ∧ (ds.any fun z => PyData.eqv z d) = b := by
  unfold inO at h
  split at h
  · rename_i p qs e1 e2
    by_cases hs : (SeqAt.shaped p && SeqAt.shaped (.list qs)) = true
    · rw [if_pos hs] at h
      have hs' := Bool.and_eq_true_iff.mp hs
      exact ⟨p, qs, pyOf_ok R rx e1, .inl (pyOf_ok R ry e2), hs'.1, hs'.2, Option.some.inj h⟩
    · rw [if_neg hs] at h; cases h
  · rename_i p qs e1 e2
    by_cases hs : (SeqAt.shaped p && SeqAt.shaped (.list qs)) = true
    · rw [if_pos hs] at h
      have hs' := Bool.and_eq_true_iff.mp hs
      exact ⟨p, qs, pyOf_ok R rx e1, .inr (pyOf_ok R ry e2), hs'.1, hs'.2, Option.some.inj h⟩
    · rw [if_neg hs] at h; cases h
  · cases h
theorem units65 {k : Nat} {A : Around} (r : Room k A) : A.units + 65 < cLine := by have := r.un; omega
theorem os_in : OpS F (compareOp .In) inD := by
  refine ⟨rInA g.K, fun W X m => by have := op_inA (X := X) (units65 (F.room m)); rw [F.hK m] at this; exact this, ?_⟩
  intro W G H as st σ e x y v w Q R rx ry h
  unfold inD at h
  cases q : inO st x y with
  | none => simp [q] at h; exact h.elim
  | some b =>
    simp only [q] at h
    obtain ⟨d, ds, h1, h2, h3, h4, h5⟩ := inO_ok R rx ry q
    exact ⟨d, ds, h1, h2, h3, h4, by rw [h5]; exact h.pure R (.bl b)⟩
theorem os_notin : OpS F (compareOp .NotIn) notInD := by
  refine ⟨rNotInA g.K, fun W X m => by have := op_notInA (X := X) (units65 (F.room m)); rw [F.hK m] at this; exact this, ?_⟩
  intro W G H as st σ e x y v w Q R rx ry h
  unfold notInD at h
  cases q : inO st x y with
  | none => simp [q] at h; exact h.elim
  | some b =>
    simp only [q] at h
    obtain ⟨d, ds, h1, h2, h3, h4, h5⟩ := inO_ok R rx ry q
    exact ⟨d, ds, h1, h2, h3, h4, by rw [h5]; exact h.pure R (.bl (!b))⟩

/-! ## items and slices -/
variable {pos : Pos}
def ixD (x y : D) : XM D := fun _ st => match y with
  | .int i => (match seqOf st x with
    | some xs => (match atI xs i with
      | some d => .ok d st
      | none => .stuck)
    | none => .stuck)
  | _ => .stuck
theorem atI_rp {K : PySem.W.Frag} {mg : Str → Option Value} {G : Hp} {as : List Addr} {vs : List V} {xs : List D} {i : Int} {d : D} (r : RpA K mg G as vs xs) (h : atI xs i = some d) : ∃ v, atI vs i = some v ∧ Rp K mg G as v d := by
  unfold atI at h ⊢
  rw [r.len]
  cases q : ixN xs.length i with
  | none => rw [q] at h; cases h
  | some j =>
    rw [q] at h
    exact r.get (by simpa using h)
theorem je_ix {a b : Expr} {ma mb : XM D} (ha : JE F a ma) (hb : JE F b mb) (hs : PlainIx b := by intro _ _; rfl) : JE F (.Subscript a b pos) (xop ixD ma mb) := by
  obtain ⟨ta, pa, sa⟩ := ha
  obtain ⟨tb, pb, sb⟩ := hb
  refine ⟨fun W => tOp (fun x y H Q => rIxL g.K x y H Q ∨ rIxT g.K x y H Q) (ta W) (tb W), fun W X m => by have := pe_ix (pos := pos) ((ix_list (X := X)).or ix_tup) (pa W X m) (pb W X m) hs; rw [F.hK m] at this; exact this, ?_⟩
  intro W G H as st σ e Q R N h
  refine sa.one R N h fun x st1 v G1 H1 as1 R1 X1 N1 rv h1 => ?_
  refine sb.one R1 N1 h1 fun y st2 w G2 H2 as2 R2 X2 N2 rw' h2 => ?_
  have rv2 := rv.ext X2
  unfold ixD at h2
  cases rw' with
  | int i =>
    cases q : seqOf st2 x with
    | none => simp [q] at h2; exact h2.elim
    | some xs =>
      cases q2 : atI xs i with
      | none => simp [q, q2] at h2; exact h2.elim
      | some d =>
        simp only [q, q2] at h2
        obtain ⟨a', vs, rfl, s, r⟩ := seqOf_ok R2 rv2 q
        obtain ⟨u, e1, ru⟩ := atI_rp r q2
        rcases s with s | s
        · exact .inl ⟨a', vs, i, u, rfl, rfl, s, e1, h2.pure R2 ru⟩
        · exact .inr ⟨a', vs, i, u, rfl, rfl, s, e1, h2.pure R2 ru⟩
  | _ => exact h2.elim
def JO (F : Fam g) (ex : Option Expr) (m : XM (Option Int)) : Prop := ∃ t : WX → TO, (∀ W X, F.mem W X → PO X ex (t W)) ∧
  ∀ (W : WX) (G H : Hp) (as : List Addr) (st : Store) (σ : L2.St) (e : Nv) (f : Option Int → XM D) (Q : VK) (Q1 : Option Int → Hp → Prop), Ri g.K g.mg G H as st → Rn g.K g.mg G as σ e → PX g.K g.mg W G H as σ (xbind m f e st) Q →
    (∀ x st1 G1 H1 as1, Ri g.K g.mg G1 H1 as1 st1 → Ext G H as G1 H1 as1 → Rn g.K g.mg G1 as1 σ e → PX g.K g.mg W G1 H1 as1 σ (f x e st1) Q → Q1 x H1) → t W σ H Q1
theorem jo_none : JO F none (xpure none) := ⟨fun _ => tNoPart, fun _ _ _ => po_none, fun W G H as st σ e f Q Q1 R N h k => k none st G H as R Ext.refl N h⟩
def xpart (m : XM D) : XM (Option Int) := xbind m fun x => fun _ st => match x with
  | .int i => .ok (some i) st
  | _ => .stuck
theorem jo_some {ex : Expr} {m : XM D} (h : JE F ex m) : JO F (some ex) (xpart m) := by
  obtain ⟨t, p, s⟩ := h
  refine ⟨fun W => tPart (t W), fun W X m => po_some (p W X m), ?_⟩
  intro W G H as st σ e f Q Q1 R N h k
  have h' : PX g.K g.mg W G H as σ (xbind m (fun x => xbind (fun _ st => match x with | .int i => .ok (some i) st | _ => .stuck) f) e st) Q := by
    refine Eq.mp (congrArg (fun r => PX g.K g.mg W G H as σ r Q) ?_) h
    unfold xpart xbind
    cases q : m e st <;> rfl
  refine s.one R N h' fun x st1 v G1 H1 as1 R1 X1 N1 rv h1 => ?_
  cases rv with
  | int i => exact ⟨i, rfl, k (some i) st1 G1 H1 as1 R1 X1 N1 h1⟩
  | _ => exact h1.elim
def cutD (xs : List D) (lo hi : Option Int) : List D := (xs.drop (HT.sIx xs.length 0 lo)).take (HT.sIx xs.length xs.length hi - HT.sIx xs.length 0 lo)
theorem cut_rp {K : PySem.W.Frag} {mg : Str → Option Value} {G : Hp} {as : List Addr} {vs : List V} {xs : List D} (r : RpA K mg G as vs xs) (lo hi : Option Int) : RpA K mg G as (cutV vs lo hi) (cutD xs lo hi) := by
  unfold cutV cutD
  rw [r.len]
  exact (r.drop _).take _
def slD (x : D) (lo hi : Option Int) : XM D := fun _ st => match x with
  | .tup xs => .ok (.tup (cutD xs lo hi)) st
  | .sq xs => .ok (.lst (cutD xs lo hi)) st
  | x => match lstOf st x with
    | some xs => .ok (.lst (cutD xs lo hi)) st
    | none => .stuck
def xslice (m : XM D) (ml mh : XM (Option Int)) : XM D := xbind m fun x => xbind ml fun l => xbind mh fun h => slD x l h
theorem je_slice {ex : Expr} {lo hi : Option Expr} {p2 : Pos} {m : XM D} {ml mh : XM (Option Int)} (he : JE F ex m) (hl : JO F lo ml) (hh : JO F hi mh) : JE F (.Subscript ex (.Slice lo hi none p2) pos) (xslice m ml mh) := by
  obtain ⟨t, p, s⟩ := he
  obtain ⟨tl, pl, sl⟩ := hl
  obtain ⟨th, ph, sh⟩ := hh
  refine ⟨fun W => tSl (fun x lo hi H Q => rSlA g.K x lo hi H Q ∨ rSlL g.K x lo hi H Q) (t W) (tl W) (th W), fun W X m => by have := pe_slice (pos := pos) (p2 := p2) ((sl_tupA (X := X)).or sl_list) (p W X m) (pl W X m) (ph W X m); rw [F.hK m] at this; exact this, ?_⟩
  intro W G H as st σ e Q R N h
  refine s.one R N h fun x st1 v G1 H1 as1 R1 X1 N1 rv h1 => ?_
  refine sl W G1 H1 as1 st1 σ e _ Q _ R1 N1 h1 fun l st2 G2 H2 as2 R2 X2 N2 h2 => ?_
  refine sh W G2 H2 as2 st2 σ e _ Q _ R2 N2 h2 fun u st3 G3 H3 as3 R3 X3 N3 h3 => ?_
  have rv3 := (rv.ext X2).ext X3
  have lists : ∀ xs, (∃ a vs, v = .ref a ∧ SqL g.K H3 a vs ∧ RpA g.K g.mg G3 as3 vs xs) → PX g.K g.mg W G3 H3 as3 σ (.ok (.lst (cutD xs l u)) st3) Q → rSlL g.K v l u H3 Q := fun xs ⟨a, vs, e1, s1, r1⟩ q => by
    refine ⟨a, vs, e1, s1, fun p hp => ?_⟩
    obtain ⟨R', x'⟩ := R3.still (o := .lst (cutV vs l u)) hp
    exact q _ _ _ _ R' x' (.lst upd_same ((cut_rp r1 l u).ext x'))
  have lists2 : PX g.K g.mg W G3 H3 as3 σ (match lstOf st3 x with | some xs => .ok (.lst (cutD xs l u)) st3 | none => .stuck) Q → rSlL g.K v l u H3 Q := fun q => by
    cases q2 : lstOf st3 x with
    | none => simp [q2] at q; exact q.elim
    | some xs =>
      simp only [q2] at q
      obtain ⟨a, vs, e1, s1, r1⟩ := lstOf_ok R3 rv3 q2
      exact lists xs ⟨a, vs, e1, .of s1, r1⟩ q
  unfold slD at h3
  split at h3
  · cases rv3 with
    | tup s1 r1 =>
      refine .inl ⟨_, _, rfl, sqT_H R3 s1, fun z => ?_, fun _ p hp => ?_⟩
      · rename_i xs _ _
        have e1 : cutD xs l u = xs := by
          unfold cutD
          rw [← r1.len, z.1, z.2, Nat.sub_zero, List.drop_zero, r1.len]
          exact List.take_length
        rw [e1] at h3
        exact h3.pure R3 (.tup s1 r1)
      · obtain ⟨R', x'⟩ := R3.still hp
        exact h3 _ _ _ _ R' x' (.tup (.inl (.inl upd_same)) ((cut_rp r1 l u).ext x'))
  · cases rv3 with
    | sq s1 r1 => exact .inr (lists _ ⟨_, _, rfl, sqL_H R3 s1, r1⟩ h3)
  · exact .inr (lists2 h3)
end
end LS
end
section
set_option maxRecDepth 100000
set_option maxHeartbeats 2000000
namespace LS
open PySem PySem.Spec L2

/-! ## calls of built-ins, by values -/
section
variable {g : Gb} {F : Fam g} {pos : Pos}
def CallS (F : Fam g) (fv : Value) (fop : List D → XM D) : Prop := ∃ r : List V → Hp → VK → Prop, (∀ W X, F.mem W X → CallR X fv r) ∧
  ∀ (W : WX) (G H : Hp) (as : List Addr) (st : Store) (σ : L2.St) (e : Nv) (xs : List D) (vs : List V) (Q : VK), Ri g.K g.mg G H as st → RpA g.K g.mg G as vs xs → PX g.K g.mg W G H as σ (fop xs e st) Q → r vs H Q
def xcall (fop : List D → XM D) (ms : XM (List D)) : XM D := xbind ms fop
theorem callS_SE {r : List V → Hp → VK → Prop} {ts : WX → TA} {ms : XM (List D)} {fop : List D → XM D} (ss : SA g ts ms)
    (hv : ∀ (W : WX) (G H : Hp) (as : List Addr) (st : Store) (σ : L2.St) (e : Nv) (xs : List D) (vs : List V) (Q : VK), Ri g.K g.mg G H as st → RpA g.K g.mg G as vs xs → PX g.K g.mg W G H as σ (fop xs e st) Q → r vs H Q) : SE g (fun W => tCB r (ts W)) (xcall fop ms) := by
  intro W G H as st σ e Q R N h
  refine ss.one R N h fun xs st1 vs G1 H1 as1 R1 X1 N1 rv h1 => ?_
  exact hv W G1 H1 as1 st1 σ e xs vs Q R1 rv h1
theorem je_callB {x : Str} {id : String} {p : Pos} {a : Expr} {es : List Expr} {ms : XM (List D)} {fop : List D → XM D} (hc : CallS F (.builtin id) fop) (hg : F.sc.names.lookup x = some .globalImplicit) (hm : g.mg x = none) (hv : bootBuiltins x = some (.builtin id)) (ha : JA F (a :: es) ms)
    (hn : x ≠ "__name__" := by decide) (hdb : (x == ("__debug__" : Str)) = false := by decide) (he : ∀ env, starEach (a :: es) env = (false, eval a env) :: starEach es env := by intro _; rfl) (hpl : ∀ env, (backTo pos (starEach es env)).any (·.1) = false := by intro _; rfl) :
    JE F (.Call (.Name x p) (a :: es) [] pos) (xcall fop ms) := by
  obtain ⟨r, hr, hv'⟩ := hc
  obtain ⟨ts, ps, ss⟩ := ha
  exact ⟨fun W => tCB r (ts W), fun W X m => pe_callB (hr W X m) (by show X.env.scope.names.lookup x = _; rw [F.hsc m]; exact hg) (by rw [F.hmg m]; exact hm) hv (ps W X m) hn hdb (he _) (hpl _), callS_SE ss hv'⟩
theorem je_callTy {x : Str} {T : String} {p : Pos} {a : Expr} {es : List Expr} {ms : XM (List D)} {fop : List D → XM D} (hc : CallS F (.type T) fop) (hg : F.sc.names.lookup x = some .globalImplicit) (hm : g.mg x = none) (hv : bootBuiltins x = some (.type T)) (ha : JA F (a :: es) ms)
    (hn : x ≠ "__name__" := by decide) (hdb : (x == ("__debug__" : Str)) = false := by decide) (he : ∀ env, starEach (a :: es) env = (false, eval a env) :: starEach es env := by intro _; rfl) (hpl : ∀ env, (backTo pos (starEach es env)).any (·.1) = false := by intro _; rfl) :
    JE F (.Call (.Name x p) (a :: es) [] pos) (xcall fop ms) := by
  obtain ⟨r, hr, hv'⟩ := hc
  obtain ⟨ts, ps, ss⟩ := ha
  exact ⟨fun W => tCB r (ts W), fun W X m => pe_callTy (hr W X m) (by show X.env.scope.names.lookup x = _; rw [F.hsc m]; exact hg) (by rw [F.hmg m]; exact hm) hv (ps W X m) hn hdb (he _) (hpl _), callS_SE ss hv'⟩

/-! ### one argument -/
theorem rp1 {K : PySem.W.Frag} {mg : Str → Option Value} {G : Hp} {as : List Addr} {vs : List V} {x : D} (h : RpA K mg G as vs [x]) : ∃ v, vs = [v] ∧ Rp K mg G as v x := by
  cases h with | cons a b => cases b; exact ⟨_, rfl, a⟩
theorem rp2 {K : PySem.W.Frag} {mg : Str → Option Value} {G : Hp} {as : List Addr} {vs : List V} {x y : D} (h : RpA K mg G as vs [x, y]) : ∃ v w, vs = [v, w] ∧ Rp K mg G as v x ∧ Rp K mg G as w y := by
  cases h with | cons a b => cases b with | cons c d => cases d; exact ⟨_, _, rfl, a, c⟩
def f1 (f : D → XM D) : List D → XM D
  | [x] => f x
  | _ => fun _ _ => .stuck
def f2 (f : D → D → XM D) : List D → XM D
  | [x, y] => f x y
  | _ => fun _ _ => .stuck
theorem cs_1 {fv : Value} {f : D → XM D} {r : List V → Hp → VK → Prop} (hr : ∀ W X, F.mem W X → CallR X fv r)
    (h : ∀ (W : WX) (G H : Hp) (as : List Addr) (st : Store) (σ : L2.St) (e : Nv) (x : D) (v : V) (Q : VK), Ri g.K g.mg G H as st → Rp g.K g.mg G as v x → PX g.K g.mg W G H as σ (f x e st) Q → r [v] H Q) : CallS F fv (f1 f) := by
  refine ⟨r, hr, ?_⟩
  intro W G H as st σ e xs vs Q R rv q
  match xs, q with
  | [x], q =>
    obtain ⟨v, rfl, rx⟩ := rp1 rv
    exact h W G H as st σ e x v Q R rx q
theorem cs_2 {fv : Value} {f : D → D → XM D} {r : List V → Hp → VK → Prop} (hr : ∀ W X, F.mem W X → CallR X fv r)
    (h : ∀ (W : WX) (G H : Hp) (as : List Addr) (st : Store) (σ : L2.St) (e : Nv) (x y : D) (v w : V) (Q : VK), Ri g.K g.mg G H as st → Rp g.K g.mg G as v x → Rp g.K g.mg G as w y → PX g.K g.mg W G H as σ (f x y e st) Q → r [v, w] H Q) : CallS F fv (f2 f) := by
  refine ⟨r, hr, ?_⟩
  intro W G H as st σ e xs vs Q R rv q
  match xs, q with
  | [x, y], q =>
    obtain ⟨v, w, rfl, rx, ry⟩ := rp2 rv
    exact h W G H as st σ e x y v w Q R rx ry q
def lenD (x : D) : XM D := fun _ st => match x with
  | .str s => if s.length ≤ LIM then .ok (.int s.length) st else .stuck
  | x => match seqOf st x with
    | some xs => .ok (.int xs.length) st
    | none => .stuck
theorem seq_px {K : PySem.W.Frag} {mg : Str → Option Value} {W : WX} {G H : Hp} {as : List Addr} {st : Store} {σ : L2.St} {x : D} {v : V} {Q : VK} {f : List D → RX D} (R : Ri K mg G H as st) (rx : Rp K mg G as v x)
    (h : PX K mg W G H as σ (match seqOf st x with | some xs => f xs | none => .stuck) Q) : ∃ xs a vs, v = .ref a ∧ (SqL K H a vs ∨ SqT K H a vs) ∧ RpA K mg G as vs xs ∧ PX K mg W G H as σ (f xs) Q := by
  cases q : seqOf st x with
  | none => simp [q] at h; exact h.elim
  | some xs =>
    simp only [q] at h
    obtain ⟨a, vs, e, s, r⟩ := seqOf_ok R rx q
    exact ⟨xs, a, vs, e, s, r, h⟩
theorem cs_len : CallS F (.builtin "len") (f1 lenD) := by
  refine cs_1 (r := fun xs H Q => (∃ p ys, xs = [.ref p] ∧ (SqL g.K H p ys ∨ SqT g.K H p ys) ∧ Q (.int ys.length) H) ∨ (∃ z, xs = [.str z] ∧ z.length ≤ sizeLine ∧ Q (.int z.length) H))
    (fun W X m => by have := (call_len_seq (X := X)).or call_len_str; rw [F.hK m] at this; exact this) ?_
  intro W G H as st σ e x v Q R rx h
  unfold lenD at h
  split at h
  · rename_i s
    cases rx
    by_cases hl : s.length ≤ LIM
    · rw [if_pos hl] at h; exact .inr ⟨s, rfl, lim_le hl, h.pure R (.int _)⟩
    · rw [if_neg hl] at h; exact h.elim
  · obtain ⟨xs, a, vs, rfl, s, r, h'⟩ := seq_px R rx h
    refine .inl ⟨a, vs, rfl, s, ?_⟩
    rw [r.len]
    exact h'.pure R (.int _)
def absD (x : D) : XM D := fun _ st => match x with
  | .int i => .ok (.int i.natAbs) st
  | _ => .stuck
theorem cs_abs : CallS F (.builtin "abs") (f1 absD) := by
  refine cs_1 (fun W X m => call_abs) ?_
  intro W G H as st σ e x v Q R rx h
  cases rx with
  | int i =>
    refine ⟨i, rfl, ?_⟩
    rw [show (if i < 0 then -i else i) = (i.natAbs : Int) by split <;> omega]
    exact PX.pure R (.int _) h
  | _ => exact h.elim
def intD (x : D) : XM D := fun _ st => match x with
  | .int i => .ok (.int i) st
  | .bl b => .ok (.int (if b then 1 else 0)) st
  | _ => .stuck
theorem cs_int : CallS F (.type "int") (f1 intD) := by
  refine cs_1 (fun W X m => call_int1) ?_
  intro W G H as st σ e x v Q R rx h
  cases rx with
  | int i => exact .inl ⟨i, rfl, PX.pure R (.int _) h⟩
  | bl i => exact .inr ⟨i, rfl, PX.pure R (.int _) h⟩
  | _ => exact h.elim
def max2D (x y : D) : XM D := fun _ st => match x, y with
  | .int i, .int j => .ok (.int (max i j)) st
  | _, _ => .stuck
def min2D (x y : D) : XM D := fun _ st => match x, y with
  | .int i, .int j => .ok (.int (min i j)) st
  | _, _ => .stuck
theorem cs_max2 : CallS F (.builtin "max") (f2 max2D) := by
  refine cs_2 (fun W X m => call_max2 (F.calm m)) ?_
  intro W G H as st σ e x y v w Q R rx ry h
  unfold max2D at h
  split at h
  · rename_i i j
    cases rx; cases ry
    refine ⟨i, j, rfl, ?_⟩
    rw [show (if j > i then j else i) = max i j by split <;> omega]
    exact h.pure R (.int _)
  · exact h.elim
theorem cs_min2 : CallS F (.builtin "min") (f2 min2D) := by
  refine cs_2 (fun W X m => call_min2 (F.calm m)) ?_
  intro W G H as st σ e x y v w Q R rx ry h
  unfold min2D at h
  split at h
  · rename_i i j
    cases rx; cases ry
    refine ⟨i, j, rfl, ?_⟩
    rw [show (if j < i then j else i) = min i j by split <;> omega]
    exact h.pure R (.int _)
  · exact h.elim
def divmodD (x y : D) : XM D := fun _ st => match x, y with
  | .int i, .int j => if 0 < j ∧ j < 1073741824 then .ok (.tup [.int (i / j), .int (i % j)]) st else .stuck
  | _, _ => .stuck
theorem cs_divmod : CallS F (.builtin "divmod") (f2 divmodD) := by
  refine cs_2 (fun W X m => call_divmod) ?_
  intro W G H as st σ e x y v w Q R rx ry h
  unfold divmodD at h
  split at h
  · rename_i i j
    cases rx; cases ry
    by_cases hc : 0 < j ∧ j < 1073741824
    · rw [if_pos hc] at h
      refine ⟨i, j, rfl, hc, fun p hp => ?_⟩
      exact PX.still R hp (.tup (.inl (.inl upd_same)) (.cons (.int _) (.cons (.int _) .nil))) h
    · rw [if_neg hc] at h; exact h.elim
  · exact h.elim
/-! ### lists and rows of ints, of bools -/
section raw
open PyProof.Rows
variable {prog : Program} {w : World} {A : Around} {E : Value → Shared → Prop} {s : Shared} {l : Addr} {its : List Value} {ns : List Int} {Q : Value → Shared → Prop}
theorem iter_intTup {xs : Array (Int × Tok)} (hl : s.heap.IsTuple l (intItems xs))
    (h : ∀ s₂ : Shared, s₂ = { s with heap := s.heap.push { cls := .type "tuple_iterator", data := .fields #[.ref l, .int 0 0] } } →
      (s₂.heap.IsTupleIter s.heap.objs.size l 0 ∧ s₂.heap.IsTuple l (intItems xs)) → (∀ b ∈ [s.heap.objs.size, l], b < s₂.heap.objs.size) → l ≠ s.heap.objs.size → Q (.ref s.heap.objs.size) s₂) :
    wpAny (model prog w) A (pyIter (.ref l)) Q E s := by
  have hlt : l < s.heap.objs.size := by obtain ⟨_, e, _⟩ := hl; exact Heap.lt_size e
  refine wpAny_pyIter_tuple hl (h _ rfl ⟨⟨_, Heap.get?_push_size _ rfl, rfl, rfl⟩, hl.at fun o e => Heap.get?_push_of_some _ e⟩ (fun b hb => ?_) (Nat.ne_of_lt hlt))
  show b < (s.heap.push _).objs.size
  rw [Heap.size_push]
  rcases List.mem_cons.mp hb with rfl | hb
  · exact Nat.lt_succ_self _
  · rcases List.mem_cons.mp hb with rfl | hb
    · exact Nat.lt_succ_of_lt hlt
    · cases hb
theorem old_keptT {h' : Heap} (hk : ∀ b o, b ∉ [s.heap.objs.size] → (s.heap.push { cls := .type "tuple_iterator", data := .fields #[.ref l, .int 0 0] }).get? b = some o → h'.get? b = some o) :
    ∀ b o, s.heap.get? b = some o → h'.get? b = some o := fun b o e => by
  refine hk b o (fun hm => ?_) (Heap.get?_push_of_some _ e)
  rcases List.mem_cons.mp hm with e1 | hm
  · exact absurd (e1 ▸ Heap.lt_size e) (Nat.lt_irrefl _)
  · cases hm
theorem sum_rawT (hh : A.handled = none) (hl : s.heap.IsTuple l its.toArray) (hi : IntsAre its ns)
    (h : ∀ h' tk t', (∀ b o, s.heap.get? b = some o → h'.get? b = some o) → Q (.int ns.sum t') { s with heap := h', toks := tk }) : wpAny (model prog w) A (call (.builtin "sum") [.ref l]) Q E s := by
  obtain ⟨xs, e⟩ := hi.allInts.items
  have hn : numsOf (intItems xs).toList = ns := by rw [← e]; exact hi.numsOf
  rw [nums_intItems] at hn
  rw [e] at hl
  refine call_sum_walkG (iter_intTup hl fun s₂ e st hfp hlI => ?_)
  subst e
  refine ⟨_, _, _, _, _, _, numAt xs, rfl, Walks.tuple (A := A.in1) hh _ l hlI (intItems xs), st, hfp, (fun _ _ => intItems_at), fun h' tk t' hk => ?_⟩
  have := h h' tk t' (old_keptT hk)
  rw [show (intItems xs).size = xs.size by simp [intItems], preSum_eq, List.take_of_length_le (by simp), hn]; exact this
theorem max_rawT (hh : A.handled = none) (hl : s.heap.IsTuple l its.toArray) (hi : IntsAre its ns) (hne : 0 < ns.length)
    (h : ∀ h' tk M t', (∀ b o, s.heap.get? b = some o → h'.get? b = some o) → M ∈ ns → (∀ a, a ∈ ns → a ≤ M) → Q (.int M t') { s with heap := h', toks := tk }) : wpAny (model prog w) A (call (.builtin "max") [.ref l]) Q E s := by
  obtain ⟨xs, e⟩ := hi.allInts.items
  have hn : numsOf (intItems xs).toList = ns := by rw [← e]; exact hi.numsOf
  rw [nums_intItems] at hn
  subst hn
  rw [e] at hl
  have hsz : 0 < xs.size := by simpa using hne
  refine call_max_walk (iter_intTup hl fun s₂ e st hfp hlI => ?_)
  subst e
  refine ⟨_, _, _, _, _, _, _, rfl, Walks.tuple (A := A.in1) hh _ l hlI (intItems xs), st, hfp, by simpa [intItems] using hsz, CmpOf.ints_gt (numAt xs) (fun _ _ => intItems_at), fun v h' tk hP hk => ?_⟩
  have hv : (intItems xs)[argBest (fun i j => decide (numAt xs i > numAt xs j)) (xs.size - 1)]? = some v := by simpa [intItems] using hP
  obtain ⟨t, rfl⟩ := intItems_at hv
  obtain ⟨h1, h2⟩ := argBest_gt (numAt xs) (xs.size - 1)
  refine h h' tk _ t (old_keptT hk) ?_ fun a ha => ?_
  · rw [numAt_eq]; exact PySem.getD_mem (by rw [List.length_map, Array.length_toList]; omega)
  · obtain ⟨j, hj, rfl⟩ := mem_getD ha
    rw [List.length_map, Array.length_toList] at hj
    rw [← numAt_eq]; exact h2 j (by omega)
theorem min_rawT (hh : A.handled = none) (hl : s.heap.IsTuple l its.toArray) (hi : IntsAre its ns) (hne : 0 < ns.length)
    (h : ∀ h' tk M t', (∀ b o, s.heap.get? b = some o → h'.get? b = some o) → M ∈ ns → (∀ a, a ∈ ns → M ≤ a) → Q (.int M t') { s with heap := h', toks := tk }) : wpAny (model prog w) A (call (.builtin "min") [.ref l]) Q E s := by
  obtain ⟨xs, e⟩ := hi.allInts.items
  have hn : numsOf (intItems xs).toList = ns := by rw [← e]; exact hi.numsOf
  rw [nums_intItems] at hn
  subst hn
  rw [e] at hl
  have hsz : 0 < xs.size := by simpa using hne
  refine call_min_walk (iter_intTup hl fun s₂ e st hfp hlI => ?_)
  subst e
  refine ⟨_, _, _, _, _, _, _, rfl, Walks.tuple (A := A.in1) hh _ l hlI (intItems xs), st, hfp, by simpa [intItems] using hsz, CmpOf.ints_lt (numAt xs) (fun _ _ => intItems_at), fun v h' tk hP hk => ?_⟩
  have hv : (intItems xs)[argBest (fun i j => decide (numAt xs i < numAt xs j)) (xs.size - 1)]? = some v := by simpa [intItems] using hP
  obtain ⟨t, rfl⟩ := intItems_at hv
  obtain ⟨h1, h2⟩ := argBest_lt (numAt xs) (xs.size - 1)
  refine h h' tk _ t (old_keptT hk) ?_ fun a ha => ?_
  · rw [numAt_eq]; exact PySem.getD_mem (by rw [List.length_map, Array.length_toList]; omega)
  · obtain ⟨j, hj, rfl⟩ := mem_getD ha
    rw [List.length_map, Array.length_toList] at hj
    rw [← numAt_eq]; exact h2 j (by omega)
end raw
/-- greatest, least -/
def maxL : List Int → Int
  | [] => 0
  | [x] => x
  | x :: r => max x (maxL r)
def minL : List Int → Int
  | [] => 0
  | [x] => x
  | x :: r => min x (minL r)
theorem maxL_le : ∀ {ns : List Int} {y : Int}, y ∈ ns → y ≤ maxL ns
  | [x], y, h => by simp at h; subst h; exact Int.le_refl _
  | x :: z :: r, y, h => by
    show y ≤ max x (maxL (z :: r))
    rcases List.mem_cons.mp h with rfl | h
    · exact Int.le_max_left _ _
    · exact Int.le_trans (maxL_le h) (Int.le_max_right _ _)
theorem maxL_mem : ∀ {ns : List Int}, 0 < ns.length → maxL ns ∈ ns
  | [x], _ => by simp [maxL]
  | x :: z :: r, _ => by
    show max x (maxL (z :: r)) ∈ _
    have := maxL_mem (ns := z :: r) (by simp)
    by_cases h : maxL (z :: r) ≤ x
    · rw [Int.max_eq_left h]; exact List.mem_cons_self
    · rw [Int.max_eq_right (by omega)]; exact List.mem_cons_of_mem _ this
theorem minL_le : ∀ {ns : List Int} {y : Int}, y ∈ ns → minL ns ≤ y
  | [x], y, h => by simp at h; subst h; exact Int.le_refl _
  | x :: z :: r, y, h => by
    show min x (minL (z :: r)) ≤ y
    rcases List.mem_cons.mp h with rfl | h
    · exact Int.min_le_left _ _
    · exact Int.le_trans (Int.min_le_right _ _) (minL_le h)
theorem minL_mem : ∀ {ns : List Int}, 0 < ns.length → minL ns ∈ ns
  | [x], _ => by simp [minL]
  | x :: z :: r, _ => by
    show min x (minL (z :: r)) ∈ _
    have := minL_mem (ns := z :: r) (by simp)
    by_cases h : x ≤ minL (z :: r)
    · rw [Int.min_eq_left h]; exact List.mem_cons_self
    · rw [Int.min_eq_right (by omega)]; exact List.mem_cons_of_mem _ this
/-- a function of a row of ints -/
def intsD (c : List Int → Bool) (f : List Int → D) (x : D) : XM D := fun _ st => match seqOf st x with
  | some xs => (match intsOf xs with
    | some ns => if c ns = true then .ok (f ns) st else .stuck
    | none => .stuck)
  | none => .stuck
theorem ints_px {K : PySem.W.Frag} {mg : Str → Option Value} {W : WX} {G H : Hp} {as : List Addr} {st : Store} {σ : L2.St} {e : Nv} {x : D} {v : V} {Q : VK} {c : List Int → Bool} {f : List Int → D} (R : Ri K mg G H as st) (rx : Rp K mg G as v x)
    (h : PX K mg W G H as σ (intsD c f x e st) Q) : ∃ ns a, v = .ref a ∧ (SqL K H a (ns.map V.int) ∨ SqT K H a (ns.map V.int)) ∧ c ns = true ∧ PX K mg W G H as σ (.ok (f ns) st) Q := by
  obtain ⟨xs, a, vs, e1, s, r, h'⟩ := seq_px R rx h
  cases q : intsOf xs with
  | none => simp [q] at h'; exact h'.elim
  | some ns =>
    simp only [q] at h'
    cases intsOf_eq q
    cases RpA.ints _ r
    by_cases hc : c ns = true
    · rw [if_pos hc] at h'; exact ⟨ns, a, e1, s, hc, h'⟩
    · rw [if_neg hc] at h'; exact h'.elim
def rSeqI (K : PySem.W.Frag) (P : List Int → (V → Prop) → Prop) : List V → Hp → VK → Prop := fun vs H Q => ∃ (a : Addr) (ns : List Int), vs = [V.ref a] ∧ (SqL K H a (ns.map V.int) ∨ SqT K H a (ns.map V.int)) ∧ P ns fun v => Q v H
theorem cr_sumA {X : Cx} (hc : X.calm = true) : CallR X (.builtin "sum") (rSeqI X.K fun ns Q => Q (.int ns.sum)) := by
  intro pins s σ H vs us Q I r h
  obtain ⟨a, ns, rfl, hs | hs, q⟩ := h
  · exact cr_sum hc pins s σ H _ us Q I r ⟨a, ns, rfl, hs, q⟩
  · obtain ⟨its, rv, hl, _⟩ := I.tuple hs
    rw [Vals.ref1 r]
    exact sum_rawT (I.ok.hd hc) (show s.heap.IsTuple a its.toArray from hl) rv.ints fun h' tk t' hk => ⟨.int _, H, I.kept hk, ⟨_, rfl⟩, q⟩
theorem cr_maxA {X : Cx} (hc : X.calm = true) : CallR X (.builtin "max") (rSeqI X.K fun ns Q => 0 < ns.length ∧ Q (.int (maxL ns))) := by
  intro pins s σ H vs us Q I r h
  have uq : ∀ (ns : List Int) (m : Int), 0 < ns.length → m ∈ ns → (∀ y, y ∈ ns → y ≤ m) → m = maxL ns := fun ns m h0 h1 h2 => Int.le_antisymm (maxL_le h1) (h2 _ (maxL_mem h0))
  obtain ⟨a, ns, rfl, hs | hs, hne, q⟩ := h
  · exact cr_max hc pins s σ H _ us Q I r ⟨a, ns, rfl, hs, hne, fun m h1 h2 => by rw [uq ns m hne h1 h2]; exact q⟩
  · obtain ⟨its, rv, hl, _⟩ := I.tuple hs
    rw [Vals.ref1 r]
    exact max_rawT (I.ok.hd hc) (show s.heap.IsTuple a its.toArray from hl) rv.ints hne fun h' tk m t' hk h1 h2 => ⟨.int _, H, I.kept hk, ⟨_, rfl⟩, by rw [uq ns m hne h1 h2]; exact q⟩
theorem cr_minA {X : Cx} (hc : X.calm = true) : CallR X (.builtin "min") (rSeqI X.K fun ns Q => 0 < ns.length ∧ Q (.int (minL ns))) := by
  intro pins s σ H vs us Q I r h
  have uq : ∀ (ns : List Int) (m : Int), 0 < ns.length → m ∈ ns → (∀ y, y ∈ ns → m ≤ y) → m = minL ns := fun ns m h0 h1 h2 => Int.le_antisymm (h2 _ (minL_mem h0)) (minL_le h1)
  obtain ⟨a, ns, rfl, hs | hs, hne, q⟩ := h
  · exact cr_min hc pins s σ H _ us Q I r ⟨a, ns, rfl, hs, hne, fun m h1 h2 => by rw [uq ns m hne h1 h2]; exact q⟩
  · obtain ⟨its, rv, hl, _⟩ := I.tuple hs
    rw [Vals.ref1 r]
    exact min_rawT (I.ok.hd hc) (show s.heap.IsTuple a its.toArray from hl) rv.ints hne fun h' tk m t' hk h1 h2 => ⟨.int _, H, I.kept hk, ⟨_, rfl⟩, by rw [uq ns m hne h1 h2]; exact q⟩
abbrev sumD : D → XM D := intsD (fun _ => true) fun ns => .int ns.sum
abbrev maxD : D → XM D := intsD (fun ns => !ns.isEmpty) fun ns => .int (maxL ns)
abbrev minD : D → XM D := intsD (fun ns => !ns.isEmpty) fun ns => .int (minL ns)
theorem cs_sum : CallS F (.builtin "sum") (f1 sumD) := by
  refine cs_1 (r := rSeqI g.K fun ns Q => Q (.int ns.sum)) (fun W X m => by have := cr_sumA (F.calm m); rw [F.hK m] at this; exact this) ?_
  intro W G H as st σ e x v Q R rx h
  obtain ⟨ns, a, rfl, s, _, h'⟩ := ints_px R rx h
  exact ⟨a, ns, rfl, s, h'.pure R (.int _)⟩
theorem ne_pos {ns : List Int} (h : (!ns.isEmpty) = true) : 0 < ns.length := by
  cases ns with
  | nil => cases h
  | cons _ _ => simp
theorem cs_max : CallS F (.builtin "max") (f1 maxD) := by
  refine cs_1 (r := rSeqI g.K fun ns Q => 0 < ns.length ∧ Q (.int (maxL ns))) (fun W X m => by have := cr_maxA (F.calm m); rw [F.hK m] at this; exact this) ?_
  intro W G H as st σ e x v Q R rx h
  obtain ⟨ns, a, rfl, s, c, h'⟩ := ints_px R rx h
  exact ⟨a, ns, rfl, s, ne_pos c, h'.pure R (.int _)⟩
theorem cs_min : CallS F (.builtin "min") (f1 minD) := by
  refine cs_1 (r := rSeqI g.K fun ns Q => 0 < ns.length ∧ Q (.int (minL ns))) (fun W X m => by have := cr_minA (F.calm m); rw [F.hK m] at this; exact this) ?_
  intro W G H as st σ e x v Q R rx h
  obtain ⟨ns, a, rfl, s, c, h'⟩ := ints_px R rx h
  exact ⟨a, ns, rfl, s, ne_pos c, h'.pure R (.int _)⟩
/-- all, any of a list of bools -/
def blsD (f : List Bool → Bool) (x : D) : XM D := fun _ st => match lstOf st x with
  | some xs => (match blsOf xs with
    | some bs => .ok (.bl (f bs)) st
    | none => .stuck)
  | none => .stuck
theorem bls_px {K : PySem.W.Frag} {mg : Str → Option Value} {W : WX} {G H : Hp} {as : List Addr} {st : Store} {σ : L2.St} {e : Nv} {x : D} {v : V} {Q : VK} {f : List Bool → Bool} (R : Ri K mg G H as st) (rx : Rp K mg G as v x)
    (h : PX K mg W G H as σ (blsD f x e st) Q) : ∃ bs a, v = .ref a ∧ SqL K H a (bs.map V.bl) ∧ Q (.bl (f bs)) H := by
  unfold blsD at h
  cases q0 : lstOf st x with
  | none => simp [q0] at h; exact h.elim
  | some xs =>
    obtain ⟨a, vs, e1, s, r⟩ := lstOf_ok R rx q0
    cases q : blsOf xs with
    | none => simp [q0, q] at h; exact h.elim
    | some bs =>
      simp only [q0, q] at h
      cases blsOf_eq q
      cases RpA.bls _ r
      exact ⟨bs, a, e1, .of s, h.pure R (.bl _)⟩
abbrev allD : D → XM D := blsD fun bs => bs.all id
abbrev anyD : D → XM D := blsD fun bs => bs.any id
theorem cs_all : CallS F (.builtin "all") (f1 allD) := by
  refine cs_1 (r := rAll g.K) (fun W X m => by have := cr_all (X := X) (F.calm m); rw [F.hK m] at this; exact this) ?_
  intro W G H as st σ e x v Q R rx h
  obtain ⟨bs, a, rfl, s, q⟩ := bls_px R rx h
  exact ⟨a, bs, rfl, s, q⟩
theorem cs_any : CallS F (.builtin "any") (f1 anyD) := by
  refine cs_1 (r := rAny g.K) (fun W X m => by have := cr_any (X := X) (F.calm m); rw [F.hK m] at this; exact this) ?_
  intro W G H as st σ e x v Q R rx h
  obtain ⟨bs, a, rfl, s, q⟩ := bls_px R rx h
  exact ⟨a, bs, rfl, s, q⟩
/-! ### list(x), tuple(x) -/
def listD (x : D) : XM D := fun _ st => match seqOf st x with
  | some xs => .ok (.lst xs) st
  | none => .stuck
def tupleD (x : D) : XM D := fun _ st => match seqOf st x with
  | some xs => .ok (.tup xs) st
  | none => .stuck
theorem cs_list : CallS F (.type "list") (f1 listD) := by
  refine cs_1 (r := fun xs H Q => ∃ p ys, xs = [.ref p] ∧ (SqL g.K H p ys ∨ SqT g.K H p ys) ∧ ∀ l, H l = none → Q (.ref l) (upd H l (.lst ys))) (fun W X m => by have := call_list_of (X := X); rw [F.hK m] at this; exact this) ?_
  intro W G H as st σ e x v Q R rx h
  obtain ⟨xs, a, vs, rfl, s, r, h'⟩ := seq_px (f := fun xs => .ok (.lst xs) st) R rx h
  refine ⟨a, vs, rfl, s, fun p hp => ?_⟩
  exact PX.still R hp (.lst upd_same (r.ext (R.still hp).2)) h'
theorem cs_tuple : CallS F (.type "tuple") (f1 tupleD) := by
  refine cs_1 (r := fun xs H Q => ∃ p ys, xs = [.ref p] ∧ ((SqL g.K H p ys ∧ ∀ l, H l = none → Q (.ref l) (upd H l (.tup ys))) ∨ (SqT g.K H p ys ∧ Q (.ref p) H))) (fun W X m => by have := call_tuple_of (X := X); rw [F.hK m] at this; exact this) ?_
  intro W G H as st σ e x v Q R rx h
  have new : ∀ xs a vs, SqL g.K H a vs → RpA g.K g.mg G as vs xs → PX g.K g.mg W G H as σ (.ok (.tup xs) st) Q → ∀ l, H l = none → Q (.ref l) (upd H l (.tup vs)) := fun xs a vs s r q p hp =>
    PX.still R hp (.tup (.inl (.inl upd_same)) (r.ext (R.still hp).2)) q
  have mov : (match lstOf st x with | some xs => (.ok (.tup xs) st : RX D) | none => .stuck) = tupleD x e st → ∃ p ys, [v] = [V.ref p] ∧ ((SqL g.K H p ys ∧ ∀ l, H l = none → Q (.ref l) (upd H l (.tup ys))) ∨ (SqT g.K H p ys ∧ Q (.ref p) H)) := fun e' => by
    rw [← e'] at h
    cases q0 : lstOf st x with
    | none => simp [q0] at h; exact h.elim
    | some xs =>
      simp only [q0] at h
      obtain ⟨a, vs, rfl, s, r⟩ := lstOf_ok R rx q0
      exact ⟨a, vs, rfl, .inl ⟨.of s, new xs a vs (.of s) r h⟩⟩
  cases rx with
  | tup s q => exact ⟨_, _, rfl, .inr ⟨sqT_H R s, PX.pure R (.tup s q) h⟩⟩
  | sq s q => exact ⟨_, _, rfl, .inl ⟨sqL_H R s, new _ _ _ (sqL_H R s) q h⟩⟩
  | lst s q => exact mov rfl
  | ref q => exact mov rfl
  | _ => exact h.elim

/-! ### isinstance -/
def tyNm : D → Option String
  | .non => some "NoneType"
  | .bl _ => some "bool"
  | .int _ => some "int"
  | .str _ => some "str"
  | .tup _ => some "tuple"
  | .lst _ => some "list"
  | .sq _ => some "list"
  | .ref _ => some "list"
  | _ => none
def knownTy (n : String) : Bool := n == "int" || n == "bool" || n == "str" || n == "tuple" || n == "list" || n == "dict"
def isiB (a n : String) : Bool := a == n || (a == "bool" && n == "int")
def isiO (x : D) (n : String) : Option Bool := match tyNm x with
  | some a => if knownTy n = true then some (isiB a n) else none
  | none => none
theorem known_cases {n : String} (h : knownTy n = true) : n = "int" ∨ n = "bool" ∨ n = "str" ∨ n = "tuple" ∨ n = "list" ∨ n = "dict" := by
  unfold knownTy at h
  simp only [Bool.or_eq_true, beq_iff_eq] at h
  rcases h with ((((h | h) | h) | h) | h) | h <;> simp [h]
theorem kit_cases {K : PySem.W.Frag} {a n : String} (ha : a = "NoneType" ∨ a = "bool" ∨ a = "int" ∨ a = "str" ∨ a = "tuple" ∨ a = "list") (h : knownTy n = true) : PySem.W.kitOne K (.type a) (.type n) = some (isiB a n) := by
  rcases ha with rfl | rfl | rfl | rfl | rfl | rfl <;> rcases known_cases h with rfl | rfl | rfl | rfl | rfl | rfl <;> exact kit_ty (by decide +kernel)
theorem tyX_of {K : PySem.W.Frag} {mg : Str → Option Value} {G H : Hp} {as : List Addr} {st : Store} {x : D} {v : V} {a : String} (R : Ri K mg G H as st) (r : Rp K mg G as v x) (h : tyNm x = some a) (hr : ∀ i, x = .ref i → ∃ xs, lstOf st x = some xs) :
    TyX K H v (.type a) ∧ (a = "NoneType" ∨ a = "bool" ∨ a = "int" ∨ a = "str" ∨ a = "tuple" ∨ a = "list") := by
  have sqL : ∀ {a : Addr} {vs : List V}, SqL K H a vs → TyX K H (.ref a) (.type "list") := fun {a vs} s => by
    rcases s with (s | ⟨o, s⟩) | ⟨o, its, n, hk, hc, _⟩
    · exact .base (.lst s)
    · exact .base (.frz s)
    · exact .kList hk hc
  have sqT : ∀ {a : Addr} {vs : List V}, SqT K H a vs → TyX K H (.ref a) (.type "tuple") := fun {a vs} s => by
    rcases s with (s | ⟨o, s⟩) | ⟨o, its, n, hk, hc, _⟩
    · exact .base (.tup s)
    · exact .fTuple s
    · exact .kTuple hk hc
  cases r with
  | non => cases h; exact ⟨.base .non, by simp⟩
  | bl b => cases h; exact ⟨.base (.bl b), by simp⟩
  | int b => cases h; exact ⟨.base (.int b), by simp⟩
  | str b => cases h; exact ⟨.base (.str b), by simp⟩
  | ty n => cases h
  | glo x a q => cases h
  | tup s q => cases h; exact ⟨sqT (sqT_H R s), by simp⟩
  | lst s q => cases h; exact ⟨sqL (.of (R.sub _ _ s)), by simp⟩
  | sq s q => cases h; exact ⟨sqL (sqL_H R s), by simp⟩
  | ref q =>
    cases h
    obtain ⟨xs, e⟩ := hr _ rfl
    obtain ⟨b, vs, e1, s, _⟩ := lstOf_ok R (.ref q) e
    cases e1
    exact ⟨sqL (.of s), by simp⟩
def refOk (st : Store) (x : D) : Bool := match x with
  | .ref i => (lstOf st (.ref i)).isSome
  | _ => true
theorem refOk_ok {st : Store} {x : D} (h : refOk st x = true) : ∀ i, x = .ref i → ∃ xs, lstOf st x = some xs := fun i e => by
  subst e
  exact Option.isSome_iff_exists.mp h
def isiD (x y : D) : XM D := fun _ st => match y with
  | .ty n => (match isiO x n with
    | some b => if refOk st x = true then .ok (.bl b) st else .stuck
    | none => .stuck)
  | _ => .stuck
theorem cs_isi : CallS F (.builtin "isinstance") (f2 isiD) := by
  refine cs_2 (r := rIsi g.K) (fun W X m => by have := call_isi (X := X); rw [F.hK m] at this; exact this) ?_
  intro W G H as st σ e x y v w Q R rx ry h
  cases ry with
  | ty n =>
    unfold isiD at h
    cases q : isiO x n with
    | none => simp [q] at h; exact h.elim
    | some b =>
      simp only [q] at h
      by_cases hr : refOk st x = true
      · rw [if_pos hr] at h
        unfold isiO at q
        cases q1 : tyNm x with
        | none => simp [q1] at q
        | some a =>
          simp only [q1] at q
          by_cases hk : knownTy n = true
          · rw [if_pos hk] at q
            cases q
            obtain ⟨t, c⟩ := tyX_of R rx q1 (refOk_ok hr)
            exact ⟨v, .ty n, .type a, .type n, isiB a n, rfl, .ty n, t, kit_cases c hk, h.pure R (.bl _)⟩
          · rw [if_neg hk] at q; cases q
      · rw [if_neg hr] at h; exact h.elim
  | _ => exact h.elim
/-- isinstance(x, (T1, T2)) -/
def isi2D (n1 n2 : String) (x : D) : XM D := fun _ st => match isiO x n1, isiO x n2 with
  | some a, some b => if refOk st x = true then .ok (.bl (a || b)) st else .stuck
  | _, _ => .stuck
theorem je_isi2 {x : Str} {p p2 pa pb : Pos} {k : Nat} {a : Expr} {m : XM D} {x1 x2 : Str} {n1 n2 : String} (hg : F.sc.names.lookup x = some .globalImplicit) (hm : g.mg x = none) (hv : bootBuiltins x = some (.builtin "isinstance")) (ha : JE F a m)
    (hg1 : F.sc.names.lookup x1 = some .globalImplicit) (hm1 : g.mg x1 = none) (hv1 : bootBuiltins x1 = some (.type n1)) (hg2 : F.sc.names.lookup x2 = some .globalImplicit) (hm2 : g.mg x2 = none) (hv2 : bootBuiltins x2 = some (.type n2))
    (hn : x ≠ "__name__" := by decide) (hdb : (x == ("__debug__" : Str)) = false := by decide) (hn1 : x1 ≠ "__name__" := by decide) (hd1 : (x1 == ("__debug__" : Str)) = false := by decide) (hn2 : x2 ≠ "__name__" := by decide) (hd2 : (x2 == ("__debug__" : Str)) = false := by decide)
    (he : ∀ env, starEach [a, .Tuple [.Name x1 pa, .Name x2 pb] k p2] env = (false, eval a env) :: starEach [.Tuple [.Name x1 pa, .Name x2 pb] k p2] env := by intro _; rfl) (hpl : ∀ env, (backTo pos (starEach [.Tuple [.Name x1 pa, .Name x2 pb] k p2] env)).any (·.1) = false := by intro _; rfl) :
    JE F (.Call (.Name x p) [a, .Tuple [.Name x1 pa, .Name x2 pb] k p2] [] pos) (xbind m (isi2D n1 n2)) := by
  obtain ⟨t, p', s⟩ := ha
  refine ⟨fun W => tCB (rIsiT g.K) (tCons (t W) (tCons (tTup (tCons (tC (.ty n1)) (tCons (tC (.ty n2)) tNil))) tNil)), fun W X m => ?_, ?_⟩
  · have gl : ∀ y, F.sc.names.lookup y = some .globalImplicit → Gl X y := fun y hy => by show X.env.scope.names.lookup y = _; rw [F.hsc m]; exact hy
    have mg' : ∀ y, g.mg y = none → X.mg y = none := fun y hy => by rw [F.hmg m]; exact hy
    have c := call_isiT (X := X)
    rw [F.hK m] at c
    exact pe_callB c (gl x hg) (mg' x hm) hv (pa_cons (p' W X m) (pa_cons (pe_tup (pa_cons (pe_bltn (gl x1 hg1) (mg' x1 hm1) hv1 rfl hn1 hd1) (pa_cons (pe_bltn (gl x2 hg2) (mg' x2 hm2) hv2 rfl hn2 hd2) pa_nil))) pa_nil) (he _)) hn hdb (he _) (hpl _)
  · intro W G H as st σ e Q R N h
    refine s.one R N h fun d st1 v G1 H1 as1 R1 X1 N1 rv h1 => ?_
    unfold isi2D at h1
    cases q1 : isiO d n1 with
    | none => simp [q1] at h1; exact h1.elim
    | some b1 =>
      cases q2 : isiO d n2 with
      | none => simp [q1, q2] at h1; exact h1.elim
      | some b2 =>
        simp only [q1, q2] at h1
        by_cases hr : refOk st1 d = true
        · rw [if_pos hr] at h1
          unfold isiO at q1 q2
          cases q3 : tyNm d with
          | none => simp [q3] at q1
          | some ty =>
            simp only [q3] at q1 q2
            by_cases hk1 : knownTy n1 = true
            · by_cases hk2 : knownTy n2 = true
              · rw [if_pos hk1] at q1
                rw [if_pos hk2] at q2
                cases q1; cases q2
                refine ⟨by show 2 ≤ sizeLine; decide, fun tp htp => ?_⟩
                obtain ⟨R2, X2⟩ := R1.still (o := .tup [V.ty n1, V.ty n2]) htp
                obtain ⟨tx, c⟩ := tyX_of R2 (rv.ext X2) q3 (refOk_ok hr)
                refine ⟨v, tp, [.ty n1, .ty n2], .type ty, [.type n1, .type n2], isiB ty n1 || isiB ty n2, rfl, upd_same, .cons (.ty n1) (.cons (.ty n2) .nil), tx, ?_, h1 _ _ _ _ R2 X2 (.bl _)⟩
                refine kitAny_cons (b := isiB ty n1) (kit_cases c hk1) (fun z => ?_) (fun z => by rw [z]; rfl)
                rw [z, Bool.false_or]
                exact kitAny_cons (b := isiB ty n2) (kit_cases c hk2) (fun z2 => by rw [z2]; exact kitAny_nil) (fun z2 => z2)
              · rw [if_neg hk2] at q2; cases q2
            · rw [if_neg hk1] at q1; cases q1
        · rw [if_neg hr] at h1; exact h1.elim
end
end LS
end
section
set_option maxRecDepth 100000
set_option maxHeartbeats 2000000
namespace LS
open PySem PySem.Spec L2

/-! ## statements -/
section
variable {g : Gb} {F : Fam g} {pos : Pos}
def snext : SM := fun e st => .nx e st
def sseq (m n : SM) : SM := fun e st => match m e st with
  | .nx e' st' => n e' st'
  | r => r
theorem jss_nil : JSs F [] snext := ⟨fun _ => tNext, fun _ _ _ => pss_nil, fun W G H as st σ e E R N h => h σ G H as R N Ext.refl⟩
theorem jss_one {s : Stmt} {m : SM} (h : JS F s m) : JSs F [s] m := let ⟨t, p, q⟩ := h; ⟨t, fun W X m => pss_one (p W X m), q⟩
theorem PS_.ends {K : PySem.W.Frag} {mg : Str → Option Value} {W : WX} {G H : Hp} {as : List Addr} {n : Nat} {m : RS} {E E' : Ends} (h : PS_ K mg W G H as n m E) (hr : E'.rt = E.rt) (hb : E'.bk = E.bk) (hc : E'.ct = E.ct)
    (hn : ∀ e st, m = .nx e st → ∀ σ G' H' as', Ri K mg G' H' as' st → Rn K mg G' as' σ e → Ext G H as G' H' as' → E'.nx σ H') : PS_ K mg W G H as n m E' := by
  cases m with
  | nx e st => exact hn e st rfl
  | rt d st => intro v G' H' as' R x r; rw [hr]; exact h v G' H' as' R x r
  | bk e st => intro σ G' H' as' R N x; rw [hb]; exact h σ G' H' as' R N x
  | ct e st => intro σ G' H' as' R N x; rw [hc]; exact h σ G' H' as' R N x
  | exc c p e st => exact h
  | stuck => exact h
theorem jss_cons {s : Stmt} {r : List Stmt} {m n : SM} (h : JS F s m) (h' : JSs F r n) : JSs F (s :: r) (sseq m n) := by
  obtain ⟨t, p, q⟩ := h
  obtain ⟨t', p', q'⟩ := h'
  refine ⟨fun W => tSeq (t W) (t' W), fun W X mm => pss_cons (p W X mm) (p' W X mm), ?_⟩
  intro W G H as st σ e E R N h
  refine q W G H as st σ e _ R N ?_
  unfold sseq at h
  cases hm : m e st with
  | nx e1 st1 =>
    rw [hm] at h
    exact fun σ1 G1 H1 as1 R1 N1 X1 => q' W G1 H1 as1 st1 σ1 e1 E R1 N1 (PS_.ext (n := e.length) h X1)
  | rt d st1 => rw [hm] at h; exact h
  | bk e1 st1 => rw [hm] at h; exact h
  | ct e1 st1 => rw [hm] at h; exact h
  | exc c p e1 st1 => rw [hm] at h; exact h
  | stuck => rw [hm] at h; exact h
theorem js_pass : JS F (.Pass pos) snext := ⟨fun _ => tNext, fun _ _ _ => ps_pass, fun W G H as st σ e E R N h => h σ G H as R N Ext.refl⟩
def sbreak : SM := fun e st => .bk e st
def scont : SM := fun e st => .ct e st
theorem js_break : JS F (.Break pos) sbreak := ⟨fun _ => tBreak, fun _ _ _ => ps_break, fun W G H as st σ e E R N h => h σ G H as R N Ext.refl⟩
theorem js_cont : JS F (.Continue pos) scont := ⟨fun _ => tCont, fun _ _ _ => ps_continue, fun W G H as st σ e E R N h => h σ G H as R N Ext.refl⟩
/-- an expression's outcome ahead of a statement's rest -/
def sbind (m : XM D) (f : D → SM) : SM := fun e st => match m e st with
  | .ok d st' => f d e st'
  | .exc c p st' => .exc c p e st'
  | .stuck => .stuck
theorem SE.oneS {t : WX → TE} {m : XM D} {f : D → SM} {W : WX} {G H : Hp} {as : List Addr} {σ : L2.St} {e : Nv} {st : Store} {E : Ends} {Q1 : VK} (s : SE g t m) (R : Ri g.K g.mg G H as st) (N : Rn g.K g.mg G as σ e) (h : PS_ g.K g.mg W G H as e.length (sbind m f e st) E)
    (k : ∀ x st1 v G1 H1 as1, Ri g.K g.mg G1 H1 as1 st1 → Ext G H as G1 H1 as1 → Rn g.K g.mg G1 as1 σ e → Rp g.K g.mg G1 as1 v x → PS_ g.K g.mg W G1 H1 as1 e.length (f x e st1) E → Q1 v H1) : t W σ H Q1 := by
  refine s W G H as st σ e Q1 R N ?_
  unfold sbind at h
  cases q : m e st with
  | ok x st1 =>
    rw [q] at h
    exact fun v G1 H1 as1 R1 X1 rv => k x st1 v G1 H1 as1 R1 X1 (N.ext X1) rv (PS_.ext (r := f x e st1) h X1)
  | exc c p st1 =>
    rw [q] at h
    exact fun cls d G1 H1 as1 R1 X1 x => h σ cls d G1 H1 as1 R1 (N.ext X1) X1 x
  | stuck => rw [q] at h; exact h.elim
def sbindB (m : XM Bool) (f : Bool → SM) : SM := fun e st => match m e st with
  | .ok d st' => f d e st'
  | .exc c p st' => .exc c p e st'
  | .stuck => .stuck
theorem ST.oneS {t : WX → TT} {m : XM Bool} {f : Bool → SM} {W : WX} {G H : Hp} {as : List Addr} {σ : L2.St} {e : Nv} {st : Store} {E : Ends} {Q1 : Bool → Hp → Prop} (s : ST g t m) (R : Ri g.K g.mg G H as st) (N : Rn g.K g.mg G as σ e) (h : PS_ g.K g.mg W G H as e.length (sbindB m f e st) E)
    (k : ∀ x st1 G1 H1 as1, Ri g.K g.mg G1 H1 as1 st1 → Ext G H as G1 H1 as1 → Rn g.K g.mg G1 as1 σ e → PS_ g.K g.mg W G1 H1 as1 e.length (f x e st1) E → Q1 x H1) : t W σ H Q1 := by
  refine s W G H as st σ e Q1 R N ?_
  unfold sbindB at h
  cases q : m e st with
  | ok x st1 =>
    rw [q] at h
    exact fun G1 H1 as1 R1 X1 => k x st1 G1 H1 as1 R1 X1 (N.ext X1) (PS_.ext (r := f x e st1) h X1)
  | exc c p st1 =>
    rw [q] at h
    exact fun cls d G1 H1 as1 R1 X1 x => h σ cls d G1 H1 as1 R1 (N.ext X1) X1 x
  | stuck => rw [q] at h; exact h.elim
def sdrop (m : XM D) : SM := sbind m fun _ => snext
theorem js_expr {ex : Expr} {m : XM D} (h : JE F ex m) (hs : ∀ env, swapsWith ex none pos.line env = pure false := by intro _; rfl) : JS F (.Expr ex pos) (sdrop m) := by
  obtain ⟨t, p, s⟩ := h
  refine ⟨fun W => tDrop (t W), fun W X m => ps_expr (p W X m) (hs _), ?_⟩
  intro W G H as st σ e E R N h
  exact s.oneS R N h fun x st1 v G1 H1 as1 R1 X1 N1 rv h1 => h1 σ G1 H1 as1 R1 N1 Ext.refl
def sret (m : XM D) : SM := sbind m fun d => fun _ st => .rt d st
theorem js_ret {ex : Expr} {m : XM D} (h : JE F ex m) : JS F (.Return (some ex) pos) (sret m) := by
  obtain ⟨t, p, s⟩ := h
  refine ⟨fun W => tRet (t W), fun W X m => ps_ret (p W X m), ?_⟩
  intro W G H as st σ e E R N h
  exact s.oneS R N h fun x st1 v G1 H1 as1 R1 X1 N1 rv h1 => h1 v G1 H1 as1 R1 Ext.refl rv
def sretN : SM := fun _ st => .rt .non st
theorem js_retN : JS F (.Return none pos) sretN := ⟨fun _ => tRetN, fun _ _ _ => ps_retN, fun W G H as st σ e E R N h => h .non G H as R Ext.refl .non⟩
def sif (c : XM Bool) (m n : SM) : SM := sbindB c fun b => if b = true then m else n
theorem js_if {c : Expr} {a b : List Stmt} {mc : XM Bool} {m n : SM} (hc : JT F c mc) (ha : JSs F a m) (hb : JSs F b n) : JS F (.If c a b pos) (sif mc m n) := by
  obtain ⟨tc, pc, sc⟩ := hc
  obtain ⟨ta, pa, sa⟩ := ha
  obtain ⟨tb, pb, sb⟩ := hb
  refine ⟨fun W => tIfS (tc W) (ta W) (tb W), fun W X m => ps_if (pc W X m) (pa W X m) (pb W X m), ?_⟩
  intro W G H as st σ e E R N h
  refine sc.oneS R N h fun b st1 G1 H1 as1 R1 X1 N1 h1 => ?_
  cases b with
  | true => exact iteT (sa W G1 H1 as1 st1 σ e E R1 N1 h1)
  | false => exact iteF (sb W G1 H1 as1 st1 σ e E R1 N1 h1)

/-! ## targets -/
abbrev MG := D → Nv → Store → Option (Nv × Store)
def JG (F : Fam g) (target : Expr) (m : MG) : Prop := ∃ t : WX → TG, (∀ W X, F.mem W X → PG X target (t W)) ∧
  ∀ (W : WX) (G H : Hp) (as : List Addr) (st : Store) (σ : L2.St) (e : Nv) (v : V) (x : D) (e' : Nv) (st' : Store) (Q : L2.St → Hp → Prop), Ri g.K g.mg G H as st → Rn g.K g.mg G as σ e → Rp g.K g.mg G as v x → m x e st = some (e', st') →
    (∀ σ' G' H' as', Ri g.K g.mg G' H' as' st' → Rn g.K g.mg G' as' σ' e' → Ext G H as G' H' as' → Q σ' H') → t W v σ H Q
theorem Rn.set {K : PySem.W.Frag} {mg : Str → Option Value} {G : Hp} {as : List Addr} {σ : L2.St} {e : Nv} {v : V} {x : D} (N : Rn K mg G as σ e) (i : Nat) (r : Rp K mg G as v x) : Rn K mg G as (σ.set i (some v)) (e.set i (some x)) := by
  refine ⟨by simp [N.len], fun j y h => ?_⟩
  by_cases hj : j = i
  · subst hj
    have hl : j < e.length := by
      have := (List.getElem?_eq_some_iff.mp h).1
      simpa using this
    rw [List.getElem?_set_self hl] at h
    cases h
    exact ⟨v, List.getElem?_set_self (by rw [N.len]; exact hl), r⟩
  · rw [List.getElem?_set_ne (Ne.symm hj)] at h
    obtain ⟨u, e1, r1⟩ := N.at_ j y h
    exact ⟨u, by rw [List.getElem?_set_ne (Ne.symm hj)]; exact e1, r1⟩
def gname (i : Nat) : MG := fun x e st => some (e.set i (some x), st)
theorem jg_name (i : Nat) {x : Str} (hi : F.N[i]? = some x) (hx : Loc F.sc x) (hw : F.own x = true := by rfl) : JG F (.Name x pos) (gname i) := by
  refine ⟨fun _ => gName i, fun W X m => pg_name (by rw [F.hN m]; exact F.nd) (by rw [F.hN m]; exact hi) (by rw [F.hsc m]; exact hx) (F.fn m x hw hx), ?_⟩
  intro W G H as st σ e v x e' st' Q R N r h k
  cases h
  exact k _ G H as R (N.set i r) Ext.refl
/-- several targets -/
abbrev MGs := List D → Nv → Store → Option (Nv × Store)
def JGs (F : Fam g) (ts : List Expr) (m : MGs) : Prop := ∃ t : WX → TGs, (∀ W X, F.mem W X → PGs X ts (t W)) ∧
  ∀ (W : WX) (G H : Hp) (as : List Addr) (st : Store) (σ : L2.St) (e : Nv) (vs : List V) (xs : List D) (e' : Nv) (st' : Store) (Q : L2.St → Hp → Prop), Ri g.K g.mg G H as st → Rn g.K g.mg G as σ e → RpA g.K g.mg G as vs xs → m xs e st = some (e', st') →
    (∀ σ' G' H' as', Ri g.K g.mg G' H' as' st' → Rn g.K g.mg G' as' σ' e' → Ext G H as G' H' as' → Q σ' H') → t W vs σ H Q
def gnil : MGs := fun xs e st => match xs with
  | [] => some (e, st)
  | _ => none
def gcons (m : MG) (ms : MGs) : MGs := fun xs e st => match xs with
  | x :: r => (match m x e st with
    | some (e', st') => ms r e' st'
    | none => none)
  | [] => none
theorem jgs_nil : JGs F [] gnil := by
  refine ⟨fun _ => gNil, fun _ _ _ => pgs_nil, ?_⟩
  intro W G H as st σ e vs xs e' st' Q R N r h k
  cases r with
  | nil => cases h; exact ⟨rfl, k _ G H as R N Ext.refl⟩
  | cons _ _ => cases h
theorem jgs_cons {ex : Expr} {es : List Expr} {m : MG} {ms : MGs} (h : JG F ex m) (hs : JGs F es ms) (ha : ∀ env, (assignEach (ex :: es) env).map (·.2) = assign ex env :: (assignEach es env).map (·.2) := by intro _; rfl) : JGs F (ex :: es) (gcons m ms) := by
  obtain ⟨t, p, s⟩ := h
  obtain ⟨ts, ps, ss⟩ := hs
  refine ⟨fun W => gCons (t W) (ts W), fun W X m => pgs_cons (p W X m) (ps W X m) (ha _), ?_⟩
  intro W G H as st σ e vs xs e' st' Q R N r h k
  cases r with
  | nil => cases h
  | cons r rr =>
    rename_i v vr x xr
    unfold gcons at h
    cases q : m x e st with
    | none => simp [q] at h
    | some z =>
      obtain ⟨e1, st1⟩ := z
      simp only [q] at h
      refine ⟨v, vr, rfl, s W G H as st σ e v x e1 st1 _ R N r q fun σ1 G1 H1 as1 R1 N1 X1 => ?_⟩
      exact ss W G1 H1 as1 st1 σ1 e1 vr xr e' st' Q R1 N1 (rr.ext X1) h fun σ2 G2 H2 as2 R2 N2 X2 => k σ2 G2 H2 as2 R2 N2 (X1.trans X2)
def gtup (n : Nat) (ms : MGs) : MG := fun x e st => match x with
  | .tup xs => if xs.length = n then ms xs e st else none
  | _ => none
theorem jg_tup {es : List Expr} {k n : Nat} {ms : MGs} (hs : JGs F es ms) (hn : ∀ env, (assignEach es env).length = n := by intro _; rfl) (hst : ∀ env, (assignEach es env).findIdx? (·.1) = none := by intro _; rfl) : JG F (.Tuple es k pos) (gtup n ms) := by
  obtain ⟨ts, ps, ss⟩ := hs
  refine ⟨fun W => gTup g.K n (ts W), fun W X m => by have := pg_tup (k := k) (pos := pos) (F.calm m) (ps W X m) (hn _) (hst _); rw [F.hK m] at this; exact this, ?_⟩
  intro W G H as st σ e v x e' st' Q R N r h k
  cases r with
  | tup s q =>
    rename_i a vs xs
    unfold gtup at h
    by_cases hl : xs.length = n
    · simp only [hl, if_true] at h
      exact ⟨a, vs, rfl, sqT_H R s, q.len.trans hl, ss W G H as st σ e vs xs e' st' Q R N q h k⟩
    · simp [hl] at h
  | _ => cases h
/-- o[i] = .. of a moving list; o and i by parts that change nothing -/
def gsub (mo mi : XM D) : MG := fun x e st => match mo e st, mi e st with
  | .ok (.ref k) _, .ok (.int i) _ => (match st[k]? with
    | some (.lst xs) => (match ixN xs.length i with
      | some j => some (e, st.set k (.lst (xs.set j x)))
      | none => none)
    | none => none)
  | _, _ => none
/-- parts that change nothing -/
def Quiet (m : XM D) : Prop := ∀ e st d st', m e st = .ok d st' → st' = st
theorem quiet_var (i : Nat) : Quiet (xvar i) := fun e st d st' h => by
  unfold xvar at h
  split at h
  · cases h; rfl
  · cases h
theorem quiet_pure (d : D) : Quiet (xpure d) := fun _ _ _ _ h => by cases h; rfl
theorem jg_sub {o i : Expr} {mo mi : XM D} (ho : JE F o mo) (hi : JE F i mi) (qo : Quiet mo) (qi : Quiet mi)
    (ha : ∀ (env : Env) v, assign (.Subscript o i pos) env v = (do
      let ov ← holding [v] (eval o env)
      let iv ← holding [v, ov] (eval i env)
      standAt pos
      holding [v, ov, iv] (setItem ov iv v)
      release [v, ov, iv] []) := by intro _ _; rfl) : JG F (.Subscript o i pos) (gsub mo mi) := by
  obtain ⟨t, p, s⟩ := ho
  obtain ⟨ti, pi, si⟩ := hi
  refine ⟨fun W => gSub (t W) (ti W) rSetL, fun W X m => pg_sub (p W X m) (pi W X m) set_list (ha _), ?_⟩
  intro W G H as st σ e v x e' st' Q R N r h k
  unfold gsub at h
  cases q1 : mo e st with
  | exc c p st1 => simp [q1] at h
  | stuck => simp [q1] at h
  | ok d st1 =>
    cases q2 : mi e st with
    | exc c p st1 => simp [q1, q2] at h
    | stuck => simp [q1, q2] at h
    | ok d2 st2 =>
      cases qo _ _ _ _ q1
      cases qi _ _ _ _ q2
      rw [q1, q2] at h
      cases d with
      | ref kk =>
        cases d2 with
        | int ii =>
          simp only at h
          cases q3 : st[kk]? with
          | none => simp [q3] at h
          | some mo' =>
            cases mo' with
            | lst xs =>
              simp only [q3] at h
              cases q4 : ixN xs.length ii with
              | none => simp [q4] at h
              | some j =>
                simp only [q4] at h
                cases h
                refine s W G H as st σ e _ R N ?_
                rw [q1]
                intro ov G1 H1 as1 R1 X1 ro
                refine si W G1 H1 as1 st σ e _ R1 (N.ext X1) ?_
                rw [q2]
                intro iv G2 H2 as2 R2 X2 ri
                have ro2 := ro.ext X2
                cases ri
                cases ro2 with
                | ref qa =>
                  rename_i a
                  obtain ⟨ho', e1, oo⟩ := R2.at_ qa q3
                  cases oo with
                  | lst rr =>
                    rename_i vs
                    obtain ⟨R3, X3⟩ := R2.change (o := .lst (vs.set j v)) (m := .lst (xs.set j x)) qa (.lst (rr.set j ((r.ext X1).ext X2)))
                    exact ⟨a, vs, ii, j, rfl, rfl, e1, by rw [rr.len]; exact q4, k _ _ _ _ R3 (((N.ext X1).ext X2).ext X3) ((X1.trans X2).trans X3)⟩
        | _ => simp at h
      | _ => simp at h
/-! ## assignments -/
def sasg (m : XM D) (gt : MG) : SM := sbind m fun x => fun e st => match gt x e st with
  | some (e', st') => .nx e' st'
  | none => .stuck
theorem js_asg {tg ex : Expr} {m : XM D} {gt : MG} (h : JE F ex m) (hg : JG F tg gt) (hs : ∀ env, swapsWithSole [tg] ex pos.line env = pure false := by intro _; rfl) (hw : ∀ env, swappedStores [tg] ex env = pure none := by intro _; rfl)
    (h1 : ∀ env, (assignEach [tg] env).map (·.2) = [assign tg env] := by intro _; rfl) : JS F (.Assign [tg] ex pos) (sasg m gt) := by
  obtain ⟨t, p, s⟩ := h
  obtain ⟨tg', pg', sg'⟩ := hg
  refine ⟨fun W => tAsg (t W) (tg' W), fun W X m => ps_asg (p W X m) (pg' W X m) (hs _) (hw _) (h1 _), ?_⟩
  intro W G H as st σ e E R N h
  refine s.oneS R N h fun x st1 v G1 H1 as1 R1 X1 N1 rv h1 => ?_
  cases q : gt x e st1 with
  | none => simp [q] at h1; exact h1.elim
  | some z =>
    obtain ⟨e', st'⟩ := z
    simp only [q] at h1
    exact sg' W G1 H1 as1 st1 σ e v x e' st' _ R1 N1 rv q fun σ2 G2 H2 as2 R2 N2 X2 => h1 σ2 G2 H2 as2 R2 N2 X2
/-- the same, what hangs on the context told of the family -/
theorem js_asgF {tg ex : Expr} {m : XM D} {gt : MG} (h : JE F ex m) (hg : JG F tg gt) (hs : ∀ env, swapsWithSole [tg] ex pos.line env = pure false) (hw : ∀ W X, F.mem W X → swappedStores [tg] ex X.env = pure none)
    (h1 : ∀ env, (assignEach [tg] env).map (·.2) = [assign tg env] := by intro _; rfl) : JS F (.Assign [tg] ex pos) (sasg m gt) := by
  obtain ⟨t, p, s⟩ := h
  obtain ⟨tg', pg', sg'⟩ := hg
  refine ⟨fun W => tAsg (t W) (tg' W), fun W X m => ps_asg (p W X m) (pg' W X m) (hs _) (hw W X m) (h1 _), ?_⟩
  intro W G H as st σ e E R N h
  refine s.oneS R N h fun x st1 v G1 H1 as1 R1 X1 N1 rv h1 => ?_
  cases q : gt x e st1 with
  | none => simp [q] at h1; exact h1.elim
  | some z =>
    obtain ⟨e', st'⟩ := z
    simp only [q] at h1
    exact sg' W G1 H1 as1 st1 σ e v x e' st' _ R1 N1 rv q fun σ2 G2 H2 as2 R2 N2 X2 => h1 σ2 G2 H2 as2 R2 N2 X2
def sset (i : Nat) (m : XM D) : SM := sbind m fun x => fun e st => .nx (e.set i (some x)) st
theorem js_set (i : Nat) {x : Str} {ex : Expr} {m : XM D} {pos' : Pos} (hi : F.N[i]? = some x) (hx : Loc F.sc x) (h : JE F ex m) (hs : ∀ env, swapsWith ex (some (.Name x pos')) pos.line env = pure false := by intro _; rfl) (hw : F.own x = true := by rfl) : JS F (.Assign [.Name x pos'] ex pos) (sset i m) := by
  obtain ⟨t, p, s⟩ := h
  refine ⟨fun W => tAsg (t W) (gName i), fun W X m => ps_set (by rw [F.hN m]; exact F.nd) (by rw [F.hN m]; exact hi) (by rw [F.hsc m]; exact hx) (p W X m) (hs _) (F.fn m x hw hx), ?_⟩
  intro W G H as st σ e E R N h
  exact s.oneS R N h fun x st1 v G1 H1 as1 R1 X1 N1 rv h1 => h1 _ G1 H1 as1 R1 (N1.set i rv) Ext.refl
/-- .. where the value is a comprehension and the name a cell: the context told of the family -/
theorem js_setF (i : Nat) {x : Str} {ex : Expr} {m : XM D} {pos' : Pos} (hi : F.N[i]? = some x) (hx : Loc F.sc x) (h : JE F ex m) (hs : ∀ W X, F.mem W X → swapsWith ex (some (.Name x pos')) pos.line X.env = pure false) (hw : F.own x = true := by rfl) : JS F (.Assign [.Name x pos'] ex pos) (sset i m) := by
  obtain ⟨t, p, s⟩ := h
  refine ⟨fun W => tAsg (t W) (gName i), fun W X m => ps_set (by rw [F.hN m]; exact F.nd) (by rw [F.hN m]; exact hi) (by rw [F.hsc m]; exact hx) (p W X m) (hs W X m) (F.fn m x hw hx), ?_⟩
  intro W G H as st σ e E R N h
  exact s.oneS R N h fun x st1 v G1 H1 as1 R1 X1 N1 rv h1 => h1 _ G1 H1 as1 R1 (N1.set i rv) Ext.refl
/-- a, b = x, y -/
def spar2 (i j : Nat) (ma mb : XM D) : SM := sbind ma fun x => sbind mb fun y => fun e st => .nx ((e.set i (some x)).set j (some y)) st
theorem js_par2 (i j : Nat) {x y : Str} {a b : Expr} {ma mb : XM D} {px py pt : Pos} {kt k2 pt2} (hi : F.N[i]? = some x) (hj : F.N[j]? = some y) (hij : i ≠ j) (hx : F.sc.names.lookup x = some .local) (hy : F.sc.names.lookup y = some .local) (ha : JE F a ma) (hb : JE F b mb)
    (hw : ∀ W X, F.mem W X → swappedStores [.Tuple [.Name x px, .Name y py] kt pt] (.Tuple [a, b] k2 pt2) X.env = pure (some [x, y]))
    (he : ∀ env, starEach [a, b] env = (false, eval a env) :: starEach [b] env := by intro _; rfl) (he2 : ∀ env, starEach [b] env = (false, eval b env) :: starEach [] env := by intro _; rfl)
    (hs : ∀ env, swapsWithSole [.Tuple [.Name x px, .Name y py] kt pt] (.Tuple [a, b] k2 pt2) pos.line env = pure false := by intro _; rfl) :
    JS F (.Assign [.Tuple [.Name x px, .Name y py] kt pt] (.Tuple [a, b] k2 pt2) pos) (spar2 i j ma mb) := by
  obtain ⟨ta, pa, sa⟩ := ha
  obtain ⟨tb, pb, sb⟩ := hb
  refine ⟨fun W => tPar i j (tCons (ta W) (tCons (tb W) tNil)), fun W X m => ps_par (F.calm m) (by rw [F.hN m]; exact F.nd) (by rw [F.hN m]; exact hi) (by rw [F.hN m]; exact hj) hij (by rw [F.hsc m]; exact hx) (by rw [F.hsc m]; exact hy) (pa_cons (pa W X m) (pa_cons (pb W X m) pa_nil (he2 _)) (he _)) (hw W X m) (hs _), ?_⟩
  intro W G H as st σ e E R N h
  refine sa.oneS R N h fun x st1 v G1 H1 as1 R1 X1 N1 rv h1 => ?_
  refine sb.oneS R1 N1 h1 fun y st2 w G2 H2 as2 R2 X2 N2 rw' h2 => ?_
  exact ⟨v, w, rfl, h2 _ G2 H2 as2 R2 ((N2.set i (rv.ext X2)).set j rw') Ext.refl⟩
/-- xs.append(e) of a moving list -/
def xappend (mo me : XM D) : XM D := xbind mo fun o => match o with
  | .ref k => xbind me fun x => fun _ st => (match st[k]? with
    | some (.lst xs) => if xs.length < LIM then .ok .non (st.set k (.lst (xs ++ [x]))) else .stuck
    | none => .stuck)
  | _ => fun _ _ => .stuck
theorem ty_ref {K : PySem.W.Frag} {mg : Str → Option Value} {G H : Hp} {as : List Addr} {st : Store} {v : V} {kk : Nat} (R : Ri K mg G H as st) (r : Rp K mg G as v (.ref kk)) : tyV K "list" v H := by
  cases r with
  | ref q =>
    have hl : kk < st.length := by rw [← R.len]; exact (List.getElem?_eq_some_iff.mp q).1
    obtain ⟨ho, e1, oo⟩ := R.at_ q (List.getElem?_eq_getElem hl)
    cases hm : st[kk] with
    | lst ys =>
      rw [hm] at oo
      cases oo
      exact .inl ⟨rfl, _, .inl (.inl e1)⟩
theorem je_append {o ex : Expr} {mo me : XM D} {apos : Pos} (ho : JE F o mo) (he : JE F ex me) (h1 : ∀ env, attributeBase o "append" env (eval o env) = eval o env := by intro _; rfl) (h2 : (apos.endLine == pos.line) = true := by rfl)
    (hst : ∀ env, starEach [ex] env = (false, eval ex env) :: starEach [] env := by intro _; rfl)
    (hfew : ∀ env, ((backTo pos (starEach [ex] env)).all (fun x => !x.1) && (backToKw pos (keywordEach [] env)).all (fun x => x.1.isSome)
      && decide ([ex].length + ([] : List Keyword).length + (if ([] : List Keyword).isEmpty then 0 else 1) < 30)) = true := by intro _; rfl) : JE F (.Call (.Attribute o "append" apos) [ex] [] pos) (xappend mo me) := by
  obtain ⟨t, p, s⟩ := ho
  obtain ⟨te, pe, se⟩ := he
  refine ⟨fun W => tBM g.K "list" rAppend (t W) (tCons (te W) tNil), fun W X m => ?_, ?_⟩
  · have := pe_bm (cpos := pos) (apos := apos) PySem.F.plainAttrs_list PySem.F.slot_list_append PySem.F.type_list_append (mt_append (X := X)) (p W X m) (pa_cons (pe W X m) pa_nil (hst _)) (h1 _) (hfew _) h2 (hst _) rfl
    rw [F.hK m] at this
    exact this
  · intro W G H as st σ e Q R N h
    refine s.one R N h fun x st1 v G1 H1 as1 R1 X1 N1 rv h1 => ?_
    cases x with
    | ref kk =>
      refine ⟨ty_ref R1 rv, ?_⟩
      refine se.one R1 N1 h1 fun y st2 w G2 H2 as2 R2 X2 N2 rw' h2 => ?_
      have rv2 := rv.ext X2
      cases q3 : st2[kk]? with
      | none => simp [q3] at h2; exact h2.elim
      | some mo' =>
        cases mo' with
        | lst xs =>
          simp only [q3] at h2
          by_cases hl : xs.length < LIM
          · rw [if_pos hl] at h2
            cases rv2 with
            | ref qa =>
              rename_i a
              obtain ⟨ho', e1, oo⟩ := R2.at_ qa q3
              cases oo with
              | lst rr =>
                rename_i vs
                obtain ⟨R3, X3⟩ := R2.change (o := .lst (vs ++ [w])) (m := .lst (xs ++ [y])) qa (.lst (rr.append (.cons rw' .nil)))
                exact ⟨a, vs, w, rfl, rfl, e1, by rw [rr.len]; exact lim_lt hl, h2 _ _ _ _ R3 X3 .non⟩
          · rw [if_neg hl] at h2; exact h2.elim
    | _ => exact h1.elim
end
end LS
end
section
set_option maxRecDepth 100000
set_option maxHeartbeats 2000000
namespace LS
open PySem PySem.Spec L2

/-! ## equal data -/
mutual
def eqb : D → D → Bool
  | .non, .non => true
  | .bl a, .bl b => a == b
  | .int a, .int b => a == b
  | .str a, .str b => decide (a = b)
  | .ty a, .ty b => decide (a = b)
  | .glo a, .glo b => decide (a = b)
  | .tup a, .tup b => eqbs a b
  | .lst a, .lst b => eqbs a b
  | .sq a, .sq b => eqbs a b
  | .ref a, .ref b => a == b
  | _, _ => false
def eqbs : List D → List D → Bool
  | [], [] => true
  | a :: r, b :: s => eqb a b && eqbs r s
  | _, _ => false
end
mutual
theorem eqb_eq : ∀ {a b : D}, eqb a b = true → a = b
  | .non, b, h => by cases b <;> first | rfl | (simp [eqb] at h)
  | .bl x, b, h => by cases b <;> first | (simp [eqb] at h; done) | (simp [eqb] at h; rw [h])
  | .int x, b, h => by cases b <;> first | (simp [eqb] at h; done) | (simp [eqb] at h; rw [h])
  | .str x, b, h => by cases b <;> first | (simp [eqb] at h; done) | (simp [eqb] at h; rw [h])
  | .ty x, b, h => by cases b <;> first | (simp [eqb] at h; done) | (simp [eqb] at h; rw [h])
  | .glo x, b, h => by cases b <;> first | (simp [eqb] at h; done) | (simp [eqb] at h; rw [h])
  | .ref x, b, h => by cases b <;> first | (simp [eqb] at h; done) | (simp [eqb] at h; rw [h])
  | .tup x, b, h => by
    cases b with
    | tup y => rw [eqbs_eq (a := x) (b := y) (by simpa [eqb] using h)]
    | _ => simp [eqb] at h
  | .lst x, b, h => by
    cases b with
    | lst y => rw [eqbs_eq (a := x) (b := y) (by simpa [eqb] using h)]
    | _ => simp [eqb] at h
  | .sq x, b, h => by
    cases b with
    | sq y => rw [eqbs_eq (a := x) (b := y) (by simpa [eqb] using h)]
    | _ => simp [eqb] at h
theorem eqbs_eq : ∀ {a b : List D}, eqbs a b = true → a = b
  | [], b, h => by cases b <;> first | rfl | (simp [eqbs] at h)
  | x :: r, b, h => by
    cases b with
    | nil => simp [eqbs] at h
    | cons y s =>
      simp only [eqbs, Bool.and_eq_true] at h
      rw [eqb_eq h.1, eqbs_eq h.2]
end
/-- the moving list that is walked stands as it stood -/
def srcOk (src : Option Nat) (xs : List D) (st : Store) : Bool := match src with
  | none => true
  | some i => match st[i]? with
    | some (.lst ys) => eqbs ys xs
    | none => false

/-! ## what is walked -/
section
variable {g : Gb} {F : Fam g} {pos : Pos}
structure Yl (g : Gb) (G0 : Hp) (as0 : List Addr) (src : Option Nat) (xs : List D) (J : It) : Prop where
  go : ∀ i G H as st, i < xs.length → Ri g.K g.mg G H as st → (∀ a o, G0 a = some o → G a = some o) → as0 <+: as → srcOk src xs st = true → J.go i H
  stop : ∀ G H as st, Ri g.K g.mg G H as st → (∀ a o, G0 a = some o → G a = some o) → as0 <+: as → srcOk src xs st = true → J.stop xs.length H
  yld : ∀ i G H as st v H' x, Ri g.K g.mg G H as st → (∀ a o, G0 a = some o → G a = some o) → as0 <+: as → srcOk src xs st = true → xs[i]? = some x → J.yld i H v H' → ∃ G', Ri g.K g.mg G' H' as st ∧ Ext G H as G' H' as ∧ Rp g.K g.mg G' as v x
def PXI (g : Gb) (W : WX) (G H : Hp) (as : List Addr) (σ : L2.St) (r : RX (List D × Option Nat)) (R : It → Hp → Prop) : Prop := match r with
  | .ok (xs, src) st' => srcOk src xs st' = true ∧ ∀ J G' H' as', Ri g.K g.mg G' H' as' st' → Ext G H as G' H' as' → Yl g G' as' src xs J → R J H'
  | .exc c p st' => ∀ cls d G' H' as', Ri g.K g.mg G' H' as' st' → Ext G H as G' H' as' → ExR g.K g.mg G' H' as' c p cls d → W cls d σ H'
  | .stuck => False
def JI (F : Fam g) (tg iter : Expr) (m : XM (List D × Option Nat)) : Prop := ∃ wi : WX → TI, (∀ W X, F.mem W X → PI X tg iter (wi W)) ∧
  ∀ (W : WX) (G H : Hp) (as : List Addr) (st : Store) (σ : L2.St) (e : Nv) (R : It → Hp → Prop), Ri g.K g.mg G H as st → Rn g.K g.mg G as σ e → PXI g W G H as σ (m e st) R → wi W σ H R
/-- a list or a tuple -/
def iSeq (K : PySem.W.Frag) (tl : TE) : TI := fun σ H R => tl σ H fun x H1 => ∃ a, x = .ref a ∧ (((∃ xs, SqL K H1 a xs) ∧ R (Itl K a) H1) ∨ ((∃ xs, SqT K H1 a xs) ∧ R (Itt K a) H1))
theorem pi_seq {X : Cx} {tg l : Expr} {tl : TE} (hl : PE X l tl) : PI X tg l (iSeq X.K tl) := by
  refine ⟨fun pins s σ H R I h => ?_⟩
  refine thn (hl.run pins s σ H _ I h) fun v s1 ⟨x, H1, I1, r1, q1⟩ => ?_
  obtain ⟨a, e, q | q⟩ := q1
  · obtain ⟨⟨xs, hq⟩, q⟩ := q
    subst e
    cases r1
    obtain ⟨its, rv, p, hz⟩ := I1.list hq
    refine wpAny_pyIter_list p.isList ?_
    refine ⟨s1.heap.objs.size, [s1.heap.objs.size], _, _, H1, rfl, I1.kept (t' := s1.toks) fun b o e => Heap.get?_push_of_some _ e, turn_list a _, ⟨_, Heap.get?_push_size _ rfl, rfl, rfl⟩, fun b hb => ?_, q⟩
    have e : b = s1.heap.objs.size := by simpa using hb
    subst e
    exact I1.fpOk (Nat.le_refl _) (I1.hok.fresh (Nat.le_refl _))
  · obtain ⟨⟨xs, hq⟩, q⟩ := q
    subst e
    cases r1
    obtain ⟨its, rv, p, hz⟩ := I1.tuple hq
    refine wpAny_pyIter_tuple (show s1.heap.IsTuple a its.toArray from p) ?_
    refine ⟨s1.heap.objs.size, [s1.heap.objs.size], _, _, H1, rfl, I1.kept (t' := s1.toks) fun b o e => Heap.get?_push_of_some _ e, turn_tuple a _, ⟨_, Heap.get?_push_size _ rfl, rfl, rfl⟩, fun b hb => ?_, q⟩
    have e : b = s1.heap.objs.size := by simpa using hb
    subst e
    exact I1.fpOk (Nat.le_refl _) (I1.hok.fresh (Nat.le_refl _))
def seqSrc (st : Store) (x : D) : Option (List D × Option Nat) := match x with
  | .ref i => (lstOf st x).map fun xs => (xs, some i)
  | x => (seqOf st x).map fun xs => (xs, none)
def xwalk (m : XM D) : XM (List D × Option Nat) := xbind m fun x => fun _ st => match seqSrc st x with
  | some r => .ok r st
  | none => .stuck
theorem eqbs_refl_of {a b : List D} (h : a = b) : eqbs a b = true := by
  subst h
  have r : ∀ d : D, eqb d d = true := by
    intro d
    exact D.rec (motive_1 := fun d => eqb d d = true) (motive_2 := fun l => eqbs l l = true) (by simp [eqb]) (by simp [eqb]) (by simp [eqb]) (by simp [eqb]) (by simp [eqb]) (by simp [eqb]) (fun _ h => by simpa [eqb] using h) (fun _ h => by simpa [eqb] using h) (fun _ h => by simpa [eqb] using h) (by simp [eqb]) (by simp [eqbs]) (fun _ _ h1 h2 => by simp [eqbs, h1, h2]) d
  induction a with
  | nil => rfl
  | cons x l ih => simp [eqbs, r x, ih]
theorem yl_list {G0 : Hp} {as0 : List Addr} {a : Addr} {vs : List V} {xs : List D} (s : SqL g.K G0 a vs) (r : RpA g.K g.mg G0 as0 vs xs) : Yl g G0 as0 none xs (Itl g.K a) where
  go := fun i G H as st hi R hs hp _ => by
    have hv : i < vs.length := by rw [r.len]; exact hi
    exact ⟨vs, vs[i], sqL_H R (sqL_sub hs s), List.getElem?_eq_getElem hv⟩
  stop := fun G H as st R hs hp _ => ⟨vs, sqL_H R (sqL_sub hs s), by rw [r.len]; exact Nat.le_refl _⟩
  yld := fun i G H as st v H' x R hs hp _ hx y => by
    obtain ⟨e, y⟩ := y
    subst e
    obtain ⟨u, e1, ru⟩ := r.get hx
    have e2 := y vs (sqL_H R (sqL_sub hs s))
    rw [e1] at e2; cases e2
    exact ⟨G, R, Ext.refl, ru.mono hs hp⟩
theorem yl_tup {G0 : Hp} {as0 : List Addr} {a : Addr} {vs : List V} {xs : List D} (s : SqT g.K G0 a vs) (r : RpA g.K g.mg G0 as0 vs xs) : Yl g G0 as0 none xs (Itt g.K a) where
  go := fun i G H as st hi R hs hp _ => by
    have hv : i < vs.length := by rw [r.len]; exact hi
    exact ⟨vs, vs[i], sqT_H R (sqT_sub hs s), List.getElem?_eq_getElem hv⟩
  stop := fun G H as st R hs hp _ => ⟨vs, sqT_H R (sqT_sub hs s), by rw [r.len]; exact Nat.le_refl _⟩
  yld := fun i G H as st v H' x R hs hp _ hx y => by
    obtain ⟨e, y⟩ := y
    subst e
    obtain ⟨u, e1, ru⟩ := r.get hx
    have e2 := y vs (sqT_H R (sqT_sub hs s))
    rw [e1] at e2; cases e2
    exact ⟨G, R, Ext.refl, ru.mono hs hp⟩
theorem src_at {K : PySem.W.Frag} {mg : Str → Option Value} {G H : Hp} {as : List Addr} {st : Store} {i : Nat} {a : Addr} {xs : List D} (R : Ri K mg G H as st) (ha : as[i]? = some a) (h : srcOk (some i) xs st = true) : ∃ vs, H a = some (.lst vs) ∧ RpA K mg G as vs xs := by
  unfold srcOk at h
  cases q : st[i]? with
  | none => simp [q] at h
  | some m =>
    cases m with
    | lst ys =>
      simp only [q] at h
      cases eqbs_eq h
      obtain ⟨ho, e1, oo⟩ := R.at_ ha q
      cases oo with | lst r => exact ⟨_, e1, r⟩
theorem yl_ref {G0 : Hp} {as0 : List Addr} {a : Addr} {k : Nat} {xs : List D} (ha : as0[k]? = some a) : Yl g G0 as0 (some k) xs (Itl g.K a) where
  go := fun i G H as st hi R hs hp ok => by
    obtain ⟨vs, e, r⟩ := src_at R (pre_get hp ha) ok
    have hv : i < vs.length := by rw [r.len]; exact hi
    exact ⟨vs, vs[i], .of e, List.getElem?_eq_getElem hv⟩
  stop := fun G H as st R hs hp ok => by
    obtain ⟨vs, e, r⟩ := src_at R (pre_get hp ha) ok
    exact ⟨vs, .of e, by rw [r.len]; exact Nat.le_refl _⟩
  yld := fun i G H as st v H' x R hs hp ok hx y => by
    obtain ⟨e, y⟩ := y
    subst e
    obtain ⟨vs, e0, r⟩ := src_at R (pre_get hp ha) ok
    obtain ⟨u, e1, ru⟩ := r.get hx
    have e2 := y vs (.of e0)
    rw [e1] at e2; cases e2
    exact ⟨G, R, Ext.refl, ru⟩
theorem ji_seq {tg l : Expr} {m : XM D} (h : JE F l m) : JI F tg l (xwalk m) := by
  obtain ⟨t, p, s⟩ := h
  refine ⟨fun W => iSeq g.K (t W), fun W X m => by have := pi_seq (tg := tg) (p W X m); rw [F.hK m] at this; exact this, ?_⟩
  intro W G H as st σ e R' R N h
  refine s W G H as st σ e _ R N ?_
  unfold xwalk xbind at h
  cases q : m e st with
  | stuck => rw [q] at h; exact h
  | exc c p st1 => rw [q] at h; exact h
  | ok x st1 =>
    simp only [q] at h
    intro v G1 H1 as1 R1 X1 rv
    cases q2 : seqSrc st1 x with
    | none => simp only [q2] at h; exact h.elim
    | some z =>
      obtain ⟨xs, src⟩ := z
      simp only [q2] at h
      obtain ⟨ok, k⟩ := h
      have still : ∀ ys, seqOf st1 x = some ys → (∀ i, x ≠ .ref i) → xs = ys → src = none → ∃ a, v = .ref a ∧ (((∃ xs, SqL g.K H1 a xs) ∧ R' (Itl g.K a) H1) ∨ ((∃ xs, SqT g.K H1 a xs) ∧ R' (Itt g.K a) H1)) := by
        intro ys e1 nr e2 e3
        subst e2 e3
        cases rv with
        | tup s0 r0 => cases e1; exact ⟨_, rfl, .inr ⟨⟨_, sqT_H R1 s0⟩, k _ G1 H1 as1 R1 X1 (yl_tup s0 r0)⟩⟩
        | sq s0 r0 => cases e1; exact ⟨_, rfl, .inl ⟨⟨_, sqL_H R1 s0⟩, k _ G1 H1 as1 R1 X1 (yl_list s0 r0)⟩⟩
        | lst s0 r0 => cases e1; exact ⟨_, rfl, .inl ⟨⟨_, .of (R1.sub _ _ s0)⟩, k _ G1 H1 as1 R1 X1 (yl_list (.of s0) r0)⟩⟩
        | ref q0 => exact absurd rfl (nr _)
        | _ => cases e1
      cases x with
      | ref i =>
        obtain ⟨ys, e1, e2⟩ := Option.map_eq_some_iff.mp (show (lstOf st1 (.ref i)).map (fun xs => (xs, some i)) = some (xs, src) from q2)
        cases e2
        obtain ⟨a, vs, rfl, e3, r3⟩ := lstOf_ok R1 rv e1
        cases rv with
        | ref q0 => exact ⟨a, rfl, .inl ⟨⟨vs, .of e3⟩, k _ G1 H1 as1 R1 X1 (yl_ref q0)⟩⟩
      | tup ys =>
        obtain ⟨ys', e1, e2⟩ := Option.map_eq_some_iff.mp (show (seqOf st1 (.tup ys)).map (fun xs => (xs, none)) = some (xs, src) from q2)
        cases e2; exact still _ e1 (fun _ z => nomatch z) rfl rfl
      | sq ys =>
        obtain ⟨ys', e1, e2⟩ := Option.map_eq_some_iff.mp (show (seqOf st1 (.sq ys)).map (fun xs => (xs, none)) = some (xs, src) from q2)
        cases e2; exact still _ e1 (fun _ z => nomatch z) rfl rfl
      | lst ys =>
        obtain ⟨ys', e1, e2⟩ := Option.map_eq_some_iff.mp (show (seqOf st1 (.lst ys)).map (fun xs => (xs, none)) = some (xs, src) from q2)
        cases e2; exact still _ e1 (fun _ z => nomatch z) rfl rfl
      | _ => cases q2
/-- range(n), range(a, b) -/
def rangeL (lo : Int) (n : Nat) : List D := (List.range n).map fun (i : Nat) => .int (lo + (i : Int))
theorem yl_range {G0 : Hp} {as0 : List Addr} {lo : Int} {n : Nat} : Yl g G0 as0 none (rangeL lo n) (Itr lo n) where
  go := fun i G H as st hi R hs hp _ => by
    have : i < n := by simpa [rangeL] using hi
    exact this
  stop := fun G H as st R hs hp _ => by show n ≤ (rangeL lo n).length; simp [rangeL]
  yld := fun i G H as st v H' x R hs hp _ hx y => by
    obtain ⟨e, y⟩ := y
    subst e y
    unfold rangeL at hx
    rw [List.getElem?_map] at hx
    obtain ⟨j, e1, e2⟩ := Option.map_eq_some_iff.mp hx
    have := List.getElem?_eq_some_iff.mp e1
    obtain ⟨h1, h2⟩ := this
    have ej : j = i := by rw [← h2]; simp
    subst ej
    cases e2
    exact ⟨G, R, Ext.refl, .int _⟩
def xrange1 (m : XM D) : XM (List D × Option Nat) := xbind m fun x => fun _ st => match x with
  | .int j => if -(2 ^ 62) ≤ j ∧ j < 2 ^ 62 then .ok (rangeL 0 j.toNat, none) st else .stuck
  | _ => .stuck
theorem ji_range1 {tg a : Expr} {m : XM D} {p : Pos} (hg : F.sc.names.lookup ("range" : Str) = some .globalImplicit) (hm : g.mg "range" = none) (ha : JE F a m) (hs : ∀ env, starEach [a] env = [(false, eval a env)] := by intro _; rfl) : JI F tg (.Call (.Name "range" p) [a] [] pos) (xrange1 m) := by
  obtain ⟨t, p', s⟩ := ha
  refine ⟨fun W => iRng1 (tCons (t W) tNil), fun W X m => pi_range1 (by show X.env.scope.names.lookup _ = _; rw [F.hsc m]; exact hg) (by rw [F.hmg m]; exact hm) (pa_cons (p' W X m) pa_nil (hs _)) (hs _), ?_⟩
  intro W G H as st σ e R' R N h
  refine s W G H as st σ e _ R N ?_
  unfold xrange1 xbind at h
  cases q : m e st with
  | stuck => rw [q] at h; exact h
  | exc c p st1 => rw [q] at h; exact h
  | ok x st1 =>
    simp only [q] at h
    intro v G1 H1 as1 R1 X1 rv
    cases rv with
    | int j =>
      by_cases hc : -(2 ^ 62) ≤ j ∧ j < 2 ^ 62
      · simp only [hc, and_self, if_true] at h
        exact ⟨j, rfl, hc.1, hc.2, h.2 _ G1 H1 as1 R1 X1 yl_range⟩
      · simp only [hc, if_false] at h; exact h.elim
    | _ => exact h.elim
def xrange2 (ma mb : XM D) : XM (List D × Option Nat) := xbind ma fun x => xbind mb fun y => fun _ st => match x, y with
  | .int i, .int j => if -(2 ^ 62) ≤ i ∧ i < 2 ^ 62 ∧ -(2 ^ 62) ≤ j ∧ j < 2 ^ 62 then .ok (rangeL i (j - i).toNat, none) st else .stuck
  | _, _ => .stuck
theorem ji_range2 {tg a b : Expr} {ma mb : XM D} {p : Pos} (hg : F.sc.names.lookup ("range" : Str) = some .globalImplicit) (hm : g.mg "range" = none) (ha : JE F a ma) (hb : JE F b mb)
    (hs : ∀ env, starEach [a, b] env = [(false, eval a env), (false, eval b env)] := by intro _; rfl) (hs2 : ∀ env, starEach [b] env = [(false, eval b env)] := by intro _; rfl) : JI F tg (.Call (.Name "range" p) [a, b] [] pos) (xrange2 ma mb) := by
  obtain ⟨t, p', s⟩ := ha
  obtain ⟨t2, p2, s2⟩ := hb
  refine ⟨fun W => iRng2 (tCons (t W) (tCons (t2 W) tNil)), fun W X m => pi_range2 (by show X.env.scope.names.lookup _ = _; rw [F.hsc m]; exact hg) (by rw [F.hmg m]; exact hm) (pa_cons (p' W X m) (pa_cons (p2 W X m) pa_nil (hs2 _)) (by rw [hs, hs2])) (hs _) (hs2 _), ?_⟩
  intro W G H as st σ e R' R N h
  refine s W G H as st σ e _ R N ?_
  unfold xrange2 xbind at h
  cases q : ma e st with
  | stuck => rw [q] at h; exact h
  | exc c p st1 => rw [q] at h; exact h
  | ok x st1 =>
    simp only [q] at h
    intro v G1 H1 as1 R1 X1 rv
    refine s2 W G1 H1 as1 st1 σ e _ R1 (N.ext X1) ?_
    cases q2 : mb e st1 with
    | stuck => simp only [q2] at h; exact h
    | exc c p st2 =>
      simp only [q2] at h
      exact fun cls d G2 H2 as2 R2 X2 x2 => h cls d G2 H2 as2 R2 (X1.trans X2) x2
    | ok y st2 =>
      simp only [q2] at h
      intro w G2 H2 as2 R2 X2 rw'
      cases rv with
      | int i =>
        cases rw' with
        | int j =>
          by_cases hc : -(2 ^ 62) ≤ i ∧ i < 2 ^ 62 ∧ -(2 ^ 62) ≤ j ∧ j < 2 ^ 62
          · simp only [hc, and_self, if_true] at h
            exact ⟨i, j, rfl, hc, h.2 _ G2 H2 as2 R2 (X1.trans X2) yl_range⟩
          · simp only [hc, if_false] at h; exact h.elim
        | _ => exact h.elim
      | _ => cases rw' <;> exact h.elim
/-! ## for -/
def sloop (src : Option Nat) (items : List D) (gt : MG) (body : SM) : List D → Nv → Store → RS
  | [], e, st => if srcOk src items st = true then .nx e st else .stuck
  | x :: r, e, st => if srcOk src items st = true then (match gt x e st with
    | none => .stuck
    | some (e1, st1) => match body e1 st1 with
      | .nx e2 st2 => sloop src items gt body r e2 st2
      | .ct e2 st2 => sloop src items gt body r e2 st2
      | .bk e2 st2 => .nx e2 st2
      | r => r) else .stuck
def sfor (mi : XM (List D × Option Nat)) (gt : MG) (body : SM) : SM := fun e st => match mi e st with
  | .ok (xs, src) st1 => sloop src xs gt body xs e st1
  | .exc c p st' => .exc c p e st'
  | .stuck => .stuck
theorem js_for {tg iter : Expr} {body : List Stmt} {mi : XM (List D × Option Nat)} {gt : MG} {mb : SM} (hi : JI F tg iter mi) (hg : JG F tg gt) (hb : JSs F body mb) (hs : ∀ env x, foldedSetIterable iter env x = pure x := by intro _ _; rfl) : JS F (.For tg iter body [] pos) (sfor mi gt mb) := by
  obtain ⟨wi, pi, si⟩ := hi
  obtain ⟨tg', pg', sg'⟩ := hg
  obtain ⟨tb, pb, sb⟩ := hb
  refine ⟨fun W => tFor (wi W) (tg' W) (tb W), fun W X m => ps_for (F.pass m) (F.calm m) (pi W X m) (pg' W X m) (pb W X m) (hs _), ?_⟩
  intro W G H as st σ e E R N h
  refine si W G H as st σ e _ R N ?_
  unfold sfor at h
  cases q : mi e st with
  | stuck => rw [q] at h; exact h
  | exc c p st1 => rw [q] at h; exact fun cls d G1 H1 as1 R1 X1 x => h σ cls d G1 H1 as1 R1 (N.ext X1) X1 x
  | ok z st1 =>
    obtain ⟨xs, src⟩ := z
    simp only [q] at h
    have ok : srcOk src xs st1 = true := by
      cases hx : srcOk src xs st1 with
      | true => rfl
      | false =>
        exfalso
        cases xs with
        | nil => simp [sloop, hx] at h; exact h
        | cons x r => simp [sloop, hx] at h; exact h
    refine ⟨ok, fun J G1 H1 as1 R1 X1 Y => ?_⟩
    refine ⟨fun i m σ' H' => i ≤ xs.length ∧ m = xs.length - i ∧ ∃ G' as' st' e', Ri g.K g.mg G' H' as' st' ∧ Rn g.K g.mg G' as' σ' e' ∧ Ext G1 H1 as1 G' H' as' ∧ PS_ g.K g.mg W G' H' as' e.length (sloop src xs gt mb (xs.drop i) e' st') E,
      ⟨xs.length, Nat.zero_le _, by simp, G1, as1, st1, e, R1, N.ext X1, Ext.refl, PS_.ext (n := e.length) h X1⟩, ?_⟩
    rintro i m σ2 H2 ⟨hle, rfl, G2, as2, st2, e2, R2, N2, X2, h2⟩
    have hs0 := X2.sub
    have hp0 := X2.pre
    by_cases hi : i < xs.length
    · have hd : xs.drop i = xs[i] :: xs.drop (i + 1) := List.drop_eq_getElem_cons hi
      rw [hd] at h2
      unfold sloop at h2
      by_cases hok : srcOk src xs st2 = true
      · simp only [hok, if_true] at h2
        refine .inr ⟨Y.go i G2 H2 as2 st2 hi R2 hs0 hp0 hok, ?_⟩
        refine ⟨fun σ' H' => i + 1 ≤ xs.length ∧ ∃ G' as' st' e', Ri g.K g.mg G' H' as' st' ∧ Rn g.K g.mg G' as' σ' e' ∧ Ext G1 H1 as1 G' H' as' ∧ PS_ g.K g.mg W G' H' as' e.length (sloop src xs gt mb (xs.drop (i + 1)) e' st') E,
          fun σ' H' ⟨a, b⟩ => ⟨xs.length - (i + 1), by omega, a, rfl, b⟩, fun v H3 y => ?_⟩
        obtain ⟨G3, R3, X3, rv⟩ := Y.yld i G2 H2 as2 st2 v H3 xs[i] R2 hs0 hp0 hok (List.getElem?_eq_getElem hi) y
        cases q3 : gt xs[i] e2 st2 with
        | none => simp only [q3] at h2; exact h2.elim
        | some z =>
          obtain ⟨e3, st3⟩ := z
          simp only [q3] at h2
          refine sg' W G3 H3 as2 st2 σ2 e2 v xs[i] e3 st3 _ R3 (N2.ext X3) rv q3 fun σ4 G4 H4 as4 R4 N4 X4 => ?_
          refine sb W G4 H4 as4 st3 σ4 e3 _ R4 N4 ?_
          have X24 := X3.trans X4
          cases q4 : mb e3 st3 with
          | nx e5 st5 =>
            simp only [q4] at h2
            exact fun σ5 G5 H5 as5 R5 N5 X5 => ⟨hi, G5, as5, st5, e5, R5, N5, (X2.trans X24).trans X5, PS_.ext (n := e.length) h2 (X24.trans X5)⟩
          | ct e5 st5 =>
            simp only [q4] at h2
            exact fun σ5 G5 H5 as5 R5 N5 X5 => ⟨hi, G5, as5, st5, e5, R5, N5, (X2.trans X24).trans X5, PS_.ext (n := e.length) h2 (X24.trans X5)⟩
          | bk e5 st5 =>
            simp only [q4] at h2
            exact fun σ5 G5 H5 as5 R5 N5 X5 => h2 σ5 G5 H5 as5 R5 N5 (X24.trans X5)
          | rt d st5 =>
            simp only [q4] at h2
            exact fun v G5 H5 as5 R5 X5 => h2 v G5 H5 as5 R5 (X24.trans X5)
          | exc c p e5 st5 =>
            simp only [q4] at h2
            exact fun σ5 cls d G5 H5 as5 R5 N5 X5 => h2 σ5 cls d G5 H5 as5 R5 N5 (X24.trans X5)
          | stuck => simp only [q4] at h2; exact h2
      · simp only [hok] at h2; exact h2.elim
    · have ei : i = xs.length := by omega
      subst ei
      rw [List.drop_length] at h2
      unfold sloop at h2
      by_cases hok : srcOk src xs st2 = true
      · simp only [hok, if_true] at h2
        exact .inl ⟨Y.stop G2 H2 as2 st2 R2 hs0 hp0 hok, h2 σ2 G2 H2 as2 R2 N2 Ext.refl⟩
      · simp only [hok] at h2; exact h2.elim
/-! ## while -/
def swhile (c : XM Bool) (body : SM) : Nat → SM
  | 0 => fun _ _ => .stuck
  | n + 1 => sbindB c fun b => if b = true then (fun e st => match body e st with
    | .nx e2 st2 => swhile c body n e2 st2
    | .ct e2 st2 => swhile c body n e2 st2
    | .bk e2 st2 => .nx e2 st2
    | r => r) else snext
theorem js_while (n : Nat) {c : Expr} {body : List Stmt} {mc : XM Bool} {mb : SM} (hc : JT F c mc) (hb : JSs F body mb) : JS F (.While c body [] pos) (swhile mc mb n) := by
  obtain ⟨tc, pc, sc⟩ := hc
  obtain ⟨tb, pb, sb⟩ := hb
  refine ⟨fun W => tWhile (tc W) (tb W), fun W X m => ps_while (F.pass m) (pc W X m) (pb W X m), ?_⟩
  intro W G H as st σ e E R N h
  refine ⟨fun m σ' H' => ∃ G' as' st' e', Ri g.K g.mg G' H' as' st' ∧ Rn g.K g.mg G' as' σ' e' ∧ Ext G H as G' H' as' ∧ PS_ g.K g.mg W G' H' as' e.length (swhile mc mb m e' st') E, ⟨n, G, as, st, e, R, N, Ext.refl, h⟩, ?_⟩
  rintro m σ2 H2 ⟨G2, as2, st2, e2, R2, N2, X2, h2⟩
  cases m with
  | zero => exact h2.elim
  | succ m =>
    unfold swhile at h2
    refine sc.oneS (e := e2) (E := E) R2 N2 h2 fun b st3 G3 H3 as3 R3 X3 N3 h3 => ?_
    cases b with
    | false => exact iteF (h3 σ2 G3 H3 as3 R3 N3 Ext.refl)
    | true =>
      refine iteT ⟨fun σ' H' => ∃ G' as' st' e', Ri g.K g.mg G' H' as' st' ∧ Rn g.K g.mg G' as' σ' e' ∧ Ext G H as G' H' as' ∧ PS_ g.K g.mg W G' H' as' e.length (swhile mc mb m e' st') E, fun σ' H' q => ⟨m, Nat.lt_succ_self _, q⟩, ?_⟩
      refine sb W G3 H3 as3 st3 σ2 e2 _ R3 N3 ?_
      simp only [if_true] at h3
      cases q4 : mb e2 st3 with
      | nx e5 st5 =>
        simp only [q4] at h3
        exact fun σ5 G5 H5 as5 R5 N5 X5 => ⟨G5, as5, st5, e5, R5, N5, (X2.trans X3).trans X5, PS_.ext (n := e.length) h3 X5⟩
      | ct e5 st5 =>
        simp only [q4] at h3
        exact fun σ5 G5 H5 as5 R5 N5 X5 => ⟨G5, as5, st5, e5, R5, N5, (X2.trans X3).trans X5, PS_.ext (n := e.length) h3 X5⟩
      | bk e5 st5 => simp only [q4] at h3; exact h3
      | rt d st5 => simp only [q4] at h3; exact h3
      | exc c p e5 st5 => simp only [q4] at h3; exact h3
      | stuck => simp only [q4] at h3; exact h3
end
end LS
end
section
set_option maxRecDepth 100000
set_option maxHeartbeats 2000000
namespace LS
open PySem PySem.Spec L2

/-! ## an object by the side: neither still nor moving -/
section
variable {K : PySem.W.Frag} {mg : Str → Option Value} {G H G1 H1 : Hp} {as as1 : List Addr} {st : Store} {p : Addr}
theorem Ri.none_of (R : Ri K mg G H as st) (n : H p = none) : G p = none ∧ p ∉ as := by
  constructor
  · cases q : G p with
    | none => rfl
    | some u => rw [R.sub _ _ q] at n; cases n
  · intro ha
    obtain ⟨i, hi, e⟩ := List.getElem_of_mem ha
    have hi' : i < st.length := by rw [← R.len]; exact hi
    obtain ⟨ho, q, _⟩ := R.obj i p st[i] (by rw [List.getElem?_eq_getElem hi, e]) (List.getElem?_eq_getElem hi')
    rw [n] at q; cases q
theorem Ri.touch {o : HO} (R : Ri K mg G H as st) (gn : G p = none) (na : p ∉ as) : Ri K mg G (upd H p o) as st :=
  ⟨fun a u h => by rw [upd_ne (ne_of_none h gn)]; exact R.sub _ _ h, R.len, R.nd, R.out, fun i a u ha hu => by
    obtain ⟨ho, q, r⟩ := R.obj i a u ha hu
    refine ⟨ho, ?_, r⟩
    have : a ≠ p := fun z => na (z ▸ List.mem_of_getElem? ha)
    rw [upd_ne this]; exact q⟩
theorem Ext.touch {o : HO} (X : Ext G1 H1 as1 G H as) (n : H1 p = none) : Ext G1 H1 as1 G (upd H p o) as :=
  ⟨X.sub, X.pre, fun a u h m => by rw [upd_ne (ne_of_none h n)]; exact X.keep a u h m, X.frG, X.frA, fun a h => by
    by_cases z : a = p
    · subst z; exact absurd n h
    · rw [upd_ne z]; exact X.dom a h⟩
/-- it stands beside still behind what follows -/
theorem Ext.beside (X : Ext G H as G1 H1 as1) {o : HO} (h : H p = some o) (gn : G p = none) (na : p ∉ as) : G1 p = none ∧ p ∉ as1 ∧ H1 p = some o := by
  refine ⟨X.frG p gn (by rw [h]; exact fun z => nomatch z), fun m => ?_, X.keep p o h na⟩
  have := X.frA p m na
  rw [h] at this; cases this
theorem Ri.freeze {o : HO} (R : Ri K mg G H as st) (h : H p = some o) (gn : G p = none) (na : p ∉ as) : Ri K mg (upd G p o) H as st := by
  have hs : ∀ a u, G a = some u → upd G p o a = some u := fun a u e => by rw [upd_ne (ne_of_none e gn)]; exact e
  refine ⟨fun a u e => ?_, R.len, R.nd, fun a ha => ?_, fun i a u ha hu => ?_⟩
  · by_cases z : a = p
    · subst z; rw [upd_same] at e; cases e; exact h
    · rw [upd_ne z] at e; exact R.sub _ _ e
  · have : a ≠ p := fun z => na (z ▸ ha)
    rw [upd_ne this]; exact R.out a ha
  · obtain ⟨ho, q, r⟩ := R.obj i a u ha hu
    refine ⟨ho, q, ?_⟩
    cases r with | lst r => exact .lst (r.mono hs (List.prefix_refl _))
theorem Ext.freeze {o : HO} (X : Ext G1 H1 as1 G H as) (n : H1 p = none) (gn : G p = none) : Ext G1 H1 as1 (upd G p o) H as :=
  ⟨fun a u h => by rw [upd_ne (ne_of_none (X.sub a u h) gn)]; exact X.sub a u h, X.pre, X.keep, fun a g h => by
    have : a ≠ p := fun z => by subst z; exact h n
    rw [upd_ne this]; exact X.frG a g h, X.frA, X.dom⟩
theorem Ri.adopt {o : HO} {m : MO} (R : Ri K mg G H as st) (h : H p = some o) (gn : G p = none) (na : p ∉ as) (r : Ro K mg G as o m) : Ri K mg G H (as ++ [p]) (st ++ [m]) := by
  have hp : as <+: as ++ [p] := List.prefix_append _ _
  have mono : ∀ {ho : HO} {mo : MO}, Ro K mg G as ho mo → Ro K mg G (as ++ [p]) ho mo := fun r => by cases r with | lst r => exact .lst (r.mono (fun _ _ h => h) hp)
  refine ⟨R.sub, by simp [R.len], ?_, fun a ha => ?_, fun i a u ha hu => ?_⟩
  · rw [List.nodup_append]
    refine ⟨R.nd, by simp, fun a ha b hb z => ?_⟩
    have : b = p := by simpa using hb
    subst this; subst z; exact na ha
  · rcases List.mem_append.mp ha with ha | ha
    · exact R.out a ha
    · have : a = p := by simpa using ha
      subst this; exact gn
  · by_cases hi : i < as.length
    · rw [List.getElem?_append_left hi] at ha
      rw [List.getElem?_append_left (by rw [← R.len]; exact hi)] at hu
      obtain ⟨ho, q, r⟩ := R.obj i a u ha hu
      exact ⟨ho, q, mono r⟩
    · rw [List.getElem?_append_right (by omega)] at ha
      rw [List.getElem?_append_right (by rw [← R.len]; omega)] at hu
      have h0 : i - as.length = 0 := by
        have := (List.getElem?_eq_some_iff.mp ha).1
        simp at this; omega
      have h1 : i - st.length = 0 := by rw [← R.len]; exact h0
      rw [h0] at ha; rw [h1] at hu
      simp at ha hu
      subst ha hu
      exact ⟨o, h, mono r⟩
theorem Ext.adopt (X : Ext G1 H1 as1 G H as) (n : H1 p = none) : Ext G1 H1 as1 G H (as ++ [p]) :=
  ⟨X.sub, X.pre.trans (List.prefix_append _ _), X.keep, X.frG, fun a m n' => by
    rcases List.mem_append.mp m with m | m
    · exact X.frA a m n'
    · have : a = p := by simpa using m
      subst this; exact n, X.dom⟩
end

/-! ## the block of a comprehension -/
theorem wipe_at {σ : L2.St} {i : Nat} : ∀ (vs : List Nat), (wipe σ vs)[i]? = if i ∈ vs ∧ i < σ.length then some none else σ[i]?
  | [] => by simp [wipe]
  | v :: vs => by
    unfold wipe
    have ih := wipe_at (σ := σ) (i := i) vs
    have hl := wipe_length σ vs
    by_cases hv : v = i
    · subst hv
      by_cases hl' : v < σ.length
      · rw [List.getElem?_set_self (by rw [hl]; exact hl'), if_pos ⟨List.mem_cons_self, hl'⟩]
      · rw [if_neg (fun z => hl' z.2), List.getElem?_eq_none (by simp [hl]; omega), List.getElem?_eq_none (by omega)]
    · rw [List.getElem?_set_ne hv, ih]
      by_cases hm : i ∈ vs ∧ i < σ.length
      · rw [if_pos hm, if_pos ⟨List.mem_cons_of_mem _ hm.1, hm.2⟩]
      · rw [if_neg hm, if_neg (fun z => hm ⟨(List.mem_cons.mp z.1).resolve_left (fun q => hv q.symm), z.2⟩)]
theorem wipe_set {σ : L2.St} {i : Nat} {x : Option V} {vs : List Nat} (h : i ∈ vs) : wipe (σ.set i x) vs = wipe σ vs := by
  apply List.ext_getElem?
  intro j
  rw [wipe_at, wipe_at, List.length_set]
  by_cases hj : j ∈ vs ∧ j < σ.length
  · rw [if_pos hj, if_pos hj]
  · rw [if_neg hj, if_neg hj]
    by_cases z : i = j
    · subst z
      have : ¬ i < σ.length := fun q => hj ⟨h, q⟩
      rw [List.getElem?_eq_none (by simp; omega), List.getElem?_eq_none (by omega)]
    · rw [List.getElem?_set_ne z]
theorem wipe_wipe {σ : L2.St} {vs : List Nat} : wipe (wipe σ vs) vs = wipe σ vs := by
  apply List.ext_getElem?
  intro j
  rw [wipe_at, wipe_length, wipe_at]
  by_cases hj : j ∈ vs ∧ j < σ.length
  · rw [if_pos hj, if_pos hj]
  · rw [if_neg hj, if_neg hj]
def wipeE (e : Nv) : List Nat → Nv
  | [] => e
  | v :: vs => (wipeE e vs).set v none
section
variable {K : PySem.W.Frag} {mg : Str → Option Value} {G : Hp} {as : List Addr} {σ : L2.St} {e : Nv}
theorem Rn.unset (N : Rn K mg G as σ e) (i : Nat) : Rn K mg G as (σ.set i none) (e.set i none) := by
  refine ⟨by simp [N.len], fun j y h => ?_⟩
  by_cases hj : j = i
  · subst hj
    have hl : j < e.length := by
      have := (List.getElem?_eq_some_iff.mp h).1
      simpa using this
    rw [List.getElem?_set_self hl] at h
    cases h
  · rw [List.getElem?_set_ne (Ne.symm hj)] at h
    obtain ⟨u, e1, r1⟩ := N.at_ j y h
    exact ⟨u, by rw [List.getElem?_set_ne (Ne.symm hj)]; exact e1, r1⟩
theorem Rn.wipe (N : Rn K mg G as σ e) : ∀ vs : List Nat, Rn K mg G as (wipe σ vs) (wipeE e vs)
  | [] => N
  | v :: vs => (Rn.wipe N vs).unset v
end
section
variable {g : Gb} {F : Fam g} {pos : Pos}
abbrev W0 : WX := fun _ _ _ _ => False
def blkOwn (scope : Scope) (x : Str) : Bool := decide (scope.names.lookup x = some .cell) || decide (scope.names.lookup x = some .local)
def famC (F : Fam g) (scope : Scope) : Fam g where
  k := F.k
  N := F.N
  sc := relS scope F.sc
  nd := F.nd
  own := blkOwn scope
  mem := fun W X' => W = W0 ∧ ∃ (W1 : WX) (X : Cx) (s : Shared) (H : Hp) (C : Addr) (cl : List (Str × Addr)) (fp : List Addr), F.mem W1 X ∧ X' = X.blk s H scope (compEnvC scope cl C X.env) fp
  prog := fun {W X} ⟨_, W1, X1, s, H, C, cl, fp, h, e⟩ => by subst e; exact (F.prog (X := X1) h :)
  w := fun {W X} ⟨_, W1, X1, s, H, C, cl, fp, h, e⟩ => by subst e; exact (F.w (X := X1) h :)
  hK := fun {W X} ⟨_, W1, X1, s, H, C, cl, fp, h, e⟩ => by subst e; exact (F.hK (X := X1) h :)
  hmg := fun {W X} ⟨_, W1, X1, s, H, C, cl, fp, h, e⟩ => by subst e; exact (F.hmg (X := X1) h :)
  base := fun {W X} ⟨_, W1, X1, s, H, C, cl, fp, h, e⟩ => by subst e; exact (F.base (X := X1) h :)
  hN := fun {W X} ⟨_, W1, X1, s, H, C, cl, fp, h, e⟩ => by subst e; exact (F.hN (X := X1) h :)
  hsc := fun {W X} ⟨_, W1, X1, s, H, C, cl, fp, h, e⟩ => by
    subst e
    show relS scope X1.env.scope = _
    rw [F.hsc h]
  calm := fun {W X} ⟨_, W1, X1, s, H, C, cl, fp, h, e⟩ => by subst e; exact (F.calm (X := X1) h :)
  room := fun {W X} ⟨_, W1, X1, s, H, C, cl, fp, h, e⟩ => by subst e; exact (F.room (X := X1) h :)
  takes := fun {W X} ⟨eW, _⟩ => by subst eW; exact takes0
  pass := fun {W X} ⟨_, W1, X1, s, H, C, cl, fp, h, e⟩ => by subst e; exact PassesOwn.never
  fn := fun {W X} ⟨_, W1, X1, s, H, C, cl, fp, h, e⟩ x hx hl => by
    subst e
    unfold blkOwn at hx
    simp only [Bool.or_eq_true, decide_eq_true_eq] at hx
    rcases hx with hx | hx
    · exact .inl (by show (scope.names.lookup x == some .cell) = true; rw [hx]; rfl)
    · exact .inr (lookup_relS_keep (by decide) hx)
/-- a target that stores the block's own names alone -/
def JC (F : Fam g) (vs : List Nat) (target : Expr) (m : MG) : Prop := ∃ t : TG, (∀ W X, F.mem W X → PG X target t) ∧
  ∀ (G H : Hp) (as : List Addr) (st : Store) (σ : L2.St) (e : Nv) (v : V) (x : D) (e' : Nv) (st' : Store) (Q : L2.St → Hp → Prop), Ri g.K g.mg G H as st → Rn g.K g.mg G as σ e → Rp g.K g.mg G as v x → m x e st = some (e', st') →
    (∀ σ', wipe σ' vs = wipe σ vs → Rn g.K g.mg G as σ' e' → st' = st → Q σ' H) → t v σ H Q
def JCs (F : Fam g) (vs : List Nat) (ts : List Expr) (m : MGs) : Prop := ∃ t : TGs, (∀ W X, F.mem W X → PGs X ts t) ∧
  ∀ (G H : Hp) (as : List Addr) (st : Store) (σ : L2.St) (e : Nv) (vs' : List V) (xs : List D) (e' : Nv) (st' : Store) (Q : L2.St → Hp → Prop), Ri g.K g.mg G H as st → Rn g.K g.mg G as σ e → RpA g.K g.mg G as vs' xs → m xs e st = some (e', st') →
    (∀ σ', wipe σ' vs = wipe σ vs → Rn g.K g.mg G as σ' e' → st' = st → Q σ' H) → t vs' σ H Q
theorem jc_name (i : Nat) {x : Str} {vs : List Nat} (hi : F.N[i]? = some x) (hx : Loc F.sc x) (hv : i ∈ vs) (hw : F.own x = true := by rfl) : JC F vs (.Name x pos) (gname i) := by
  refine ⟨gName i, fun W X m => pg_name (by rw [F.hN m]; exact F.nd) (by rw [F.hN m]; exact hi) (by rw [F.hsc m]; exact hx) (F.fn m x hw hx), ?_⟩
  intro G H as st σ e v x e' st' Q R N r h k
  cases h
  exact k _ (wipe_set hv) (N.set i r) rfl
theorem jcs_nil {vs : List Nat} : JCs F vs [] gnil := by
  refine ⟨gNil, fun _ _ _ => pgs_nil, ?_⟩
  intro G H as st σ e vs xs e' st' Q R N r h k
  cases r with
  | nil => cases h; exact ⟨rfl, k σ rfl N rfl⟩
  | cons _ _ => cases h
theorem jcs_cons {ex : Expr} {es : List Expr} {m : MG} {ms : MGs} {vs : List Nat} (h : JC F vs ex m) (hs : JCs F vs es ms) (ha : ∀ env, (assignEach (ex :: es) env).map (·.2) = assign ex env :: (assignEach es env).map (·.2) := by intro _; rfl) : JCs F vs (ex :: es) (gcons m ms) := by
  obtain ⟨t, p, s⟩ := h
  obtain ⟨ts, ps, ss⟩ := hs
  refine ⟨gCons t ts, fun W X m => pgs_cons (p W X m) (ps W X m) (ha _), ?_⟩
  intro G H as st σ e vs xs e' st' Q R N r h k
  cases r with
  | nil => cases h
  | cons r rr =>
    rename_i v vr x xr
    unfold gcons at h
    cases q : m x e st with
    | none => simp [q] at h
    | some z =>
      obtain ⟨e1, st1⟩ := z
      simp only [q] at h
      refine ⟨v, vr, rfl, s G H as st σ e v x e1 st1 _ R N r q fun σ1 w1 N1 e1' => ?_⟩
      subst e1'
      exact ss G H as st1 σ1 e1 vr xr e' st' Q R N1 rr h fun σ2 w2 N2 e2 => k σ2 (w2.trans w1) N2 e2
theorem jc_tup {es : List Expr} {k n : Nat} {ms : MGs} {vs : List Nat} (hs : JCs F vs es ms) (hn : ∀ env, (assignEach es env).length = n := by intro _; rfl) (hst : ∀ env, (assignEach es env).findIdx? (·.1) = none := by intro _; rfl) : JC F vs (.Tuple es k pos) (gtup n ms) := by
  obtain ⟨ts, ps, ss⟩ := hs
  refine ⟨gTup g.K n ts, fun W X m => by have := pg_tup (k := k) (pos := pos) (F.calm m) (ps W X m) (hn _) (hst _); rw [F.hK m] at this; exact this, ?_⟩
  intro G H as st σ e v x e' st' Q R N r h k
  cases r with
  | tup s q =>
    rename_i a vs xs
    unfold gtup at h
    by_cases hl : xs.length = n
    · simp only [hl, if_true] at h
      exact ⟨a, vs, rfl, sqT_H R s, q.len.trans hl, ss G H as st σ e vs xs e' st' Q R N q h k⟩
    · simp [hl] at h
  | _ => cases h
/-- the tests of a comprehension -/
def JTs (F : Fam g) (ifs : List Expr) (m : XM Bool) : Prop := ∃ t : WX → TT, (∀ W X, F.mem W X → PTs X ifs (t W)) ∧ ST g t m
theorem jts_nil : JTs F [] (xpure true) := ⟨fun _ => tYes, fun _ _ _ => pts_nil, fun W G H as st σ e Q R N h => h G H as R Ext.refl⟩
theorem jts_one {c : Expr} {m : XM Bool} (h : JT F c m) : JTs F [c] m := let ⟨t, p, s⟩ := h; ⟨t, fun W X m => pts_one (p W X m), s⟩
def cloop (src : Option Nat) (items : List D) (gt : MG) (mt : XM Bool) (me : XM D) (e : Nv) : List D → List D → Store → RX (List D)
  | [], acc, st => if srcOk src items st = true then .ok acc st else .stuck
  | x :: r, acc, st => if srcOk src items st = true then (match gt x e st with
    | none => .stuck
    | some (e1, st1) => match mt e1 st1 with
      | .ok true st2 => (match me e1 st2 with
        | .ok d st3 => if acc.length < LIM then cloop src items gt mt me e r (acc ++ [d]) st3 else .stuck
        | _ => .stuck)
      | .ok false st2 => cloop src items gt mt me e r acc st2
      | _ => .stuck) else .stuck
def xcompL (mi : XM (List D × Option Nat)) (vs : List Nat) (gt : MG) (mt : XM Bool) (me : XM D) : XM (List D) := fun e st => match mi e st with
  | .ok (xs, src) st1 => cloop src xs gt mt me (wipeE e vs) xs [] st1
  | .exc c p st' => .exc c p st'
  | .stuck => .stuck
/-- the new list stands still | will move -/
def xcomp (mi : XM (List D × Option Nat)) (vs : List Nat) (gt : MG) (mt : XM Bool) (me : XM D) : XM D := xbind (xcompL mi vs gt mt me) fun ds => xpure (.lst ds)
def xcompM (mi : XM (List D × Option Nat)) (vs : List Nat) (gt : MG) (mt : XM Bool) (me : XM D) : XM D := xbind (xcompL mi vs gt mt me) fun ds => fun _ st => .ok (.ref st.length) (st ++ [.lst ds])
theorem comp_read {wi : WX → TI} {gt0 : TG} {tt : WX → TT} {te : WX → TE} {mi : XM (List D × Option Nat)} {vs : List Nat} {gt : MG} {mt : XM Bool} {me : XM D}
    (si : ∀ (W : WX) (G H : Hp) (as : List Addr) (st : Store) (σ : L2.St) (e : Nv) (R : It → Hp → Prop), Ri g.K g.mg G H as st → Rn g.K g.mg G as σ e → PXI g W G H as σ (mi e st) R → wi W σ H R)
    (sg : ∀ (G H : Hp) (as : List Addr) (st : Store) (σ : L2.St) (e : Nv) (v : V) (x : D) (e' : Nv) (st' : Store) (Q : L2.St → Hp → Prop), Ri g.K g.mg G H as st → Rn g.K g.mg G as σ e → Rp g.K g.mg G as v x → gt x e st = some (e', st') →
      (∀ σ', wipe σ' vs = wipe σ vs → Rn g.K g.mg G as σ' e' → st' = st → Q σ' H) → gt0 v σ H Q)
    (stt : ST g tt mt) (se : SE g te me) (W : WX) (G H : Hp) (as : List Addr) (st : Store) (σ : L2.St) (e : Nv) (Q : VK) (R : Ri g.K g.mg G H as st) (N : Rn g.K g.mg G as σ e) (f : List D → Store → RX D)
    (h : PX g.K g.mg W G H as σ (match xcompL mi vs gt mt me e st with | .ok ds st' => f ds st' | .exc c p st' => .exc c p st' | .stuck => .stuck) Q)
    (fin : ∀ (ds : List D) (st' : Store) (G1 H1 : Hp) (as1 : List Addr) (G2 H2 : Hp) (as2 : List Addr) (us : List V) (p : Addr), Ri g.K g.mg G1 H1 as1 st' → RpA g.K g.mg G1 as1 us ds → H1 p = some (.lst us) → G1 p = none → p ∉ as1 → Ext G2 H2 as2 G1 H1 as1 → H2 p = none → PX g.K g.mg W G2 H2 as2 σ (f ds st') Q → Q (.ref p) H1) :
    tLc (wi W) gt0 (tt W0) (te W0) vs σ H Q := by
  refine si W G H as st σ e _ R N ?_
  unfold xcompL at h
  cases q : mi e st with
  | stuck => rw [q] at h; exact h
  | exc c p st1 => rw [q] at h; exact h
  | ok z st1 =>
    obtain ⟨xs, src⟩ := z
    simp only [q] at h
    have ok : srcOk src xs st1 = true := by
      cases hx : srcOk src xs st1 with
      | true => rfl
      | false =>
        exfalso
        cases xs with
        | nil => simp [cloop, hx] at h; exact h
        | cons x r => simp [cloop, hx] at h; exact h
    refine ⟨ok, fun J G1 H1 as1 R1 X1 Y => ?_⟩
    intro D0 hD
    have hd0 := R1.none_of hD
    have h1 := PX.ext (K := g.K) (mg := g.mg) h X1
    refine ⟨fun i m H' => i ≤ xs.length ∧ m = xs.length - i ∧ ∃ G' as' st' us acc, Ri g.K g.mg G' H' as' st' ∧ Ext G1 H1 as1 G' H' as' ∧ H' D0 = some (.lst us) ∧ G' D0 = none ∧ D0 ∉ as' ∧ RpA g.K g.mg G' as' us acc ∧
        PX g.K g.mg W G1 H1 as1 σ (match cloop src xs gt mt me (wipeE e vs) (xs.drop i) acc st' with | .ok ds st' => f ds st' | .exc c p st' => .exc c p st' | .stuck => .stuck) Q,
      ⟨xs.length, Nat.zero_le _, by simp, G1, as1, st1, [], [], R1.touch hd0.1 hd0.2, Ext.refl.touch hD, upd_same, hd0.1, hd0.2, .nil, h1⟩, ?_⟩
    rintro i m H2 ⟨hle, rfl, G2, as2, st2, us, acc, R2, X2, hL, hg, ha, ru, h2⟩
    by_cases hi : i < xs.length
    · have hd : xs.drop i = xs[i] :: xs.drop (i + 1) := List.drop_eq_getElem_cons hi
      rw [hd] at h2
      unfold cloop at h2
      by_cases hok : srcOk src xs st2 = true
      · simp only [hok, if_true] at h2
        refine .inr ⟨Y.go i G2 H2 as2 st2 hi R2 X2.sub X2.pre hok, ?_⟩
        refine ⟨fun H' => i + 1 ≤ xs.length ∧ ∃ G' as' st' us acc, Ri g.K g.mg G' H' as' st' ∧ Ext G1 H1 as1 G' H' as' ∧ H' D0 = some (.lst us) ∧ G' D0 = none ∧ D0 ∉ as' ∧ RpA g.K g.mg G' as' us acc ∧
            PX g.K g.mg W G1 H1 as1 σ (match cloop src xs gt mt me (wipeE e vs) (xs.drop (i + 1)) acc st' with | .ok ds st' => f ds st' | .exc c p st' => .exc c p st' | .stuck => .stuck) Q,
          fun H' ⟨a, b⟩ => ⟨xs.length - (i + 1), by omega, a, rfl, b⟩, fun v H3 y => ?_⟩
        obtain ⟨G3, R3, X3, rv⟩ := Y.yld i G2 H2 as2 st2 v H3 xs[i] R2 X2.sub X2.pre hok (List.getElem?_eq_getElem hi) y
        have b3 := X3.beside hL hg ha
        cases q3 : gt xs[i] (wipeE e vs) st2 with
        | none => simp only [q3] at h2; exact h2.elim
        | some z =>
          obtain ⟨e3, st3⟩ := z
          simp only [q3] at h2
          have Nw : Rn g.K g.mg G3 as2 (wipe σ vs) (wipeE e vs) := (((N.ext X1).ext X2).ext X3).wipe vs
          refine sg G3 H3 as2 st2 (wipe σ vs) (wipeE e vs) v xs[i] e3 st3 _ R3 Nw rv q3 fun σ4 w4 N4 es => ?_
          subst es
          refine ⟨w4.trans wipe_wipe, ?_⟩
          refine stt W0 G3 H3 as2 st3 σ4 e3 _ R3 N4 ?_
          cases q4 : mt e3 st3 with
          | stuck => simp only [q4] at h2; exact h2
          | exc c p st4 => simp only [q4] at h2; exact h2.elim
          | ok b st4 =>
            intro G4 H4 as4 R4 X4
            have b4 := X4.beside b3.2.2 b3.1 b3.2.1
            have X14 := (X2.trans X3).trans X4
            cases b with
            | false =>
              simp only [q4] at h2
              exact iteF ⟨hi, G4, as4, st4, us, acc, R4, X14, b4.2.2, b4.1, b4.2.1, (ru.ext X3).ext X4, h2⟩
            | true =>
              refine iteT ?_
              refine se W0 G4 H4 as4 st4 σ4 e3 _ R4 (N4.ext X4) ?_
              cases q5 : me e3 st4 with
              | stuck => simp only [q4, q5] at h2; exact h2
              | exc c p st5 => simp only [q4, q5] at h2; exact h2.elim
              | ok d st5 =>
                simp only [q4, q5] at h2
                intro w G5 H5 as5 R5 X5 rw'
                have b5 := X5.beside b4.2.2 b4.1 b4.2.1
                have ru5 := ((ru.ext X3).ext X4).ext X5
                by_cases hl : acc.length < LIM
                · rw [if_pos hl] at h2
                  refine ⟨us, b5.2.2, by rw [ru5.len]; exact lim_lt hl, hi, G5, as5, st5, us ++ [w], acc ++ [d], R5.touch b5.1 b5.2.1, (X14.trans X5).touch hD, upd_same, b5.1, b5.2.1, ru5.append (.cons rw' .nil), h2⟩
                · rw [if_neg hl] at h2; exact h2.elim
      · simp only [hok] at h2; exact h2.elim
    · have ei : i = xs.length := by omega
      subst ei
      rw [List.drop_length] at h2
      unfold cloop at h2
      by_cases hok : srcOk src xs st2 = true
      · simp only [hok, if_true] at h2
        exact .inl ⟨Y.stop G2 H2 as2 st2 R2 X2.sub X2.pre hok, fin acc st2 G2 H2 as2 G1 H1 as1 us D0 R2 ru hL hg ha X2 hD h2⟩
      · simp only [hok] at h2; exact h2.elim
theorem je_lc {elt tg iter : Expr} {ifs : List Expr} {scope : Scope} (own : List (Str × Nat)) {mi : XM (List D × Option Nat)} {gt : MG} {mt : XM Bool} {me : XM D} (hi : JI F tg iter mi) (ok : blkC F.N F.sc scope own = true) (hg : JC (famC F scope) (own.map (·.2)) tg gt)
    (ht : JTs (famC F scope) ifs mt) (he : JE (famC F scope) elt me) (hs : ∀ env x, foldedSetIterable iter env x = pure x := by intro _ _; rfl) : JE F (.ListComp elt [⟨tg, iter, ifs, 0⟩] scope pos) (xcomp mi (own.map (·.2)) gt mt me) := by
  obtain ⟨wi, pi, si⟩ := hi
  obtain ⟨tg', pg', sg'⟩ := hg
  obtain ⟨tt, pt, stt⟩ := ht
  obtain ⟨te, pe, se⟩ := he
  refine ⟨fun W => tLc (wi W) tg' (tt W0) (te W0) (own.map (·.2)), fun W X m => ?_, ?_⟩
  · have hm : ∀ (s : Shared) (H : Hp) (C : Addr) (cl : List (Str × Addr)) (fp : List Addr), (famC F scope).mem W0 (X.blk s H scope (compEnvC scope cl C X.env) fp) := fun s H C cl fp => ⟨rfl, W, X, s, H, C, cl, fp, m, rfl⟩
    exact pe_lc (F.calm m) (by rw [F.hN m]; exact F.nd) (pi W X m) (by rw [F.hN m, F.hsc m]; exact blkOk_by ok) (fun s H C cl fp => pg' _ _ (hm s H C cl fp)) (fun s H C cl fp => pt _ _ (hm s H C cl fp)) (fun s H C cl fp => pe _ _ (hm s H C cl fp)) (hs _)
  · intro W G H as st σ e Q R N h
    refine comp_read si sg' stt se W G H as st σ e Q R N (fun ds st' => .ok (.lst ds) st') ?_ ?_
    · refine Eq.mp (congrArg (fun r => PX g.K g.mg W G H as σ r Q) ?_) h
      unfold xcomp xbind xpure
      cases xcompL mi (own.map (·.2)) gt mt me e st <;> rfl
    · intro ds st' G1 H1 as1 G2 H2 as2 us p R1 ru hp gn na X1 hn hq
      refine hq _ _ H1 as1 (R1.freeze hp gn na) (X1.freeze hn gn) (.lst upd_same (ru.mono (fun a u e => ?_) (List.prefix_refl _)))
      rw [upd_ne (ne_of_none e gn)]; exact e
theorem je_lcM {elt tg iter : Expr} {ifs : List Expr} {scope : Scope} (own : List (Str × Nat)) {mi : XM (List D × Option Nat)} {gt : MG} {mt : XM Bool} {me : XM D} (hi : JI F tg iter mi) (ok : blkC F.N F.sc scope own = true) (hg : JC (famC F scope) (own.map (·.2)) tg gt)
    (ht : JTs (famC F scope) ifs mt) (he : JE (famC F scope) elt me) (hs : ∀ env x, foldedSetIterable iter env x = pure x := by intro _ _; rfl) : JE F (.ListComp elt [⟨tg, iter, ifs, 0⟩] scope pos) (xcompM mi (own.map (·.2)) gt mt me) := by
  obtain ⟨wi, pi, si⟩ := hi
  obtain ⟨tg', pg', sg'⟩ := hg
  obtain ⟨tt, pt, stt⟩ := ht
  obtain ⟨te, pe, se⟩ := he
  refine ⟨fun W => tLc (wi W) tg' (tt W0) (te W0) (own.map (·.2)), fun W X m => ?_, ?_⟩
  · have hm : ∀ (s : Shared) (H : Hp) (C : Addr) (cl : List (Str × Addr)) (fp : List Addr), (famC F scope).mem W0 (X.blk s H scope (compEnvC scope cl C X.env) fp) := fun s H C cl fp => ⟨rfl, W, X, s, H, C, cl, fp, m, rfl⟩
    exact pe_lc (F.calm m) (by rw [F.hN m]; exact F.nd) (pi W X m) (by rw [F.hN m, F.hsc m]; exact blkOk_by ok) (fun s H C cl fp => pg' _ _ (hm s H C cl fp)) (fun s H C cl fp => pt _ _ (hm s H C cl fp)) (fun s H C cl fp => pe _ _ (hm s H C cl fp)) (hs _)
  · intro W G H as st σ e Q R N h
    refine comp_read si sg' stt se W G H as st σ e Q R N (fun ds st' => .ok (.ref st'.length) (st' ++ [.lst ds])) ?_ ?_
    · refine Eq.mp (congrArg (fun r => PX g.K g.mg W G H as σ r Q) ?_) h
      unfold xcompM xbind
      cases xcompL mi (own.map (·.2)) gt mt me e st <;> rfl
    · intro ds st' G1 H1 as1 G2 H2 as2 us p R1 ru hp gn na X1 hn hq
      refine hq _ _ H1 _ (R1.adopt hp gn na (.lst ru)) (X1.adopt hn) (.ref ?_)
      rw [← R1.len, List.getElem?_append_right (Nat.le_refl _), Nat.sub_self]; rfl
/-- name = [..] on one line, the name a local -/
theorem js_setLc (i : Nat) {y : Str} {py spos : Pos} {elt tg iter : Expr} {ifs : List Expr} {scope : Scope} (own : List (Str × Nat)) {mi : XM (List D × Option Nat)} {gt : MG} {mt : XM Bool} {me : XM D} (hy : F.N[i]? = some y) (hyl : F.sc.names.lookup y = some .local) (hk : F.sc.kind = .function) (hl : (py.line == pos.line) = true)
    (hna : (scope.names.any fun (n, k) => n == y && (k == .local || k == .cell)) = false) (hi : JI F tg iter mi) (ok : blkC F.N F.sc scope own = true) (hg : JC (famC F scope) (own.map (·.2)) tg gt)
    (ht : JTs (famC F scope) ifs mt) (he : JE (famC F scope) elt me) (hs : ∀ env x, foldedSetIterable iter env x = pure x := by intro _ _; rfl) :
    JS F (.Assign [.Name y py] (.ListComp elt [⟨tg, iter, ifs, 0⟩] scope pos) spos) (sset i (xcomp mi (own.map (·.2)) gt mt me)) := by
  obtain ⟨wi, pi, si⟩ := hi
  obtain ⟨tg', pg', sg'⟩ := hg
  obtain ⟨tt, pt, stt⟩ := ht
  obtain ⟨te, pe, se⟩ := he
  refine ⟨fun W => tAsg (tLc (wi W) tg' (tt W0) (te W0) (own.map (·.2))) (gName i), fun W X m => ?_, ?_⟩
  · have hm : ∀ (s : Shared) (H : Hp) (C : Addr) (cl : List (Str × Addr)) (fp : List Addr), (famC F scope).mem W0 (X.blk s H scope (compEnvC scope cl C X.env) fp) := fun s H C cl fp => ⟨rfl, W, X, s, H, C, cl, fp, m, rfl⟩
    exact ps_setLc (F.calm m) (by rw [F.hN m]; exact F.nd) (by rw [F.hN m]; exact hy) (by rw [F.hsc m]; exact hyl) (sw_true (by rw [F.hsc m]; exact hk) (by rw [F.hsc m]; exact hyl) hl hna) (pi W X m) (by rw [F.hN m, F.hsc m]; exact blkOk_by ok)
      (fun s H C cl fp => pg' _ _ (hm s H C cl fp)) (fun s H C cl fp => pt _ _ (hm s H C cl fp)) (fun s H C cl fp => pe _ _ (hm s H C cl fp)) (hs _)
  · intro W G H as st σ e E R N h
    have h' : PX g.K g.mg W G H as σ (xcomp mi (own.map (·.2)) gt mt me e st) (fun x H1 => gName i x σ H1 E.nx) := by
      unfold sset sbind at h
      cases q : xcomp mi (own.map (·.2)) gt mt me e st with
      | stuck => rw [q] at h; exact h
      | exc c p st1 => rw [q] at h; exact fun cls d G1 H1 as1 R1 X1 x => h σ cls d G1 H1 as1 R1 (N.ext X1) X1 x
      | ok d st1 => rw [q] at h; exact fun v G1 H1 as1 R1 X1 rv => h _ G1 H1 as1 R1 ((N.ext X1).set i rv) X1
    refine comp_read si sg' stt se W G H as st σ e _ R N (fun ds st' => .ok (.lst ds) st') ?_ ?_
    · refine Eq.mp (congrArg (fun r => PX g.K g.mg W G H as σ r _) ?_) h'
      unfold xcomp xbind xpure
      cases xcompL mi (own.map (·.2)) gt mt me e st <;> rfl
    · intro ds st' G1 H1 as1 G2 H2 as2 us p R1 ru hp gn na X1 hn hq
      refine hq _ _ H1 as1 (R1.freeze hp gn na) (X1.freeze hn gn) (.lst upd_same (ru.mono (fun a u e => ?_) (List.prefix_refl _)))
      rw [upd_ne (ne_of_none e gn)]; exact e
end
end LS
end
section
set_option maxRecDepth 100000
set_option maxHeartbeats 2000000
namespace LS
open PySem PySem.Spec L2

/-! ## what leaves a def -/
mutual
def refsB (n : Nat) : D → Bool
  | .ref i => decide (i < n)
  | .tup xs => refsBs n xs
  | .lst xs => refsBs n xs
  | .sq xs => refsBs n xs
  | _ => true
def refsBs (n : Nat) : List D → Bool
  | [] => true
  | d :: r => refsB n d && refsBs n r
end
def moB (n : Nat) : MO → Bool
  | .lst xs => refsBs n xs
def stB (n : Nat) (st : Store) : Bool := (st.take n).all (moB n)
def payB (n : Nat) : Pay → Bool
  | none => true
  | some (_, d) => refsB n d
def outD (n : Nat) (d : D) (st : Store) : RX D := if stB n st = true then (match d with
  | .ref k => if k < n then .ok (.ref k) (st.take n) else (match st[k]? with
    | some (.lst xs) => if refsBs n xs = true then .ok (.lst xs) (st.take n) else .stuck
    | none => .stuck)
  | d => if refsB n d = true then .ok d (st.take n) else .stuck) else .stuck
/-- .. a new moving list -/
def outM (n : Nat) (d : D) (st : Store) : RX D := if stB n st = true then (match d with
  | .ref k => if k < n then .stuck else (match st[k]? with
    | some (.lst xs) => if refsBs n xs = true then .ok (.ref n) (st.take n ++ [.lst xs]) else .stuck
    | none => .stuck)
  | _ => .stuck) else .stuck
def outF (out : Nat → D → Store → RX D) (n : Nat) : RS → RX D
  | .rt d st => out n d st
  | .nx _ st => out n .non st
  | .exc c p _ st => if stB n st = true then (if payB n p = true then .exc c p (st.take n) else .stuck) else .stuck
  | _ => .stuck
abbrev DF := Store → List D → RX D
def runF (nm : Nat) (body : SM) : DF := fun st ds => outF outD st.length (body (ds.map some ++ List.replicate (nm - ds.length) none) st)
def runM (nm : Nat) (body : SM) : DF := fun st ds => outF outM st.length (body (ds.map some ++ List.replicate (nm - ds.length) none) st)
section
variable {K : PySem.W.Frag} {mg : Str → Option Value} {G H G1 H1 : Hp} {as as1 : List Addr} {st st1 : Store} {n : Nat}
mutual
theorem Rp.shrink (hn : ∀ i, i < n → as[i]? = as1[i]?) : ∀ {d : D} {v : V}, refsB n d = true → Rp K mg G as v d → Rp K mg G as1 v d
  | .non, _, _, h => by cases h; exact .non
  | .bl _, _, _, h => by cases h; exact .bl _
  | .int _, _, _, h => by cases h; exact .int _
  | .str _, _, _, h => by cases h; exact .str _
  | .ty _, _, _, h => by cases h; exact .ty _
  | .glo _, _, _, h => by cases h; rename_i a q; exact .glo _ _ q
  | .tup ds, _, b, h => by cases h with | tup s r => exact .tup s (RpA.shrink hn (by simpa [refsB] using b) r)
  | .lst ds, _, b, h => by cases h with | lst s r => exact .lst s (RpA.shrink hn (by simpa [refsB] using b) r)
  | .sq ds, _, b, h => by cases h with | sq s r => exact .sq s (RpA.shrink hn (by simpa [refsB] using b) r)
  | .ref i, _, b, h => by cases h with | ref q => exact .ref (by rw [← hn i (by simpa [refsB] using b)]; exact q)
theorem RpA.shrink (hn : ∀ i, i < n → as[i]? = as1[i]?) : ∀ {ds : List D} {vs : List V}, refsBs n ds = true → RpA K mg G as vs ds → RpA K mg G as1 vs ds
  | [], _, _, h => by cases h; exact .nil
  | d :: ds, _, b, h => by
    cases h with
    | cons x y =>
      have b' : refsB n d = true ∧ refsBs n ds = true := by simpa [refsBs] using b
      exact .cons (Rp.shrink hn b'.1 x) (RpA.shrink hn b'.2 y)
end
theorem Ro.shrink (hn : ∀ i, i < n → as[i]? = as1[i]?) {ho : HO} {m : MO} (b : moB n m = true) (h : Ro K mg G as ho m) : Ro K mg G as1 ho m := by
  cases h with | lst r => exact .lst (r.shrink hn (by simpa [moB] using b))
/-- the store of a def's caller -/
theorem Ri.back (R : Ri K mg G1 H1 as1 st1) (X : Ext G H as G1 H1 as1) (hn : as.length = n) (b : stB n st1 = true) : Ri K mg G1 H1 as (st1.take n) ∧ Ext G H as G1 H1 as ∧ ∀ i, i < n → as1[i]? = as[i]? := by
  obtain ⟨t, e⟩ := X.pre
  have hl : n ≤ as1.length := by rw [← e, List.length_append]; omega
  have same : ∀ i, i < n → as1[i]? = as[i]? := fun i hi => by rw [← e, List.getElem?_append_left (by omega)]
  refine ⟨⟨R.sub, by rw [hn, List.length_take, ← R.len]; omega, ?_, fun a ha => R.out a (e ▸ List.mem_append_left _ ha), fun i a o ha ho => ?_⟩, ⟨X.sub, List.prefix_refl _, X.keep, X.frG, fun a h h' => absurd h h', X.dom⟩, same⟩
  · have := R.nd
    rw [← e, List.nodup_append] at this
    exact this.1
  · have hi : i < n := by
      have := (List.getElem?_eq_some_iff.mp ha).1
      omega
    have ho' : st1[i]? = some o := by
      rw [List.getElem?_take, if_pos hi] at ho
      exact ho
    obtain ⟨u, q, r⟩ := R.obj i a o (by rw [same i hi]; exact ha) ho'
    refine ⟨u, q, r.shrink same ?_⟩
    unfold stB at b
    exact List.all_eq_true.mp b o (List.mem_of_getElem? ho)
theorem outD_ok {W : WX} {σ : L2.St} {d : D} {v : V} {Q : VK} (R : Ri K mg G1 H1 as1 st1) (X : Ext G H as G1 H1 as1) (hn : as.length = n) (r : Rp K mg G1 as1 v d) (h : PX K mg W G H as σ (outD n d st1) Q) : Q v H1 := by
  unfold outD at h
  by_cases b : stB n st1 = true
  · rw [if_pos b] at h
    obtain ⟨R', X', same⟩ := R.back X hn b
    have plain : refsB n d = true → PX K mg W G H as σ (.ok d (st1.take n)) Q → Q v H1 := fun bd q => q v G1 H1 as R' X' (r.shrink same bd)
    cases d with
    | ref k =>
      simp only at h
      by_cases hk : k < n
      · rw [if_pos hk] at h
        exact plain (by simp [refsB, hk]) h
      · rw [if_neg hk] at h
        cases q : st1[k]? with
        | none => simp [q] at h; exact h.elim
        | some m =>
          cases m with
          | lst xs =>
            simp only [q] at h
            by_cases bx : refsBs n xs = true
            · rw [if_pos bx] at h
              cases r with
              | ref qa =>
                rename_i a
                obtain ⟨ho, e1, oo⟩ := R.at_ qa q
                cases oo with
                | lst ra =>
                  rename_i vs
                  have ga : G1 a = none := R.out a (List.mem_of_getElem? qa)
                  have na : a ∉ as := fun ha => by
                    obtain ⟨j, hj, ej⟩ := List.getElem_of_mem ha
                    have h1 : as1[j]? = some a := by rw [same j (by omega), List.getElem?_eq_getElem hj, ej]
                    obtain ⟨p1, p2⟩ := List.getElem?_eq_some_iff.mp h1
                    obtain ⟨p3, p4⟩ := List.getElem?_eq_some_iff.mp qa
                    have : j = k := (List.getElem_inj R.nd).mp (p2.trans p4.symm)
                    omega
                  have hfresh : H a = none := X.frA a (List.mem_of_getElem? qa) na
                  refine h _ _ H1 as (R'.freeze e1 ga na) (X'.freeze hfresh ga) (.lst upd_same ?_)
                  exact (ra.shrink same bx).mono (fun b u eb => by rw [upd_ne (ne_of_none eb ga)]; exact eb) (List.prefix_refl _)
            · rw [if_neg bx] at h; exact h.elim
    | non => simp only at h; exact plain rfl (by simpa [refsB] using h)
    | bl _ => simp only at h; exact plain rfl (by simpa [refsB] using h)
    | int _ => simp only at h; exact plain rfl (by simpa [refsB] using h)
    | str _ => simp only at h; exact plain rfl (by simpa [refsB] using h)
    | ty _ => simp only at h; exact plain rfl (by simpa [refsB] using h)
    | glo _ => simp only at h; exact plain rfl (by simpa [refsB] using h)
    | tup xs =>
      simp only at h
      by_cases bx : refsB n (.tup xs) = true
      · rw [if_pos bx] at h; exact plain bx h
      · rw [if_neg bx] at h; exact h.elim
    | lst xs =>
      simp only at h
      by_cases bx : refsB n (.lst xs) = true
      · rw [if_pos bx] at h; exact plain bx h
      · rw [if_neg bx] at h; exact h.elim
    | sq xs =>
      simp only at h
      by_cases bx : refsB n (.sq xs) = true
      · rw [if_pos bx] at h; exact plain bx h
      · rw [if_neg bx] at h; exact h.elim
  · rw [if_neg b] at h; exact h.elim
theorem outM_ok {W : WX} {σ : L2.St} {d : D} {v : V} {Q : VK} (R : Ri K mg G1 H1 as1 st1) (X : Ext G H as G1 H1 as1) (hn : as.length = n) (r : Rp K mg G1 as1 v d) (h : PX K mg W G H as σ (outM n d st1) Q) : Q v H1 := by
  unfold outM at h
  by_cases b : stB n st1 = true
  · rw [if_pos b] at h
    obtain ⟨R', X', same⟩ := R.back X hn b
    cases d with
    | ref k =>
      simp only at h
      by_cases hk : k < n
      · rw [if_pos hk] at h; exact h.elim
      · rw [if_neg hk] at h
        cases q : st1[k]? with
        | none => simp [q] at h; exact h.elim
        | some m =>
          cases m with
          | lst xs =>
            simp only [q] at h
            by_cases bx : refsBs n xs = true
            · rw [if_pos bx] at h
              cases r with
              | ref qa =>
                rename_i a
                obtain ⟨ho, e1, oo⟩ := R.at_ qa q
                cases oo with
                | lst ra =>
                  rename_i vs
                  have ga : G1 a = none := R.out a (List.mem_of_getElem? qa)
                  have na : a ∉ as := fun ha => by
                    obtain ⟨j, hj, ej⟩ := List.getElem_of_mem ha
                    have h1 : as1[j]? = some a := by rw [same j (by omega), List.getElem?_eq_getElem hj, ej]
                    obtain ⟨p1, p2⟩ := List.getElem?_eq_some_iff.mp h1
                    obtain ⟨p3, p4⟩ := List.getElem?_eq_some_iff.mp qa
                    have : j = k := (List.getElem_inj R.nd).mp (p2.trans p4.symm)
                    omega
                  have hfresh : H a = none := X.frA a (List.mem_of_getElem? qa) na
                  refine h _ _ H1 _ (R'.adopt e1 ga na (.lst (ra.shrink same bx))) (X'.adopt hfresh) (.ref ?_)
                  rw [← hn, List.getElem?_append_right (Nat.le_refl _), Nat.sub_self]; rfl
            · rw [if_neg bx] at h; exact h.elim
    | _ => exact h.elim
  · rw [if_neg b] at h; exact h.elim
end

/-! ## a def's body -/
structure Bd where
  qual : Str
  f : Addr
  cdv : Value
  A : Around
  outer : List Env
  s : Shared
  H : Hp
  E : XK
def famB (g : Gb) (k : Nat) (N : List Str) (nd : N.Nodup) (sc : Scope) (b : Bd) (hr : Room k (b.A.deeper (PyProof.Rows.envOfC b.qual sc b.s.heap.objs.size b.f b.cdv))) : Fam g where
  k := k
  N := N
  sc := sc
  nd := nd
  own := fun _ => true
  mem := fun W X => W = (fun cls d _ H' => b.E cls d H') ∧ X = cxOf (L2.CX g.P g.w) g.P g.w g.K g.mg g.base N b.qual sc b.f b.cdv b.A b.outer b.s b.H b.E
  prog := fun {W X} ⟨_, e⟩ => by subst e; rfl
  w := fun {W X} ⟨_, e⟩ => by subst e; rfl
  hK := fun {W X} ⟨_, e⟩ => by subst e; rfl
  hmg := fun {W X} ⟨_, e⟩ => by subst e; rfl
  base := fun {W X} ⟨_, e⟩ => by subst e; rfl
  hN := fun {W X} ⟨_, e⟩ => by subst e; rfl
  hsc := fun {W X} ⟨_, e⟩ => by subst e; rfl
  calm := fun {W X} ⟨_, e⟩ => by subst e; rfl
  room := fun {W X} ⟨_, e⟩ => by subst e; exact hr
  takes := fun {W X} ⟨eW, e⟩ => by subst e; subst eW; exact takes_of rfl rfl rfl rfl
  pass := fun {W X} ⟨_, e⟩ => by subst e; exact passes_of rfl
  fn := fun {W X} ⟨_, e⟩ x _ _ => by subst e; exact .inl rfl
/-- a def's promise -/
def spS (g : Gb) (n : Nat) (f : DF) : Sp := fun vs H Q E => ∃ (G : Hp) (as : List Addr) (st : Store) (ds : List D), ds.length = n ∧ Ri g.K g.mg G H as st ∧ RpA g.K g.mg G as vs ds ∧ PX g.K g.mg (fun cls d _ H' => E cls d H') G H as [] (f st ds) Q
/-- a def of the top under the name x: its promise at level k -/
structure Fn (g : Gb) (st : Stmt) (x nm : Str) (ps : List Str) (k : Nat) (F : DF) : Prop where
  ex : ∃ f fd, g.mg x = some (.ref f) ∧ FunD g.K nm nm (defArgs st) (defBody st) (defScope st) [] [] f fd ∧ Binds g.K fd ps [] ∧ FnOk g.P g.w g.K g.mg g.base (L2.CX g.P g.w) k f fd ps (spS g ps.length F)
theorem start_rn {K : PySem.W.Frag} {mg : Str → Option Value} {G : Hp} {as : List Addr} {N : List Str} {vs : List V} {ds : List D} (r : RpA K mg G as vs ds) : Rn K mg G as (L2.start N vs) (ds.map some ++ List.replicate (N.length - ds.length) none) := by
  have hl := r.len
  refine ⟨by simp [L2.start, hl], fun i x h => ?_⟩
  by_cases hi : i < ds.length
  · rw [List.getElem?_append_left (by simpa using hi), List.getElem?_map] at h
    obtain ⟨d, e1, e2⟩ := Option.map_eq_some_iff.mp h
    cases e2
    obtain ⟨v, e3, rv⟩ := r.get e1
    refine ⟨v, ?_, rv⟩
    unfold L2.start
    rw [List.getElem?_append_left (by rw [List.length_map, hl]; exact hi), List.getElem?_map, e3]; rfl
  · rw [List.getElem?_append_right (by simpa using hi)] at h
    rw [List.getElem?_replicate] at h
    split at h <;> cases h
theorem fn_ok {g : Gb} {st : Stmt} {nm : Str} {N ps : List Str} {k : Nat} {m : SM} {f : Addr} {fd : FuncData} (out : Nat → D → Store → RX D)
    (hout : ∀ (G H G1 H1 : Hp) (as as1 : List Addr) (st1 : Store) (n : Nat) (W : WX) (σ : L2.St) (d : D) (v : V) (Q : VK), Ri g.K g.mg G1 H1 as1 st1 → Ext G H as G1 H1 as1 → as.length = n → Rp g.K g.mg G1 as1 v d → PX g.K g.mg W G H as σ (out n d st1) Q → Q v H1)
    (D0 : FunD g.K nm nm (defArgs st) (defBody st) (defScope st) [] [] f fd) (S : FnScope N ps (defScope st))
    (body : ∀ (b : Bd) (hr : Room k (b.A.deeper (PyProof.Rows.envOfC b.qual (defScope st) b.s.heap.objs.size b.f b.cdv))), JSs (famB g k N S.nd (defScope st) b hr) (defBody st) m) :
    FnOk g.P g.w g.K g.mg g.base (L2.CX g.P g.w) (k + 1) f fd ps (spS g ps.length (fun s ds => outF out s.length (m (ds.map some ++ List.replicate (N.length - ds.length) none) s))) := by
  refine D0.ok S (fun vs H Q E h => ?_) (fun cdv A outer s H vs Q E hr h => ?_)
  · obtain ⟨G, as, st', ds, hl, R, r, _⟩ := h
    rw [r.len, hl]
  · obtain ⟨G, as, st', ds, hl, R, r, q⟩ := h
    dsimp only at q
    obtain ⟨t, p, ss⟩ := body ⟨nm, f, cdv, A, outer, s, H, E⟩ hr
    refine ⟨t _, p _ _ ⟨rfl, rfl⟩, ?_⟩
    refine ss (fun cls d _ H' => E cls d H') G H as st' (L2.start N vs) (ds.map some ++ List.replicate (N.length - ds.length) none) _ R (start_rn r) ?_
    cases qm : m (ds.map some ++ List.replicate (N.length - ds.length) none) st' with
    | rt d st1 =>
      rw [qm] at q
      exact fun v G1 H1 as1 R1 X1 rv => hout G H G1 H1 as as1 st1 _ _ _ d v Q R1 X1 R.len rv q
    | nx e1 st1 =>
      rw [qm] at q
      exact fun σ1 G1 H1 as1 R1 N1 X1 => hout G H G1 H1 as as1 st1 _ _ _ .non .non Q R1 X1 R.len .non q
    | bk e1 st1 => rw [qm] at q; exact q.elim
    | ct e1 st1 => rw [qm] at q; exact q.elim
    | stuck => rw [qm] at q; exact q.elim
    | exc c p e1 st1 =>
      rw [qm] at q
      intro σ1 cls d G1 H1 as1 R1 N1 X1 x1
      simp only [outF] at q
      by_cases b1 : stB st'.length st1 = true
      · rw [if_pos b1] at q
        by_cases b2 : payB st'.length p = true
        · rw [if_pos b2] at q
          obtain ⟨R', X', same⟩ := R1.back X1 R.len b1
          refine q cls d G1 H1 as R' X' ?_
          obtain ⟨x1a, x1b, x1c⟩ := x1
          refine ⟨x1a, x1b, ?_⟩
          cases p with
          | none => exact x1c
          | some fd' =>
            obtain ⟨fl, dd⟩ := fd'
            obtain ⟨dx, v, e1, e2, e3, e4⟩ := x1c
            refine ⟨dx, v, e1, e2, fun z => e3 (X1.pre.subset z), e4.shrink same (by simpa [payB] using b2)⟩
        · rw [if_neg b2] at q; exact q.elim
      · rw [if_neg b1] at q; exact q.elim
theorem fn_mk {g : Gb} {st : Stmt} {x nm : Str} {N ps : List Str} {k : Nat} {m : SM} {f : Addr} {fd : FuncData} (out : Nat → D → Store → RX D)
    (hout : ∀ (G H G1 H1 : Hp) (as as1 : List Addr) (st1 : Store) (n : Nat) (W : WX) (σ : L2.St) (d : D) (v : V) (Q : VK), Ri g.K g.mg G1 H1 as1 st1 → Ext G H as G1 H1 as1 → as.length = n → Rp g.K g.mg G1 as1 v d → PX g.K g.mg W G H as σ (out n d st1) Q → Q v H1)
    (hx : g.mg x = some (.ref f)) (D0 : FunD g.K nm nm (defArgs st) (defBody st) (defScope st) [] [] f fd) (S : FnScope N ps (defScope st))
    (hb : ∀ (kV doc pm : Value) (an : Option Addr) (cdv ct : Value) (us : List Value), us.length = ps.length → bindArgs (PySem.W.fnOf nm nm (defArgs st) (defBody st) (defScope st) .none kV doc pm an cdv ct) ⟨us, []⟩ = pure (ps.zip us))
    (body : ∀ (b : Bd) (hr : Room k (b.A.deeper (PyProof.Rows.envOfC b.qual (defScope st) b.s.heap.objs.size b.f b.cdv))), JSs (famB g k N S.nd (defScope st) b hr) (defBody st) m) :
    Fn g st x nm ps (k + 1) (fun s ds => outF out s.length (m (ds.map some ++ List.replicate (N.length - ds.length) none) s)) :=
  ⟨f, fd, hx, D0, D0.bindsN hb, fn_ok out hout D0 S body⟩
end LS
end
section
set_option maxRecDepth 100000
set_option maxHeartbeats 2000000
namespace LS
open PySem PySem.Spec L2

/-! ## calls of defs -/
section
variable {K : PySem.W.Frag} {mg : Str → Option Value} {G H G1 H1 : Hp} {as as1 : List Addr} {st st1 : Store} {n : Nat}
theorem Rp.free {d : D} {v : V} (b : refsB 0 d = true) (h : Rp K mg G as v d) : Rp K mg G as1 v d := h.shrink (n := 0) (fun i hi => absurd hi (Nat.not_lt_zero i)) b
theorem RpA.free {d : List D} {v : List V} (b : refsBs 0 d = true) (h : RpA K mg G as v d) : RpA K mg G as1 v d := h.shrink (n := 0) (fun i hi => absurd hi (Nat.not_lt_zero i)) b
theorem Ro.free {d : MO} {v : HO} (b : moB 0 d = true) (h : Ro K mg G as v d) : Ro K mg G as1 v d := h.shrink (n := 0) (fun i hi => absurd hi (Nat.not_lt_zero i)) b
/-- a def that is handed no moving object -/
theorem Ri.bare (R : Ri K mg G H as st) : Ri K mg G H [] [] := ⟨R.sub, rfl, .nil, fun _ h => (by cases h), fun i a o h => (by simp at h)⟩
theorem Ri.unbare (R : Ri K mg G H as st) (R1 : Ri K mg G1 H1 [] []) (X : Ext G H [] G1 H1 []) : Ri K mg G1 H1 as st ∧ Ext G H as G1 H1 as := by
  have x : Ext G H as G1 H1 as := ⟨X.sub, List.prefix_refl _, fun a o h _ => X.keep a o h (by simp), X.frG, fun a h h' => absurd h h', X.dom⟩
  refine ⟨⟨R1.sub, R.len, R.nd, fun a ha => ?_, fun i a o ha ho => ?_⟩, x⟩
  · obtain ⟨i, hi, e⟩ := List.getElem_of_mem ha
    have hi' : i < st.length := by rw [← R.len]; exact hi
    obtain ⟨u, q, _⟩ := R.obj i a st[i] (by rw [List.getElem?_eq_getElem hi, e]) (List.getElem?_eq_getElem (by rw [← R.len]; exact hi))
    exact X.frG a (R.out a ha) (by rw [q]; exact fun z => nomatch z)
  · obtain ⟨u, q, r⟩ := R.obj i a o ha ho
    exact ⟨u, X.keep a u q (by simp), r.ext x⟩
/-- a def that is handed one moving object -/
theorem Ri.only {i : Nat} {a : Addr} {m : MO} (R : Ri K mg G H as st) (ha : as[i]? = some a) (hm : st[i]? = some m) (b : moB 0 m = true) : Ri K mg G H [a] [m] := by
  refine ⟨R.sub, rfl, by simp, fun c hc => ?_, fun j c o hc ho => ?_⟩
  · have : c = a := by simpa using hc
    subst this; exact R.out _ (List.mem_of_getElem? ha)
  · cases j with
    | zero =>
      have e1 : a = c := by simpa using hc
      have e2 : m = o := by simpa using ho
      subst e1 e2
      obtain ⟨u, q, r⟩ := R.obj i _ _ ha hm
      exact ⟨u, q, r.free b⟩
    | succ j => simp at hc
theorem Ri.unonly {i : Nat} {a : Addr} {m m' : MO} {as1 : List Addr} (R : Ri K mg G H as st) (ha : as[i]? = some a) (R1 : Ri K mg G1 H1 as1 [m']) (X : Ext G H [a] G1 H1 as1) (b : moB 0 m' = true) : Ri K mg G1 H1 as (st.set i m') ∧ Ext G H as G1 H1 as := by
  have hma := List.mem_of_getElem? ha
  have e1 : as1 = [a] := by
    obtain ⟨t, e⟩ := X.pre
    have hl := R1.len
    rw [← e] at hl
    have ht : t = [] := by
      cases t with
      | nil => rfl
      | cons c r => simp at hl
    rw [← e, ht]; rfl
  subst e1
  have x : Ext G H as G1 H1 as := ⟨X.sub, List.prefix_refl _, fun c o h n => X.keep c o h (fun z => n ((List.mem_singleton.mp z).symm ▸ hma)), X.frG, fun a h h' => absurd h h', X.dom⟩
  refine ⟨⟨R1.sub, by simp [R.len], R.nd, fun c hc => ?_, fun j c o hc ho => ?_⟩, x⟩
  · by_cases z : c = a
    · subst z; exact R1.out c (by simp)
    · obtain ⟨j, hj, e⟩ := List.getElem_of_mem hc
      have hj' : j < st.length := by rw [← R.len]; exact hj
      obtain ⟨u, q, _⟩ := R.obj j c st[j] (by rw [List.getElem?_eq_getElem hj, e]) (List.getElem?_eq_getElem (by rw [← R.len]; exact hj))
      exact X.frG c (R.out c hc) (by rw [q]; exact fun z => nomatch z)
  · by_cases z : j = i
    · subst z
      rw [ha] at hc; cases hc
      have hj : j < st.length := by rw [← R.len]; exact (List.getElem?_eq_some_iff.mp ha).1
      rw [List.getElem?_set_self hj] at ho
      cases ho
      obtain ⟨u, q, r⟩ := R1.obj 0 a m' rfl rfl
      exact ⟨u, q, r.free b⟩
    · rw [List.getElem?_set_ne (Ne.symm z)] at ho
      obtain ⟨u, q, r⟩ := R.obj j c o hc ho
      have hca : c ≠ a := fun z' => z (by
        subst z'
        obtain ⟨h1, e1⟩ := List.getElem?_eq_some_iff.mp hc
        obtain ⟨h2, e2⟩ := List.getElem?_eq_some_iff.mp ha
        exact (List.getElem_inj R.nd).mp (e1.trans e2.symm))
      exact ⟨u, X.keep c u q (by simpa using hca), r.ext x⟩
end
/-- what is handed: no moving object | the i-th one, several times perhaps -/
def refsIn : List D → List Nat
  | [] => []
  | .ref i :: r => i :: refsIn r
  | _ :: r => refsIn r
def loc1 : D → D
  | .ref _ => .ref 0
  | d => d
/-- all but the i-th object hand no moving one -/
def argB (i : Nat) : D → Bool
  | .ref j => j == i
  | d => refsB 0 d
def unM (st : Store) : RX D → RX D
  | .ok (.ref 0) [m] => if moB 0 m = true then .ok (.ref st.length) (st ++ [m]) else .stuck
  | .ok d [] => if refsB 0 d = true then .ok d st else .stuck
  | .exc c p [] => if payB 0 p = true then .exc c p st else .stuck
  | _ => .stuck
def un1 (i : Nat) (st : Store) : RX D → RX D
  | .ok d [m] => if moB 0 m = true then (if refsB 0 d = true then .ok d (st.set i m) else .stuck) else .stuck
  | .exc c p [m] => if moB 0 m = true then (if payB 0 p = true then .exc c p (st.set i m) else .stuck) else .stuck
  | _ => .stuck
def callD (f : DF) (ds : List D) : XM D := fun _ st => match refsIn ds with
  | [] => if refsBs 0 ds = true then unM st (f [] ds) else .stuck
  | i :: _ => if ds.all (argB i) = true then (match st[i]? with
    | some m => if moB 0 m = true then un1 i st (f [m] (ds.map loc1)) else .stuck
    | none => .stuck) else .stuck
section
variable {g : Gb}
theorem exR_lift {K : PySem.W.Frag} {mg : Str → Option Value} {G H : Hp} {as as' : List Addr} {c : Str} {p : Pay} {cls : Value} {d : Option Addr} (b : payB 0 p = true) (h : ExR K mg G H as c p cls d) (ne : ∀ dx o, H dx = some o → (∀ fs, o = .xd fs → dx ∉ as')) : ExR K mg G H as' c p cls d := by
  obtain ⟨h1, h2, h3⟩ := h
  refine ⟨h1, h2, ?_⟩
  cases p with
  | none => exact h3
  | some q =>
    obtain ⟨f, x⟩ := q
    obtain ⟨dx, v, e1, e2, e3, e4⟩ := h3
    exact ⟨dx, v, e1, e2, ne dx _ e2 _ rfl, e4.free (by simpa [payB] using b)⟩
theorem xd_out {K : PySem.W.Frag} {mg : Str → Option Value} {G H : Hp} {as : List Addr} {st : Store} (R : Ri K mg G H as st) : ∀ dx o, H dx = some o → (∀ fs, o = .xd fs → dx ∉ as) := fun dx o h fs e hm => by
  obtain ⟨i, hi, ei⟩ := List.getElem_of_mem hm
  have hi' : i < st.length := by rw [← R.len]; exact hi
  obtain ⟨u, q, r⟩ := R.obj i dx st[i] (by rw [List.getElem?_eq_getElem hi, ei]) (List.getElem?_eq_getElem (by rw [← R.len]; exact hi))
  rw [h] at q; cases q
  subst e
  cases r
theorem loc_rp {K : PySem.W.Frag} {mg : Str → Option Value} {G : Hp} {as : List Addr} {i : Nat} {a : Addr} (ha : as[i]? = some a) : ∀ {ds : List D} {vs : List V}, ds.all (argB i) = true → RpA K mg G as vs ds → RpA K mg G [a] vs (ds.map loc1)
  | [], _, _, h => by cases h; exact .nil
  | d :: ds, _, b, h => by
    cases h with
    | cons x y =>
      have b' : argB i d = true ∧ ds.all (argB i) = true := by simpa using b
      refine .cons ?_ (loc_rp ha b'.2 y)
      cases d with
      | ref j =>
        have : j = i := by simpa [argB] using b'.1
        subst this
        cases x with | ref q => rw [ha] at q; cases q; exact .ref rfl
      | _ => exact x.free b'.1
/-- THE CALL: the arguments' values, then the def's promise -/
theorem call_ok {n : Nat} {f : DF} {W : WX} {G H : Hp} {as : List Addr} {st : Store} {σ : L2.St} {e : Nv} {ds : List D} {vs : List V} {Q : VK} (R : Ri g.K g.mg G H as st) (r : RpA g.K g.mg G as vs ds) (hn : ds.length = n) (h : PX g.K g.mg W G H as σ (callD f ds e st) Q) :
    spS g n f vs H Q (WE W σ) := by
  unfold callD at h
  split at h
  · -- no moving object
    by_cases b : refsBs 0 ds = true
    · rw [if_pos b] at h
      refine ⟨G, [], [], ds, hn, R.bare, r.free b, ?_⟩
      cases q : f [] ds with
      | stuck => rw [q] at h; exact h.elim
      | exc c p st1 =>
        rw [q] at h
        cases st1 with
        | cons _ _ => exact h.elim
        | nil =>
          simp only [unM] at h
          by_cases bp : payB 0 p = true
          · rw [if_pos bp] at h
            intro cls d G1 H1 as1 R1 X1 x
            have e1 : as1 = [] := List.eq_nil_of_length_eq_zero R1.len
            subst e1
            obtain ⟨R2, X2⟩ := R.unbare R1 X1
            exact h cls d G1 H1 as R2 X2 (exR_lift bp x (xd_out R2))
          · rw [if_neg bp] at h; exact h.elim
      | ok d st1 =>
        rw [q] at h
        intro v G1 H1 as1 R1 X1 rv
        cases st1 with
        | nil =>
          have e1 : as1 = [] := List.eq_nil_of_length_eq_zero R1.len
          subst e1
          obtain ⟨R2, X2⟩ := R.unbare R1 X1
          have h' : refsB 0 d = true ∧ PX g.K g.mg W G H as σ (.ok d st) Q := by
            unfold unM at h
            split at h
            · rename_i e1; cases e1
            · rename_i e1; cases e1
              by_cases bd : refsB 0 d = true
              · rw [if_pos bd] at h; exact ⟨bd, h⟩
              · rw [if_neg bd] at h; exact h.elim
            · rename_i e1; cases e1
            · exact h.elim
          exact h'.2 v G1 H1 as R2 X2 (rv.free h'.1)
        | cons m r1 =>
          cases r1 with
          | cons _ _ =>
            exfalso
            unfold unM at h
            split at h
            · rename_i e1; cases e1
            · rename_i e1; cases e1
            · rename_i e1; cases e1
            · exact h
          | nil =>
            have h' : d = .ref 0 ∧ moB 0 m = true ∧ PX g.K g.mg W G H as σ (.ok (.ref st.length) (st ++ [m])) Q := by
              unfold unM at h
              split at h
              · rename_i e1; cases e1
                by_cases bm : moB 0 m = true
                · rw [if_pos bm] at h; exact ⟨rfl, bm, h⟩
                · rw [if_neg bm] at h; exact h.elim
              · rename_i e1; cases e1
              · rename_i e1; cases e1
              · exact h.elim
            obtain ⟨rfl, bm, h'⟩ := h'
            cases rv with
            | ref qa =>
              rename_i a
              -- the new object
              have e1 : as1 = [a] := by
                have hl := R1.len
                cases as1 with
                | nil => simp at hl
                | cons c t =>
                  cases t with
                  | nil => simp at qa; rw [qa]
                  | cons _ _ => simp at hl
              subst e1
              obtain ⟨ho, e2, oo⟩ := R1.obj 0 a m rfl rfl
              have hfr : H a = none := X1.frA a (by simp) (by simp)
              have ga : G1 a = none := R1.out a (by simp)
              have X0 : Ext G H [] G1 H1 [] := ⟨X1.sub, List.prefix_refl _, X1.keep, X1.frG, fun _ h => (by cases h), X1.dom⟩
              obtain ⟨R2, X2⟩ := R.unbare R1.bare X0
              have na : a ∉ as := (R.none_of hfr).2
              exact h' _ G1 H1 _ (R2.adopt e2 ga na (oo.free bm)) (X2.adopt hfr) (.ref (by rw [← R.len, List.getElem?_append_right (Nat.le_refl _), Nat.sub_self]; rfl))
    · rw [if_neg b] at h; exact h.elim
  · rename_i i rest hr
    by_cases b : ds.all (argB i) = true
    · rw [if_pos b] at h
      cases q3 : st[i]? with
      | none => simp [q3] at h; exact h.elim
      | some m =>
        simp only [q3] at h
        by_cases bm : moB 0 m = true
        · rw [if_pos bm] at h
          have hi : i < as.length := by rw [R.len]; exact (List.getElem?_eq_some_iff.mp q3).1
          have ha : as[i]? = some as[i] := List.getElem?_eq_getElem hi
          refine ⟨G, [as[i]], [m], ds.map loc1, by simpa using hn, R.only ha q3 bm, loc_rp ha b r, ?_⟩
          cases q : f [m] (ds.map loc1) with
          | stuck => rw [q] at h; exact h.elim
          | exc c p st1 =>
            rw [q] at h
            match st1, h with
            | [m'], h =>
              simp only [un1] at h
              by_cases bm' : moB 0 m' = true
              · rw [if_pos bm'] at h
                by_cases bp : payB 0 p = true
                · rw [if_pos bp] at h
                  intro cls d G1 H1 as1 R1 X1 x
                  obtain ⟨R2, X2⟩ := R.unonly (m := m) ha R1 X1 bm'
                  exact h cls d G1 H1 as R2 X2 (exR_lift bp x (xd_out R2))
                · rw [if_neg bp] at h; exact h.elim
              · rw [if_neg bm'] at h; exact h.elim
          | ok d st1 =>
            rw [q] at h
            match st1, h with
            | [m'], h =>
              simp only [un1] at h
              by_cases bm' : moB 0 m' = true
              · rw [if_pos bm'] at h
                by_cases bd : refsB 0 d = true
                · rw [if_pos bd] at h
                  intro v G1 H1 as1 R1 X1 rv
                  obtain ⟨R2, X2⟩ := R.unonly (m := m) ha R1 X1 bm'
                  exact h v G1 H1 as R2 X2 (rv.free bd)
                · rw [if_neg bd] at h; exact h.elim
              · rw [if_neg bm'] at h; exact h.elim
        · rw [if_neg bm] at h; exact h.elim
    · rw [if_neg b] at h; exact h.elim
/-- f(a, ..) -/
def xfn (n : Nat) (f : DF) (ms : XM (List D)) : XM D := xbind ms fun ds => if ds.length = n then callD f ds else fun _ _ => .stuck
theorem je_call {F : Fam g} {st : Stmt} {x nm : Str} {ps : List Str} {k : Nat} {f : DF} {a : Expr} {es : List Expr} {ms : XM (List D)} {p pos : Pos} (H0 : Fn g st x nm ps k f) (hk : k ≤ F.k) (hg : F.sc.names.lookup x = some .globalImplicit) (ha : JA F (a :: es) ms)
    (hdb : (x == ("__debug__" : Str)) = false := by decide) (he : ∀ env, starEach (a :: es) env = (false, eval a env) :: starEach es env := by intro _; rfl) (hpl : ∀ env, (backTo pos (starEach es env)).any (·.1) = false := by intro _; rfl) :
    JE F (.Call (.Name x p) (a :: es) [] pos) (xfn ps.length f ms) := by
  obtain ⟨fa, fd, hm, D0, hb, O⟩ := H0.ex
  obtain ⟨ts, pa, sa⟩ := ha
  refine ⟨fun W => tCallS (spS g ps.length f) (WE W) (ts W), fun W X m => ?_, ?_⟩
  · have O' : FnOk X.prog X.w X.K X.mg X.base (L2.CX X.prog X.w) k fa fd ps (spS g ps.length f) := by
      rw [F.prog m, F.w m, F.hK m, F.hmg m, F.base m]; exact O
    exact pe_callS O' ((F.room m).mono hk) (by show X.env.scope.names.lookup x = _; rw [F.hsc m]; exact hg) (by rw [F.hmg m]; exact hm) (by rw [F.hK m]; exact D0.kp) (by rw [F.hK m]; exact hb) (fun σ => passAt (F.takes m) σ) (pa W X m) hdb (he _) (hpl _)
  · intro W G H as st σ e Q R N h
    refine sa.one R N h fun ds st1 vs G1 H1 as1 R1 X1 N1 rv h1 => ?_
    by_cases hl : ds.length = ps.length
    · rw [if_pos hl] at h1
      exact call_ok R1 rv hl h1
    · rw [if_neg hl] at h1; exact h1.elim
end
end LS
end
section
set_option maxRecDepth 100000
set_option maxHeartbeats 2000000
namespace LS
open PySem PySem.Spec L2

/-! ## code that is never come to -/
section
variable {g : Gb} {F : Fam g} {pos : Pos}
def snever : SM := fun _ _ => .stuck
theorem js_never {s : Stmt} : JS F s snever := ⟨fun _ => tNever, fun _ _ _ => ps_never, fun W G H as st σ e E R N h => h⟩

/-! ## calls with keywords -/
def JK (F : Fam g) (kws : List Keyword) (m : XM (List D)) : Prop := ∃ t : WX → TA, (∀ W X, F.mem W X → PK X kws (t W)) ∧ SA g t m
theorem jk_nil : JK F [] (xpure []) := ⟨fun _ => tNil, fun _ _ _ => pk_nil, fun W G H as st σ e Q R N h => h [] G H as R Ext.refl .nil⟩
theorem jk_cons {ex : Expr} {ks : List Keyword} {nm : Option Str} {kpos : Pos} {m : XM D} {ms : XM (List D)} (h : JE F ex m) (hs : JK F ks ms) : JK F (⟨nm, ex, kpos⟩ :: ks) (xcons m ms) := by
  obtain ⟨t, p, s⟩ := h
  obtain ⟨ts, ps, ss⟩ := hs
  refine ⟨fun W => tCons (t W) (ts W), fun W X m => pk_cons (p W X m) (ps W X m), ?_⟩
  intro W G H as st σ e Q R N h
  refine s.oneA R N h fun x st1 v G1 H1 as1 R1 X1 N1 rv h1 => ?_
  refine ss.oneA R1 N1 h1 fun xs st2 vs G2 H2 as2 R2 X2 N2 rvs h2 => ?_
  exact h2 _ _ _ _ R2 Ext.refl (.cons (rv.ext X2) rvs)
def pick {α : Type} (d : α) (l : List α) (ix : List Nat) : List α := ix.map fun i => l.getD i d
theorem pick_vals {vs : List V} {us : List Value} (r : Vals vs us) (ix : List Nat) : Vals (pick .non vs ix) (pick .none us ix) := by
  have one : ∀ i, RelV (vs.getD i .non) (us.getD i .none) := fun i => by
    rw [List.getD_eq_getElem?_getD, List.getD_eq_getElem?_getD]
    cases q : vs[i]? with
    | none => rw [r.none_of q]; rfl
    | some v =>
      obtain ⟨u, e1, ru⟩ := r.get q
      rw [e1]; exact ru
  unfold pick
  induction ix with
  | nil => exact .nil
  | cons i r ih => exact .cons (one i) ih
theorem pick_rp {K : PySem.W.Frag} {mg : Str → Option Value} {G : Hp} {as : List Addr} {vs : List V} {ds : List D} (r : RpA K mg G as vs ds) (ix : List Nat) : RpA K mg G as (pick .non vs ix) (pick .non ds ix) := by
  have one : ∀ i, Rp K mg G as (vs.getD i .non) (ds.getD i .non) := fun i => by
    rw [List.getD_eq_getElem?_getD, List.getD_eq_getElem?_getD]
    by_cases hi : i < ds.length
    · obtain ⟨v, e1, rv⟩ := r.get (List.getElem?_eq_getElem hi)
      rw [e1, List.getElem?_eq_getElem hi]; exact rv
    · rw [List.getElem?_eq_none (by rw [r.len]; omega), List.getElem?_eq_none (by omega)]; exact .non
  unfold pick
  induction ix with
  | nil => exact .nil
  | cons i r ih => exact .cons (one i) ih
/-- f(a, .., k = b, ..): ix tells where each parameter's value stands in the row of values as they are written -/
def xfnK (n : Nat) (ix : List Nat) (l : Nat) (f : DF) (ms mk : XM (List D)) : XM D := xbind ms fun ds => xbind mk fun zs => if ds.length = n ∧ zs.length = l then callD f (pick .non (ds ++ zs) ix) else fun _ _ => .stuck
/-- how the parameters are bound -/
def KB (st : Stmt) (nm : Str) (ps : List Str) (n : Nat) (ks : List Str) (ix : List Nat) : Prop := ∀ (kV doc pm : Value) (an : Option Addr) (cdv ct : Value) (us ws : List Value), us.length = n → ws.length = ks.length →
  bindArgs (PySem.W.fnOf nm nm (defArgs st) (defBody st) (defScope st) .none kV doc pm an cdv ct) ⟨us, ks.zip ws⟩ = pure (ps.zip (pick .none (us ++ ws) ix))
theorem run_fnK {X : Cx} {W : WX} {f : Addr} {fd : FuncData} {ps : List Str} {k : Nat} {sp : Sp} {pins : List (Addr × Obj)} {σ : L2.St} {H : Hp} {s : Shared} {Q : VK} {args : Args} {us : List Value} {vs : List V} (F : FnOk X.prog X.w X.K X.mg X.base (L2.CX X.prog X.w) k f fd ps sp) (hr : Room k X.A) (tk : Takes X W)
    (hb : BindsTo s fd args (ps.zip us)) (I : Inv X pins σ H s) (r : Vals vs us) (h : sp vs H Q (WE W σ)) : wpAny (model X.prog X.w) X.A (call (.ref f) args.pos args.kw) (EP X pins σ Q) X.xe s := by
  obtain ⟨ap, ak⟩ := args
  refine wpAny_call (codeAny_mono (F.run X.A X.stack s H ⟨ap, ak⟩ us vs Q (WE W σ) hr I.env0 hb r h) fun r s' hq => ?_)
  cases r with
  | error e => exact passAt tk σ pins H s e s' I hq
  | ok fl =>
    cases fl with
    | ret u => exact I.after hq
    | next => exact False.elim hq
    | brk => exact False.elim hq
    | cont => exact False.elim hq
def tCallKS (n l : Nat) (ix : List Nat) (sp : Sp) (E : L2.St → XK) (t tk : TA) : TE := fun σ H Q => t σ H fun vs H1 => tk σ H1 fun zs H2 => vs.length = n ∧ zs.length = l ∧ sp (pick .non (vs ++ zs) ix) H2 Q (E σ)
theorem callK_SE {n l m : Nat} {ix : List Nat} {f : DF} {ts tk : WX → TA} {ms mk : XM (List D)} (hix : ix.length = m) (sa : SA g ts ms) (sk : SA g tk mk) : SE g (fun W => tCallKS n l ix (spS g m f) (WE W) (ts W) (tk W)) (xfnK n ix l f ms mk) := by
  intro W G H as st σ e Q R N h
  refine sa.one R N h fun ds st1 vs G1 H1 as1 R1 X1 N1 rv h1 => ?_
  refine sk.one R1 N1 h1 fun zs st2 us G2 H2 as2 R2 X2 N2 rz h2 => ?_
  by_cases hl : ds.length = n ∧ zs.length = l
  · rw [if_pos hl] at h2
    refine ⟨by rw [rv.len]; exact hl.1, by rw [rz.len]; exact hl.2, ?_⟩
    exact call_ok R2 (pick_rp ((rv.ext X2).append rz) ix) (by simp [pick, hix]) h2
  · rw [if_neg hl] at h2; exact h2.elim
theorem je_callK {st : Stmt} {x nm : Str} {ps ks : List Str} {k n : Nat} {ix : List Nat} {f : DF} {a : Expr} {es : List Expr} {kws : List Keyword} {ms mk : XM (List D)} {p pos : Pos} (H0 : Fn g st x nm ps k f) (hk : k ≤ F.k) (hg : F.sc.names.lookup x = some .globalImplicit) (kb : KB st nm ps n ks ix) (hix : ix.length = ps.length)
    (ha : JA F (a :: es) ms) (hkw : JK F kws mk) (hall : ∀ env, (backToKw pos (keywordEach kws env)).all (·.1.isSome) = true := by intro _; rfl) (hks : ∀ env, (backToKw pos (keywordEach kws env)).filterMap (·.1) = ks := by intro _; rfl)
    (hdb : (x == ("__debug__" : Str)) = false := by decide) (he : ∀ env, starEach (a :: es) env = (false, eval a env) :: starEach es env := by intro _; rfl)
    (hpl : ∀ env, ((backTo pos (starEach (a :: es) env)).any (·.1) || (backToKw pos (keywordEach kws env)).any (·.1.isNone)) = false := by intro _; rfl) :
    JE F (.Call (.Name x p) (a :: es) kws pos) (xfnK n ix ks.length f ms mk) := by
  obtain ⟨fa, fd, hm, D0, hb, O⟩ := H0.ex
  obtain ⟨ts, pa, sa⟩ := ha
  obtain ⟨tk, pk, sk⟩ := hkw
  refine ⟨fun W => tCallKS n ks.length ix (spS g ps.length f) (WE W) (ts W) (tk W), fun W X m => ?_, callK_SE hix sa sk⟩
  refine ⟨fun pins s σ H Q I h => ?_⟩
  have hmX : X.mg x = some (.ref fa) := by rw [F.hmg m]; exact hm
  have hkp : PySem.W.keepIn X.K (.ref fa) = true := by rw [F.hK m]; exact D0.kp
  have O' : FnOk X.prog X.w X.K X.mg X.base (L2.CX X.prog X.w) k fa fd ps (spS g ps.length f) := by
    rw [F.prog m, F.w m, F.hK m, F.hmg m, F.base m]; exact O
  refine wpAny_Call_Name_kw (ld_glob I (by show X.env.scope.names.lookup x = _; rw [F.hsc m]; exact hg) hmX ?_ hdb)
  refine PySem.W.callWith_KW (h₀ := X.base) I.ok.mod.kin hkp (hall _) (thn ((pa W X m).run pos pins s σ H _ I h) fun us s1 ⟨vs, H1, I1, r, q⟩ => ?_) (hpl _) (he _)
  refine thn ((pk W X m).run pos pins s1 σ H1 _ I1 q) fun ws s2 ⟨zs, H2, I2, rz, l1, l2, q2⟩ => ⟨I2.kIn, ?_⟩
  rw [hks]
  have lu : us.length = n := r.length.symm.trans l1
  have lw : ws.length = ks.length := rz.length.symm.trans l2
  refine run_fnK (args := ⟨us, ks.zip ws⟩) (us := pick .none (us ++ ws) ix) O' ((F.room m).mono hk) (F.takes m) ?_ I2 (pick_vals (r.append rz) ix) q2
  obtain ⟨oc, od, dV, kV, doc, pm, an, cdv, ct, osl, rfl, lk, hcd, hD, hK⟩ := D0.ex
  rcases hD with ⟨_, rfl⟩ | ⟨e, _⟩
  · exact .of_eq (kb kV doc pm an cdv ct us ws lu lw)
  · exact absurd rfl e
theorem je_callK0 {st : Stmt} {x nm : Str} {ps ks : List Str} {k : Nat} {ix : List Nat} {f : DF} {kws : List Keyword} {mk : XM (List D)} {p pos : Pos} (H0 : Fn g st x nm ps k f) (hk : k ≤ F.k) (hg : F.sc.names.lookup x = some .globalImplicit) (kb : KB st nm ps 0 ks ix) (hix : ix.length = ps.length)
    (hkw : JK F kws mk) (hall : ∀ env, (backToKw pos (keywordEach kws env)).all (·.1.isSome) = true := by intro _; rfl) (hks : ∀ env, (backToKw pos (keywordEach kws env)).filterMap (·.1) = ks := by intro _; rfl)
    (hdb : (x == ("__debug__" : Str)) = false := by decide)
    (hpl : ∀ env, ((backTo pos (starEach [] env)).any (·.1) || (backToKw pos (keywordEach kws env)).any (·.1.isNone)) = false := by intro _; rfl) :
    JE F (.Call (.Name x p) [] kws pos) (xfnK 0 ix ks.length f (xpure []) mk) := by
  obtain ⟨fa, fd, hm, D0, hb, O⟩ := H0.ex
  obtain ⟨tk, pk, sk⟩ := hkw
  have sa : SA g (fun _ => tNil) (xpure []) := fun W G H as st σ e Q R N h => h [] G H as R Ext.refl .nil
  refine ⟨fun W => tCallKS 0 ks.length ix (spS g ps.length f) (WE W) tNil (tk W), fun W X m => ?_, callK_SE hix sa sk⟩
  refine ⟨fun pins s σ H Q I h => ?_⟩
  have hmX : X.mg x = some (.ref fa) := by rw [F.hmg m]; exact hm
  have hkp : PySem.W.keepIn X.K (.ref fa) = true := by rw [F.hK m]; exact D0.kp
  have O' : FnOk X.prog X.w X.K X.mg X.base (L2.CX X.prog X.w) k fa fd ps (spS g ps.length f) := by
    rw [F.prog m, F.w m, F.hK m, F.hmg m, F.base m]; exact O
  refine wpAny_Call_Name_kw (ld_glob I (by show X.env.scope.names.lookup x = _; rw [F.hsc m]; exact hg) hmX ?_ hdb)
  refine PySem.W.callWith_KW0 (h₀ := X.base) I.ok.mod.kin hkp (hall _) ?_ (hpl _)
  refine thn ((pk W X m).run pos pins s σ H _ I h) fun ws s2 ⟨zs, H2, I2, rz, l1, l2, q2⟩ => ⟨I2.kIn, ?_⟩
  rw [hks]
  have lw : ws.length = ks.length := rz.length.symm.trans l2
  refine run_fnK (args := ⟨[], ks.zip ws⟩) (us := pick .none ([] ++ ws) ix) O' ((F.room m).mono hk) (F.takes m) ?_ I2 (pick_vals rz ix) q2
  obtain ⟨oc, od, dV, kV, doc, pm, an, cdv, ct, osl, rfl, lk, hcd, hD, hK⟩ := D0.ex
  rcases hD with ⟨_, rfl⟩ | ⟨e, _⟩
  · exact .of_eq (kb kV doc pm an cdv ct [] ws rfl lw)
  · exact absurd rfl e
end
end LS
end
section
set_option maxRecDepth 100000
set_option maxHeartbeats 2000000
namespace LS
open PySem PySem.Spec L2

/-! ## enumerate, zip -/
def enumD : Nat → List D → List D
  | _, [] => []
  | k, x :: r => .tup [.int (k : Int), x] :: enumD (k + 1) r
theorem enumD_len : ∀ (k : Nat) (xs : List D), (enumD k xs).length = xs.length
  | _, [] => rfl
  | k, x :: r => by simp [enumD, enumD_len (k + 1) r]
theorem enumD_get : ∀ (xs : List D) (k i : Nat), (enumD k xs)[i]? = xs[i]?.map fun x => .tup [.int ((k + i : Nat) : Int), x]
  | [], _, _ => by simp [enumD]
  | x :: r, k, 0 => by simp [enumD]
  | x :: r, k, i + 1 => by
    have := enumD_get r (k + 1) i
    simp only [enumD, List.getElem?_cons_succ, this]
    rw [show k + 1 + i = k + (i + 1) by omega]
def zipD (xs ys : List D) : List D := List.zipWith (fun a b => .tup [a, b]) xs ys
theorem zipD_get (xs ys : List D) (i : Nat) {x : D} (h : (zipD xs ys)[i]? = some x) : ∃ a b, xs[i]? = some a ∧ ys[i]? = some b ∧ x = .tup [a, b] := by
  unfold zipD at h
  rw [List.getElem?_zipWith] at h
  cases h1 : xs[i]? with
  | none => simp [h1] at h
  | some a =>
    cases h2 : ys[i]? with
    | none => simp [h1, h2] at h
    | some b => simp [h1, h2] at h; exact ⟨a, b, rfl, rfl, h.symm⟩

/-- the tuple at a, each item in a new pair -/
def ItE (K : PySem.W.Frag) (a : Addr) : It :=
  ⟨fun i H => ∃ (xs : List V) (x : V), SqT K H a xs ∧ xs[i]? = some x, fun i H v H' => ∃ T x, v = .ref T ∧ H T = none ∧ H' = upd H T (.tup [.int (i : Nat), x]) ∧ ∀ xs, SqT K H a xs → xs[i]? = some x, fun i H => ∃ xs : List V, SqT K H a xs ∧ xs.length = i⟩
theorem turn_enumT {P : Program} {w : World} {K : PySem.W.Frag} {elts : List Expr} {kk : Nat} {tpos : Pos} {a e it : Addr} (hai : a ≠ it) (hei : e ≠ it) (hea : e ≠ a) :
    Turn P w K (.Tuple elts kk tpos) (ItE K a) [e, it] e (fun i h => (∃ old, IsEnum h e it ((i : Nat) : Int) old) ∧ h.IsTupleIter it a i) := by
  refine ⟨by simp, ?_, ?_, ?_, ?_, ?_⟩
  · rintro i h ⟨⟨old, q⟩, ⟨o, ho, _, hd⟩⟩ b hb
    rcases List.mem_cons.mp hb with rfl | hb
    · exact ⟨_, q, fun v z => nomatch z⟩
    · cases List.mem_singleton.mp hb; exact ⟨o, ho, fun v z => by rw [hd] at z; cases z⟩
  · rintro i h h' ⟨⟨old, q⟩, q2⟩ k
    exact ⟨⟨old, k e (by simp) _ q⟩, q2.at fun o z => k it (by simp) o z⟩
  · intro X hP hw hK hc i pins s σ H E I hf st hg
    subst hP hw hK
    obtain ⟨⟨old, q⟩, q2⟩ := st
    obtain ⟨xs, x, hq, hx⟩ := hg
    obtain ⟨its, rv, p, _⟩ := I.tuple hq
    obtain ⟨u, hu, ru⟩ := rv.get hx
    have lte : e < s.heap.objs.size := Heap.lt_size q
    have lti : it < s.heap.objs.size := let ⟨_, z, _⟩ := q2; Heap.lt_size z
    have dr := Draws.tuple (prog := X.prog) (w := X.w) (A := X.A.in1) (I.ok.hd hc) it a hai its.toArray
    have lt := (List.getElem?_eq_some_iff.mp hu).1
    refine wpAny_pyNext_enum_itemC dr q ⟨q2, p⟩ (by simpa using lt) hei (by simp [hei, hea]) fun y h1 tk py o1 st1 hT _ k1 => ?_
    have ey : y = u := by
      have z : its.toArray[i]? = some y := py
      simp at z
      rw [hu] at z; cases z; rfl
    subst ey
    refine ⟨_, rfl, wpAny_letOwnedTupleGo_enum (s := { s with heap := h1, toks := tk + 1 }) o1 fun h2 o2 sb => ?_⟩
    have hT2 := (sb.2 _ (Nat.ne_of_gt lte)).trans hT
    have nw : ObjOk X.prog X.w (upd H s.heap.objs.size (.tup [.int (i : Nat), x])) h2 s.heap.objs.size (.tup [.int (i : Nat), x]) :=
      ⟨(show 2 ≤ sizeLine by decide), [.int i tk, y], .cons ⟨_, rfl⟩ (.cons ru .nil), ⟨_, hT2, rfl, _, rfl⟩⟩
    have I1 := I.turnedNew (t' := tk + 1) (h' := h2) (ch := [e, it]) (fun b o hb z => (sb.2 b (fun y => hb (by simp [y]))).trans (k1 b o (fun y => hb (by simp [y])) (fun y => hb (by simp [y])) z)) hf (Nat.le_refl _) nw
    refine ⟨_, _, I1, (show RelV (.ref s.heap.objs.size) (.ref s.heap.objs.size) from rfl), ⟨_, x, rfl, I.hok.fresh (Nat.le_refl _), rfl, fun ys hy => by rw [I.tuple_inj hy hq]; exact hx⟩, ⟨⟨y, ?_⟩, ?_⟩, fun b hb => ?_⟩
    · rw [show ((i + 1 : Nat) : Int) = (i : Int) + 1 by omega]; exact o2
    · exact st1.1.at fun o z => (sb.2 it (Ne.symm hei)).trans z
    · have : b < s.heap.objs.size := by
        rcases List.mem_cons.mp hb with rfl | hb
        · exact lte
        · cases List.mem_singleton.mp hb; exact lti
      rw [upd_ne (Nat.ne_of_lt this)]
      exact (hf b hb).1
  · intro X hP hw hK hc i pins s σ H E I hf st hg
    subst hP hw hK
    obtain ⟨⟨old, q⟩, q2⟩ := st
    obtain ⟨xs, hq, hx⟩ := hg
    obtain ⟨its, rv, p, _⟩ := I.tuple hq
    have dr := Draws.tuple (prog := X.prog) (w := X.w) (A := X.A.in1) (I.ok.hd hc) it a hai its.toArray
    have hn : i = its.toArray.size := by have := rv.length; simp; omega
    obtain ⟨f0, f1, f2, f3, f4, f5⟩ := hf it (by simp)
    exact wpAny_pyNext_enum_endD dr q ⟨by rw [← hn]; exact q2, p⟩ fun h1 eb => ⟨rfl, I.turned (t' := s.toks) (fun b o hb z => eb b o hb z) f0 f1 f3 f4 f5⟩
  · rintro A i s Q E ⟨⟨old, q⟩, _⟩ h
    exact wpAny_pyIter_enum q h
/-! enumerate(v) of anything whose iterator is known -/
theorem meets_enum1 {v : Value} {ia : Heap → Addr} {mk : Heap → Heap} {Hh : Heap → Prop} (B : ∀ (prog : Program) (w : World) (A : Around) (E : Value → Shared → Prop) (s : Shared) (Q : Value → Shared → Prop), Hh s.heap → Q (.ref (ia s.heap)) { s with heap := mk s.heap } → wpAny (model prog w) A (pyIter v) Q E s) :
    Meets (Builtin.«enumerate.__new__» ⟨[.type "enumerate", v], []⟩) (fun _ R s => Hh s.heap ∧
      R (.ok (.ret (.ref (mk s.heap).objs.size))) { s with heap := (mk s.heap).push { cls := .type "enumerate", data := .fields #[.none, .bool false, .ref (ia s.heap), rawInt 0, .none, .none] } }) := by
  refine .of_wp ?_
  rintro prog w A R ⟨hp, g, d, tk, os⟩ ⟨h1, h⟩
  have sub := sub_enumerate
  have q1 : ∀ {A' : Around} {E : Value → Shared → Prop} {Q : Value → Shared → Prop}, Q (.ref (ia hp)) ⟨mk hp, g, d, tk, os⟩ → wpAny (model prog w) A' (pyIter v) Q E ⟨hp, g, d, tk, os⟩ := fun q => B _ _ _ _ ⟨hp, g, d, tk, os⟩ _ h1 q
  wp_walk using q1
  refine wpAny_stack_any fun st => wpAny_pure ?_
  split
  · rename_i c _ _ _ _ _
    cases (c == Value.type "enumerate") <;> (wp_walk using q1; exact ⟨_, rfl, h⟩)
  · wp_walk using q1
    exact ⟨_, rfl, h⟩
theorem call_enum1 {prog : Program} {w : World} {A : Around} {E : Value → Shared → Prop} {s : Shared} {v : Value} {ia : Heap → Addr} {mk : Heap → Heap} {Hh : Heap → Prop} {Q : Value → Shared → Prop}
    (B : ∀ (prog : Program) (w : World) (A : Around) (E : Value → Shared → Prop) (s : Shared) (Q : Value → Shared → Prop), Hh s.heap → Q (.ref (ia s.heap)) { s with heap := mk s.heap } → wpAny (model prog w) A (pyIter v) Q E s)
    (h1 : Hh s.heap) (h : ∀ h', IsEnum h' (mk s.heap).objs.size (ia s.heap) 0 .none → (∀ b o, (mk s.heap).get? b = some o → h'.get? b = some o) → Q (.ref (mk s.heap).objs.size) { s with heap := h' }) :
    wpAny (model prog w) A (call (.type "enumerate") [v]) Q E s := by
  refine callType_new F.called_enumerate (by decide) (F.typeCall_enumerate_1 _) (F.newCall_enumerate_1 _) (fun obj => F.args_object_init_2 obj _) F.entry_enumerate_new (meets_enum1 B) ⟨h1, ?_⟩
  have e1 : IsEnum ((mk s.heap).push { cls := .type "enumerate", data := .fields #[.none, .bool false, .ref (ia s.heap), rawInt 0, .none, .none] }) (mk s.heap).objs.size (ia s.heap) 0 .none := Heap.get?_push_size _ rfl
  exact ⟨⟨_, e1, rfl⟩, h _ e1 fun b o x => Heap.get?_push_of_some _ x⟩
/-- enumerate(list or tuple) -/
def iEnumA (K : PySem.W.Frag) (ta : TA) : TI := fun σ H R => ta σ H fun vs H1 => ∃ a, vs = [.ref a] ∧ (((∃ xs, SqL K H1 a xs) ∧ R (Ite K a) H1) ∨ ((∃ xs, SqT K H1 a xs) ∧ R (ItE K a) H1))
theorem pi_enumA {X : Cx} {e : Expr} {ta : TA} {p pos tpos : Pos} {elts : List Expr} {kk : Nat} (hg : Gl X "enumerate") (hm : X.mg "enumerate" = none) (ha : PA X [e] ta) (hs : starEach [e] X.env = [(false, eval e X.env)]) :
    PI X (.Tuple elts kk tpos) (.Call (.Name "enumerate" p) [e] [] pos) (iEnumA X.K ta) := by
  constructor
  intro pins s σ H R I h
  refine PyProof.Rows.Call_ (ld_blt I hg hm PyProof.Rows.boot_enumerate (PyProof.Rows.callWith_type1 (thn (ha.run pos pins s σ H _ I h) fun us s1 q0 => ?_) hs rfl))
  obtain ⟨vs, H1, I1, r1, a, ex, q1⟩ := q0
  subst ex
  cases r1 with
  | cons r rr =>
    cases rr
    cases r
    have fr : ∀ b ∈ [s1.heap.objs.size + 1, s1.heap.objs.size], FpOk X pins H1 b := fun b hb => by
      have hle : s1.heap.objs.size ≤ b := by
        rcases List.mem_cons.mp hb with rfl | hb
        · omega
        · cases List.mem_singleton.mp hb; omega
      exact I1.fpOk hle (I1.hok.fresh hle)
    rcases q1 with ⟨⟨xs, hq⟩, q⟩ | ⟨⟨xs, hq⟩, q⟩
    · obtain ⟨its, rv, p', _⟩ := I1.list hq
      refine call_enumerate_list p'.isList fun h' he hit hsz hk => wpAny_pyIter_enum he ?_
      exact ⟨_, _, _, _, H1, rfl, I1.kept (t' := s1.toks) hk, turn_enum a _ _, ⟨⟨.none, he⟩, hit, Nat.succ_ne_self _⟩, fr, q⟩
    · obtain ⟨its, rv, p', _⟩ := I1.tuple hq
      have p2 : s1.heap.IsTuple a its.toArray := p'
      have la : a < s1.heap.objs.size := let ⟨_, z, _⟩ := p2; Heap.lt_size z
      have l2 : s1.heap.objs.size + 1 ≠ a := fun z => Nat.lt_irrefl a (Nat.lt_trans la (Nat.lt_of_lt_of_eq (Nat.lt_succ_self _) z))
      refine call_enum1 (ia := fun h => h.objs.size) (mk := fun h => h.push { cls := .type "tuple_iterator", data := .fields #[.ref a, .int 0 0] }) (Hh := fun h => h.IsTuple a its.toArray) (fun _ _ _ _ s _ hl h => wpAny_pyIter_tuple hl h) p2 fun h' he hk => wpAny_pyIter_enum he ?_
      have sz : (s1.heap.push { cls := .type "tuple_iterator", data := .fields #[.ref a, .int 0 0] }).objs.size = s1.heap.objs.size + 1 := Heap.size_push ..
      simp only [sz] at he
      simp only [sz]
      have hit := hk _ _ (Heap.get?_push_size s1.heap (o := { cls := .type "tuple_iterator", data := .fields #[.ref a, .int 0 0] }) rfl)
      exact ⟨_, _, _, _, H1, rfl, I1.kept (t' := s1.toks) fun b o z => hk b o (Heap.get?_push_of_some _ z), turn_enumT (a := a) (Nat.ne_of_lt la) (Nat.succ_ne_self _) l2, ⟨⟨.none, he⟩, ⟨_, hit, rfl, rfl⟩⟩, fr, q⟩
/-! ## the judgements -/
section
variable {g : Gb} {F : Fam g} {pos : Pos}
theorem yl_enumL {G0 : Hp} {as0 : List Addr} {a : Addr} {vs : List V} {xs : List D} (s : SqL g.K G0 a vs) (r : RpA g.K g.mg G0 as0 vs xs) : Yl g G0 as0 none (enumD 0 xs) (Ite g.K a) where
  go := fun i G H as st hi R hs hp _ => by
    have hv : i < vs.length := by rw [r.len, ← enumD_len 0 xs]; exact hi
    exact ⟨vs, vs[i], sqL_H R (sqL_sub hs s), List.getElem?_eq_getElem hv⟩
  stop := fun G H as st R hs hp _ => ⟨vs, sqL_H R (sqL_sub hs s), by rw [r.len, enumD_len]; exact Nat.le_refl _⟩
  yld := fun i G H as st v H' x R hs hp _ hx y => by
    obtain ⟨T, u, rfl, hT, rfl, y⟩ := y
    rw [enumD_get] at hx
    obtain ⟨x0, hx0, rfl⟩ := Option.map_eq_some_iff.mp hx
    obtain ⟨u', e1, ru⟩ := r.get hx0
    have e2 := y vs (sqL_H R (sqL_sub hs s))
    rw [e1] at e2; cases e2
    obtain ⟨R', X'⟩ := R.still (o := .tup [.int (i : Nat), u]) hT
    refine ⟨_, R', X', .tup (.of upd_same) (.cons ?_ (.cons ((ru.mono hs hp).ext X') .nil))⟩
    rw [show ((0 + i : Nat) : Int) = (i : Int) by simp]
    exact .int _
theorem yl_enumT {G0 : Hp} {as0 : List Addr} {a : Addr} {vs : List V} {xs : List D} (s : SqT g.K G0 a vs) (r : RpA g.K g.mg G0 as0 vs xs) : Yl g G0 as0 none (enumD 0 xs) (ItE g.K a) where
  go := fun i G H as st hi R hs hp _ => by
    have hv : i < vs.length := by rw [r.len, ← enumD_len 0 xs]; exact hi
    exact ⟨vs, vs[i], sqT_H R (sqT_sub hs s), List.getElem?_eq_getElem hv⟩
  stop := fun G H as st R hs hp _ => ⟨vs, sqT_H R (sqT_sub hs s), by rw [r.len, enumD_len]⟩
  yld := fun i G H as st v H' x R hs hp _ hx y => by
    obtain ⟨T, u, rfl, hT, rfl, y⟩ := y
    rw [enumD_get] at hx
    obtain ⟨x0, hx0, rfl⟩ := Option.map_eq_some_iff.mp hx
    obtain ⟨u', e1, ru⟩ := r.get hx0
    have e2 := y vs (sqT_H R (sqT_sub hs s))
    rw [e1] at e2; cases e2
    obtain ⟨R', X'⟩ := R.still (o := .tup [.int (i : Nat), u]) hT
    refine ⟨_, R', X', .tup (.of upd_same) (.cons ?_ (.cons ((ru.mono hs hp).ext X') .nil))⟩
    rw [show ((0 + i : Nat) : Int) = (i : Int) by simp]
    exact .int _
/-- a list or a tuple that stands still -/
def stillOf : D → Option (List D)
  | .tup xs => some xs
  | .lst xs => some xs
  | .sq xs => some xs
  | _ => none
theorem stillOf_ok {G H : Hp} {as : List Addr} {st : Store} {v : V} {d : D} {xs : List D} (R : Ri g.K g.mg G H as st) (r : Rp g.K g.mg G as v d) (h : stillOf d = some xs) : ∃ a vs, v = .ref a ∧ RpA g.K g.mg G as vs xs ∧ (SqL g.K G a vs ∨ SqT g.K G a vs) := by
  cases r with
  | tup s r => cases h; exact ⟨_, _, rfl, r, .inr s⟩
  | lst s r => cases h; exact ⟨_, _, rfl, r, .inl (.of s)⟩
  | sq s r => cases h; exact ⟨_, _, rfl, r, .inl s⟩
  | _ => cases h
def xenum (m : XM D) : XM (List D × Option Nat) := xbind m fun x => fun _ st => match stillOf x with
  | some xs => .ok (enumD 0 xs, none) st
  | none => .stuck
theorem ji_enum {elts : List Expr} {kk : Nat} {tpos p : Pos} {e : Expr} {m : XM D} (hg : F.sc.names.lookup ("enumerate" : Str) = some .globalImplicit) (hm : g.mg "enumerate" = none) (h : JE F e m) (hs : ∀ env, starEach [e] env = [(false, eval e env)] := by intro _; rfl) :
    JI F (.Tuple elts kk tpos) (.Call (.Name "enumerate" p) [e] [] pos) (xenum m) := by
  obtain ⟨t, p', s⟩ := h
  refine ⟨fun W => iEnumA g.K (tCons (t W) tNil), fun W X m => by have := pi_enumA (elts := elts) (kk := kk) (tpos := tpos) (p := p) (pos := pos) (X := X) (by show X.env.scope.names.lookup _ = _; rw [F.hsc m]; exact hg) (by rw [F.hmg m]; exact hm) (pa_cons (p' W X m) pa_nil (hs _)) (hs _); rw [F.hK m] at this; exact this, ?_⟩
  intro W G H as st σ e R' R N h
  refine s W G H as st σ e _ R N ?_
  unfold xenum xbind at h
  cases q : m e st with
  | stuck => rw [q] at h; exact h
  | exc c p st1 => rw [q] at h; exact h
  | ok x st1 =>
    simp only [q] at h
    intro v G1 H1 as1 R1 X1 rv
    cases q2 : stillOf x with
    | none => simp only [q2] at h; exact h.elim
    | some xs =>
      simp only [q2] at h
      obtain ⟨a, vs, rfl, rr, ss | ss⟩ := stillOf_ok R1 rv q2
      · exact ⟨a, rfl, .inl ⟨⟨vs, sqL_H R1 ss⟩, h.2 _ G1 H1 as1 R1 X1 (yl_enumL ss rr)⟩⟩
      · exact ⟨a, rfl, .inr ⟨⟨vs, sqT_H R1 ss⟩, h.2 _ G1 H1 as1 R1 X1 (yl_enumT ss rr)⟩⟩
theorem yl_zipL {G0 : Hp} {as0 : List Addr} {a b : Addr} {vs ws : List V} {xs ys : List D} (s : SqL g.K G0 a vs) (s2 : SqL g.K G0 b ws) (r : RpA g.K g.mg G0 as0 vs xs) (r2 : RpA g.K g.mg G0 as0 ws ys) : Yl g G0 as0 none (zipD xs ys) (Itz g.K a b) where
  go := fun i G H as st hi R hs hp _ => by
    have hl : i < xs.length ∧ i < ys.length := by simp [zipD] at hi; omega
    have hv : i < vs.length := by rw [r.len]; exact hl.1
    have hw : i < ws.length := by rw [r2.len]; exact hl.2
    exact ⟨vs, ws, vs[i], ws[i], sqL_H R (sqL_sub hs s), sqL_H R (sqL_sub hs s2), List.getElem?_eq_getElem hv, List.getElem?_eq_getElem hw⟩
  stop := fun G H as st R hs hp _ => ⟨vs, ws, sqL_H R (sqL_sub hs s), sqL_H R (sqL_sub hs s2), by rw [r.len, r2.len]; simp [zipD]; omega⟩
  yld := fun i G H as st v H' x R hs hp _ hx y => by
    obtain ⟨T, u, w, rfl, hT, rfl, y1, y2⟩ := y
    obtain ⟨x0, x1, h0, h1, rfl⟩ := zipD_get _ _ _ hx
    obtain ⟨u', e1, ru⟩ := r.get h0
    obtain ⟨w', e2, rw'⟩ := r2.get h1
    have e3 := y1 vs (sqL_H R (sqL_sub hs s))
    have e4 := y2 ws (sqL_H R (sqL_sub hs s2))
    rw [e1] at e3; cases e3
    rw [e2] at e4; cases e4
    obtain ⟨R', X'⟩ := R.still (o := .tup [u, w]) hT
    exact ⟨_, R', X', .tup (.of upd_same) (.cons ((ru.mono hs hp).ext X') (.cons ((rw'.mono hs hp).ext X') .nil))⟩
theorem yl_zipT {G0 : Hp} {as0 : List Addr} {a b : Addr} {vs ws : List V} {xs ys : List D} (s : SqT g.K G0 a vs) (s2 : SqT g.K G0 b ws) (r : RpA g.K g.mg G0 as0 vs xs) (r2 : RpA g.K g.mg G0 as0 ws ys) : Yl g G0 as0 none (zipD xs ys) (RZ.ItzT g.K a b) where
  go := fun i G H as st hi R hs hp _ => by
    have hl : i < xs.length ∧ i < ys.length := by simp [zipD] at hi; omega
    have hv : i < vs.length := by rw [r.len]; exact hl.1
    have hw : i < ws.length := by rw [r2.len]; exact hl.2
    exact ⟨vs, ws, vs[i], ws[i], sqT_H R (sqT_sub hs s), sqT_H R (sqT_sub hs s2), List.getElem?_eq_getElem hv, List.getElem?_eq_getElem hw⟩
  stop := fun G H as st R hs hp _ => ⟨vs, ws, sqT_H R (sqT_sub hs s), sqT_H R (sqT_sub hs s2), by rw [r.len, r2.len]; simp [zipD]; omega⟩
  yld := fun i G H as st v H' x R hs hp _ hx y => by
    obtain ⟨T, u, w, rfl, hT, rfl, y1, y2⟩ := y
    obtain ⟨x0, x1, h0, h1, rfl⟩ := zipD_get _ _ _ hx
    obtain ⟨u', e1, ru⟩ := r.get h0
    obtain ⟨w', e2, rw'⟩ := r2.get h1
    have e3 := y1 vs (sqT_H R (sqT_sub hs s))
    have e4 := y2 ws (sqT_H R (sqT_sub hs s2))
    rw [e1] at e3; cases e3
    rw [e2] at e4; cases e4
    obtain ⟨R', X'⟩ := R.still (o := .tup [u, w]) hT
    exact ⟨_, R', X', .tup (.of upd_same) (.cons ((ru.mono hs hp).ext X') (.cons ((rw'.mono hs hp).ext X') .nil))⟩
/-- both tuples | both lists -/
def zipOf : D → D → Option (List D × List D)
  | .tup xs, .tup ys => some (xs, ys)
  | .lst xs, .lst ys => some (xs, ys)
  | .sq xs, .lst ys => some (xs, ys)
  | .lst xs, .sq ys => some (xs, ys)
  | .sq xs, .sq ys => some (xs, ys)
  | _, _ => none
theorem zipOf_ok {G : Hp} {as : List Addr} {v w : V} {d f : D} {xs ys : List D} (r : Rp g.K g.mg G as v d) (r2 : Rp g.K g.mg G as w f) (h : zipOf d f = some (xs, ys)) :
    ∃ a b vs ws, v = .ref a ∧ w = .ref b ∧ RpA g.K g.mg G as vs xs ∧ RpA g.K g.mg G as ws ys ∧ ((SqL g.K G a vs ∧ SqL g.K G b ws) ∨ (SqT g.K G a vs ∧ SqT g.K G b ws)) := by
  cases r with
  | tup s r => cases r2 with
    | tup s2 r2 => cases h; exact ⟨_, _, _, _, rfl, rfl, r, r2, .inr ⟨s, s2⟩⟩
    | _ => cases h
  | lst s r => cases r2 with
    | lst s2 r2 => cases h; exact ⟨_, _, _, _, rfl, rfl, r, r2, .inl ⟨.of s, .of s2⟩⟩
    | sq s2 r2 => cases h; exact ⟨_, _, _, _, rfl, rfl, r, r2, .inl ⟨.of s, s2⟩⟩
    | _ => cases h
  | sq s r => cases r2 with
    | lst s2 r2 => cases h; exact ⟨_, _, _, _, rfl, rfl, r, r2, .inl ⟨s, .of s2⟩⟩
    | sq s2 r2 => cases h; exact ⟨_, _, _, _, rfl, rfl, r, r2, .inl ⟨s, s2⟩⟩
    | _ => cases h
  | _ => cases r2 <;> cases h
def xzip (ma mb : XM D) : XM (List D × Option Nat) := xbind ma fun x => xbind mb fun y => fun _ st => match zipOf x y with
  | some (xs, ys) => .ok (zipD xs ys, none) st
  | none => .stuck
theorem zip_read {t t2 : WX → TE} {ma mb : XM D} {W : WX} {G H : Hp} {as : List Addr} {st : Store} {σ : L2.St} {e : Nv} {fd : List D → List D → List D} {R' : It → Hp → Prop} {Q : List V → Hp → Prop} (s : SE g t ma) (s2 : SE g t2 mb) (R : Ri g.K g.mg G H as st) (N : Rn g.K g.mg G as σ e)
    (h : PXI g W G H as σ ((xbind ma fun x => xbind mb fun y => fun _ st => match zipOf x y with | some (xs, ys) => .ok (fd xs ys, none) st | none => .stuck) e st) R')
    (k : ∀ xs ys a b vs ws G1 H1 as1 st1, Ri g.K g.mg G1 H1 as1 st1 → RpA g.K g.mg G1 as1 vs xs → RpA g.K g.mg G1 as1 ws ys → ((SqL g.K G1 a vs ∧ SqL g.K G1 b ws) ∨ (SqT g.K G1 a vs ∧ SqT g.K G1 b ws)) → (∀ J, Yl g G1 as1 none (fd xs ys) J → R' J H1) → Q [.ref a, .ref b] H1) : tCons (t W) (tCons (t2 W) tNil) σ H Q := by
  refine s W G H as st σ e _ R N ?_
  unfold xbind at h
  cases q : ma e st with
  | stuck => rw [q] at h; exact h
  | exc c p st1 => rw [q] at h; exact h
  | ok x st1 =>
    simp only [q] at h
    intro v G1 H1 as1 R1 X1 rv
    refine s2 W G1 H1 as1 st1 σ e _ R1 (N.ext X1) ?_
    cases q2 : mb e st1 with
    | stuck => simp only [q2] at h; exact h
    | exc c p st2 =>
      simp only [q2] at h
      exact fun cls d G2 H2 as2 R2 X2 x2 => h cls d G2 H2 as2 R2 (X1.trans X2) x2
    | ok y st2 =>
      simp only [q2] at h
      intro w G2 H2 as2 R2 X2 rw'
      cases q3 : zipOf x y with
      | none => simp only [q3] at h; exact h.elim
      | some z =>
        obtain ⟨xs, ys⟩ := z
        simp only [q3] at h
        obtain ⟨a, b, vs, ws, rfl, rfl, r1, r2, ss⟩ := zipOf_ok (rv.ext X2) rw' q3
        exact k xs ys a b vs ws G2 H2 as2 st2 R2 r1 r2 ss fun J Y => h.2 J G2 H2 as2 R2 (X1.trans X2) Y
theorem ji_zip {elts : List Expr} {kk : Nat} {tpos p : Pos} {ea eb : Expr} {ma mb : XM D} (hg : F.sc.names.lookup ("zip" : Str) = some .globalImplicit) (hm : g.mg "zip" = none) (ha : JE F ea ma) (hb : JE F eb mb)
    (hs : ∀ env, starEach [ea, eb] env = [(false, eval ea env), (false, eval eb env)] := by intro _; rfl) (hs2 : ∀ env, starEach [eb] env = [(false, eval eb env)] := by intro _; rfl) :
    JI F (.Tuple elts kk tpos) (.Call (.Name "zip" p) [ea, eb] [] pos) (xzip ma mb) := by
  obtain ⟨t, p', s⟩ := ha
  obtain ⟨t2, p2, s2⟩ := hb
  refine ⟨fun W => RZ.iZipA g.K (tCons (t W) (tCons (t2 W) tNil)), fun W X m => by
    have := RZ.pi_zipA (elts := elts) (kk := kk) (tpos := tpos) (p := p) (pos := pos) (X := X) (by show X.env.scope.names.lookup _ = _; rw [F.hsc m]; exact hg) (by rw [F.hmg m]; exact hm) (pa_cons (p' W X m) (pa_cons (p2 W X m) pa_nil (hs2 _)) (by rw [hs, hs2])) (by rw [hs, hs2]) (by rw [hs2]; rfl)
    rw [F.hK m] at this; exact this, ?_⟩
  intro W G H as st σ e R' R N h
  refine zip_read (fd := zipD) s s2 R N h ?_
  intro xs ys a b vs ws G1 H1 as1 st1 R1 r1 r2 ss k
  rcases ss with ⟨s1, s2⟩ | ⟨s1, s2⟩
  · exact ⟨a, b, vs, ws, rfl, .inl ⟨sqL_H R1 s1, sqL_H R1 s2, k _ (yl_zipL s1 s2 r1 r2)⟩⟩
  · exact ⟨a, b, vs, ws, rfl, .inr ⟨sqT_H R1 s1, sqT_H R1 s2, k _ (yl_zipT s1 s2 r1 r2)⟩⟩
end
end LS
end
section
set_option maxRecDepth 100000
set_option maxHeartbeats 2000000
namespace LS
open PySem PySem.Spec L2

/-! ## enumerate(zip(a, b)): the pair that zip gave out may live on -/
/-- a zip over two iterators; its pair is its own, or was given out -/
def ZipAt (h : Heap) (z TI TO : Addr) : Prop := ∃ (own : Value) (f : Bool), (own = .none ∨ ∃ T : Nat, own = rawInt T) ∧
  h.get? z = some { cls := .type "zip", dict := none, data := .fields #[own, .bool f, .bool false, .ref TI, .ref TO], slots := #[] }
section
variable {prog : Program} {w : World} {A : Around} {E : Value → Shared → Prop} {s : Shared} {z TI TO i1 i2 : Addr} {fp1 fp2 : List Addr} {n1 n2 i : Nat} {P1 P2 : Nat → Value → Prop} {St1 St2 : Nat → Heap → Prop}
abbrev ZRec (own : Value) (f : Bool) (TI TO : Addr) : Obj := { cls := .type "zip", dict := none, data := .fields #[own, .bool f, .bool false, .ref TI, .ref TO], slots := #[] }
theorem own_ask {own : Value} {f : Bool} {Q : Bool → Shared → Prop} (ho : own = .none ∨ ∃ T : Nat, own = rawInt T) (hz : s.heap.get? z = some (ZRec own f TI TO)) (hT : Q true s)
    (hF : ∀ h', h'.get? z = some (ZRec own true TI TO) → Heap.SameBut z s.heap h' → Q false { s with heap := h' }) : wpAny (model prog w) A (Builtin.SmallTypes.ownedTupleIsFree (.ref z)) Q E s := by
  unfold Builtin.SmallTypes.ownedTupleIsFree
  refine wpAny_bind (wpAny_field hz rfl (x := own) rfl ?_)
  rcases ho with rfl | ⟨T, rfl⟩
  · exact wpAny_pure hT
  · show wpAny _ _ (loadIfAlive ((T : Int).toNat) >>= _) _ _ _
    rw [Int.toNat_natCast]
    have la : ∀ {Q : Option Obj → Shared → Prop}, Q (s.heap.get? T) s → wpAny (model prog w) A (loadIfAlive T) Q E s := fun q _ _ _ => q
    refine wpAny_bind (la ?_)
    cases hg : s.heap.get? T with
    | none => exact wpAny_pure hT
    | some o =>
      simp only [Option.isNone_some, Bool.false_eq_true, if_false]
      refine wpAny_bind (wpAny_field hz rfl (x := .bool f) rfl ?_)
      cases f with
      | true => exact wpAny_pure (hF s.heap hz (Heap.SameBut.refl _ _))
      | false => exact wpAny_bind (wpAny_setField_rec hz (by simp) fun h1 a b => wpAny_pure (hF h1 a b))
theorem zip_any {Q : Value → Shared → Prop} (S : ZipSep2 z TI TO i1 i2 fp1 fp2) (D1 : Draws prog w A i1 fp1 n1 P1 St1) (D2 : Draws prog w A i2 fp2 n2 P2 St2)
    (hz : ZipAt s.heap z TI TO) (hTI : IsTupOf2 s.heap TI (.ref i1) (.ref i2)) (hTO : ∃ a b, IsTupOf2 s.heap TO a b) (st1 : St1 i s.heap) (st2 : St2 i s.heap) (l1 : i < n1) (l2 : i < n2)
    (hQ : ∀ x y h' tk, P1 i x → P2 i y → ZipAt h' z TI TO → (∃ a b, IsTupOf2 h' TO a b) → St1 (i + 1) h' → St2 (i + 1) h' → IsTupOf2 h' s.heap.objs.size x y → h'.objs.size = s.heap.objs.size + 1 →
      (∀ c o, c ≠ z → c ≠ TO → c ≠ i1 → c ≠ i2 → s.heap.get? c = some o → h'.get? c = some o) → Q (.ref s.heap.objs.size) { s with heap := h', toks := tk }) :
    wpAny (model prog w) A (Builtin.«zip.__next__» ⟨[.ref z], []⟩) (fun fin s' => ∃ v, fin = .done (.ret v) ∧ Q v s') E s := by
  obtain ⟨own, f, ho, hz⟩ := hz
  obtain ⟨a, b, hTO⟩ := hTO
  obtain ⟨hp, gn, dr, tk0, os⟩ := s
  have zlt : z < hp.objs.size := Heap.lt_size hz
  show wpAny _ _ (field (.ref z) 2 >>= _) _ _ _
  refine wpAny_bind (wpAny_field hz rfl (x := .bool false) rfl ?_)
  show wpAny _ _ (field (.ref z) 3 >>= _) _ _ _
  refine wpAny_bind (wpAny_field hz rfl (x := .ref TI) rfl ?_)
  refine wpAny_bind (wpAny_seqItems hTI rfl ?_)
  show wpAny _ _ (Builtin.SmallTypes.ownedTupleIsFree (.ref z) >>= _) _ _ _
  refine wpAny_bind (own_ask ho hz ?_ fun g0 hz0 hs0 => ?_)
  · -- its own pair again
    simp only [if_true]
    refine wpAny_bind (wpAny_rule ?_)
    refine wpAny_bind (wpAny_field hz rfl (x := .ref TO) rfl ?_)
    refine wpAny_bind (wpAny_setField_rec hz (by simp) fun g0 hz0 hs0 => ?_)
    replace hz0 : g0.get? z = some (ZRec .ellipsis f TI TO) := hz0
    replace hs0 : Heap.SameBut z hp g0 := hs0
    refine wpAny_bind ?_
    simp only [List.zipIdx_cons, List.zipIdx_nil, List.forIn_cons, List.forIn_nil]
    refine wpAny_bind (wpAny_bind (wpAny_onRaise ?_))
    show wpAny _ _ (Builtin.SmallTypes.nextOf (.ref i1) >>= _) _ _ ⟨g0, gn, dr, tk0, os⟩
    refine wpAny_bind (D1.item i _ _ _ l1 (D1.over st1 hs0 S.zf1) fun x q1 tk1 hx sn1 hq1 => wpAny_pure ?_)
    replace hq1 : Heap.SameBut i1 g0 q1 := hq1
    have u1 : IsTupOf2 q1 TO a b := hq1.extBut _ _ S.Ti1 (hs0.extBut _ _ S.TOz hTO)
    refine wpAny_bind (wpAny_seqItems (s := ⟨q1, gn, dr, tk1, os⟩) u1 rfl ?_)
    refine wpAny_bind (updateSeq_IsTupOf2 (s := ⟨q1, gn, dr, tk1, os⟩) u1 fun g1 t1 hs1 => ?_)
    replace t1 : IsTupOf2 g1 TO x b := t1
    replace hs1 : Heap.SameBut TO q1 g1 := hs1
    refine wpAny_bind (wpAny_letGo (wpAny_pure ?_))
    refine wpAny_bind (wpAny_bind (wpAny_onRaise ?_))
    show wpAny _ _ (Builtin.SmallTypes.nextOf (.ref i2) >>= _) _ _ ⟨g1, gn, dr, tk1, os⟩
    refine wpAny_bind (D2.item i _ _ _ l2 (D2.over (D2.over (D2.over st2 hs0 S.zf2) hq1 S.sep1_2) hs1 S.Tf2) fun y q2 tk2 hy sn2 hq2 => wpAny_pure ?_)
    replace hq2 : Heap.SameBut i2 g1 q2 := hq2
    have u2 : IsTupOf2 q2 TO x b := hq2.extBut _ _ S.Ti2 t1
    refine wpAny_bind (wpAny_seqItems (s := ⟨q2, gn, dr, tk2, os⟩) u2 rfl ?_)
    refine wpAny_bind (updateSeq_IsTupOf2 (s := ⟨q2, gn, dr, tk2, os⟩) u2 fun g2 t2 hs2 => ?_)
    replace t2 : IsTupOf2 g2 TO x y := t2
    replace hs2 : Heap.SameBut TO q2 g2 := hs2
    refine wpAny_bind (wpAny_letGo (wpAny_pure (wpAny_pure ?_)))
    refine wpAny_bind (wpAny_seqItems (s := ⟨g2, gn, dr, tk2, os⟩) t2 rfl ?_)
    refine wpAny_bind (wpAny_newTuple ?_)
    have sz : g2.objs.size = hp.objs.size := by rw [hs2.1, hq2.1, hs1.1, hq1.1, hs0.1]
    have zz : g2.get? z = some (ZRec .ellipsis f TI TO) := hs2.extBut _ _ S.TOz.symm (hq2.extBut _ _ S.zi2 (hs1.extBut _ _ S.TOz.symm (hq1.extBut _ _ S.zi1 hz0)))
    have kk : ∀ c o, c ≠ z → c ≠ TO → c ≠ i1 → c ≠ i2 → hp.get? c = some o → g2.get? c = some o := fun c o cz cT c1 c2 e => hs2.extBut _ _ cT (hq2.extBut _ _ c2 (hs1.extBut _ _ cT (hq1.extBut _ _ c1 (hs0.extBut _ _ cz e))))
    have j1 : St1 (i + 1) g2 := D1.over (D1.over (D1.over sn1 hs1 S.Tf1) hq2 S.sep2_1) hs2 S.Tf1
    have j2 : St2 (i + 1) g2 := D2.over sn2 hs2 S.Tf2
    show wpAny _ _ (Builtin.SmallTypes.ownedTupleHandOut (.ref z) (.ref g2.objs.size) >>= _) _ _ ⟨g2.push { cls := .type "tuple", data := .seq #[x, y] }, gn, dr, tk2, os⟩
    refine wpAny_bind ?_
    unfold Builtin.SmallTypes.ownedTupleHandOut
    have z6 : (g2.push { cls := .type "tuple", data := .seq #[x, y] }).get? z = some (ZRec .ellipsis f TI TO) := Heap.get?_push_of_some _ zz
    refine wpAny_bind (wpAny_setField_rec z6 (by simp) fun h7 z7 s7 => ?_)
    replace z7 : h7.get? z = some (ZRec (rawInt g2.objs.size) f TI TO) := z7
    refine wpAny_setField_rec z7 (by simp) fun h8 z8 s8 => ?_
    replace z8 : h8.get? z = some (ZRec (rawInt g2.objs.size) false TI TO) := z8
    replace s7 : Heap.SameBut z (g2.push { cls := .type "tuple", data := .seq #[x, y] }) h7 := s7
    replace s8 : Heap.SameBut z h7 h8 := s8
    have up : ∀ c o, c ≠ z → g2.get? c = some o → h8.get? c = some o := fun c o c1 e => s8.extBut _ _ c1 (s7.extBut _ _ c1 (Heap.get?_push_of_some _ e))
    have zl2 : z < g2.objs.size := by rw [sz]; exact zlt
    have t8 : IsTupOf2 h8 g2.objs.size x y := s8.extBut _ _ (Nat.ne_of_gt zl2) (s7.extBut _ _ (Nat.ne_of_gt zl2) (Heap.get?_push_size _ rfl))
    have sz8 : h8.objs.size = g2.objs.size + 1 := by rw [s8.1, s7.1, Heap.size_push]
    refine wpAny_pure ⟨_, rfl, ?_⟩
    show Q (.ref g2.objs.size) ⟨h8, gn, dr, tk2, os⟩
    rw [sz] at z8 t8 sz8 ⊢
    exact hQ x y h8 tk2 hx hy ⟨_, _, .inr ⟨_, rfl⟩, z8⟩ ⟨_, _, up _ _ S.TOz t2⟩ (D1.frame _ _ _ j1 fun c hc o e => up c o (fun q => S.zf1 (q ▸ hc)) e) (D2.frame _ _ _ j2 fun c hc o e => up c o (fun q => S.zf2 (q ▸ hc)) e) t8 sz8 fun c o cz cT c1 c2 e => up c o cz (kk c o cz cT c1 c2 e)
  · -- a new pair
    replace hs0 : Heap.SameBut z hp g0 := hs0
    simp only [Bool.false_eq_true, if_false]
    refine wpAny_bind ?_
    rw [← Array.forIn_toList]
    simp only [List.forIn_cons, List.forIn_nil]
    refine wpAny_bind (wpAny_bind (wpAny_holding ?_))
    show wpAny _ _ (Builtin.SmallTypes.nextOf (.ref i1) >>= _) _ _ ⟨g0, gn, dr, tk0, os⟩
    refine wpAny_bind (D1.item i _ _ _ l1 (D1.over st1 hs0 S.zf1) fun x q1 tk1 hx sn1 hq1 => wpAny_pure ?_)
    replace hq1 : Heap.SameBut i1 g0 q1 := hq1
    refine wpAny_pure ?_
    refine wpAny_bind (wpAny_bind (wpAny_holding ?_))
    show wpAny _ _ (Builtin.SmallTypes.nextOf (.ref i2) >>= _) _ _ ⟨q1, gn, dr, tk1, os⟩
    refine wpAny_bind (D2.item i _ _ _ l2 (D2.over (D2.over st2 hs0 S.zf2) hq1 S.sep1_2) fun y q2 tk2 hy sn2 hq2 => wpAny_pure ?_)
    replace hq2 : Heap.SameBut i2 q1 q2 := hq2
    refine wpAny_pure (wpAny_pure ?_)
    show wpAny _ _ (newTuple [x, y] >>= _) _ _ ⟨q2, gn, dr, tk2, os⟩
    refine wpAny_bind (wpAny_newTuple ?_)
    have sz : q2.objs.size = hp.objs.size := by rw [hq2.1, hq1.1, hs0.1]
    have zz : q2.get? z = some (ZRec own true TI TO) := hq2.extBut _ _ S.zi2 (hq1.extBut _ _ S.zi1 hz0)
    have kk : ∀ c o, c ≠ z → c ≠ i1 → c ≠ i2 → hp.get? c = some o → q2.get? c = some o := fun c o cz c1 c2 e => hq2.extBut _ _ c2 (hq1.extBut _ _ c1 (hs0.extBut _ _ cz e))
    have up : ∀ c o, q2.get? c = some o → (q2.push { cls := .type "tuple", data := .seq #[x, y] }).get? c = some o := fun c o e => Heap.get?_push_of_some _ e
    have t8 : IsTupOf2 (q2.push { cls := .type "tuple", data := .seq #[x, y] }) q2.objs.size x y := Heap.get?_push_size _ rfl
    have sz8 : (q2.push { cls := .type "tuple", data := .seq #[x, y] }).objs.size = q2.objs.size + 1 := Heap.size_push ..
    refine wpAny_pure ⟨_, rfl, ?_⟩
    show Q (.ref q2.objs.size) ⟨_, gn, dr, tk2, os⟩
    rw [sz] at t8 sz8 ⊢
    exact hQ x y _ tk2 hx hy ⟨_, _, ho, up _ _ zz⟩ ⟨_, _, up _ _ (kk _ _ S.TOz S.Ti1 S.Ti2 hTO)⟩ (D1.frame _ _ _ (D1.over sn1 hq2 S.sep2_1) fun c hc o e => up c o e) (D2.frame _ _ _ sn2 fun c hc o e => up c o e) t8 sz8 fun c o cz _ c1 c2 e => up c o (kk c o cz c1 c2 e)
theorem zip_any_end {Q : Fin → Shared → Prop} (S : ZipSep2 z TI TO i1 i2 fp1 fp2) (D1 : Draws prog w A i1 fp1 n1 P1 St1) (D2 : Draws prog w A i2 fp2 n2 P2 St2)
    (hz : ZipAt s.heap z TI TO) (hTI : IsTupOf2 s.heap TI (.ref i1) (.ref i2)) (hTO : ∃ a b, IsTupOf2 s.heap TO a b) (st1 : St1 i s.heap) (st2 : St2 i s.heap) (e1 : i ≤ n1) (e2 : i ≤ n2) (hend : i = n1 ∨ i = n2)
    (hE : ∀ h' tk e, (∀ c o, c ≠ z → c ≠ TO → c ≠ i1 → c ≠ i2 → s.heap.get? c = some o → h'.get? c = some o) → (∃ o, h'.get? e = some o ∧ o.cls = .type "StopIteration") → E (.ref e) { s with heap := h', toks := tk }) :
    wpAny (model prog w) A (Builtin.«zip.__next__» ⟨[.ref z], []⟩) Q E s := by
  obtain ⟨own, f, ho, hz⟩ := hz
  obtain ⟨a, b, hTO⟩ := hTO
  obtain ⟨hp, gn, dr, tk0, os⟩ := s
  show wpAny _ _ (field (.ref z) 2 >>= _) _ _ _
  refine wpAny_bind (wpAny_field hz rfl (x := .bool false) rfl ?_)
  show wpAny _ _ (field (.ref z) 3 >>= _) _ _ _
  refine wpAny_bind (wpAny_field hz rfl (x := .ref TI) rfl ?_)
  refine wpAny_bind (wpAny_seqItems hTI rfl ?_)
  show wpAny _ _ (Builtin.SmallTypes.ownedTupleIsFree (.ref z) >>= _) _ _ _
  refine wpAny_bind (own_ask ho hz ?_ fun g0 hz0 hs0 => ?_)
  · simp only [if_true]
    refine wpAny_bind (wpAny_rule ?_)
    refine wpAny_bind (wpAny_field hz rfl (x := .ref TO) rfl ?_)
    refine wpAny_bind (wpAny_setField_rec hz (by simp) fun g0 hz0 hs0 => ?_)
    replace hz0 : g0.get? z = some (ZRec .ellipsis f TI TO) := hz0
    replace hs0 : Heap.SameBut z hp g0 := hs0
    have fin : ∀ (q : Heap) (tk : Nat) (e : Addr) (it : Addr) (k : ∀ c o, c ≠ z → c ≠ TO → c ≠ i1 → c ≠ i2 → hp.get? c = some o → q.get? c = some o) (zq : q.get? z = some (ZRec .ellipsis f TI TO)) (he : ∃ o, q.get? e = some o ∧ o.cls = .type "StopIteration"),
        wpAny (model prog w) A (setField (.ref z) 0 .none) (fun _ s2 => E (.ref e) s2) E ⟨q, gn, dr, tk, os⟩ := by
      rintro q tk e it k zq ⟨oe, ge, ce⟩
      have ez : e ≠ z := fun x => by rw [x, zq] at ge; cases ge; simp at ce
      refine wpAny_setField_rec (s := ⟨q, gn, dr, tk, os⟩) zq (by simp) fun q' _ hq' => ?_
      replace hq' : Heap.SameBut z q q' := hq'
      exact hE q' tk e (fun c o cz cT c1 c2 x => hq'.extBut _ _ cz (k c o cz cT c1 c2 x)) ⟨oe, hq'.extBut _ _ ez ge, ce⟩
    refine wpAny_bind ?_
    simp only [List.zipIdx_cons, List.zipIdx_nil, List.forIn_cons, List.forIn_nil]
    refine wpAny_bind (wpAny_bind (wpAny_onRaise ?_))
    show wpAny _ _ (Builtin.SmallTypes.nextOf (.ref i1) >>= _) _ _ ⟨g0, gn, dr, tk0, os⟩
    by_cases l1 : i < n1
    · refine wpAny_bind (D1.item i _ _ _ l1 (D1.over st1 hs0 S.zf1) fun x q1 tk1 hx sn1 hq1 => wpAny_pure ?_)
      replace hq1 : Heap.SameBut i1 g0 q1 := hq1
      have u1 : IsTupOf2 q1 TO a b := hq1.extBut _ _ S.Ti1 (hs0.extBut _ _ S.TOz hTO)
      refine wpAny_bind (wpAny_seqItems (s := ⟨q1, gn, dr, tk1, os⟩) u1 rfl ?_)
      refine wpAny_bind (updateSeq_IsTupOf2 (s := ⟨q1, gn, dr, tk1, os⟩) u1 fun g1 t1 hs1 => ?_)
      replace hs1 : Heap.SameBut TO q1 g1 := hs1
      refine wpAny_bind (wpAny_letGo (wpAny_pure ?_))
      have h2 : i = n2 := by omega
      refine wpAny_bind (wpAny_bind (wpAny_onRaise ?_))
      show wpAny _ _ (Builtin.SmallTypes.nextOf (.ref i2) >>= _) _ _ ⟨g1, gn, dr, tk1, os⟩
      refine wpAny_bind (D2.done ⟨g1, gn, dr, tk1, os⟩ _ _ (by rw [← h2]; exact D2.over (D2.over (D2.over st2 hs0 S.zf2) hq1 S.sep1_2) hs1 S.Tf2) fun q e hq he => ?_)
      replace hq : Heap.ExtBut i2 g1 q := hq
      exact fin q tk1 e i2 (fun c o cz cT c1 c2 x => hq _ _ c2 (hs1.extBut _ _ cT (hq1.extBut _ _ c1 (hs0.extBut _ _ cz x)))) (hq _ _ S.zi2 (hs1.extBut _ _ S.TOz.symm (hq1.extBut _ _ S.zi1 hz0))) he
    · have h1 : i = n1 := by omega
      refine wpAny_bind (D1.done ⟨g0, gn, dr, tk0, os⟩ _ _ (by rw [← h1]; exact D1.over st1 hs0 S.zf1) fun q e hq he => ?_)
      replace hq : Heap.ExtBut i1 g0 q := hq
      exact fin q tk0 e i1 (fun c o cz cT c1 c2 x => hq _ _ c1 (hs0.extBut _ _ cz x)) (hq _ _ S.zi1 hz0) he
  · replace hs0 : Heap.SameBut z hp g0 := hs0
    simp only [Bool.false_eq_true, if_false]
    refine wpAny_bind ?_
    rw [← Array.forIn_toList]
    simp only [List.forIn_cons, List.forIn_nil]
    refine wpAny_bind (wpAny_bind (wpAny_holding ?_))
    show wpAny _ _ (Builtin.SmallTypes.nextOf (.ref i1) >>= _) _ _ ⟨g0, gn, dr, tk0, os⟩
    by_cases l1 : i < n1
    · refine wpAny_bind (D1.item i _ _ _ l1 (D1.over st1 hs0 S.zf1) fun x q1 tk1 hx sn1 hq1 => wpAny_pure ?_)
      replace hq1 : Heap.SameBut i1 g0 q1 := hq1
      refine wpAny_pure ?_
      have h2 : i = n2 := by omega
      refine wpAny_bind (wpAny_bind (wpAny_holding ?_))
      show wpAny _ _ (Builtin.SmallTypes.nextOf (.ref i2) >>= _) _ _ ⟨q1, gn, dr, tk1, os⟩
      refine wpAny_bind (D2.done ⟨q1, gn, dr, tk1, os⟩ _ _ (by rw [← h2]; exact D2.over (D2.over st2 hs0 S.zf2) hq1 S.sep1_2) fun q e hq he => ?_)
      replace hq : Heap.ExtBut i2 q1 q := hq
      exact hE q tk1 e (fun c o cz cT c1 c2 x => hq _ _ c2 (hq1.extBut _ _ c1 (hs0.extBut _ _ cz x))) he
    · have h1 : i = n1 := by omega
      refine wpAny_bind (D1.done ⟨g0, gn, dr, tk0, os⟩ _ _ (by rw [← h1]; exact D1.over st1 hs0 S.zf1) fun q e hq he => ?_)
      replace hq : Heap.ExtBut i1 g0 q := hq
      exact hE q tk0 e (fun c o cz cT c1 c2 x => hq _ _ c1 (hs0.extBut _ _ cz x)) he
end

section
variable {prog : Program} {w : World} {A : Around} {E : Value → Shared → Prop} {s : Shared} {e z TI TO i1 i2 : Addr} {fp1 fp2 : List Addr} {n1 n2 i : Nat} {k : Int} {P1 P2 : Nat → Value → Prop} {St1 St2 : Nat → Heap → Prop} {old : Value}
theorem enumZ_item {Q : Option Value → Shared → Prop} (S : ZipSep2 z TI TO i1 i2 fp1 fp2) (D1 : Draws prog w A.in1.in1 i1 fp1 n1 P1 St1) (D2 : Draws prog w A.in1.in1 i2 fp2 n2 P2 St2) (he : IsEnum s.heap e z k old) (ez : e ≠ z) (eT : e ≠ TO) (e1 : e ≠ i1) (e2 : e ≠ i2)
    (hz : ZipAt s.heap z TI TO) (hTI : IsTupOf2 s.heap TI (.ref i1) (.ref i2)) (hTO : ∃ a b, IsTupOf2 s.heap TO a b) (st1 : St1 i s.heap) (st2 : St2 i s.heap) (l1 : i < n1) (l2 : i < n2)
    (hQ : ∀ x y h1 h' tk, P1 i x → P2 i y → ZipAt h1 z TI TO → (∃ a b, IsTupOf2 h1 TO a b) → St1 (i + 1) h1 → St2 (i + 1) h1 → IsTupOf2 h1 s.heap.objs.size x y → h1.objs.size = s.heap.objs.size + 1 →
      (∀ c o, c ≠ z → c ≠ TO → c ≠ i1 → c ≠ i2 → s.heap.get? c = some o → h1.get? c = some o) →
      IsEnumOut h' e z (k + 1) (.ref s.heap.objs.size) h1.objs.size → h'.get? h1.objs.size = some { cls := .type "tuple", data := .seq #[.int k tk, .ref s.heap.objs.size] } → (∀ c o, c ≠ e → h1.get? c = some o → h'.get? c = some o) →
      Q (some (.ref h1.objs.size)) { s with heap := h', toks := tk + 1 }) : wpAny (model prog w) A (pyNext (.ref e)) Q E s := by
  have ty : s.TypeIs (.ref e) "enumerate" := ⟨_, he, rfl⟩
  obtain ⟨hp, gn, dr, tk0, os⟩ := s
  have tz : (⟨hp, gn, dr, tk0, os⟩ : Shared).TypeIs (.ref z) "zip" := let ⟨_, _, _, q⟩ := hz; ⟨_, q, rfl⟩
  unfold pyNext
  refine wpAny_bind (wpAny_attempt (wpAny_callSpecial?_slot (name := Str.ofString "__next__") ty F.slot_enumerate_next (wpAny_call_entry F.slot_enumerate_next ty F.entry_enumerate_next ?_ (F.args_enumerate_next_1 _))))
  show wpAny _ _ (field (.ref e) 2 >>= _) _ _ _
  refine wpAny_bind (wpAny_field he rfl (x := .ref z) rfl ?_)
  refine wpAny_bind ?_
  unfold Builtin.SmallTypes.nextOf
  refine wpAny_bind (wpAny_callSpecial?_slot (name := Str.ofString "__next__") tz F.slot_zip_next (wpAny_call_entry F.slot_zip_next tz F.entry_zip_next ?_ (F.args_zip_next_1 _)))
  refine zip_any S D1 D2 hz hTI hTO st1 st2 l1 l2 fun x y h1 tk hx hy z1 t1 s1 s2 p1 sz1 k1 => wpAny_pure ?_
  replace k1 : ∀ c o, c ≠ z → c ≠ TO → c ≠ i1 → c ≠ i2 → hp.get? c = some o → h1.get? c = some o := k1
  have he1 : IsEnum h1 e z k old := k1 _ _ ez eT e1 e2 he
  show wpAny _ _ (field (.ref e) 3 >>= _) _ _ ⟨h1, gn, dr, tk, os⟩
  refine wpAny_bind (wpAny_field he1 rfl (x := rawInt k) rfl ?_)
  show wpAny _ _ (field (.ref e) 4 >>= _) _ _ ⟨h1, gn, dr, tk, os⟩
  refine wpAny_bind (wpAny_field he1 rfl (x := .none) rfl ?_)
  show wpAny _ _ (mkInt k >>= _) _ _ ⟨h1, gn, dr, tk, os⟩
  refine wpAny_bind (wpAny_mkInt ?_)
  show wpAny _ _ (setField (.ref e) 3 (rawInt (k + 1)) >>= _) _ _ ⟨h1, gn, dr, tk + 1, os⟩
  refine wpAny_bind (wpAny_setField_rec he1 (by simp) fun h2 he2 b2 => ?_)
  replace b2 : Heap.SameBut e h1 h2 := b2
  replace he2 : IsEnum h2 e z (k + 1) old := he2
  show wpAny _ _ (setField (.ref e) 4 .none >>= _) _ _ ⟨h2, gn, dr, tk + 1, os⟩
  refine wpAny_bind (wpAny_setField_rec he2 (by simp) fun h3 he3 b3 => ?_)
  replace b3 : Heap.SameBut e h2 h3 := b3
  replace he3 : IsEnum h3 e z (k + 1) old := he3
  show wpAny _ _ (newTuple [.int k tk, .ref hp.objs.size] >>= _) _ _ ⟨h3, gn, dr, tk + 1, os⟩
  refine wpAny_bind (wpAny_newTuple ?_)
  have sz3 : h3.objs.size = h1.objs.size := by rw [b3.1, b2.1]
  have elt : e < h1.objs.size := Heap.lt_size he1
  have he4 : IsEnum (h3.push { cls := .type "tuple", data := .seq #[.int k tk, .ref hp.objs.size] }) e z (k + 1) old := Heap.get?_push_of_some _ he3
  have t4 : (h3.push { cls := .type "tuple", data := .seq #[.int k tk, .ref hp.objs.size] }).get? h1.objs.size = some { cls := .type "tuple", data := .seq #[.int k tk, .ref hp.objs.size] } := by rw [← sz3]; exact Heap.get?_push_size _ rfl
  have k4 : ∀ c o, c ≠ e → h1.get? c = some o → (h3.push { cls := .type "tuple", data := .seq #[.int k tk, .ref hp.objs.size] }).get? c = some o := fun c o ce q => Heap.get?_push_of_some _ (b3.extBut _ _ ce (b2.extBut _ _ ce q))
  generalize h3.push { cls := .type "tuple", data := .seq #[.int k tk, .ref hp.objs.size] } = h4 at he4 t4 k4
  show wpAny _ _ (Builtin.SmallTypes.ownedTupleIsFree (.ref e) >>= _) _ _ ⟨h4, gn, dr, tk + 1, os⟩
  rw [sz3]
  refine wpAny_bind ?_
  unfold Builtin.SmallTypes.ownedTupleIsFree
  refine wpAny_bind (wpAny_field he4 rfl (x := .none) rfl (wpAny_pure ?_))
  simp only [if_true]
  refine wpAny_bind (wpAny_rule (wpAny_bind (wpAny_field he4 rfl (x := old) rfl ?_)))
  refine wpAny_bind (wpAny_setField_rec he4 (by simp) fun h5 he5 b5 => ?_)
  replace b5 : Heap.SameBut e h4 h5 := b5
  replace he5 : IsEnum h5 e z (k + 1) (.ref hp.objs.size) := he5
  show wpAny _ _ (Builtin.SmallTypes.ownedTupleHandOut (.ref e) (.ref h1.objs.size) >>= _) _ _ ⟨h5, gn, dr, tk + 1, os⟩
  refine wpAny_bind ?_
  unfold Builtin.SmallTypes.ownedTupleHandOut
  refine wpAny_bind (wpAny_setField_rec he5 (by simp) fun h6 he6 b6 => ?_)
  replace b6 : Heap.SameBut e h5 h6 := b6
  replace he6 : IsEnumOut h6 e z (k + 1) (.ref hp.objs.size) h1.objs.size := he6
  refine wpAny_setField_rec he6 (by simp) fun h7 he7 b7 => ?_
  replace b7 : Heap.SameBut e h6 h7 := b7
  replace he7 : IsEnumOut h7 e z (k + 1) (.ref hp.objs.size) h1.objs.size := he7
  have up : ∀ c o, c ≠ e → h4.get? c = some o → h7.get? c = some o := fun c o ce q => b7.extBut _ _ ce (b6.extBut _ _ ce (b5.extBut _ _ ce q))
  exact wpAny_bind (wpAny_letGo (wpAny_pure ⟨_, rfl, wpAny_pure (hQ x y h1 h7 tk hx hy z1 t1 s1 s2 p1 sz1 k1 he7 (up _ _ (Nat.ne_of_gt elt) t4) fun c o ce q => up c o ce (k4 c o ce q))⟩))
theorem enumZ_end {Q : Option Value → Shared → Prop} (S : ZipSep2 z TI TO i1 i2 fp1 fp2) (D1 : Draws prog w A.in1.in1 i1 fp1 n1 P1 St1) (D2 : Draws prog w A.in1.in1 i2 fp2 n2 P2 St2) (he : IsEnum s.heap e z k old)
    (hz : ZipAt s.heap z TI TO) (hTI : IsTupOf2 s.heap TI (.ref i1) (.ref i2)) (hTO : ∃ a b, IsTupOf2 s.heap TO a b) (st1 : St1 i s.heap) (st2 : St2 i s.heap) (l1 : i ≤ n1) (l2 : i ≤ n2) (hend : i = n1 ∨ i = n2)
    (hQ : ∀ h' tk, (∀ c o, c ≠ z → c ≠ TO → c ≠ i1 → c ≠ i2 → s.heap.get? c = some o → h'.get? c = some o) → Q none { s with heap := h', toks := tk }) : wpAny (model prog w) A (pyNext (.ref e)) Q E s := by
  have ty : s.TypeIs (.ref e) "enumerate" := ⟨_, he, rfl⟩
  have tz : s.TypeIs (.ref z) "zip" := let ⟨_, _, _, q⟩ := hz; ⟨_, q, rfl⟩
  unfold pyNext
  refine wpAny_bind (wpAny_attempt (wpAny_callSpecial?_slot (name := Str.ofString "__next__") ty F.slot_enumerate_next (wpAny_call_entry F.slot_enumerate_next ty F.entry_enumerate_next ?_ (F.args_enumerate_next_1 _))))
  show wpAny _ _ (field (.ref e) 2 >>= _) _ _ _
  refine wpAny_bind (wpAny_field he rfl (x := .ref z) rfl ?_)
  refine wpAny_bind ?_
  unfold Builtin.SmallTypes.nextOf
  refine wpAny_bind (wpAny_callSpecial?_slot (name := Str.ofString "__next__") tz F.slot_zip_next (wpAny_call_entry F.slot_zip_next tz F.entry_zip_next ?_ (F.args_zip_next_1 _)))
  refine zip_any_end S D1 D2 hz hTI hTO st1 st2 l1 l2 hend fun h1 tk x k1 hx => ?_
  obtain ⟨o, ho, hc⟩ := hx
  refine wpAny_bind (wpAny_isInstance (T := "StopIteration") (b := true) ⟨o, ho, hc⟩ isSubtype_stop ?_)
  exact wpAny_pure (hQ _ _ k1)
end
/-- two tuples, walked side by side with their place -/
def ItEZ (K : PySem.W.Frag) (a b : Addr) : It :=
  ⟨fun i H => ∃ (xs ys : List V) (x y : V), SqT K H a xs ∧ SqT K H b ys ∧ xs[i]? = some x ∧ ys[i]? = some y,
    fun i H v H' => ∃ T U x y, v = .ref U ∧ H T = none ∧ upd H T (.tup [x, y]) U = none ∧ H' = upd (upd H T (.tup [x, y])) U (.tup [.int (i : Nat), .ref T]) ∧ (∀ xs, SqT K H a xs → xs[i]? = some x) ∧ ∀ ys, SqT K H b ys → ys[i]? = some y,
    fun i H => ∃ xs ys : List V, SqT K H a xs ∧ SqT K H b ys ∧ i = min xs.length ys.length⟩
theorem turn_enumZ {P : Program} {w : World} {K : PySem.W.Frag} {elts : List Expr} {kk : Nat} {tpos : Pos} {a b e z TI TO i1 i2 : Addr} (S : ZipSep2 z TI TO i1 i2 [i1, a] [i2, b]) (ez : e ≠ z) (eI : e ≠ TI) (eT : e ≠ TO) (e1 : e ≠ i1) (e2 : e ≠ i2) (ea : e ≠ a) (eb : e ≠ b) (h1a : a ≠ i1) (h2b : b ≠ i2) :
    Turn P w K (.Tuple elts kk tpos) (ItEZ K a b) [e, z, TI, TO, i1, i2] e (fun i h => (∃ old, IsEnum h e z ((i : Nat) : Int) old) ∧ ZipAt h z TI TO ∧ IsTupOf2 h TI (.ref i1) (.ref i2) ∧ (∃ x y, IsTupOf2 h TO x y) ∧ h.IsTupleIter i1 a i ∧ h.IsTupleIter i2 b i) := by
  have hmem : ∀ {c : Addr}, c ∈ [e, z, TI, TO, i1, i2] → c = e ∨ c = z ∨ c = TI ∨ c = TO ∨ c = i1 ∨ c = i2 := fun h => by simpa using h
  refine ⟨by simp, ?_, ?_, ?_, ?_, ?_⟩
  · rintro i h ⟨⟨old, q⟩, ⟨ow, f, _, qz⟩, qI, ⟨x, y, qO⟩, ⟨o1, g1, _, d1⟩, ⟨o2, g2, _, d2⟩⟩ c hc
    rcases hmem hc with r | r | r | r | r | r <;> rw [r]
    · exact ⟨_, q, fun v u => nomatch u⟩
    · exact ⟨_, qz, fun v u => nomatch u⟩
    · exact ⟨_, qI, fun v u => nomatch u⟩
    · exact ⟨_, qO, fun v u => nomatch u⟩
    · exact ⟨o1, g1, fun v u => by rw [d1] at u; cases u⟩
    · exact ⟨o2, g2, fun v u => by rw [d2] at u; cases u⟩
  · rintro i h h' ⟨⟨old, q⟩, ⟨ow, f, hw, qz⟩, qI, ⟨x, y, qO⟩, q1, q2⟩ k
    exact ⟨⟨old, k e (by simp) _ q⟩, ⟨ow, f, hw, k z (by simp) _ qz⟩, k TI (by simp) _ qI, ⟨x, y, k TO (by simp) _ qO⟩, q1.at fun o u => k i1 (by simp) o u, q2.at fun o u => k i2 (by simp) o u⟩
  · intro X hP hw hK hc i pins s σ H E I hf st hg
    subst hP hw hK
    obtain ⟨⟨old, q⟩, qz, qI, qO, q1, q2⟩ := st
    obtain ⟨xs, ys, x, y, hqx, hqy, hx, hy⟩ := hg
    obtain ⟨its, rv, p, _⟩ := I.tuple hqx
    obtain ⟨its2, rv2, p2, _⟩ := I.tuple hqy
    obtain ⟨u, hu, ru⟩ := rv.get hx
    obtain ⟨u2, hu2, ru2⟩ := rv2.get hy
    have lt1 := (List.getElem?_eq_some_iff.mp hu).1
    have lt2 := (List.getElem?_eq_some_iff.mp hu2).1
    have zlt : z < s.heap.objs.size := let ⟨_, _, _, r⟩ := qz; Heap.lt_size r
    have elt : e < s.heap.objs.size := Heap.lt_size q
    have d1 := Draws.tuple (prog := X.prog) (w := X.w) (A := X.A.in1.in1) (I.ok.hd hc) i1 a h1a its.toArray
    have d2 := Draws.tuple (prog := X.prog) (w := X.w) (A := X.A.in1.in1) (I.ok.hd hc) i2 b h2b its2.toArray
    refine enumZ_item S d1 d2 q ez eT e1 e2 qz qI qO ⟨q1, p⟩ ⟨q2, p2⟩ (by simpa using lt1) (by simpa using lt2) fun v v2 h1 h' tk hv hv2 z1 t1 s1 s2 pr sz1 k1 o1 pU k2 => ?_
    have ev : v = u := by
      have r : its.toArray[i]? = some v := hv
      simp at r
      rw [hu] at r; cases r; rfl
    have ev2 : v2 = u2 := by
      have r : its2.toArray[i]? = some v2 := hv2
      simp at r
      rw [hu2] at r; cases r; rfl
    subst ev ev2
    refine ⟨_, rfl, wpAny_letOwnedTupleGo_enum (s := { s with heap := h', toks := tk + 1 }) o1 fun h2 o2 sb => ?_⟩
    have nw1 : ObjOk X.prog X.w (upd H s.heap.objs.size (.tup [x, y])) h1 s.heap.objs.size (.tup [x, y]) := ⟨(show 2 ≤ sizeLine by decide), [v, v2], .cons ru (.cons ru2 .nil), ⟨_, pr, rfl, _, rfl⟩⟩
    have I1 := I.turnedNew (t' := tk) (h' := h1) (ch := [e, z, TI, TO, i1, i2]) (fun c o hb r => k1 c o (fun t => hb (by simp [t])) (fun t => hb (by simp [t])) (fun t => hb (by simp [t])) (fun t => hb (by simp [t])) r) hf (Nat.le_refl _) nw1
    have hlt : ∀ c ∈ [e, z, TI, TO, i1, i2], c < s.heap.objs.size := fun c hc => by
      rcases hmem hc with r | r | r | r | r | r <;> rw [r]
      · exact elt
      · exact zlt
      · exact Heap.lt_size qI
      · obtain ⟨_, _, qO⟩ := qO; exact Heap.lt_size qO
      · obtain ⟨_, r, _⟩ := q1; exact Heap.lt_size r
      · obtain ⟨_, r, _⟩ := q2; exact Heap.lt_size r
    have hT2 := (sb.2 _ (Nat.ne_of_gt (Nat.lt_of_lt_of_le elt (by rw [sz1]; exact Nat.le_succ _)))).trans pU
    have nw2 : ObjOk X.prog X.w (upd (upd H s.heap.objs.size (.tup [x, y])) h1.objs.size (.tup [.int (i : Nat), .ref s.heap.objs.size])) h2 h1.objs.size (.tup [.int (i : Nat), .ref s.heap.objs.size]) :=
      ⟨(show 2 ≤ sizeLine by decide), [.int i tk, .ref s.heap.objs.size], .cons ⟨_, rfl⟩ (.cons rfl .nil), ⟨_, hT2, rfl, _, rfl⟩⟩
    have hf1 : ∀ c ∈ [e], FpOk X pins (upd H s.heap.objs.size (.tup [x, y])) c := fun c hc => by
      cases List.mem_singleton.mp hc
      exact ⟨by rw [upd_ne (Nat.ne_of_lt elt)]; exact (hf e (by simp)).1, (hf e (by simp)).2⟩
    have I2 := I1.turnedNew (t' := tk + 1) (h' := h2) (ch := [e]) (fun c o hb r => (sb.2 c (fun t => hb (by simp [t]))).trans (k2 c o (fun t => hb (by simp [t])) r)) hf1 (Nat.le_refl _) nw2
    have up : ∀ c o, c ≠ e → h1.get? c = some o → h2.get? c = some o := fun c o ce r => (sb.2 c ce).trans (k2 c o ce r)
    refine ⟨.ref h1.objs.size, _, I2, (show RelV (.ref h1.objs.size) (.ref h1.objs.size) from rfl), ⟨_, _, x, y, rfl, I.hok.fresh (Nat.le_refl _), I1.hok.fresh (Nat.le_refl _), rfl, fun l hl => by rw [I.tuple_inj hl hqx]; exact hx, fun l hl => by rw [I.tuple_inj hl hqy]; exact hy⟩, ?_, fun c hc => ?_⟩
    · obtain ⟨ow, f, hw, z1⟩ := z1
      obtain ⟨r1, r2, t1⟩ := t1
      refine ⟨⟨.ref s.heap.objs.size, ?_⟩, ⟨ow, f, hw, up _ _ (Ne.symm ez) z1⟩, up _ _ (Ne.symm eI) (k1 _ _ S.TIz S.TITO S.TIi1 S.TIi2 qI), ⟨r1, r2, up _ _ (Ne.symm eT) t1⟩, s1.1.at fun o r => up _ o (Ne.symm e1) r, s2.1.at fun o r => up _ o (Ne.symm e2) r⟩
      rw [show ((i + 1 : Nat) : Int) = (i : Int) + 1 by omega]
      exact o2
    · have l := hlt c hc
      have l2 : c < h1.objs.size := by rw [sz1]; exact Nat.lt_succ_of_lt l
      rw [upd_ne (Nat.ne_of_lt l2), upd_ne (Nat.ne_of_lt l)]
      exact (hf c hc).1
  · intro X hP hw hK hc i pins s σ H E I hf st hg
    subst hP hw hK
    obtain ⟨⟨old, q⟩, qz, qI, qO, q1, q2⟩ := st
    obtain ⟨xs, ys, hqx, hqy, hi⟩ := hg
    obtain ⟨its, rv, p, _⟩ := I.tuple hqx
    obtain ⟨its2, rv2, p2, _⟩ := I.tuple hqy
    have l1 := rv.length
    have l2 := rv2.length
    have d1 := Draws.tuple (prog := X.prog) (w := X.w) (A := X.A.in1.in1) (I.ok.hd hc) i1 a h1a its.toArray
    have d2 := Draws.tuple (prog := X.prog) (w := X.w) (A := X.A.in1.in1) (I.ok.hd hc) i2 b h2b its2.toArray
    refine enumZ_end S d1 d2 q qz qI qO ⟨q1, p⟩ ⟨q2, p2⟩ (by simp; omega) (by simp; omega) (by simp; omega) fun h' tk k => ⟨rfl, I.turnedL (t' := tk) (ch := [e, z, TI, TO, i1, i2]) (fun c o hb r => k c o (fun t => hb (by simp [t])) (fun t => hb (by simp [t])) (fun t => hb (by simp [t])) (fun t => hb (by simp [t])) r) hf⟩
  · rintro A i s Q E ⟨⟨old, q⟩, _⟩ h
    exact wpAny_pyIter_enum q h
def iEnumZ (K : PySem.W.Frag) (ta : TA) : TI := fun σ H R => ta σ H fun vs H1 => ∃ a b xs ys, vs = [.ref a, .ref b] ∧ SqT K H1 a xs ∧ SqT K H1 b ys ∧ R (ItEZ K a b) H1
theorem pi_enumZ {X : Cx} {x y : Expr} {ta : TA} {p p2 pos2 pos tpos : Pos} {elts : List Expr} {kk : Nat} (hg : Gl X "enumerate") (hm : X.mg "enumerate" = none) (hg2 : Gl X "zip") (hm2 : X.mg "zip" = none) (ha : PA X [x, y] ta)
    (hs : starEach [.Call (.Name "zip" p2) [x, y] [] pos2] X.env = [(false, eval (.Call (.Name "zip" p2) [x, y] [] pos2) X.env)]) (hs2 : starEach [x, y] X.env = (false, eval x X.env) :: starEach [y] X.env) (hpl : (backTo pos2 (starEach [y] X.env)).any (·.1) = false) :
    PI X (.Tuple elts kk tpos) (.Call (.Name "enumerate" p) [.Call (.Name "zip" p2) [x, y] [] pos2] [] pos) (iEnumZ X.K ta) := by
  constructor
  intro pins s σ H R I h
  refine PyProof.Rows.Call_ (ld_blt I hg hm PyProof.Rows.boot_enumerate (PyProof.Rows.callWith_type1 ?_ hs rfl))
  rw [hs]
  show wpAny _ _ (spliced ((false, eval (.Call (.Name "zip" p2) [x, y] [] pos2) X.env) :: [])) _ _ s
  refine Calls.spliced_cons ?_
  refine PyProof.Rows.Call_ (ld_blt I hg2 hm2 PyProof.Rows.boot_zip (PyProof.Rows.callWith_type1 (thn (ha.run pos2 pins s σ H _ I h) fun us s1 q0 => ?_) hs2 hpl))
  obtain ⟨vs, H1, I1, r1, a, b, xs, ys, ex, hqx, hqy, q⟩ := q0
  subst ex
  cases r1 with
  | cons r rr =>
    cases rr with
    | cons r' rr =>
      cases rr
      cases r
      cases r'
      obtain ⟨its, rv, p1, _⟩ := I1.tuple hqx
      obtain ⟨its2, rv2, p2, _⟩ := I1.tuple hqy
      have pa : s1.heap.IsTuple a its.toArray := p1
      have pb : s1.heap.IsTuple b its2.toArray := p2
      have la : a < s1.heap.objs.size := let ⟨_, t, _⟩ := pa; Heap.lt_size t
      have lb : b < s1.heap.objs.size := let ⟨_, t, _⟩ := pb; Heap.lt_size t
      refine RZ.call_zipT pa pb fun h1 hz hTI hTO hi1 hi2 sz k1 => Calls.spliced_nil ?_
      refine call_enum1 (ia := fun _ => s1.heap.objs.size + 4) (mk := fun h => h) (Hh := fun h => h = h1) (fun _ _ _ _ t _ ht hq => wpAny_pyIter_zip (by rw [ht]; exact hz) hq) rfl fun h2 he k2 => wpAny_pyIter_enum he ?_
      generalize hN : s1.heap.objs.size = N at *
      have sz' : h1.objs.size = N + 5 := sz
      simp only [sz'] at he ⊢
      have I2 : Inv X pins σ H1 { s1 with heap := h2 } := I1.kept (t' := s1.toks) fun c o t => k2 _ _ (k1 _ _ t)
      have nn : ∀ (m : Nat) (c : Addr), c < N → N + m ≠ c := fun m c hc t => by
        have : N + m < N := by rw [t]; exact hc
        omega
      have aN : a ≠ N := Nat.ne_of_lt la
      have bN : b ≠ N + 1 := Ne.symm (nn 1 b lb)
      refine ⟨N + 5, [N + 5, N + 4, N + 2, N + 3, N, N + 1], _, _, H1, rfl, I2, turn_enumZ (a := a) (b := b) ?_ (by simp) (by simp) (by simp) (by simp) (by simp) (nn 5 a la) (nn 5 b lb) aN bN, ⟨⟨.none, he⟩, ⟨_, _, .inl rfl, k2 _ _ hz⟩, k2 _ _ hTI, ⟨_, _, k2 _ _ hTO⟩, hi1.at fun o t => k2 _ o t, hi2.at fun o t => k2 _ o t⟩, fun c hc => ?_, q⟩
      · have n1 := nn 1
        have n3 := nn 3
        have n4 := nn 4
        exact ⟨by simp, by simp, by simp, by simp, by simp, by simp [n4 a la], by simp [n3 a la], by simp, by simp, by simp [n4 b lb], by simp [n3 b lb], by simp [Ne.symm (Nat.ne_of_lt lb)], by simp [n1 a la]⟩
      · have hle : s1.heap.objs.size ≤ c := by
          rw [hN]
          have : c = N + 5 ∨ c = N + 4 ∨ c = N + 2 ∨ c = N + 3 ∨ c = N ∨ c = N + 1 := by simpa using hc
          rcases this with t | t | t | t | t | t <;> rw [t] <;> first | exact Nat.le_refl _ | exact Nat.le_add_right _ _
        exact I1.fpOk hle (I1.hok.fresh hle)

section
variable {g : Gb} {F : Fam g} {pos : Pos}
def ezD (xs ys : List D) : List D := enumD 0 (zipD xs ys)
theorem yl_enumZ {G0 : Hp} {as0 : List Addr} {a b : Addr} {vs ws : List V} {xs ys : List D} (s : SqT g.K G0 a vs) (s2 : SqT g.K G0 b ws) (r : RpA g.K g.mg G0 as0 vs xs) (r2 : RpA g.K g.mg G0 as0 ws ys) : Yl g G0 as0 none (ezD xs ys) (ItEZ g.K a b) where
  go := fun i G H as st hi R hs hp _ => by
    have hl : i < xs.length ∧ i < ys.length := by simp [ezD, enumD_len, zipD] at hi; omega
    have hv : i < vs.length := by rw [r.len]; exact hl.1
    have hw : i < ws.length := by rw [r2.len]; exact hl.2
    exact ⟨vs, ws, vs[i], ws[i], sqT_H R (sqT_sub hs s), sqT_H R (sqT_sub hs s2), List.getElem?_eq_getElem hv, List.getElem?_eq_getElem hw⟩
  stop := fun G H as st R hs hp _ => ⟨vs, ws, sqT_H R (sqT_sub hs s), sqT_H R (sqT_sub hs s2), by rw [r.len, r2.len]; simp [ezD, enumD_len, zipD]⟩
  yld := fun i G H as st v H' x R hs hp _ hx y => by
    obtain ⟨T, U, u, w, rfl, hT, hU, rfl, y1, y2⟩ := y
    unfold ezD at hx
    rw [enumD_get] at hx
    obtain ⟨d, hd, rfl⟩ := Option.map_eq_some_iff.mp hx
    obtain ⟨x0, x1, h0, h1, rfl⟩ := zipD_get _ _ _ hd
    obtain ⟨u', e1, ru⟩ := r.get h0
    obtain ⟨w', e2, rw'⟩ := r2.get h1
    have e3 := y1 vs (sqT_H R (sqT_sub hs s))
    have e4 := y2 ws (sqT_H R (sqT_sub hs s2))
    rw [e1] at e3; cases e3
    rw [e2] at e4; cases e4
    obtain ⟨R1, X1⟩ := R.still (o := .tup [u, w]) hT
    obtain ⟨R2, X2⟩ := R1.still (o := .tup [.int (i : Nat), .ref T]) hU
    have rT : Rp g.K g.mg (upd G T (.tup [u, w])) as (.ref T) (.tup [x0, x1]) := .tup (.of upd_same) (.cons ((ru.mono hs hp).ext X1) (.cons ((rw'.mono hs hp).ext X1) .nil))
    refine ⟨_, R2, X1.trans X2, .tup (.of upd_same) (.cons ?_ (.cons (rT.ext X2) .nil))⟩
    rw [show ((0 + i : Nat) : Int) = (i : Int) by simp]
    exact .int _
def zipTT : D → D → Option (List D × List D)
  | .tup xs, .tup ys => some (xs, ys)
  | _, _ => none
def xenumZ (ma mb : XM D) : XM (List D × Option Nat) := xbind ma fun x => xbind mb fun y => fun _ st => match zipTT x y with
  | some (xs, ys) => .ok (ezD xs ys, none) st
  | none => .stuck
theorem ji_enumZ {elts : List Expr} {kk : Nat} {tpos p p2 pos2 : Pos} {ea eb : Expr} {ma mb : XM D} (hg : F.sc.names.lookup ("enumerate" : Str) = some .globalImplicit) (hm : g.mg "enumerate" = none) (hg2 : F.sc.names.lookup ("zip" : Str) = some .globalImplicit) (hm2 : g.mg "zip" = none) (ha : JE F ea ma) (hb : JE F eb mb)
    (hs : ∀ env, starEach [ea, eb] env = [(false, eval ea env), (false, eval eb env)] := by intro _; rfl) (hs2 : ∀ env, starEach [eb] env = [(false, eval eb env)] := by intro _; rfl)
    (hs3 : ∀ env, starEach [.Call (.Name "zip" p2) [ea, eb] [] pos2] env = [(false, eval (.Call (.Name "zip" p2) [ea, eb] [] pos2) env)] := by intro _; rfl) :
    JI F (.Tuple elts kk tpos) (.Call (.Name "enumerate" p) [.Call (.Name "zip" p2) [ea, eb] [] pos2] [] pos) (xenumZ ma mb) := by
  obtain ⟨t, p', s⟩ := ha
  obtain ⟨t2, p2', s2⟩ := hb
  refine ⟨fun W => iEnumZ g.K (tCons (t W) (tCons (t2 W) tNil)), fun W X m => by
    have := pi_enumZ (elts := elts) (kk := kk) (tpos := tpos) (p := p) (p2 := p2) (pos2 := pos2) (pos := pos) (X := X) (by show X.env.scope.names.lookup _ = _; rw [F.hsc m]; exact hg) (by rw [F.hmg m]; exact hm) (by show X.env.scope.names.lookup _ = _; rw [F.hsc m]; exact hg2) (by rw [F.hmg m]; exact hm2) (pa_cons (p' W X m) (pa_cons (p2' W X m) pa_nil (hs2 _)) (by rw [hs, hs2])) (hs3 _) (by rw [hs, hs2]) (by rw [hs2]; rfl)
    rw [F.hK m] at this; exact this, ?_⟩
  intro W G H as st σ e R' R N h
  refine s W G H as st σ e _ R N ?_
  unfold xenumZ xbind at h
  cases q : ma e st with
  | stuck => rw [q] at h; exact h
  | exc c p st1 => rw [q] at h; exact h
  | ok x st1 =>
    simp only [q] at h
    intro v G1 H1 as1 R1 X1 rv
    refine s2 W G1 H1 as1 st1 σ e _ R1 (N.ext X1) ?_
    cases q2 : mb e st1 with
    | stuck => simp only [q2] at h; exact h
    | exc c p st2 =>
      simp only [q2] at h
      exact fun cls d G2 H2 as2 R2 X2 x2 => h cls d G2 H2 as2 R2 (X1.trans X2) x2
    | ok y st2 =>
      simp only [q2] at h
      intro w G2 H2 as2 R2 X2 rw'
      cases x with
      | tup xs =>
        cases y with
        | tup ys =>
          cases rv.ext X2 with
          | tup s1 r1 => cases rw' with
            | tup s2 r2 => exact ⟨_, _, _, _, rfl, sqT_H R2 s1, sqT_H R2 s2, h.2 _ G2 H2 as2 R2 (X1.trans X2) (yl_enumZ s1 s2 r1 r2)⟩
        | _ => exact h.elim
      | _ => exact h.elim
end
end LS
end
section
set_option maxRecDepth 100000
set_option maxHeartbeats 2000000
namespace LS
open PySem PySem.Spec L2
section
variable {g : Gb} {F : Fam g} {pos : Pos}
/-- a, b, c = x, y, z -/
def spar3 (i j l : Nat) (ma mb mc : XM D) : SM := sbind ma fun x => sbind mb fun y => sbind mc fun z => fun e st => .nx (((e.set i (some x)).set j (some y)).set l (some z)) st
theorem js_par3 (i j l : Nat) {x y z : Str} {a b c : Expr} {ma mb mc : XM D} {px py pz pt : Pos} {kt k2 pt2} (hi : F.N[i]? = some x) (hj : F.N[j]? = some y) (hl : F.N[l]? = some z) (hij : i ≠ j) (hil : i ≠ l) (hjl : j ≠ l) (hx : F.sc.names.lookup x = some .local) (hy : F.sc.names.lookup y = some .local) (hz : F.sc.names.lookup z = some .local)
    (ha : JE F a ma) (hb : JE F b mb) (hc : JE F c mc) (hw : ∀ W X, F.mem W X → swappedStores [.Tuple [.Name x px, .Name y py, .Name z pz] kt pt] (.Tuple [a, b, c] k2 pt2) X.env = pure (some [x, y, z]))
    (he : ∀ env, starEach [a, b, c] env = (false, eval a env) :: starEach [b, c] env := by intro _; rfl) (he2 : ∀ env, starEach [b, c] env = (false, eval b env) :: starEach [c] env := by intro _; rfl) (he3 : ∀ env, starEach [c] env = (false, eval c env) :: starEach [] env := by intro _; rfl)
    (hs : ∀ env, swapsWithSole [.Tuple [.Name x px, .Name y py, .Name z pz] kt pt] (.Tuple [a, b, c] k2 pt2) pos.line env = pure false := by intro _; rfl) :
    JS F (.Assign [.Tuple [.Name x px, .Name y py, .Name z pz] kt pt] (.Tuple [a, b, c] k2 pt2) pos) (spar3 i j l ma mb mc) := by
  obtain ⟨ta, pa, sa⟩ := ha
  obtain ⟨tb, pb, sb⟩ := hb
  obtain ⟨tc, pc, sc⟩ := hc
  refine ⟨fun W => tPar3 i j l (tCons (ta W) (tCons (tb W) (tCons (tc W) tNil))), fun W X m => ps_par3 (F.calm m) (by rw [F.hN m]; exact F.nd) (by rw [F.hN m]; exact hi) (by rw [F.hN m]; exact hj) (by rw [F.hN m]; exact hl) hij hil hjl (by rw [F.hsc m]; exact hx) (by rw [F.hsc m]; exact hy) (by rw [F.hsc m]; exact hz)
    (pa_cons (pa W X m) (pa_cons (pb W X m) (pa_cons (pc W X m) pa_nil (he3 _)) (he2 _)) (he _)) (hw W X m) (hs _), ?_⟩
  intro W G H as st σ e E R N h
  refine sa.oneS R N h fun x st1 v G1 H1 as1 R1 X1 N1 rv h1 => ?_
  refine sb.oneS R1 N1 h1 fun y st2 w G2 H2 as2 R2 X2 N2 rw' h2 => ?_
  refine sc.oneS R2 N2 h2 fun z st3 u G3 H3 as3 R3 X3 N3 ru h3 => ?_
  exact ⟨v, w, u, rfl, h3 _ G3 H3 as3 R3 (((N3.set i ((rv.ext X2).ext X3)).set j (rw'.ext X3)).set l ru) Ext.refl⟩
/-- a def whose promise is empty (the last turn of a recursion) -/
theorem fn_stuck {g : Gb} {st : Stmt} {x nm : Str} {N ps : List Str} {k : Nat} {f : Addr} {fd : FuncData} (hx : g.mg x = some (.ref f)) (D0 : FunD g.K nm nm (defArgs st) (defBody st) (defScope st) [] [] f fd) (S : FnScope N ps (defScope st))
    (hb : ∀ (kV doc pm : Value) (an : Option Addr) (cdv ct : Value) (us : List Value), us.length = ps.length → bindArgs (PySem.W.fnOf nm nm (defArgs st) (defBody st) (defScope st) .none kV doc pm an cdv ct) ⟨us, []⟩ = pure (ps.zip us)) : Fn g st x nm ps (k + 1) (fun _ _ => .stuck) := by
  refine ⟨f, fd, hx, D0, D0.bindsN hb, ?_⟩
  refine D0.ok S (fun vs H Q E h => ?_) (fun cdv A outer s H vs Q E hr h => ?_)
  · obtain ⟨G, as, st', ds, hl, R, r, q⟩ := h
    exact q.elim
  · obtain ⟨G, as, st', ds, hl, R, r, q⟩ := h
    exact q.elim
theorem outD_hout {g : Gb} : ∀ (G H G1 H1 : Hp) (as as1 : List Addr) (st1 : Store) (n : Nat) (W : WX) (σ : L2.St) (d : D) (v : V) (Q : VK), Ri g.K g.mg G1 H1 as1 st1 → Ext G H as G1 H1 as1 → as.length = n → Rp g.K g.mg G1 as1 v d → PX g.K g.mg W G H as σ (outD n d st1) Q → Q v H1 :=
  fun _ _ _ _ _ _ _ _ _ _ _ _ _ R X hn r h => outD_ok R X hn r h
theorem outM_hout {g : Gb} : ∀ (G H G1 H1 : Hp) (as as1 : List Addr) (st1 : Store) (n : Nat) (W : WX) (σ : L2.St) (d : D) (v : V) (Q : VK), Ri g.K g.mg G1 H1 as1 st1 → Ext G H as G1 H1 as1 → as.length = n → Rp g.K g.mg G1 as1 v d → PX g.K g.mg W G H as σ (outM n d st1) Q → Q v H1 :=
  fun _ _ _ _ _ _ _ _ _ _ _ _ _ R X hn r h => outM_ok R X hn r h
/-- the end of a law: what its def promises, world by world -/
theorem walk_w {l : PySem.W.OpenLaw} {n k : Nat} {q : Program} {loose : List Str} {XP : (Str → Option Value) → Heap → Prop} {YP : World → Heap → Prop} {d : DefRec} {x : Str}
    (hn : l.most = some n) (hn2 : n ≤ sizeLine) (hdf : d.params.defaults = []) (hr : Room k callerA)
    (F : ∀ (w : World) (mg : Str → Option Value) (fa : Addr) (h : Heap), YP w h → h.Ns mainGlobals mg → mg d.name = some (.ref fa) → ∃ (K : PySem.W.Frag) (fd : FuncData) (f : DF), K.In h ∧ (∀ (s : Shared) (u : Value), BindsTo s fd ⟨[u], []⟩ [(x, u)]) ∧
      (∀ ns : List Int, ns.length ≤ n → f [] [.sq (ns.map D.int)] = .ok (.bl true) []) ∧ ∀ base : Heap, K.In base → base.Ns mainGlobals mg → FnOk l.prog w K mg base (L2.CX l.prog w) k fa fd [x] (spS ⟨l.prog, w, K, mg, base⟩ 1 f)) :
    PySem.W.WalkO q loose XP YP l.row.toRowW d [] (fun f vs => PySem.call f vs) := by
  refine Att.attach_call hn hdf ?_
  intro w t0 t1 mg mb fa o pm cd doc a vs ns G Y ho hd hcd hmg hobj hints hlen hg
  obtain ⟨K, fd, f, KX, hb, hsp, hF⟩ := F w mg fa _ Y G.T.g hmg
  refine law_call (CX := L2.CX l.prog w) (sp := spS ⟨l.prog, w, K, mg, t1.heap⟩ 1 f) KX G.T.g G.T.b G.T.builtins G.T.nolimit hg hobj hints (Nat.le_trans hlen hn2) hr (fun base h1 h2 => hF base h1 h2) hb ?_ ?_
  · intro H hO hS
    refine ⟨H, [], [], [.sq (ns.map D.int)], rfl, ⟨fun _ _ h => h, rfl, .nil, fun _ h => (by cases h), fun i a o h => (by simp at h)⟩, .cons (.sq hS (RpA.of_ints ns)) .nil, ?_⟩
    rw [hsp ns hlen]
    intro v G' H' as' _ _ rv
    cases rv; rfl
  · rintro H e s' ⟨_, _, _, _, _, _, _, _, _, _, _, _, z⟩
    exact z
end
end LS
end
section
set_option maxRecDepth 100000
set_option maxHeartbeats 2000000
namespace LS
open PySem PySem.Spec L2
def top (i : Nat) : Stmt := PySem.Challenge.pw_leadsums_k75_whole_tubs_that_spill.main.body.getD i (.Pass ⟨0, 0, 0, 0⟩)
/-! ## the defs: mirrors and derivations (printed by gen.py) -/
structure GF (g : Gb) : Prop where
  b_abs : g.mg "abs" = none
  b_all : g.mg "all" = none
  b_any : g.mg "any" = none
  b_bool : g.mg "bool" = none
  b_dict : g.mg "dict" = none
  b_divmod : g.mg "divmod" = none
  b_enumerate : g.mg "enumerate" = none
  b_int : g.mg "int" = none
  b_isinstance : g.mg "isinstance" = none
  b_len : g.mg "len" = none
  b_list : g.mg "list" = none
  b_max : g.mg "max" = none
  b_min : g.mg "min" = none
  b_range : g.mg "range" = none
  b_str : g.mg "str" = none
  b_sum : g.mg "sum" = none
  b_tuple : g.mg "tuple" = none
  b_zip : g.mg "zip" = none
  c_MOST_HIGH : ∃ t, g.mg "MOST_HIGH" = some (.int (99) t)
  c_MOST_NUMBERS : ∃ t, g.mg "MOST_NUMBERS" = some (.int (8) t)
  c_MOST_SIZE : ∃ t, g.mg "MOST_SIZE" = some (.int (9) t)
  d_u_law_take : ∃ f fd, g.mg "_law_take" = some (.ref f) ∧ FunD g.K "_law_take" "_law_take" (defArgs (top 39)) (defBody (top 39)) (defScope (top 39)) [] [] f fd
  d_u_law_of : ∃ f fd, g.mg "_law_of" = some (.ref f) ∧ FunD g.K "_law_of" "_law_of" (defArgs (top 40)) (defBody (top 40)) (defScope (top 40)) [] [] f fd
  d_u_law_levels : ∃ f fd, g.mg "_law_levels" = some (.ref f) ∧ FunD g.K "_law_levels" "_law_levels" (defArgs (top 43)) (defBody (top 43)) (defScope (top 43)) [] [] f fd
  d_is_whole : ∃ f fd, g.mg "is_whole" = some (.ref f) ∧ FunD g.K "is_whole" "is_whole" (defArgs (top 5)) (defBody (top 5)) (defScope (top 5)) [] [] f fd
  d_is_between : ∃ f fd, g.mg "is_between" = some (.ref f) ∧ FunD g.K "is_between" "is_between" (defArgs (top 6)) (defBody (top 6)) (defScope (top 6)) [] [] f fd
  d_is_number : ∃ f fd, g.mg "is_number" = some (.ref f) ∧ FunD g.K "is_number" "is_number" (defArgs (top 10)) (defBody (top 10)) (defScope (top 10)) [] [] f fd
  d_wrong_in_row : ∃ f fd, g.mg "wrong_in_row" = some (.ref f) ∧ FunD g.K "wrong_in_row" "wrong_in_row" (defArgs (top 11)) (defBody (top 11)) (defScope (top 11)) [] [] f fd
  d_check_row : ∃ f fd, g.mg "check_row" = some (.ref f) ∧ FunD g.K "check_row" "check_row" (defArgs (top 14)) (defBody (top 14)) (defScope (top 14)) [] [] f fd
  d_check_number : ∃ f fd, g.mg "check_number" = some (.ref f) ∧ FunD g.K "check_number" "check_number" (defArgs (top 15)) (defBody (top 15)) (defScope (top 15)) [] [] f fd
  d_check_tub : ∃ f fd, g.mg "check_tub" = some (.ref f) ∧ FunD g.K "check_tub" "check_tub" (defArgs (top 30)) (defBody (top 30)) (defScope (top 30)) [] [] f fd
  d_level_behind : ∃ f fd, g.mg "level_behind" = some (.ref f) ∧ FunD g.K "level_behind" "level_behind" (defArgs (top 20)) (defBody (top 20)) (defScope (top 20)) [] [] f fd
  d_levels_by : ∃ f fd, g.mg "levels_by" = some (.ref f) ∧ FunD g.K "levels_by" "levels_by" (defArgs (top 21)) (defBody (top 21)) (defScope (top 21)) [] [] f fd
  d_levels : ∃ f fd, g.mg "levels" = some (.ref f) ∧ FunD g.K "levels" "levels" (defArgs (top 31)) (defBody (top 31)) (defScope (top 31)) [] [] f fd
  d_beyond_by : ∃ f fd, g.mg "beyond_by" = some (.ref f) ∧ FunD g.K "beyond_by" "beyond_by" (defArgs (top 22)) (defBody (top 22)) (defScope (top 22)) [] [] f fd
  d_spilled_by : ∃ f fd, g.mg "spilled_by" = some (.ref f) ∧ FunD g.K "spilled_by" "spilled_by" (defArgs (top 23)) (defBody (top 23)) (defScope (top 23)) [] [] f fd
  d_spilled : ∃ f fd, g.mg "spilled" = some (.ref f) ∧ FunD g.K "spilled" "spilled" (defArgs (top 32)) (defBody (top 32)) (defScope (top 32)) [] [] f fd
  d_lacking_by : ∃ f fd, g.mg "lacking_by" = some (.ref f) ∧ FunD g.K "lacking_by" "lacking_by" (defArgs (top 24)) (defBody (top 24)) (defScope (top 24)) [] [] f fd
  d_lacking : ∃ f fd, g.mg "lacking" = some (.ref f) ∧ FunD g.K "lacking" "lacking" (defArgs (top 33)) (defBody (top 33)) (defScope (top 33)) [] [] f fd
  d_same_from_by : ∃ f fd, g.mg "same_from_by" = some (.ref f) ∧ FunD g.K "same_from_by" "same_from_by" (defArgs (top 25)) (defBody (top 25)) (defScope (top 25)) [] [] f fd
  d_same_from : ∃ f fd, g.mg "same_from" = some (.ref f) ∧ FunD g.K "same_from" "same_from" (defArgs (top 34)) (defBody (top 34)) (defScope (top 34)) [] [] f fd
  d_u_law_same : ∃ f fd, g.mg "_law_same" = some (.ref f) ∧ FunD g.K "_law_same" "_law_same" (defArgs (top 41)) (defBody (top 41)) (defScope (top 41)) [] [] f fd
  d_sums_by : ∃ f fd, g.mg "sums_by" = some (.ref f) ∧ FunD g.K "sums_by" "sums_by" (defArgs (top 12)) (defBody (top 12)) (defScope (top 12)) [] [] f fd
  d_total : ∃ f fd, g.mg "total" = some (.ref f) ∧ FunD g.K "total" "total" (defArgs (top 36)) (defBody (top 36)) (defScope (top 36)) [] [] f fd
  d_waits_by : ∃ f fd, g.mg "waits_by" = some (.ref f) ∧ FunD g.K "waits_by" "waits_by" (defArgs (top 17)) (defBody (top 17)) (defScope (top 17)) [] [] f fd
  d_waits : ∃ f fd, g.mg "waits" = some (.ref f) ∧ FunD g.K "waits" "waits" (defArgs (top 28)) (defBody (top 28)) (defScope (top 28)) [] [] f fd
  d_last_wait : ∃ f fd, g.mg "last_wait" = some (.ref f) ∧ FunD g.K "last_wait" "last_wait" (defArgs (top 18)) (defBody (top 18)) (defScope (top 18)) [] [] f fd
  d_lost_by : ∃ f fd, g.mg "lost_by" = some (.ref f) ∧ FunD g.K "lost_by" "lost_by" (defArgs (top 19)) (defBody (top 19)) (defScope (top 19)) [] [] f fd
  d_lost : ∃ f fd, g.mg "lost" = some (.ref f) ∧ FunD g.K "lost" "lost" (defArgs (top 29)) (defBody (top 29)) (defScope (top 29)) [] [] f fd
  d_u_law_is_told : ∃ f fd, g.mg "_law_is_told" = some (.ref f) ∧ FunD g.K "_law_is_told" "_law_is_told" (defArgs (top 44)) (defBody (top 44)) (defScope (top 44)) [] [] f fd
  d_u_law_row : ∃ f fd, g.mg "_law_row" = some (.ref f) ∧ FunD g.K "_law_row" "_law_row" (defArgs (top 42)) (defBody (top 42)) (defScope (top 42)) [] [] f fd
  d_u_law_right : ∃ f fd, g.mg "_law_right" = some (.ref f) ∧ FunD g.K "_law_right" "_law_right" (defArgs (top 45)) (defBody (top 45)) (defScope (top 45)) [] [] f fd
  d_u_law_well : ∃ f fd, g.mg "_law_well" = some (.ref f) ∧ FunD g.K "_law_well" "_law_well" (defArgs (top 38)) (defBody (top 38)) (defScope (top 38)) [] [] f fd
  d_law : ∃ f fd, g.mg "law" = some (.ref f) ∧ FunD g.K "law" "law" (defArgs (top 46)) (defBody (top 46)) (defScope (top 46)) [] [] f fd
theorem bt_abs : bootBuiltins "abs" = some (.builtin "abs") := by decide +kernel
theorem bt_all : bootBuiltins "all" = some (.builtin "all") := by decide +kernel
theorem bt_any : bootBuiltins "any" = some (.builtin "any") := by decide +kernel
theorem bt_bool : bootBuiltins "bool" = some (.type "bool") := by decide +kernel
theorem bt_dict : bootBuiltins "dict" = some (.type "dict") := by decide +kernel
theorem bt_divmod : bootBuiltins "divmod" = some (.builtin "divmod") := by decide +kernel
theorem bt_enumerate : bootBuiltins "enumerate" = some (.type "enumerate") := by decide +kernel
theorem bt_int : bootBuiltins "int" = some (.type "int") := by decide +kernel
theorem bt_isinstance : bootBuiltins "isinstance" = some (.builtin "isinstance") := by decide +kernel
theorem bt_len : bootBuiltins "len" = some (.builtin "len") := by decide +kernel
theorem bt_list : bootBuiltins "list" = some (.type "list") := by decide +kernel
theorem bt_max : bootBuiltins "max" = some (.builtin "max") := by decide +kernel
theorem bt_min : bootBuiltins "min" = some (.builtin "min") := by decide +kernel
theorem bt_range : bootBuiltins "range" = some (.type "range") := by decide +kernel
theorem bt_str : bootBuiltins "str" = some (.type "str") := by decide +kernel
theorem bt_sum : bootBuiltins "sum" = some (.builtin "sum") := by decide +kernel
theorem bt_tuple : bootBuiltins "tuple" = some (.type "tuple") := by decide +kernel
theorem bt_zip : bootBuiltins "zip" = some (.type "zip") := by decide +kernel
/-- _law_take -/
theorem sc_u_law_take : FnScope ["well", "many", "digit"] ["well", "many"] (defScope (top 39)) := ⟨rfl, rfl, rfl, by decide +kernel, rfl, by decide +kernel, by decide +kernel⟩
def m_u_law_take : SM :=
  (sseq (sif (xbool (xop gtD (xop ixD (xvar 0) (xpure (.int 0))) (xpure (.int 0)))) (sseq (sasg (xcall (f2 divmodD) (xcons (xop ixD (xvar 0) (xpure (.int 0))) (xcons (xvar 1) (xpure [])))) (gtup 2 (gcons (gsub (xvar 0) (xpure (.int 0))) (gcons (gname 2) gnil)))) (sret (xvar 2))) snext) (sseq (sasg (xop addD (xop ixD (xvar 0) (xpure (.int 2))) (xpure (.int 1))) (gsub (xvar 0) (xpure (.int 2)))) (sseq (sasg (xop modD (xcall (f1 intD) (xcons (xop addD (xop addD (xop mulD (xop ixD (xvar 0) (xpure (.int 1))) (xpure (.int 39373))) (xop mulD (xop ixD (xvar 0) (xpure (.int 2))) (xpure (.int 30323)))) (xpure (.int 11))) (xpure []))) (xpure (.int 2147483543))) (gsub (xvar 0) (xpure (.int 1)))) (sret (xop modD (xcall (f1 intD) (xcons (xop divD (xop ixD (xvar 0) (xpure (.int 1))) (xpure (.int 128))) (xpure []))) (xvar 1))))))
abbrev D_u_law_take : DF := runF 3 m_u_law_take
theorem b_u_law_take {g : Gb} (GG : GF g) (b : Bd) (hr : Room 0 (b.A.deeper (PyProof.Rows.envOfC b.qual (defScope (top 39)) b.s.heap.objs.size b.f b.cdv))) :
    JSs (famB g 0 ["well", "many", "digit"] sc_u_law_take.nd (defScope (top 39)) b hr) (defBody (top 39)) m_u_law_take :=
  (jss_cons (js_if (jt_cmp os_gt (je_ix (je_var 0 rfl (.inl (by first | rfl | kernel_rfl))) je_int) je_int rfl) (jss_cons (js_asg (je_callB cs_divmod (by first | rfl | kernel_rfl) GG.b_divmod bt_divmod (ja_cons (je_ix (je_var 0 rfl (.inl (by first | rfl | kernel_rfl))) je_int) (ja_cons (je_var 1 rfl (.inl (by first | rfl | kernel_rfl))) ja_nil))) (jg_tup (jgs_cons (jg_sub (je_var 0 rfl (.inl (by first | rfl | kernel_rfl))) je_int (quiet_var _) (quiet_pure _)) (jgs_cons (jg_name 2 rfl (.inl (by first | rfl | kernel_rfl))) jgs_nil))))
      (jss_one (js_ret (je_var 2 rfl (.inl (by first | rfl | kernel_rfl)))))) jss_nil)
      (jss_cons (js_asg (je_op os_add (je_ix (je_var 0 rfl (.inl (by first | rfl | kernel_rfl))) je_int) je_int) (jg_sub (je_var 0 rfl (.inl (by first | rfl | kernel_rfl))) je_int (quiet_var _) (quiet_pure _)))
      (jss_cons (js_asg (je_op os_mod (je_callTy cs_int (by first | rfl | kernel_rfl) GG.b_int bt_int (ja_cons (je_op os_add (je_op os_add (je_op os_mul (je_ix (je_var 0 rfl (.inl (by first | rfl | kernel_rfl))) je_int) je_int) (je_op os_mul (je_ix (je_var 0 rfl (.inl (by first | rfl | kernel_rfl))) je_int) je_int)) je_int) ja_nil)) je_int) (jg_sub (je_var 0 rfl (.inl (by first | rfl | kernel_rfl))) je_int (quiet_var _) (quiet_pure _)))
      (jss_one (js_ret (je_op os_mod (je_callTy cs_int (by first | rfl | kernel_rfl) GG.b_int bt_int (ja_cons (je_op os_div (je_ix (je_var 0 rfl (.inl (by first | rfl | kernel_rfl))) je_int) je_int) ja_nil)) (je_var 1 rfl (.inl (by first | rfl | kernel_rfl)))))))))
theorem f_u_law_take {g : Gb} (GG : GF g) : Fn g (top 39) "_law_take" "_law_take" ["well", "many"] 1 D_u_law_take := by
  obtain ⟨f, fd, hx, D0⟩ := GG.d_u_law_take
  exact fn_mk outD outD_hout hx D0 sc_u_law_take (fun kV doc pm an cdv ct us hl => match us, hl with | [_, _], _ => rfl) (fun b hr => b_u_law_take GG b hr)
/-- _law_of -/
theorem sc_u_law_of : FnScope ["well", "things"] ["well", "things"] (defScope (top 40)) := ⟨rfl, rfl, rfl, by decide +kernel, rfl, by decide +kernel, by decide +kernel⟩
def m_u_law_of : SM :=
  (sret (xop ixD (xvar 1) (xfn 2 (D_u_law_take) (xcons (xvar 0) (xcons (xcall (f1 lenD) (xcons (xvar 1) (xpure []))) (xpure []))))))
abbrev D_u_law_of : DF := runF 2 m_u_law_of
theorem b_u_law_of {g : Gb} (GG : GF g) (b : Bd) (hr : Room 2 (b.A.deeper (PyProof.Rows.envOfC b.qual (defScope (top 40)) b.s.heap.objs.size b.f b.cdv))) :
    JSs (famB g 2 ["well", "things"] sc_u_law_of.nd (defScope (top 40)) b hr) (defBody (top 40)) m_u_law_of :=
  (jss_one (js_ret (je_ix (je_var 1 rfl (.inl (by first | rfl | kernel_rfl))) (je_call (f_u_law_take GG) (Nat.le_of_ble_eq_true rfl) (by first | rfl | kernel_rfl) (ja_cons (je_var 0 rfl (.inl (by first | rfl | kernel_rfl))) (ja_cons (je_callB cs_len (by first | rfl | kernel_rfl) GG.b_len bt_len (ja_cons (je_var 1 rfl (.inl (by first | rfl | kernel_rfl))) ja_nil)) ja_nil))))))
theorem f_u_law_of {g : Gb} (GG : GF g) : Fn g (top 40) "_law_of" "_law_of" ["well", "things"] 3 D_u_law_of := by
  obtain ⟨f, fd, hx, D0⟩ := GG.d_u_law_of
  exact fn_mk outD outD_hout hx D0 sc_u_law_of (fun kV doc pm an cdv ct us hl => match us, hl with | [_, _], _ => rfl) (fun b hr => b_u_law_of GG b hr)
/-- _law_levels -/
theorem sc_u_law_levels : FnScope ["row", "start", "high", "found", "over", "under", "number", "here"] ["row", "start", "high"] (defScope (top 43)) := ⟨rfl, rfl, rfl, by decide +kernel, rfl, by decide +kernel, by decide +kernel⟩
def m_u_law_levels_b1 : SM :=
  (sseq (sset 7 (xop addD (xop ixD (xvar 3) (xneg (xpure (.int 1)))) (xvar 6))) (sseq (sdrop (xappend (xvar 3) (xcall (f2 max2D) (xcons (xpure (.int 0)) (xcons (xcall (f2 min2D) (xcons (xvar 2) (xcons (xvar 7) (xpure [])))) (xpure [])))))) (spar2 4 5 (xop addD (xvar 4) (xcall (f2 max2D) (xcons (xpure (.int 0)) (xcons (xop subD (xvar 7) (xvar 2)) (xpure []))))) (xop addD (xvar 5) (xcall (f2 max2D) (xcons (xpure (.int 0)) (xcons (xop subD (xpure (.int 0)) (xvar 7)) (xpure []))))))))
def m_u_law_levels : SM :=
  (sseq (spar3 3 4 5 (xlstM (xcons (xvar 1) (xpure []))) (xpure (.int 0)) (xpure (.int 0))) (sseq (sfor (xwalk (xvar 0)) (gname 6) m_u_law_levels_b1) (sret (xtup (xcons (xcall (f1 tupleD) (xcons (xvar 3) (xpure []))) (xcons (xvar 4) (xcons (xvar 5) (xpure []))))))))
abbrev D_u_law_levels : DF := runF 8 m_u_law_levels
theorem b_u_law_levels {g : Gb} (GG : GF g) (b : Bd) (hr : Room 0 (b.A.deeper (PyProof.Rows.envOfC b.qual (defScope (top 43)) b.s.heap.objs.size b.f b.cdv))) :
    JSs (famB g 0 ["row", "start", "high", "found", "over", "under", "number", "here"] sc_u_law_levels.nd (defScope (top 43)) b hr) (defBody (top 43)) m_u_law_levels :=
  (jss_cons (js_par3 3 4 5 rfl rfl rfl (by decide) (by decide) (by decide) (by first | rfl | kernel_rfl) (by first | rfl | kernel_rfl) (by first | rfl | kernel_rfl) (je_lstM (ja_cons (je_var 1 rfl (.inl (by first | rfl | kernel_rfl))) ja_nil)) je_int je_int (fun W X m => by obtain ⟨rfl, rfl⟩ := m; first | rfl | kernel_rfl))
      (jss_cons (js_for (ji_seq (je_var 0 rfl (.inl (by first | rfl | kernel_rfl)))) (jg_name 6 rfl (.inl (by first | rfl | kernel_rfl))) (jss_cons (js_set 7 rfl (.inl (by first | rfl | kernel_rfl)) (je_op os_add (je_ix (je_var 3 rfl (.inl (by first | rfl | kernel_rfl))) (je_neg je_int)) (je_var 6 rfl (.inl (by first | rfl | kernel_rfl)))))
      (jss_cons (js_expr (je_append (je_var 3 rfl (.inl (by first | rfl | kernel_rfl))) (je_callB cs_max2 (by first | rfl | kernel_rfl) GG.b_max bt_max (ja_cons je_int (ja_cons (je_callB cs_min2 (by first | rfl | kernel_rfl) GG.b_min bt_min (ja_cons (je_var 2 rfl (.inl (by first | rfl | kernel_rfl))) (ja_cons (je_var 7 rfl (.inl (by first | rfl | kernel_rfl))) ja_nil))) ja_nil)))))
      (jss_one (js_par2 4 5 rfl rfl (by decide) (by first | rfl | kernel_rfl) (by first | rfl | kernel_rfl) (je_op os_add (je_var 4 rfl (.inl (by first | rfl | kernel_rfl))) (je_callB cs_max2 (by first | rfl | kernel_rfl) GG.b_max bt_max (ja_cons je_int (ja_cons (je_op os_sub (je_var 7 rfl (.inl (by first | rfl | kernel_rfl))) (je_var 2 rfl (.inl (by first | rfl | kernel_rfl)))) ja_nil)))) (je_op os_add (je_var 5 rfl (.inl (by first | rfl | kernel_rfl))) (je_callB cs_max2 (by first | rfl | kernel_rfl) GG.b_max bt_max (ja_cons je_int (ja_cons (je_op os_sub je_int (je_var 7 rfl (.inl (by first | rfl | kernel_rfl)))) ja_nil)))) (fun W X m => by obtain ⟨rfl, rfl⟩ := m; first | rfl | kernel_rfl))))))
      (jss_one (js_ret (je_tup (ja_cons (je_callTy cs_tuple (by first | rfl | kernel_rfl) GG.b_tuple bt_tuple (ja_cons (je_var 3 rfl (.inl (by first | rfl | kernel_rfl))) ja_nil)) (ja_cons (je_var 4 rfl (.inl (by first | rfl | kernel_rfl))) (ja_cons (je_var 5 rfl (.inl (by first | rfl | kernel_rfl))) ja_nil))))))))
theorem f_u_law_levels {g : Gb} (GG : GF g) : Fn g (top 43) "_law_levels" "_law_levels" ["row", "start", "high"] 1 D_u_law_levels := by
  obtain ⟨f, fd, hx, D0⟩ := GG.d_u_law_levels
  exact fn_mk outD outD_hout hx D0 sc_u_law_levels (fun kV doc pm an cdv ct us hl => match us, hl with | [_, _, _], _ => rfl) (fun b hr => b_u_law_levels GG b hr)
/-- is_whole -/
theorem sc_is_whole : FnScope ["value"] ["value"] (defScope (top 5)) := ⟨rfl, rfl, rfl, by decide +kernel, rfl, by decide +kernel, by decide +kernel⟩
def m_is_whole : SM :=
  (sret (xand (xcall (f2 isiD) (xcons (xvar 0) (xcons (xpure (.ty "int")) (xpure [])))) (xnot (xcall (f2 isiD) (xcons (xvar 0) (xcons (xpure (.ty "bool")) (xpure [])))))))
abbrev D_is_whole : DF := runF 1 m_is_whole
theorem b_is_whole {g : Gb} (GG : GF g) (b : Bd) (hr : Room 0 (b.A.deeper (PyProof.Rows.envOfC b.qual (defScope (top 5)) b.s.heap.objs.size b.f b.cdv))) :
    JSs (famB g 0 ["value"] sc_is_whole.nd (defScope (top 5)) b hr) (defBody (top 5)) m_is_whole :=
  (jss_one (js_ret (je_and (je_callB cs_isi (by first | rfl | kernel_rfl) GG.b_isinstance bt_isinstance (ja_cons (je_var 0 rfl (.inl (by first | rfl | kernel_rfl))) (ja_cons (je_gty (by first | rfl | kernel_rfl) GG.b_int bt_int) ja_nil))) (je_one (je_not (je_callB cs_isi (by first | rfl | kernel_rfl) GG.b_isinstance bt_isinstance (ja_cons (je_var 0 rfl (.inl (by first | rfl | kernel_rfl))) (ja_cons (je_gty (by first | rfl | kernel_rfl) GG.b_bool bt_bool) ja_nil))))))))
theorem f_is_whole {g : Gb} (GG : GF g) : Fn g (top 5) "is_whole" "is_whole" ["value"] 1 D_is_whole := by
  obtain ⟨f, fd, hx, D0⟩ := GG.d_is_whole
  exact fn_mk outD outD_hout hx D0 sc_is_whole (fun kV doc pm an cdv ct us hl => match us, hl with | [_], _ => rfl) (fun b hr => b_is_whole GG b hr)
/-- is_between -/
theorem sc_is_between : FnScope ["value", "low", "high"] ["value", "low", "high"] (defScope (top 6)) := ⟨rfl, rfl, rfl, by decide +kernel, rfl, by decide +kernel, by decide +kernel⟩
def m_is_between : SM :=
  (sret (xand (xfn 1 (D_is_whole) (xcons (xvar 0) (xpure []))) (xchain leD leD (xvar 1) (xvar 0) (xvar 2))))
abbrev D_is_between : DF := runF 3 m_is_between
theorem b_is_between {g : Gb} (GG : GF g) (b : Bd) (hr : Room 2 (b.A.deeper (PyProof.Rows.envOfC b.qual (defScope (top 6)) b.s.heap.objs.size b.f b.cdv))) :
    JSs (famB g 2 ["value", "low", "high"] sc_is_between.nd (defScope (top 6)) b hr) (defBody (top 6)) m_is_between :=
  (jss_one (js_ret (je_and (je_call (f_is_whole GG) (Nat.le_of_ble_eq_true rfl) (by first | rfl | kernel_rfl) (ja_cons (je_var 0 rfl (.inl (by first | rfl | kernel_rfl))) ja_nil)) (je_one (je_chain os_le os_le (je_var 1 rfl (.inl (by first | rfl | kernel_rfl))) (je_var 0 rfl (.inl (by first | rfl | kernel_rfl))) (je_var 2 rfl (.inl (by first | rfl | kernel_rfl))))))))
theorem f_is_between {g : Gb} (GG : GF g) : Fn g (top 6) "is_between" "is_between" ["value", "low", "high"] 3 D_is_between := by
  obtain ⟨f, fd, hx, D0⟩ := GG.d_is_between
  exact fn_mk outD outD_hout hx D0 sc_is_between (fun kV doc pm an cdv ct us hl => match us, hl with | [_, _, _], _ => rfl) (fun b hr => b_is_between GG b hr)
/-- is_number -/
theorem sc_is_number : FnScope ["value"] ["value"] (defScope (top 10)) := ⟨rfl, rfl, rfl, by decide +kernel, rfl, by decide +kernel, by decide +kernel⟩
def m_is_number : SM :=
  (sret (xfn 3 (D_is_between) (xcons (xvar 0) (xcons (xneg (xpure (.int (9)))) (xcons (xpure (.int (9))) (xpure []))))))
abbrev D_is_number : DF := runF 1 m_is_number
theorem b_is_number {g : Gb} (GG : GF g) (b : Bd) (hr : Room 4 (b.A.deeper (PyProof.Rows.envOfC b.qual (defScope (top 10)) b.s.heap.objs.size b.f b.cdv))) :
    JSs (famB g 4 ["value"] sc_is_number.nd (defScope (top 10)) b hr) (defBody (top 10)) m_is_number :=
  (jss_one (js_ret (je_call (f_is_between GG) (Nat.le_of_ble_eq_true rfl) (by first | rfl | kernel_rfl) (ja_cons (je_var 0 rfl (.inl (by first | rfl | kernel_rfl))) (ja_cons (je_neg (je_gint (by first | rfl | kernel_rfl) GG.c_MOST_SIZE)) (ja_cons (je_gint (by first | rfl | kernel_rfl) GG.c_MOST_SIZE) ja_nil))))))
theorem f_is_number {g : Gb} (GG : GF g) : Fn g (top 10) "is_number" "is_number" ["value"] 5 D_is_number := by
  obtain ⟨f, fd, hx, D0⟩ := GG.d_is_number
  exact fn_mk outD outD_hout hx D0 sc_is_number (fun kV doc pm an cdv ct us hl => match us, hl with | [_], _ => rfl) (fun b hr => b_is_number GG b hr)
/-- wrong_in_row -/
theorem sc_wrong_in_row : FnScope ["value", "each", "index"] ["value"] (defScope (top 11)) := ⟨rfl, rfl, rfl, by decide +kernel, rfl, by decide +kernel, by decide +kernel⟩
def m_wrong_in_row_t1 : XM Bool :=
  (tnot (xtru (xfn 1 (D_is_number) (xcons (xvar 1) (xpure [])))))
def m_wrong_in_row : SM :=
  (sseq (sif (tor (tnot (xtru (xcall (f2 isiD) (xcons (xvar 0) (xcons (xpure (.ty "tuple")) (xpure [])))))) (tnot (xbool (xchain leD leD (xpure (.int 1)) (xcall (f1 lenD) (xcons (xvar 0) (xpure []))) (xpure (.int (8))))))) (sret (xlst (xcons (xpure .non) (xpure [])))) snext) (sret (xslice (xcomp (xenum (xvar 0)) [2, 1] (gtup 2 (gcons (gname 2) (gcons (gname 1) gnil))) m_wrong_in_row_t1 (xvar 2)) (xpure none) (xpart (xpure (.int 1))))))
abbrev D_wrong_in_row : DF := runF 3 m_wrong_in_row
theorem b_wrong_in_row {g : Gb} (GG : GF g) (b : Bd) (hr : Room 6 (b.A.deeper (PyProof.Rows.envOfC b.qual (defScope (top 11)) b.s.heap.objs.size b.f b.cdv))) :
    JSs (famB g 6 ["value", "each", "index"] sc_wrong_in_row.nd (defScope (top 11)) b hr) (defBody (top 11)) m_wrong_in_row :=
  (jss_cons (js_if (jw_or (jt_not (jt_tru (je_callB cs_isi (by first | rfl | kernel_rfl) GG.b_isinstance bt_isinstance (ja_cons (je_var 0 rfl (.inl (by first | rfl | kernel_rfl))) (ja_cons (je_gty (by first | rfl | kernel_rfl) GG.b_tuple bt_tuple) ja_nil))))) (jw_or1 (jt_not (jt_chain os_le os_le je_int (je_callB cs_len (by first | rfl | kernel_rfl) GG.b_len bt_len (ja_cons (je_var 0 rfl (.inl (by first | rfl | kernel_rfl))) ja_nil)) (je_gint (by first | rfl | kernel_rfl) GG.c_MOST_NUMBERS))))).jt (jss_one (js_ret (je_lst (ja_cons je_non ja_nil)))) jss_nil)
      (jss_one (js_ret (je_slice (je_lc [("index", 2), ("each", 1)] (ji_enum (by first | rfl | kernel_rfl) GG.b_enumerate (je_var 0 rfl (.inl (by first | rfl | kernel_rfl)))) (by first | rfl | kernel_rfl) (jc_tup (jcs_cons (jc_name 2 rfl (.inl (by first | rfl | kernel_rfl)) (by decide)) (jcs_cons (jc_name 1 rfl (.inl (by first | rfl | kernel_rfl)) (by decide)) jcs_nil))) (jts_one (jt_not (jt_tru (je_call (f_is_number GG) (Nat.le_of_ble_eq_true rfl) (by first | rfl | kernel_rfl) (ja_cons (je_var 1 rfl (.inl (by first | rfl | kernel_rfl))) ja_nil))))) (je_var 2 rfl (.inl (by first | rfl | kernel_rfl)))) jo_none (jo_some je_int)))))
theorem f_wrong_in_row {g : Gb} (GG : GF g) : Fn g (top 11) "wrong_in_row" "wrong_in_row" ["value"] 7 D_wrong_in_row := by
  obtain ⟨f, fd, hx, D0⟩ := GG.d_wrong_in_row
  exact fn_mk outD outD_hout hx D0 sc_wrong_in_row (fun kV doc pm an cdv ct us hl => match us, hl with | [_], _ => rfl) (fun b hr => b_wrong_in_row GG b hr)
/-- check_row -/
theorem sc_check_row : FnScope ["value", "index"] ["value"] (defScope (top 14)) := ⟨rfl, rfl, rfl, by decide +kernel, rfl, by decide +kernel, by decide +kernel⟩
def m_check_row : SM :=
  (sfor (xwalk (xfn 1 (D_wrong_in_row) (xcons (xvar 0) (xpure [])))) (gname 1) snever)
abbrev D_check_row : DF := runF 2 m_check_row
theorem b_check_row {g : Gb} (GG : GF g) (b : Bd) (hr : Room 8 (b.A.deeper (PyProof.Rows.envOfC b.qual (defScope (top 14)) b.s.heap.objs.size b.f b.cdv))) :
    JSs (famB g 8 ["value", "index"] sc_check_row.nd (defScope (top 14)) b hr) (defBody (top 14)) m_check_row :=
  (jss_one (js_for (ji_seq (je_call (f_wrong_in_row GG) (Nat.le_of_ble_eq_true rfl) (by first | rfl | kernel_rfl) (ja_cons (je_var 0 rfl (.inl (by first | rfl | kernel_rfl))) ja_nil))) (jg_name 1 rfl (.inl (by first | rfl | kernel_rfl))) (jss_one js_never)))
theorem f_check_row {g : Gb} (GG : GF g) : Fn g (top 14) "check_row" "check_row" ["value"] 9 D_check_row := by
  obtain ⟨f, fd, hx, D0⟩ := GG.d_check_row
  exact fn_mk outD outD_hout hx D0 sc_check_row (fun kV doc pm an cdv ct us hl => match us, hl with | [_], _ => rfl) (fun b hr => b_check_row GG b hr)
/-- check_number -/
theorem sc_check_number : FnScope ["value", "low", "high"] ["value", "low", "high"] (defScope (top 15)) := ⟨rfl, rfl, rfl, by decide +kernel, rfl, by decide +kernel, by decide +kernel⟩
def m_check_number : SM :=
  (sif (tnot (xtru (xfn 3 (D_is_between) (xcons (xvar 0) (xcons (xvar 1) (xcons (xvar 2) (xpure []))))))) snever snext)
abbrev D_check_number : DF := runF 3 m_check_number
theorem b_check_number {g : Gb} (GG : GF g) (b : Bd) (hr : Room 4 (b.A.deeper (PyProof.Rows.envOfC b.qual (defScope (top 15)) b.s.heap.objs.size b.f b.cdv))) :
    JSs (famB g 4 ["value", "low", "high"] sc_check_number.nd (defScope (top 15)) b hr) (defBody (top 15)) m_check_number :=
  (jss_one (js_if (jt_not (jt_tru (je_call (f_is_between GG) (Nat.le_of_ble_eq_true rfl) (by first | rfl | kernel_rfl) (ja_cons (je_var 0 rfl (.inl (by first | rfl | kernel_rfl))) (ja_cons (je_var 1 rfl (.inl (by first | rfl | kernel_rfl))) (ja_cons (je_var 2 rfl (.inl (by first | rfl | kernel_rfl))) ja_nil)))))) (jss_one js_never) jss_nil))
theorem f_check_number {g : Gb} (GG : GF g) : Fn g (top 15) "check_number" "check_number" ["value", "low", "high"] 5 D_check_number := by
  obtain ⟨f, fd, hx, D0⟩ := GG.d_check_number
  exact fn_mk outD outD_hout hx D0 sc_check_number (fun kV doc pm an cdv ct us hl => match us, hl with | [_, _, _], _ => rfl) (fun b hr => b_check_number GG b hr)
/-- check_tub -/
theorem sc_check_tub : FnScope ["row", "start", "high"] ["row", "start", "high"] (defScope (top 30)) := ⟨rfl, rfl, rfl, by decide +kernel, rfl, by decide +kernel, by decide +kernel⟩
def m_check_tub : SM :=
  (sseq (sdrop (xfn 1 (D_check_row) (xcons (xvar 0) (xpure [])))) (sseq (sdrop (xfn 3 (D_check_number) (xcons (xvar 2) (xcons (xpure (.int 1)) (xcons (xpure (.int (99))) (xpure [])))))) (sdrop (xfn 3 (D_check_number) (xcons (xvar 1) (xcons (xpure (.int 0)) (xcons (xvar 2) (xpure []))))))))
abbrev D_check_tub : DF := runF 3 m_check_tub
theorem b_check_tub {g : Gb} (GG : GF g) (b : Bd) (hr : Room 10 (b.A.deeper (PyProof.Rows.envOfC b.qual (defScope (top 30)) b.s.heap.objs.size b.f b.cdv))) :
    JSs (famB g 10 ["row", "start", "high"] sc_check_tub.nd (defScope (top 30)) b hr) (defBody (top 30)) m_check_tub :=
  (jss_cons (js_expr (je_call (f_check_row GG) (Nat.le_of_ble_eq_true rfl) (by first | rfl | kernel_rfl) (ja_cons (je_var 0 rfl (.inl (by first | rfl | kernel_rfl))) ja_nil)))
      (jss_cons (js_expr (je_call (f_check_number GG) (Nat.le_of_ble_eq_true rfl) (by first | rfl | kernel_rfl) (ja_cons (je_var 2 rfl (.inl (by first | rfl | kernel_rfl))) (ja_cons je_int (ja_cons (je_gint (by first | rfl | kernel_rfl) GG.c_MOST_HIGH) ja_nil)))))
      (jss_one (js_expr (je_call (f_check_number GG) (Nat.le_of_ble_eq_true rfl) (by first | rfl | kernel_rfl) (ja_cons (je_var 1 rfl (.inl (by first | rfl | kernel_rfl))) (ja_cons je_int (ja_cons (je_var 2 rfl (.inl (by first | rfl | kernel_rfl))) ja_nil))))))))
theorem f_check_tub {g : Gb} (GG : GF g) : Fn g (top 30) "check_tub" "check_tub" ["row", "start", "high"] 11 D_check_tub := by
  obtain ⟨f, fd, hx, D0⟩ := GG.d_check_tub
  exact fn_mk outD outD_hout hx D0 sc_check_tub (fun kV doc pm an cdv ct us hl => match us, hl with | [_, _, _], _ => rfl) (fun b hr => b_check_tub GG b hr)
/-- level_behind -/
theorem sc_level_behind : FnScope ["level", "number", "high"] ["level", "number", "high"] (defScope (top 20)) := ⟨rfl, rfl, rfl, by decide +kernel, rfl, by decide +kernel, by decide +kernel⟩
def m_level_behind : SM :=
  (sret (xcall (f2 min2D) (xcons (xvar 2) (xcons (xcall (f2 max2D) (xcons (xpure (.int 0)) (xcons (xop addD (xvar 0) (xvar 1)) (xpure [])))) (xpure [])))))
abbrev D_level_behind : DF := runF 3 m_level_behind
theorem b_level_behind {g : Gb} (GG : GF g) (b : Bd) (hr : Room 0 (b.A.deeper (PyProof.Rows.envOfC b.qual (defScope (top 20)) b.s.heap.objs.size b.f b.cdv))) :
    JSs (famB g 0 ["level", "number", "high"] sc_level_behind.nd (defScope (top 20)) b hr) (defBody (top 20)) m_level_behind :=
  (jss_one (js_ret (je_callB cs_min2 (by first | rfl | kernel_rfl) GG.b_min bt_min (ja_cons (je_var 2 rfl (.inl (by first | rfl | kernel_rfl))) (ja_cons (je_callB cs_max2 (by first | rfl | kernel_rfl) GG.b_max bt_max (ja_cons je_int (ja_cons (je_op os_add (je_var 0 rfl (.inl (by first | rfl | kernel_rfl))) (je_var 1 rfl (.inl (by first | rfl | kernel_rfl)))) ja_nil))) ja_nil)))))
theorem f_level_behind {g : Gb} (GG : GF g) : Fn g (top 20) "level_behind" "level_behind" ["level", "number", "high"] 1 D_level_behind := by
  obtain ⟨f, fd, hx, D0⟩ := GG.d_level_behind
  exact fn_mk outD outD_hout hx D0 sc_level_behind (fun kV doc pm an cdv ct us hl => match us, hl with | [_, _, _], _ => rfl) (fun b hr => b_level_behind GG b hr)
/-- levels_by -/
theorem sc_levels_by : FnScope ["row", "start", "high", "found", "number"] ["row", "start", "high"] (defScope (top 21)) := ⟨rfl, rfl, rfl, by decide +kernel, rfl, by decide +kernel, by decide +kernel⟩
def m_levels_by_b1 : SM :=
  (sdrop (xappend (xvar 3) (xfn 3 (D_level_behind) (xcons (xop ixD (xvar 3) (xneg (xpure (.int 1)))) (xcons (xvar 4) (xcons (xvar 2) (xpure [])))))))
def m_levels_by : SM :=
  (sseq (sset 3 (xlstM (xcons (xvar 1) (xpure [])))) (sseq (sfor (xwalk (xvar 0)) (gname 4) m_levels_by_b1) (sret (xcall (f1 tupleD) (xcons (xvar 3) (xpure []))))))
abbrev D_levels_by : DF := runF 5 m_levels_by
theorem b_levels_by {g : Gb} (GG : GF g) (b : Bd) (hr : Room 2 (b.A.deeper (PyProof.Rows.envOfC b.qual (defScope (top 21)) b.s.heap.objs.size b.f b.cdv))) :
    JSs (famB g 2 ["row", "start", "high", "found", "number"] sc_levels_by.nd (defScope (top 21)) b hr) (defBody (top 21)) m_levels_by :=
  (jss_cons (js_set 3 rfl (.inl (by first | rfl | kernel_rfl)) (je_lstM (ja_cons (je_var 1 rfl (.inl (by first | rfl | kernel_rfl))) ja_nil)))
      (jss_cons (js_for (ji_seq (je_var 0 rfl (.inl (by first | rfl | kernel_rfl)))) (jg_name 4 rfl (.inl (by first | rfl | kernel_rfl))) (jss_one (js_expr (je_append (je_var 3 rfl (.inl (by first | rfl | kernel_rfl))) (je_call (f_level_behind GG) (Nat.le_of_ble_eq_true rfl) (by first | rfl | kernel_rfl) (ja_cons (je_ix (je_var 3 rfl (.inl (by first | rfl | kernel_rfl))) (je_neg je_int)) (ja_cons (je_var 4 rfl (.inl (by first | rfl | kernel_rfl))) (ja_cons (je_var 2 rfl (.inl (by first | rfl | kernel_rfl))) ja_nil))))))))
      (jss_one (js_ret (je_callTy cs_tuple (by first | rfl | kernel_rfl) GG.b_tuple bt_tuple (ja_cons (je_var 3 rfl (.inl (by first | rfl | kernel_rfl))) ja_nil))))))
theorem f_levels_by {g : Gb} (GG : GF g) : Fn g (top 21) "levels_by" "levels_by" ["row", "start", "high"] 3 D_levels_by := by
  obtain ⟨f, fd, hx, D0⟩ := GG.d_levels_by
  exact fn_mk outD outD_hout hx D0 sc_levels_by (fun kV doc pm an cdv ct us hl => match us, hl with | [_, _, _], _ => rfl) (fun b hr => b_levels_by GG b hr)
/-- levels -/
theorem sc_levels : FnScope ["row", "start", "high"] ["row", "start", "high"] (defScope (top 31)) := ⟨rfl, rfl, rfl, by decide +kernel, rfl, by decide +kernel, by decide +kernel⟩
def m_levels : SM :=
  (sseq (sdrop (xfn 3 (D_check_tub) (xcons (xvar 0) (xcons (xvar 1) (xcons (xvar 2) (xpure [])))))) (sret (xfn 3 (D_levels_by) (xcons (xvar 0) (xcons (xvar 1) (xcons (xvar 2) (xpure [])))))))
abbrev D_levels : DF := runF 3 m_levels
theorem b_levels {g : Gb} (GG : GF g) (b : Bd) (hr : Room 12 (b.A.deeper (PyProof.Rows.envOfC b.qual (defScope (top 31)) b.s.heap.objs.size b.f b.cdv))) :
    JSs (famB g 12 ["row", "start", "high"] sc_levels.nd (defScope (top 31)) b hr) (defBody (top 31)) m_levels :=
  (jss_cons (js_expr (je_call (f_check_tub GG) (Nat.le_of_ble_eq_true rfl) (by first | rfl | kernel_rfl) (ja_cons (je_var 0 rfl (.inl (by first | rfl | kernel_rfl))) (ja_cons (je_var 1 rfl (.inl (by first | rfl | kernel_rfl))) (ja_cons (je_var 2 rfl (.inl (by first | rfl | kernel_rfl))) ja_nil)))))
      (jss_one (js_ret (je_call (f_levels_by GG) (Nat.le_of_ble_eq_true rfl) (by first | rfl | kernel_rfl) (ja_cons (je_var 0 rfl (.inl (by first | rfl | kernel_rfl))) (ja_cons (je_var 1 rfl (.inl (by first | rfl | kernel_rfl))) (ja_cons (je_var 2 rfl (.inl (by first | rfl | kernel_rfl))) ja_nil)))))))
theorem f_levels {g : Gb} (GG : GF g) : Fn g (top 31) "levels" "levels" ["row", "start", "high"] 13 D_levels := by
  obtain ⟨f, fd, hx, D0⟩ := GG.d_levels
  exact fn_mk outD outD_hout hx D0 sc_levels (fun kV doc pm an cdv ct us hl => match us, hl with | [_, _, _], _ => rfl) (fun b hr => b_levels GG b hr)
/-- beyond_by -/
theorem sc_beyond_by : FnScope ["row", "start", "high", "levels", "number", "place"] ["row", "start", "high"] (defScope (top 22)) := ⟨rfl, rfl, rfl, by decide +kernel, rfl, by decide +kernel, by decide +kernel⟩
def m_beyond_by_e1 : XM D :=
  (xop subD (xop addD (xop ixD (xvar 3) (xvar 5)) (xvar 4)) (xop ixD (xvar 3) (xop addD (xvar 5) (xpure (.int 1)))))
def m_beyond_by : SM :=
  (sseq (sset 3 (xfn 3 (D_levels_by) (xcons (xvar 0) (xcons (xvar 1) (xcons (xvar 2) (xpure [])))))) (sret (xcomp (xenum (xvar 0)) [5, 4] (gtup 2 (gcons (gname 5) (gcons (gname 4) gnil))) (xpure true) m_beyond_by_e1)))
abbrev D_beyond_by : DF := runF 6 m_beyond_by
theorem b_beyond_by {g : Gb} (GG : GF g) (b : Bd) (hr : Room 4 (b.A.deeper (PyProof.Rows.envOfC b.qual (defScope (top 22)) b.s.heap.objs.size b.f b.cdv))) :
    JSs (famB g 4 ["row", "start", "high", "levels", "number", "place"] sc_beyond_by.nd (defScope (top 22)) b hr) (defBody (top 22)) m_beyond_by :=
  (jss_cons (js_set 3 rfl (.inr (by first | rfl | kernel_rfl)) (je_call (f_levels_by GG) (Nat.le_of_ble_eq_true rfl) (by first | rfl | kernel_rfl) (ja_cons (je_var 0 rfl (.inl (by first | rfl | kernel_rfl))) (ja_cons (je_var 1 rfl (.inl (by first | rfl | kernel_rfl))) (ja_cons (je_var 2 rfl (.inl (by first | rfl | kernel_rfl))) ja_nil)))))
      (jss_one (js_ret (je_lc [("place", 5), ("number", 4)] (ji_enum (by first | rfl | kernel_rfl) GG.b_enumerate (je_var 0 rfl (.inl (by first | rfl | kernel_rfl)))) (by first | rfl | kernel_rfl) (jc_tup (jcs_cons (jc_name 5 rfl (.inl (by first | rfl | kernel_rfl)) (by decide)) (jcs_cons (jc_name 4 rfl (.inl (by first | rfl | kernel_rfl)) (by decide)) jcs_nil))) jts_nil (je_op os_sub (je_op os_add (je_ix (je_var 3 rfl (.inr (.inl (by first | rfl | kernel_rfl)))) (je_var 5 rfl (.inl (by first | rfl | kernel_rfl)))) (je_var 4 rfl (.inl (by first | rfl | kernel_rfl)))) (je_ix (je_var 3 rfl (.inr (.inl (by first | rfl | kernel_rfl)))) (je_op os_add (je_var 5 rfl (.inl (by first | rfl | kernel_rfl))) je_int)))))))
theorem f_beyond_by {g : Gb} (GG : GF g) : Fn g (top 22) "beyond_by" "beyond_by" ["row", "start", "high"] 5 D_beyond_by := by
  obtain ⟨f, fd, hx, D0⟩ := GG.d_beyond_by
  exact fn_mk outD outD_hout hx D0 sc_beyond_by (fun kV doc pm an cdv ct us hl => match us, hl with | [_, _, _], _ => rfl) (fun b hr => b_beyond_by GG b hr)
/-- spilled_by -/
theorem sc_spilled_by : FnScope ["row", "start", "high", "each"] ["row", "start", "high"] (defScope (top 23)) := ⟨rfl, rfl, rfl, by decide +kernel, rfl, by decide +kernel, by decide +kernel⟩
def m_spilled_by_e1 : XM D :=
  (xcall (f2 max2D) (xcons (xpure (.int 0)) (xcons (xvar 3) (xpure []))))
def m_spilled_by : SM :=
  (sret (xcall (f1 sumD) (xcons (xcomp (xwalk (xfn 3 (D_beyond_by) (xcons (xvar 0) (xcons (xvar 1) (xcons (xvar 2) (xpure [])))))) [3] (gname 3) (xpure true) m_spilled_by_e1) (xpure []))))
abbrev D_spilled_by : DF := runF 4 m_spilled_by
theorem b_spilled_by {g : Gb} (GG : GF g) (b : Bd) (hr : Room 6 (b.A.deeper (PyProof.Rows.envOfC b.qual (defScope (top 23)) b.s.heap.objs.size b.f b.cdv))) :
    JSs (famB g 6 ["row", "start", "high", "each"] sc_spilled_by.nd (defScope (top 23)) b hr) (defBody (top 23)) m_spilled_by :=
  (jss_one (js_ret (je_callB cs_sum (by first | rfl | kernel_rfl) GG.b_sum bt_sum (ja_cons (je_lc [("each", 3)] (ji_seq (je_call (f_beyond_by GG) (Nat.le_of_ble_eq_true rfl) (by first | rfl | kernel_rfl) (ja_cons (je_var 0 rfl (.inl (by first | rfl | kernel_rfl))) (ja_cons (je_var 1 rfl (.inl (by first | rfl | kernel_rfl))) (ja_cons (je_var 2 rfl (.inl (by first | rfl | kernel_rfl))) ja_nil))))) (by first | rfl | kernel_rfl) (jc_name 3 rfl (.inl (by first | rfl | kernel_rfl)) (by decide)) jts_nil (je_callB cs_max2 (by first | rfl | kernel_rfl) GG.b_max bt_max (ja_cons je_int (ja_cons (je_var 3 rfl (.inl (by first | rfl | kernel_rfl))) ja_nil)))) ja_nil))))
theorem f_spilled_by {g : Gb} (GG : GF g) : Fn g (top 23) "spilled_by" "spilled_by" ["row", "start", "high"] 7 D_spilled_by := by
  obtain ⟨f, fd, hx, D0⟩ := GG.d_spilled_by
  exact fn_mk outD outD_hout hx D0 sc_spilled_by (fun kV doc pm an cdv ct us hl => match us, hl with | [_, _, _], _ => rfl) (fun b hr => b_spilled_by GG b hr)
/-- spilled -/
theorem sc_spilled : FnScope ["row", "start", "high"] ["row", "start", "high"] (defScope (top 32)) := ⟨rfl, rfl, rfl, by decide +kernel, rfl, by decide +kernel, by decide +kernel⟩
def m_spilled : SM :=
  (sseq (sdrop (xfn 3 (D_check_tub) (xcons (xvar 0) (xcons (xvar 1) (xcons (xvar 2) (xpure [])))))) (sret (xfn 3 (D_spilled_by) (xcons (xvar 0) (xcons (xvar 1) (xcons (xvar 2) (xpure [])))))))
abbrev D_spilled : DF := runF 3 m_spilled
theorem b_spilled {g : Gb} (GG : GF g) (b : Bd) (hr : Room 12 (b.A.deeper (PyProof.Rows.envOfC b.qual (defScope (top 32)) b.s.heap.objs.size b.f b.cdv))) :
    JSs (famB g 12 ["row", "start", "high"] sc_spilled.nd (defScope (top 32)) b hr) (defBody (top 32)) m_spilled :=
  (jss_cons (js_expr (je_call (f_check_tub GG) (Nat.le_of_ble_eq_true rfl) (by first | rfl | kernel_rfl) (ja_cons (je_var 0 rfl (.inl (by first | rfl | kernel_rfl))) (ja_cons (je_var 1 rfl (.inl (by first | rfl | kernel_rfl))) (ja_cons (je_var 2 rfl (.inl (by first | rfl | kernel_rfl))) ja_nil)))))
      (jss_one (js_ret (je_call (f_spilled_by GG) (Nat.le_of_ble_eq_true rfl) (by first | rfl | kernel_rfl) (ja_cons (je_var 0 rfl (.inl (by first | rfl | kernel_rfl))) (ja_cons (je_var 1 rfl (.inl (by first | rfl | kernel_rfl))) (ja_cons (je_var 2 rfl (.inl (by first | rfl | kernel_rfl))) ja_nil)))))))
theorem f_spilled {g : Gb} (GG : GF g) : Fn g (top 32) "spilled" "spilled" ["row", "start", "high"] 13 D_spilled := by
  obtain ⟨f, fd, hx, D0⟩ := GG.d_spilled
  exact fn_mk outD outD_hout hx D0 sc_spilled (fun kV doc pm an cdv ct us hl => match us, hl with | [_, _, _], _ => rfl) (fun b hr => b_spilled GG b hr)
/-- lacking_by -/
theorem sc_lacking_by : FnScope ["row", "start", "high", "each"] ["row", "start", "high"] (defScope (top 24)) := ⟨rfl, rfl, rfl, by decide +kernel, rfl, by decide +kernel, by decide +kernel⟩
def m_lacking_by_e1 : XM D :=
  (xcall (f2 max2D) (xcons (xpure (.int 0)) (xcons (xneg (xvar 3)) (xpure []))))
def m_lacking_by : SM :=
  (sret (xcall (f1 sumD) (xcons (xcomp (xwalk (xfn 3 (D_beyond_by) (xcons (xvar 0) (xcons (xvar 1) (xcons (xvar 2) (xpure [])))))) [3] (gname 3) (xpure true) m_lacking_by_e1) (xpure []))))
abbrev D_lacking_by : DF := runF 4 m_lacking_by
theorem b_lacking_by {g : Gb} (GG : GF g) (b : Bd) (hr : Room 6 (b.A.deeper (PyProof.Rows.envOfC b.qual (defScope (top 24)) b.s.heap.objs.size b.f b.cdv))) :
    JSs (famB g 6 ["row", "start", "high", "each"] sc_lacking_by.nd (defScope (top 24)) b hr) (defBody (top 24)) m_lacking_by :=
  (jss_one (js_ret (je_callB cs_sum (by first | rfl | kernel_rfl) GG.b_sum bt_sum (ja_cons (je_lc [("each", 3)] (ji_seq (je_call (f_beyond_by GG) (Nat.le_of_ble_eq_true rfl) (by first | rfl | kernel_rfl) (ja_cons (je_var 0 rfl (.inl (by first | rfl | kernel_rfl))) (ja_cons (je_var 1 rfl (.inl (by first | rfl | kernel_rfl))) (ja_cons (je_var 2 rfl (.inl (by first | rfl | kernel_rfl))) ja_nil))))) (by first | rfl | kernel_rfl) (jc_name 3 rfl (.inl (by first | rfl | kernel_rfl)) (by decide)) jts_nil (je_callB cs_max2 (by first | rfl | kernel_rfl) GG.b_max bt_max (ja_cons je_int (ja_cons (je_neg (je_var 3 rfl (.inl (by first | rfl | kernel_rfl)))) ja_nil)))) ja_nil))))
theorem f_lacking_by {g : Gb} (GG : GF g) : Fn g (top 24) "lacking_by" "lacking_by" ["row", "start", "high"] 7 D_lacking_by := by
  obtain ⟨f, fd, hx, D0⟩ := GG.d_lacking_by
  exact fn_mk outD outD_hout hx D0 sc_lacking_by (fun kV doc pm an cdv ct us hl => match us, hl with | [_, _, _], _ => rfl) (fun b hr => b_lacking_by GG b hr)
/-- lacking -/
theorem sc_lacking : FnScope ["row", "start", "high"] ["row", "start", "high"] (defScope (top 33)) := ⟨rfl, rfl, rfl, by decide +kernel, rfl, by decide +kernel, by decide +kernel⟩
def m_lacking : SM :=
  (sseq (sdrop (xfn 3 (D_check_tub) (xcons (xvar 0) (xcons (xvar 1) (xcons (xvar 2) (xpure [])))))) (sret (xfn 3 (D_lacking_by) (xcons (xvar 0) (xcons (xvar 1) (xcons (xvar 2) (xpure [])))))))
abbrev D_lacking : DF := runF 3 m_lacking
theorem b_lacking {g : Gb} (GG : GF g) (b : Bd) (hr : Room 12 (b.A.deeper (PyProof.Rows.envOfC b.qual (defScope (top 33)) b.s.heap.objs.size b.f b.cdv))) :
    JSs (famB g 12 ["row", "start", "high"] sc_lacking.nd (defScope (top 33)) b hr) (defBody (top 33)) m_lacking :=
  (jss_cons (js_expr (je_call (f_check_tub GG) (Nat.le_of_ble_eq_true rfl) (by first | rfl | kernel_rfl) (ja_cons (je_var 0 rfl (.inl (by first | rfl | kernel_rfl))) (ja_cons (je_var 1 rfl (.inl (by first | rfl | kernel_rfl))) (ja_cons (je_var 2 rfl (.inl (by first | rfl | kernel_rfl))) ja_nil)))))
      (jss_one (js_ret (je_call (f_lacking_by GG) (Nat.le_of_ble_eq_true rfl) (by first | rfl | kernel_rfl) (ja_cons (je_var 0 rfl (.inl (by first | rfl | kernel_rfl))) (ja_cons (je_var 1 rfl (.inl (by first | rfl | kernel_rfl))) (ja_cons (je_var 2 rfl (.inl (by first | rfl | kernel_rfl))) ja_nil)))))))
theorem f_lacking {g : Gb} (GG : GF g) : Fn g (top 33) "lacking" "lacking" ["row", "start", "high"] 13 D_lacking := by
  obtain ⟨f, fd, hx, D0⟩ := GG.d_lacking
  exact fn_mk outD outD_hout hx D0 sc_lacking (fun kV doc pm an cdv ct us hl => match us, hl with | [_, _, _], _ => rfl) (fun b hr => b_lacking GG b hr)
/-- same_from_by -/
theorem sc_same_from_by : FnScope ["row", "high", "place", "low", "full"] ["row", "high"] (defScope (top 25)) := ⟨rfl, rfl, rfl, by decide +kernel, rfl, by decide +kernel, by decide +kernel⟩
def m_same_from_by_b1 : SM :=
  (sif (xbool (xop eqD (xvar 3) (xvar 4))) (sret (xvar 2)) snext)
def m_same_from_by : SM :=
  (sseq (sfor (xenumZ (xfn 3 (D_levels_by) (xcons (xvar 0) (xcons (xpure (.int 0)) (xcons (xvar 1) (xpure []))))) (xfn 3 (D_levels_by) (xcons (xvar 0) (xcons (xvar 1) (xcons (xvar 1) (xpure [])))))) (gtup 2 (gcons (gname 2) (gcons (gtup 2 (gcons (gname 3) (gcons (gname 4) gnil))) gnil))) m_same_from_by_b1) (sret (xpure .non)))
abbrev D_same_from_by : DF := runF 5 m_same_from_by
theorem b_same_from_by {g : Gb} (GG : GF g) (b : Bd) (hr : Room 4 (b.A.deeper (PyProof.Rows.envOfC b.qual (defScope (top 25)) b.s.heap.objs.size b.f b.cdv))) :
    JSs (famB g 4 ["row", "high", "place", "low", "full"] sc_same_from_by.nd (defScope (top 25)) b hr) (defBody (top 25)) m_same_from_by :=
  (jss_cons (js_for (ji_enumZ (by first | rfl | kernel_rfl) GG.b_enumerate (by first | rfl | kernel_rfl) GG.b_zip (je_call (f_levels_by GG) (Nat.le_of_ble_eq_true rfl) (by first | rfl | kernel_rfl) (ja_cons (je_var 0 rfl (.inl (by first | rfl | kernel_rfl))) (ja_cons je_int (ja_cons (je_var 1 rfl (.inl (by first | rfl | kernel_rfl))) ja_nil)))) (je_call (f_levels_by GG) (Nat.le_of_ble_eq_true rfl) (by first | rfl | kernel_rfl) (ja_cons (je_var 0 rfl (.inl (by first | rfl | kernel_rfl))) (ja_cons (je_var 1 rfl (.inl (by first | rfl | kernel_rfl))) (ja_cons (je_var 1 rfl (.inl (by first | rfl | kernel_rfl))) ja_nil))))) (jg_tup (jgs_cons (jg_name 2 rfl (.inl (by first | rfl | kernel_rfl))) (jgs_cons (jg_tup (jgs_cons (jg_name 3 rfl (.inl (by first | rfl | kernel_rfl))) (jgs_cons (jg_name 4 rfl (.inl (by first | rfl | kernel_rfl))) jgs_nil))) jgs_nil))) (jss_one (js_if (jt_cmp os_eq (je_var 3 rfl (.inl (by first | rfl | kernel_rfl))) (je_var 4 rfl (.inl (by first | rfl | kernel_rfl))) rfl) (jss_one (js_ret (je_var 2 rfl (.inl (by first | rfl | kernel_rfl))))) jss_nil)))
      (jss_one (js_ret je_non)))
theorem f_same_from_by {g : Gb} (GG : GF g) : Fn g (top 25) "same_from_by" "same_from_by" ["row", "high"] 5 D_same_from_by := by
  obtain ⟨f, fd, hx, D0⟩ := GG.d_same_from_by
  exact fn_mk outD outD_hout hx D0 sc_same_from_by (fun kV doc pm an cdv ct us hl => match us, hl with | [_, _], _ => rfl) (fun b hr => b_same_from_by GG b hr)
/-- same_from -/
theorem sc_same_from : FnScope ["row", "high"] ["row", "high"] (defScope (top 34)) := ⟨rfl, rfl, rfl, by decide +kernel, rfl, by decide +kernel, by decide +kernel⟩
def m_same_from : SM :=
  (sseq (sdrop (xfn 1 (D_check_row) (xcons (xvar 0) (xpure [])))) (sseq (sdrop (xfn 3 (D_check_number) (xcons (xvar 1) (xcons (xpure (.int 1)) (xcons (xpure (.int (99))) (xpure [])))))) (sret (xfn 2 (D_same_from_by) (xcons (xvar 0) (xcons (xvar 1) (xpure [])))))))
abbrev D_same_from : DF := runF 2 m_same_from
theorem b_same_from {g : Gb} (GG : GF g) (b : Bd) (hr : Room 10 (b.A.deeper (PyProof.Rows.envOfC b.qual (defScope (top 34)) b.s.heap.objs.size b.f b.cdv))) :
    JSs (famB g 10 ["row", "high"] sc_same_from.nd (defScope (top 34)) b hr) (defBody (top 34)) m_same_from :=
  (jss_cons (js_expr (je_call (f_check_row GG) (Nat.le_of_ble_eq_true rfl) (by first | rfl | kernel_rfl) (ja_cons (je_var 0 rfl (.inl (by first | rfl | kernel_rfl))) ja_nil)))
      (jss_cons (js_expr (je_call (f_check_number GG) (Nat.le_of_ble_eq_true rfl) (by first | rfl | kernel_rfl) (ja_cons (je_var 1 rfl (.inl (by first | rfl | kernel_rfl))) (ja_cons je_int (ja_cons (je_gint (by first | rfl | kernel_rfl) GG.c_MOST_HIGH) ja_nil)))))
      (jss_one (js_ret (je_call (f_same_from_by GG) (Nat.le_of_ble_eq_true rfl) (by first | rfl | kernel_rfl) (ja_cons (je_var 0 rfl (.inl (by first | rfl | kernel_rfl))) (ja_cons (je_var 1 rfl (.inl (by first | rfl | kernel_rfl))) ja_nil)))))))
theorem f_same_from {g : Gb} (GG : GF g) : Fn g (top 34) "same_from" "same_from" ["row", "high"] 11 D_same_from := by
  obtain ⟨f, fd, hx, D0⟩ := GG.d_same_from
  exact fn_mk outD outD_hout hx D0 sc_same_from (fun kV doc pm an cdv ct us hl => match us, hl with | [_, _], _ => rfl) (fun b hr => b_same_from GG b hr)
/-- _law_same -/
theorem sc_u_law_same : FnScope ["told", "due", "at"] ["told", "due"] (defScope (top 41)) := ⟨rfl, rfl, rfl, by decide +kernel, rfl, by decide +kernel, by decide +kernel⟩
def m_u_law_same_s1 : SM :=
  (sif (tor (tand (xtru (xcall (f2 isiD) (xcons (xvar 1) (xcons (xpure (.ty "tuple")) (xpure []))))) (tnot (xtru (xcall (f2 isiD) (xcons (xvar 0) (xcons (xpure (.ty "tuple")) (xpure []))))))) (tand (xtru (xcall (f2 isiD) (xcons (xvar 1) (xcons (xpure (.ty "list")) (xpure []))))) (tnot (xtru (xcall (f2 isiD) (xcons (xvar 0) (xcons (xpure (.ty "list")) (xpure [])))))))) (sret (xpure (.bl false))) snext)
def m_u_law_same_e1 (RR : DF) : XM D :=
  (xfn 2 (RR) (xcons (xop ixD (xvar 0) (xvar 2)) (xcons (xop ixD (xvar 1) (xvar 2)) (xpure []))))
def m_u_law_same_s2 (RR : DF) : SM :=
  (sif (xtru (xbind (xvar 1) (isi2D "tuple" "list"))) (sret (xand (xop eqD (xcall (f1 lenD) (xcons (xvar 0) (xpure []))) (xcall (f1 lenD) (xcons (xvar 1) (xpure [])))) (xcall (f1 allD) (xcons (xcomp (xrange1 (xcall (f1 lenD) (xcons (xvar 1) (xpure [])))) [2] (gname 2) (xpure true) (m_u_law_same_e1 RR)) (xpure []))))) snext)
def m_u_law_same_s3 : SM :=
  (sif (tor (xbool (xop isD (xvar 1) (xpure .non))) (xbool (xop isD (xvar 0) (xpure .non)))) (sret (xand (xop isD (xvar 1) (xpure .non)) (xop isD (xvar 0) (xpure .non)))) snext)
def m_u_law_same_s4 : SM :=
  (sif (tor (xtru (xcall (f2 isiD) (xcons (xvar 1) (xcons (xpure (.ty "bool")) (xpure []))))) (xtru (xcall (f2 isiD) (xcons (xvar 0) (xcons (xpure (.ty "bool")) (xpure [])))))) (sret (xand (xcall (f2 isiD) (xcons (xvar 1) (xcons (xpure (.ty "bool")) (xpure [])))) (xand (xcall (f2 isiD) (xcons (xvar 0) (xcons (xpure (.ty "bool")) (xpure [])))) (xop eqD (xvar 1) (xvar 0))))) snext)
def m_u_law_same_s5 : SM :=
  (sif (xtru (xcall (f2 isiD) (xcons (xvar 1) (xcons (xpure (.ty "int")) (xpure []))))) (sret (xand (xcall (f2 isiD) (xcons (xvar 0) (xcons (xpure (.ty "int")) (xpure [])))) (xop eqD (xvar 0) (xvar 1)))) snext)
def m_u_law_same_s6 : SM :=
  (sif (xtru (xcall (f2 isiD) (xcons (xvar 1) (xcons (xpure (.ty "str")) (xpure []))))) (sret (xand (xcall (f2 isiD) (xcons (xvar 0) (xcons (xpure (.ty "str")) (xpure [])))) (xop eqD (xvar 0) (xvar 1)))) snext)
def m_u_law_same_s7 : SM :=
  (sret (xand (xcall (f2 isiD) (xcons (xvar 1) (xcons (xpure (.ty "dict")) (xpure [])))) (xand (xcall (f2 isiD) (xcons (xvar 0) (xcons (xpure (.ty "dict")) (xpure [])))) (xand (xop eqD (xcall (f1 lenD) (xcons (xvar 0) (xpure []))) (xcall (f1 lenD) (xcons (xvar 1) (xpure [])))) (xop eqD (xvar 0) (xvar 1))))))
def m_u_law_same (RR : DF) : SM :=
  (sseq m_u_law_same_s1 (sseq (m_u_law_same_s2 RR) (sseq m_u_law_same_s3 (sseq m_u_law_same_s4 (sseq m_u_law_same_s5 (sseq m_u_law_same_s6 m_u_law_same_s7))))))
def D_u_law_same : Nat → DF
  | 0 => fun _ _ => .stuck
  | n + 1 => runF 3 (m_u_law_same (D_u_law_same n))
theorem b_u_law_same {g : Gb} (GG : GF g) {RR : DF} {k : Nat} (RF : Fn g (top 41) "_law_same" "_law_same" ["told", "due"] (k + 1) RR) (b : Bd) (hr : Room (k + 1) (b.A.deeper (PyProof.Rows.envOfC b.qual (defScope (top 41)) b.s.heap.objs.size b.f b.cdv))) :
    JSs (famB g (k + 1) ["told", "due", "at"] sc_u_law_same.nd (defScope (top 41)) b hr) (defBody (top 41)) (m_u_law_same RR) :=
  (jss_cons (js_if (jw_or (jw_and (jt_tru (je_callB cs_isi (by first | rfl | kernel_rfl) GG.b_isinstance bt_isinstance (ja_cons (je_var 1 rfl (.inr (.inl (by first | rfl | kernel_rfl)))) (ja_cons (je_gty (by first | rfl | kernel_rfl) GG.b_tuple bt_tuple) ja_nil)))) (jw_and1 (jt_not (jt_tru (je_callB cs_isi (by first | rfl | kernel_rfl) GG.b_isinstance bt_isinstance (ja_cons (je_var 0 rfl (.inr (.inl (by first | rfl | kernel_rfl)))) (ja_cons (je_gty (by first | rfl | kernel_rfl) GG.b_tuple bt_tuple) ja_nil))))))).jt (jw_or1 (jw_and (jt_tru (je_callB cs_isi (by first | rfl | kernel_rfl) GG.b_isinstance bt_isinstance (ja_cons (je_var 1 rfl (.inr (.inl (by first | rfl | kernel_rfl)))) (ja_cons (je_gty (by first | rfl | kernel_rfl) GG.b_list bt_list) ja_nil)))) (jw_and1 (jt_not (jt_tru (je_callB cs_isi (by first | rfl | kernel_rfl) GG.b_isinstance bt_isinstance (ja_cons (je_var 0 rfl (.inr (.inl (by first | rfl | kernel_rfl)))) (ja_cons (je_gty (by first | rfl | kernel_rfl) GG.b_list bt_list) ja_nil))))))).jt)).jt (jss_one (js_ret je_bl)) jss_nil)
      (jss_cons (js_if (jt_tru (je_isi2 (by first | rfl | kernel_rfl) GG.b_isinstance bt_isinstance (je_var 1 rfl (.inr (.inl (by first | rfl | kernel_rfl)))) (by first | rfl | kernel_rfl) GG.b_tuple bt_tuple (by first | rfl | kernel_rfl) GG.b_list bt_list)) (jss_one (js_ret (je_and (je_cmp os_eq (je_callB cs_len (by first | rfl | kernel_rfl) GG.b_len bt_len (ja_cons (je_var 0 rfl (.inr (.inl (by first | rfl | kernel_rfl)))) ja_nil)) (je_callB cs_len (by first | rfl | kernel_rfl) GG.b_len bt_len (ja_cons (je_var 1 rfl (.inr (.inl (by first | rfl | kernel_rfl)))) ja_nil)) rfl) (je_one (je_callB cs_all (by first | rfl | kernel_rfl) GG.b_all bt_all (ja_cons (je_lc [("at", 2)] (ji_range1 (by first | rfl | kernel_rfl) GG.b_range (je_callB cs_len (by first | rfl | kernel_rfl) GG.b_len bt_len (ja_cons (je_var 1 rfl (.inr (.inl (by first | rfl | kernel_rfl)))) ja_nil))) (by first | rfl | kernel_rfl) (jc_name 2 rfl (.inl (by first | rfl | kernel_rfl)) (by decide)) jts_nil (je_call RF (Nat.le_refl _) (by first | rfl | kernel_rfl) (ja_cons (je_ix (je_var 0 rfl (.inr (.inl (by first | rfl | kernel_rfl)))) (je_var 2 rfl (.inl (by first | rfl | kernel_rfl)))) (ja_cons (je_ix (je_var 1 rfl (.inr (.inl (by first | rfl | kernel_rfl)))) (je_var 2 rfl (.inl (by first | rfl | kernel_rfl)))) ja_nil)))) ja_nil)))))) jss_nil)
      (jss_cons (js_if (jw_or (jt_cmp os_is (je_var 1 rfl (.inr (.inl (by first | rfl | kernel_rfl)))) je_non rfl) (jw_or1 (jt_cmp os_is (je_var 0 rfl (.inr (.inl (by first | rfl | kernel_rfl)))) je_non rfl))).jt (jss_one (js_ret (je_and (je_cmp os_is (je_var 1 rfl (.inr (.inl (by first | rfl | kernel_rfl)))) je_non rfl) (je_one (je_cmp os_is (je_var 0 rfl (.inr (.inl (by first | rfl | kernel_rfl)))) je_non rfl))))) jss_nil)
      (jss_cons (js_if (jw_or (jt_tru (je_callB cs_isi (by first | rfl | kernel_rfl) GG.b_isinstance bt_isinstance (ja_cons (je_var 1 rfl (.inr (.inl (by first | rfl | kernel_rfl)))) (ja_cons (je_gty (by first | rfl | kernel_rfl) GG.b_bool bt_bool) ja_nil)))) (jw_or1 (jt_tru (je_callB cs_isi (by first | rfl | kernel_rfl) GG.b_isinstance bt_isinstance (ja_cons (je_var 0 rfl (.inr (.inl (by first | rfl | kernel_rfl)))) (ja_cons (je_gty (by first | rfl | kernel_rfl) GG.b_bool bt_bool) ja_nil)))))).jt (jss_one (js_ret (je_and (je_callB cs_isi (by first | rfl | kernel_rfl) GG.b_isinstance bt_isinstance (ja_cons (je_var 1 rfl (.inr (.inl (by first | rfl | kernel_rfl)))) (ja_cons (je_gty (by first | rfl | kernel_rfl) GG.b_bool bt_bool) ja_nil))) (je_and (je_callB cs_isi (by first | rfl | kernel_rfl) GG.b_isinstance bt_isinstance (ja_cons (je_var 0 rfl (.inr (.inl (by first | rfl | kernel_rfl)))) (ja_cons (je_gty (by first | rfl | kernel_rfl) GG.b_bool bt_bool) ja_nil))) (je_one (je_cmp os_eq (je_var 1 rfl (.inr (.inl (by first | rfl | kernel_rfl)))) (je_var 0 rfl (.inr (.inl (by first | rfl | kernel_rfl)))) rfl)))))) jss_nil)
      (jss_cons (js_if (jt_tru (je_callB cs_isi (by first | rfl | kernel_rfl) GG.b_isinstance bt_isinstance (ja_cons (je_var 1 rfl (.inr (.inl (by first | rfl | kernel_rfl)))) (ja_cons (je_gty (by first | rfl | kernel_rfl) GG.b_int bt_int) ja_nil)))) (jss_one (js_ret (je_and (je_callB cs_isi (by first | rfl | kernel_rfl) GG.b_isinstance bt_isinstance (ja_cons (je_var 0 rfl (.inr (.inl (by first | rfl | kernel_rfl)))) (ja_cons (je_gty (by first | rfl | kernel_rfl) GG.b_int bt_int) ja_nil))) (je_one (je_cmp os_eq (je_var 0 rfl (.inr (.inl (by first | rfl | kernel_rfl)))) (je_var 1 rfl (.inr (.inl (by first | rfl | kernel_rfl)))) rfl))))) jss_nil)
      (jss_cons (js_if (jt_tru (je_callB cs_isi (by first | rfl | kernel_rfl) GG.b_isinstance bt_isinstance (ja_cons (je_var 1 rfl (.inr (.inl (by first | rfl | kernel_rfl)))) (ja_cons (je_gty (by first | rfl | kernel_rfl) GG.b_str bt_str) ja_nil)))) (jss_one (js_ret (je_and (je_callB cs_isi (by first | rfl | kernel_rfl) GG.b_isinstance bt_isinstance (ja_cons (je_var 0 rfl (.inr (.inl (by first | rfl | kernel_rfl)))) (ja_cons (je_gty (by first | rfl | kernel_rfl) GG.b_str bt_str) ja_nil))) (je_one (je_cmp os_eq (je_var 0 rfl (.inr (.inl (by first | rfl | kernel_rfl)))) (je_var 1 rfl (.inr (.inl (by first | rfl | kernel_rfl)))) rfl))))) jss_nil)
      (jss_one (js_ret (je_and (je_callB cs_isi (by first | rfl | kernel_rfl) GG.b_isinstance bt_isinstance (ja_cons (je_var 1 rfl (.inr (.inl (by first | rfl | kernel_rfl)))) (ja_cons (je_gty (by first | rfl | kernel_rfl) GG.b_dict bt_dict) ja_nil))) (je_and (je_callB cs_isi (by first | rfl | kernel_rfl) GG.b_isinstance bt_isinstance (ja_cons (je_var 0 rfl (.inr (.inl (by first | rfl | kernel_rfl)))) (ja_cons (je_gty (by first | rfl | kernel_rfl) GG.b_dict bt_dict) ja_nil))) (je_and (je_cmp os_eq (je_callB cs_len (by first | rfl | kernel_rfl) GG.b_len bt_len (ja_cons (je_var 0 rfl (.inr (.inl (by first | rfl | kernel_rfl)))) ja_nil)) (je_callB cs_len (by first | rfl | kernel_rfl) GG.b_len bt_len (ja_cons (je_var 1 rfl (.inr (.inl (by first | rfl | kernel_rfl)))) ja_nil)) rfl) (je_one (je_cmp os_eq (je_var 0 rfl (.inr (.inl (by first | rfl | kernel_rfl)))) (je_var 1 rfl (.inr (.inl (by first | rfl | kernel_rfl)))) rfl)))))))))))))
theorem f_u_law_same {g : Gb} (GG : GF g) : ∀ n : Nat, Fn g (top 41) "_law_same" "_law_same" ["told", "due"] (n + 1) (D_u_law_same n)
  | 0 => let ⟨f, fd, hx, D0⟩ := GG.d_u_law_same; fn_stuck hx D0 sc_u_law_same (fun kV doc pm an cdv ct us hl => match us, hl with | [_, _], _ => rfl)
  | n + 1 => by
    obtain ⟨f, fd, hx, D0⟩ := GG.d_u_law_same
    have RF := f_u_law_same GG n
    have := fn_mk outD outD_hout hx D0 sc_u_law_same (fun kV doc pm an cdv ct us hl => match us, hl with | [_, _], _ => rfl) (fun b hr => b_u_law_same GG RF b hr)
    rw [show n + 1 + 1 = n + 1 + 1 by omega]
    exact this
/-- sums_by -/
theorem sc_sums_by : FnScope ["row", "found", "number"] ["row"] (defScope (top 12)) := ⟨rfl, rfl, rfl, by decide +kernel, rfl, by decide +kernel, by decide +kernel⟩
def m_sums_by_b1 : SM :=
  (sdrop (xappend (xvar 1) (xop addD (xop ixD (xvar 1) (xneg (xpure (.int 1)))) (xvar 2))))
def m_sums_by : SM :=
  (sseq (sset 1 (xlstM (xcons (xpure (.int 0)) (xpure [])))) (sseq (sfor (xwalk (xvar 0)) (gname 2) m_sums_by_b1) (sret (xcall (f1 tupleD) (xcons (xvar 1) (xpure []))))))
abbrev D_sums_by : DF := runF 3 m_sums_by
theorem b_sums_by {g : Gb} (GG : GF g) (b : Bd) (hr : Room 0 (b.A.deeper (PyProof.Rows.envOfC b.qual (defScope (top 12)) b.s.heap.objs.size b.f b.cdv))) :
    JSs (famB g 0 ["row", "found", "number"] sc_sums_by.nd (defScope (top 12)) b hr) (defBody (top 12)) m_sums_by :=
  (jss_cons (js_set 1 rfl (.inl (by first | rfl | kernel_rfl)) (je_lstM (ja_cons je_int ja_nil)))
      (jss_cons (js_for (ji_seq (je_var 0 rfl (.inl (by first | rfl | kernel_rfl)))) (jg_name 2 rfl (.inl (by first | rfl | kernel_rfl))) (jss_one (js_expr (je_append (je_var 1 rfl (.inl (by first | rfl | kernel_rfl))) (je_op os_add (je_ix (je_var 1 rfl (.inl (by first | rfl | kernel_rfl))) (je_neg je_int)) (je_var 2 rfl (.inl (by first | rfl | kernel_rfl))))))))
      (jss_one (js_ret (je_callTy cs_tuple (by first | rfl | kernel_rfl) GG.b_tuple bt_tuple (ja_cons (je_var 1 rfl (.inl (by first | rfl | kernel_rfl))) ja_nil))))))
theorem f_sums_by {g : Gb} (GG : GF g) : Fn g (top 12) "sums_by" "sums_by" ["row"] 1 D_sums_by := by
  obtain ⟨f, fd, hx, D0⟩ := GG.d_sums_by
  exact fn_mk outD outD_hout hx D0 sc_sums_by (fun kV doc pm an cdv ct us hl => match us, hl with | [_], _ => rfl) (fun b hr => b_sums_by GG b hr)
/-- total -/
theorem sc_total : FnScope ["row"] ["row"] (defScope (top 36)) := ⟨rfl, rfl, rfl, by decide +kernel, rfl, by decide +kernel, by decide +kernel⟩
def m_total : SM :=
  (sseq (sdrop (xfn 1 (D_check_row) (xcons (xvar 0) (xpure [])))) (sret (xop ixD (xfn 1 (D_sums_by) (xcons (xvar 0) (xpure []))) (xneg (xpure (.int 1))))))
abbrev D_total : DF := runF 1 m_total
theorem b_total {g : Gb} (GG : GF g) (b : Bd) (hr : Room 10 (b.A.deeper (PyProof.Rows.envOfC b.qual (defScope (top 36)) b.s.heap.objs.size b.f b.cdv))) :
    JSs (famB g 10 ["row"] sc_total.nd (defScope (top 36)) b hr) (defBody (top 36)) m_total :=
  (jss_cons (js_expr (je_call (f_check_row GG) (Nat.le_of_ble_eq_true rfl) (by first | rfl | kernel_rfl) (ja_cons (je_var 0 rfl (.inl (by first | rfl | kernel_rfl))) ja_nil)))
      (jss_one (js_ret (je_ix (je_call (f_sums_by GG) (Nat.le_of_ble_eq_true rfl) (by first | rfl | kernel_rfl) (ja_cons (je_var 0 rfl (.inl (by first | rfl | kernel_rfl))) ja_nil)) (je_neg je_int)))))
theorem f_total {g : Gb} (GG : GF g) : Fn g (top 36) "total" "total" ["row"] 11 D_total := by
  obtain ⟨f, fd, hx, D0⟩ := GG.d_total
  exact fn_mk outD outD_hout hx D0 sc_total (fun kV doc pm an cdv ct us hl => match us, hl with | [_], _ => rfl) (fun b hr => b_total GG b hr)
/-- waits_by -/
theorem sc_waits_by : FnScope ["row", "found", "number"] ["row"] (defScope (top 17)) := ⟨rfl, rfl, rfl, by decide +kernel, rfl, by decide +kernel, by decide +kernel⟩
def m_waits_by_b1 : SM :=
  (sdrop (xappend (xvar 1) (xcall (f2 max2D) (xcons (xpure (.int 0)) (xcons (xop addD (xop ixD (xvar 1) (xneg (xpure (.int 1)))) (xvar 2)) (xpure []))))))
def m_waits_by : SM :=
  (sseq (sset 1 (xlstM (xcons (xpure (.int 0)) (xpure [])))) (sseq (sfor (xwalk (xvar 0)) (gname 2) m_waits_by_b1) (sret (xcall (f1 tupleD) (xcons (xvar 1) (xpure []))))))
abbrev D_waits_by : DF := runF 3 m_waits_by
theorem b_waits_by {g : Gb} (GG : GF g) (b : Bd) (hr : Room 0 (b.A.deeper (PyProof.Rows.envOfC b.qual (defScope (top 17)) b.s.heap.objs.size b.f b.cdv))) :
    JSs (famB g 0 ["row", "found", "number"] sc_waits_by.nd (defScope (top 17)) b hr) (defBody (top 17)) m_waits_by :=
  (jss_cons (js_set 1 rfl (.inl (by first | rfl | kernel_rfl)) (je_lstM (ja_cons je_int ja_nil)))
      (jss_cons (js_for (ji_seq (je_var 0 rfl (.inl (by first | rfl | kernel_rfl)))) (jg_name 2 rfl (.inl (by first | rfl | kernel_rfl))) (jss_one (js_expr (je_append (je_var 1 rfl (.inl (by first | rfl | kernel_rfl))) (je_callB cs_max2 (by first | rfl | kernel_rfl) GG.b_max bt_max (ja_cons je_int (ja_cons (je_op os_add (je_ix (je_var 1 rfl (.inl (by first | rfl | kernel_rfl))) (je_neg je_int)) (je_var 2 rfl (.inl (by first | rfl | kernel_rfl)))) ja_nil)))))))
      (jss_one (js_ret (je_callTy cs_tuple (by first | rfl | kernel_rfl) GG.b_tuple bt_tuple (ja_cons (je_var 1 rfl (.inl (by first | rfl | kernel_rfl))) ja_nil))))))
theorem f_waits_by {g : Gb} (GG : GF g) : Fn g (top 17) "waits_by" "waits_by" ["row"] 1 D_waits_by := by
  obtain ⟨f, fd, hx, D0⟩ := GG.d_waits_by
  exact fn_mk outD outD_hout hx D0 sc_waits_by (fun kV doc pm an cdv ct us hl => match us, hl with | [_], _ => rfl) (fun b hr => b_waits_by GG b hr)
/-- waits -/
theorem sc_waits : FnScope ["row"] ["row"] (defScope (top 28)) := ⟨rfl, rfl, rfl, by decide +kernel, rfl, by decide +kernel, by decide +kernel⟩
def m_waits : SM :=
  (sseq (sdrop (xfn 1 (D_check_row) (xcons (xvar 0) (xpure [])))) (sret (xfn 1 (D_waits_by) (xcons (xvar 0) (xpure [])))))
abbrev D_waits : DF := runF 1 m_waits
theorem b_waits {g : Gb} (GG : GF g) (b : Bd) (hr : Room 10 (b.A.deeper (PyProof.Rows.envOfC b.qual (defScope (top 28)) b.s.heap.objs.size b.f b.cdv))) :
    JSs (famB g 10 ["row"] sc_waits.nd (defScope (top 28)) b hr) (defBody (top 28)) m_waits :=
  (jss_cons (js_expr (je_call (f_check_row GG) (Nat.le_of_ble_eq_true rfl) (by first | rfl | kernel_rfl) (ja_cons (je_var 0 rfl (.inl (by first | rfl | kernel_rfl))) ja_nil)))
      (jss_one (js_ret (je_call (f_waits_by GG) (Nat.le_of_ble_eq_true rfl) (by first | rfl | kernel_rfl) (ja_cons (je_var 0 rfl (.inl (by first | rfl | kernel_rfl))) ja_nil)))))
theorem f_waits {g : Gb} (GG : GF g) : Fn g (top 28) "waits" "waits" ["row"] 11 D_waits := by
  obtain ⟨f, fd, hx, D0⟩ := GG.d_waits
  exact fn_mk outD outD_hout hx D0 sc_waits (fun kV doc pm an cdv ct us hl => match us, hl with | [_], _ => rfl) (fun b hr => b_waits GG b hr)
/-- last_wait -/
theorem sc_last_wait : FnScope ["row"] ["row"] (defScope (top 18)) := ⟨rfl, rfl, rfl, by decide +kernel, rfl, by decide +kernel, by decide +kernel⟩
def m_last_wait : SM :=
  (sret (xop ixD (xfn 1 (D_waits_by) (xcons (xvar 0) (xpure []))) (xneg (xpure (.int 1)))))
abbrev D_last_wait : DF := runF 1 m_last_wait
theorem b_last_wait {g : Gb} (GG : GF g) (b : Bd) (hr : Room 2 (b.A.deeper (PyProof.Rows.envOfC b.qual (defScope (top 18)) b.s.heap.objs.size b.f b.cdv))) :
    JSs (famB g 2 ["row"] sc_last_wait.nd (defScope (top 18)) b hr) (defBody (top 18)) m_last_wait :=
  (jss_one (js_ret (je_ix (je_call (f_waits_by GG) (Nat.le_of_ble_eq_true rfl) (by first | rfl | kernel_rfl) (ja_cons (je_var 0 rfl (.inl (by first | rfl | kernel_rfl))) ja_nil)) (je_neg je_int))))
theorem f_last_wait {g : Gb} (GG : GF g) : Fn g (top 18) "last_wait" "last_wait" ["row"] 3 D_last_wait := by
  obtain ⟨f, fd, hx, D0⟩ := GG.d_last_wait
  exact fn_mk outD outD_hout hx D0 sc_last_wait (fun kV doc pm an cdv ct us hl => match us, hl with | [_], _ => rfl) (fun b hr => b_last_wait GG b hr)
/-- lost_by -/
theorem sc_lost_by : FnScope ["row"] ["row"] (defScope (top 19)) := ⟨rfl, rfl, rfl, by decide +kernel, rfl, by decide +kernel, by decide +kernel⟩
def m_lost_by : SM :=
  (sret (xop subD (xfn 1 (D_last_wait) (xcons (xvar 0) (xpure []))) (xcall (f1 sumD) (xcons (xvar 0) (xpure [])))))
abbrev D_lost_by : DF := runF 1 m_lost_by
theorem b_lost_by {g : Gb} (GG : GF g) (b : Bd) (hr : Room 4 (b.A.deeper (PyProof.Rows.envOfC b.qual (defScope (top 19)) b.s.heap.objs.size b.f b.cdv))) :
    JSs (famB g 4 ["row"] sc_lost_by.nd (defScope (top 19)) b hr) (defBody (top 19)) m_lost_by :=
  (jss_one (js_ret (je_op os_sub (je_call (f_last_wait GG) (Nat.le_of_ble_eq_true rfl) (by first | rfl | kernel_rfl) (ja_cons (je_var 0 rfl (.inl (by first | rfl | kernel_rfl))) ja_nil)) (je_callB cs_sum (by first | rfl | kernel_rfl) GG.b_sum bt_sum (ja_cons (je_var 0 rfl (.inl (by first | rfl | kernel_rfl))) ja_nil)))))
theorem f_lost_by {g : Gb} (GG : GF g) : Fn g (top 19) "lost_by" "lost_by" ["row"] 5 D_lost_by := by
  obtain ⟨f, fd, hx, D0⟩ := GG.d_lost_by
  exact fn_mk outD outD_hout hx D0 sc_lost_by (fun kV doc pm an cdv ct us hl => match us, hl with | [_], _ => rfl) (fun b hr => b_lost_by GG b hr)
/-- lost -/
theorem sc_lost : FnScope ["row"] ["row"] (defScope (top 29)) := ⟨rfl, rfl, rfl, by decide +kernel, rfl, by decide +kernel, by decide +kernel⟩
def m_lost : SM :=
  (sseq (sdrop (xfn 1 (D_check_row) (xcons (xvar 0) (xpure [])))) (sret (xfn 1 (D_lost_by) (xcons (xvar 0) (xpure [])))))
abbrev D_lost : DF := runF 1 m_lost
theorem b_lost {g : Gb} (GG : GF g) (b : Bd) (hr : Room 10 (b.A.deeper (PyProof.Rows.envOfC b.qual (defScope (top 29)) b.s.heap.objs.size b.f b.cdv))) :
    JSs (famB g 10 ["row"] sc_lost.nd (defScope (top 29)) b hr) (defBody (top 29)) m_lost :=
  (jss_cons (js_expr (je_call (f_check_row GG) (Nat.le_of_ble_eq_true rfl) (by first | rfl | kernel_rfl) (ja_cons (je_var 0 rfl (.inl (by first | rfl | kernel_rfl))) ja_nil)))
      (jss_one (js_ret (je_call (f_lost_by GG) (Nat.le_of_ble_eq_true rfl) (by first | rfl | kernel_rfl) (ja_cons (je_var 0 rfl (.inl (by first | rfl | kernel_rfl))) ja_nil)))))
theorem f_lost {g : Gb} (GG : GF g) : Fn g (top 29) "lost" "lost" ["row"] 11 D_lost := by
  obtain ⟨f, fd, hx, D0⟩ := GG.d_lost
  exact fn_mk outD outD_hout hx D0 sc_lost (fun kV doc pm an cdv ct us hl => match us, hl with | [_], _ => rfl) (fun b hr => b_lost GG b hr)
/-- _law_is_told -/
theorem sc_u_law_is_told : FnScope ["well", "row", "high", "start", "line", "over", "under", "told", "low", "top", "same", "k"] ["well", "row", "high"] (defScope (top 44)) := ⟨rfl, rfl, rfl, by decide +kernel, rfl, by decide +kernel, by decide +kernel⟩
def m_u_law_is_told_s1 : SM :=
  (sset 3 (xfn 2 (D_u_law_take) (xcons (xvar 0) (xcons (xop addD (xvar 2) (xpure (.int 1))) (xpure [])))))
def m_u_law_is_told_s2 : SM :=
  (sasg (xfn 3 (D_u_law_levels) (xcons (xvar 1) (xcons (xvar 3) (xcons (xvar 2) (xpure []))))) (gtup 3 (gcons (gname 4) (gcons (gname 5) (gcons (gname 6) gnil)))))
def m_u_law_is_told_s3 : SM :=
  (sif (xbool (xop eqD (xfn 2 (D_u_law_take) (xcons (xvar 0) (xcons (xpure (.int 2)) (xpure [])))) (xpure (.int 0)))) (sset 7 (xlst (xcons (xfn 3 (D_levels) (xcons (xvar 1) (xcons (xvar 3) (xcons (xvar 2) (xpure []))))) (xcons (xfn 3 (D_spilled) (xcons (xvar 1) (xcons (xvar 3) (xcons (xvar 2) (xpure []))))) (xcons (xfn 3 (D_lacking) (xcons (xvar 1) (xcons (xvar 3) (xcons (xvar 2) (xpure []))))) (xcons (xfn 2 (D_same_from) (xcons (xvar 1) (xcons (xvar 2) (xpure [])))) (xpure []))))))) (sset 7 (xlst (xcons (xfnK 0 [2, 1, 0] 3 (D_levels) (xpure []) (xcons (xvar 2) (xcons (xvar 3) (xcons (xvar 1) (xpure []))))) (xcons (xfnK 0 [2, 1, 0] 3 (D_spilled) (xpure []) (xcons (xvar 2) (xcons (xvar 3) (xcons (xvar 1) (xpure []))))) (xcons (xfnK 0 [2, 1, 0] 3 (D_lacking) (xpure []) (xcons (xvar 2) (xcons (xvar 3) (xcons (xvar 1) (xpure []))))) (xcons (xfnK 0 [1, 0] 2 (D_same_from) (xpure []) (xcons (xvar 2) (xcons (xvar 1) (xpure [])))) (xpure []))))))))
def m_u_law_is_told_s4 : SM :=
  (sasg (xtup (xcons (xop ixD (xfn 3 (D_u_law_levels) (xcons (xvar 1) (xcons (xpure (.int 0)) (xcons (xvar 2) (xpure []))))) (xpure (.int 0))) (xcons (xop ixD (xfn 3 (D_u_law_levels) (xcons (xvar 1) (xcons (xvar 2) (xcons (xvar 2) (xpure []))))) (xpure (.int 0))) (xpure [])))) (gtup 2 (gcons (gname 8) (gcons (gname 9) gnil))))
def m_u_law_is_told_t1 : XM Bool :=
  (xbool (xop eqD (xop ixD (xvar 8) (xvar 11)) (xop ixD (xvar 9) (xvar 11))))
def m_u_law_is_told_s5 : SM :=
  (sset 10 (xcomp (xrange1 (xcall (f1 lenD) (xcons (xvar 8) (xpure [])))) [11] (gname 11) m_u_law_is_told_t1 (xvar 11)))
def m_u_law_is_told_s6 : SM :=
  (sif (tor (tnot (xtru (xfn 2 (D_u_law_same 6) (xcons (xvar 7) (xcons (xlst (xcons (xvar 4) (xcons (xvar 5) (xcons (xvar 6) (xcons (xif (xbool (xop neD (xvar 10) (xlst (xpure [])))) (xop ixD (xvar 10) (xpure (.int 0))) (xpure .non)) (xpure [])))))) (xpure [])))))) (xbool (xop neD (xop ixD (xvar 4) (xneg (xpure (.int 1)))) (xop subD (xop addD (xop addD (xvar 3) (xfn 1 (D_total) (xcons (xvar 1) (xpure [])))) (xvar 6)) (xvar 5))))) (sret (xpure (.bl false))) snext)
def m_u_law_is_told_e1 : XM D :=
  (xop gtD (xop subD (xop ixD (xvar 9) (xop addD (xvar 11) (xpure (.int 1)))) (xop ixD (xvar 8) (xop addD (xvar 11) (xpure (.int 1))))) (xop subD (xop ixD (xvar 9) (xvar 11)) (xop ixD (xvar 8) (xvar 11))))
def m_u_law_is_told_s7 : SM :=
  (sif (tor (xtru (xcall (f1 anyD) (xcons (xcomp (xrange1 (xcall (f1 lenD) (xcons (xvar 1) (xpure [])))) [11] (gname 11) (xpure true) m_u_law_is_told_e1) (xpure [])))) (tand (xbool (xop neD (xvar 10) (xlst (xpure [])))) (xbool (xop neD (xslice (xvar 4) (xpart (xop ixD (xvar 10) (xpure (.int 0)))) (xpure none)) (xslice (xvar 8) (xpart (xop ixD (xvar 10) (xpure (.int 0)))) (xpure none)))))) (sret (xpure (.bl false))) snext)
def m_u_law_is_told_s8 : SM :=
  (sret (xor' (xop ltD (xvar 2) (xpure (.int 80))) (xand (xop eqD (xfn 3 (D_levels) (xcons (xvar 1) (xcons (xpure (.int 0)) (xcons (xvar 2) (xpure []))))) (xfn 1 (D_waits) (xcons (xvar 1) (xpure [])))) (xand (xop eqD (xfn 3 (D_lacking) (xcons (xvar 1) (xcons (xpure (.int 0)) (xcons (xvar 2) (xpure []))))) (xfn 1 (D_lost) (xcons (xvar 1) (xpure [])))) (xop eqD (xfn 3 (D_spilled) (xcons (xvar 1) (xcons (xpure (.int 0)) (xcons (xvar 2) (xpure []))))) (xpure (.int 0)))))))
def m_u_law_is_told : SM :=
  (sseq m_u_law_is_told_s1 (sseq m_u_law_is_told_s2 (sseq m_u_law_is_told_s3 (sseq m_u_law_is_told_s4 (sseq m_u_law_is_told_s5 (sseq m_u_law_is_told_s6 (sseq m_u_law_is_told_s7 m_u_law_is_told_s8)))))))
abbrev D_u_law_is_told : DF := runF 12 m_u_law_is_told
theorem b_u_law_is_told {g : Gb} (GG : GF g) (b : Bd) (hr : Room 14 (b.A.deeper (PyProof.Rows.envOfC b.qual (defScope (top 44)) b.s.heap.objs.size b.f b.cdv))) :
    JSs (famB g 14 ["well", "row", "high", "start", "line", "over", "under", "told", "low", "top", "same", "k"] sc_u_law_is_told.nd (defScope (top 44)) b hr) (defBody (top 44)) m_u_law_is_told :=
  (jss_cons (js_set 3 rfl (.inl (by first | rfl | kernel_rfl)) (je_call (f_u_law_take GG) (Nat.le_of_ble_eq_true rfl) (by first | rfl | kernel_rfl) (ja_cons (je_var 0 rfl (.inl (by first | rfl | kernel_rfl))) (ja_cons (je_op os_add (je_var 2 rfl (.inl (by first | rfl | kernel_rfl))) je_int) ja_nil))))
      (jss_cons (js_asg (je_call (f_u_law_levels GG) (Nat.le_of_ble_eq_true rfl) (by first | rfl | kernel_rfl) (ja_cons (je_var 1 rfl (.inl (by first | rfl | kernel_rfl))) (ja_cons (je_var 3 rfl (.inl (by first | rfl | kernel_rfl))) (ja_cons (je_var 2 rfl (.inl (by first | rfl | kernel_rfl))) ja_nil)))) (jg_tup (jgs_cons (jg_name 4 rfl (.inl (by first | rfl | kernel_rfl))) (jgs_cons (jg_name 5 rfl (.inl (by first | rfl | kernel_rfl))) (jgs_cons (jg_name 6 rfl (.inl (by first | rfl | kernel_rfl))) jgs_nil)))))
      (jss_cons (js_if (jt_cmp os_eq (je_call (f_u_law_take GG) (Nat.le_of_ble_eq_true rfl) (by first | rfl | kernel_rfl) (ja_cons (je_var 0 rfl (.inl (by first | rfl | kernel_rfl))) (ja_cons je_int ja_nil))) je_int rfl) (jss_one (js_set 7 rfl (.inl (by first | rfl | kernel_rfl)) (je_lst (ja_cons (je_call (f_levels GG) (Nat.le_of_ble_eq_true rfl) (by first | rfl | kernel_rfl) (ja_cons (je_var 1 rfl (.inl (by first | rfl | kernel_rfl))) (ja_cons (je_var 3 rfl (.inl (by first | rfl | kernel_rfl))) (ja_cons (je_var 2 rfl (.inl (by first | rfl | kernel_rfl))) ja_nil)))) (ja_cons (je_call (f_spilled GG) (Nat.le_of_ble_eq_true rfl) (by first | rfl | kernel_rfl) (ja_cons (je_var 1 rfl (.inl (by first | rfl | kernel_rfl))) (ja_cons (je_var 3 rfl (.inl (by first | rfl | kernel_rfl))) (ja_cons (je_var 2 rfl (.inl (by first | rfl | kernel_rfl))) ja_nil)))) (ja_cons (je_call (f_lacking GG) (Nat.le_of_ble_eq_true rfl) (by first | rfl | kernel_rfl) (ja_cons (je_var 1 rfl (.inl (by first | rfl | kernel_rfl))) (ja_cons (je_var 3 rfl (.inl (by first | rfl | kernel_rfl))) (ja_cons (je_var 2 rfl (.inl (by first | rfl | kernel_rfl))) ja_nil)))) (ja_cons (je_call (f_same_from GG) (Nat.le_of_ble_eq_true rfl) (by first | rfl | kernel_rfl) (ja_cons (je_var 1 rfl (.inl (by first | rfl | kernel_rfl))) (ja_cons (je_var 2 rfl (.inl (by first | rfl | kernel_rfl))) ja_nil))) ja_nil))))))) (jss_one (js_set 7 rfl (.inl (by first | rfl | kernel_rfl)) (je_lst (ja_cons (je_callK0 (ks := ["high", "start", "row"]) (ix := [2, 1, 0]) (f_levels GG) (Nat.le_of_ble_eq_true rfl) (by first | rfl | kernel_rfl) (fun kV doc pm an cdv ct us ws hu hw => match us, hu, ws, hw with | [], _, [_, _, _], _ => rfl) rfl (jk_cons (je_var 2 rfl (.inl (by first | rfl | kernel_rfl))) (jk_cons (je_var 3 rfl (.inl (by first | rfl | kernel_rfl))) (jk_cons (je_var 1 rfl (.inl (by first | rfl | kernel_rfl))) jk_nil)))) (ja_cons (je_callK0 (ks := ["high", "start", "row"]) (ix := [2, 1, 0]) (f_spilled GG) (Nat.le_of_ble_eq_true rfl) (by first | rfl | kernel_rfl) (fun kV doc pm an cdv ct us ws hu hw => match us, hu, ws, hw with | [], _, [_, _, _], _ => rfl) rfl (jk_cons (je_var 2 rfl (.inl (by first | rfl | kernel_rfl))) (jk_cons (je_var 3 rfl (.inl (by first | rfl | kernel_rfl))) (jk_cons (je_var 1 rfl (.inl (by first | rfl | kernel_rfl))) jk_nil)))) (ja_cons (je_callK0 (ks := ["high", "start", "row"]) (ix := [2, 1, 0]) (f_lacking GG) (Nat.le_of_ble_eq_true rfl) (by first | rfl | kernel_rfl) (fun kV doc pm an cdv ct us ws hu hw => match us, hu, ws, hw with | [], _, [_, _, _], _ => rfl) rfl (jk_cons (je_var 2 rfl (.inl (by first | rfl | kernel_rfl))) (jk_cons (je_var 3 rfl (.inl (by first | rfl | kernel_rfl))) (jk_cons (je_var 1 rfl (.inl (by first | rfl | kernel_rfl))) jk_nil)))) (ja_cons (je_callK0 (ks := ["high", "row"]) (ix := [1, 0]) (f_same_from GG) (Nat.le_of_ble_eq_true rfl) (by first | rfl | kernel_rfl) (fun kV doc pm an cdv ct us ws hu hw => match us, hu, ws, hw with | [], _, [_, _], _ => rfl) rfl (jk_cons (je_var 2 rfl (.inl (by first | rfl | kernel_rfl))) (jk_cons (je_var 1 rfl (.inl (by first | rfl | kernel_rfl))) jk_nil))) ja_nil))))))))
      (jss_cons (js_asgF (je_tup (ja_cons (je_ix (je_call (f_u_law_levels GG) (Nat.le_of_ble_eq_true rfl) (by first | rfl | kernel_rfl) (ja_cons (je_var 1 rfl (.inl (by first | rfl | kernel_rfl))) (ja_cons je_int (ja_cons (je_var 2 rfl (.inl (by first | rfl | kernel_rfl))) ja_nil)))) je_int) (ja_cons (je_ix (je_call (f_u_law_levels GG) (Nat.le_of_ble_eq_true rfl) (by first | rfl | kernel_rfl) (ja_cons (je_var 1 rfl (.inl (by first | rfl | kernel_rfl))) (ja_cons (je_var 2 rfl (.inl (by first | rfl | kernel_rfl))) (ja_cons (je_var 2 rfl (.inl (by first | rfl | kernel_rfl))) ja_nil)))) je_int) ja_nil))) (jg_tup (jgs_cons (jg_name 8 rfl (.inr (by first | rfl | kernel_rfl))) (jgs_cons (jg_name 9 rfl (.inr (by first | rfl | kernel_rfl))) jgs_nil))) (by intro _; rfl) (fun W X m => by obtain ⟨rfl, rfl⟩ := m; first | rfl | kernel_rfl))
      (jss_cons (js_setLc 10 [("k", 11)] rfl (by first | rfl | kernel_rfl) rfl rfl (by first | rfl | kernel_rfl) (ji_range1 (by first | rfl | kernel_rfl) GG.b_range (je_callB cs_len (by first | rfl | kernel_rfl) GG.b_len bt_len (ja_cons (je_var 8 rfl (.inr (.inl (by first | rfl | kernel_rfl)))) ja_nil))) (by first | rfl | kernel_rfl) (jc_name 11 rfl (.inl (by first | rfl | kernel_rfl)) (by decide)) (jts_one (jt_cmp os_eq (je_ix (je_var 8 rfl (.inr (.inl (by first | rfl | kernel_rfl)))) (je_var 11 rfl (.inl (by first | rfl | kernel_rfl)))) (je_ix (je_var 9 rfl (.inr (.inl (by first | rfl | kernel_rfl)))) (je_var 11 rfl (.inl (by first | rfl | kernel_rfl)))) rfl)) (je_var 11 rfl (.inl (by first | rfl | kernel_rfl))))
      (jss_cons (js_if (jw_or (jt_not (jt_tru (je_call (f_u_law_same GG 6) (Nat.le_of_ble_eq_true rfl) (by first | rfl | kernel_rfl) (ja_cons (je_var 7 rfl (.inl (by first | rfl | kernel_rfl))) (ja_cons (je_lst (ja_cons (je_var 4 rfl (.inl (by first | rfl | kernel_rfl))) (ja_cons (je_var 5 rfl (.inl (by first | rfl | kernel_rfl))) (ja_cons (je_var 6 rfl (.inl (by first | rfl | kernel_rfl))) (ja_cons (je_if (jt_cmp os_ne (je_var 10 rfl (.inl (by first | rfl | kernel_rfl))) (je_lst ja_nil) rfl) (je_ix (je_var 10 rfl (.inl (by first | rfl | kernel_rfl))) je_int) je_non) ja_nil))))) ja_nil))))) (jw_or1 (jt_cmp os_ne (je_ix (je_var 4 rfl (.inl (by first | rfl | kernel_rfl))) (je_neg je_int)) (je_op os_sub (je_op os_add (je_op os_add (je_var 3 rfl (.inl (by first | rfl | kernel_rfl))) (je_call (f_total GG) (Nat.le_of_ble_eq_true rfl) (by first | rfl | kernel_rfl) (ja_cons (je_var 1 rfl (.inl (by first | rfl | kernel_rfl))) ja_nil))) (je_var 6 rfl (.inl (by first | rfl | kernel_rfl)))) (je_var 5 rfl (.inl (by first | rfl | kernel_rfl)))) rfl))).jt (jss_one (js_ret je_bl)) jss_nil)
      (jss_cons (js_if (jw_or (jt_tru (je_callB cs_any (by first | rfl | kernel_rfl) GG.b_any bt_any (ja_cons (je_lc [("k", 11)] (ji_range1 (by first | rfl | kernel_rfl) GG.b_range (je_callB cs_len (by first | rfl | kernel_rfl) GG.b_len bt_len (ja_cons (je_var 1 rfl (.inl (by first | rfl | kernel_rfl))) ja_nil))) (by first | rfl | kernel_rfl) (jc_name 11 rfl (.inl (by first | rfl | kernel_rfl)) (by decide)) jts_nil (je_cmp os_gt (je_op os_sub (je_ix (je_var 9 rfl (.inr (.inl (by first | rfl | kernel_rfl)))) (je_op os_add (je_var 11 rfl (.inl (by first | rfl | kernel_rfl))) je_int)) (je_ix (je_var 8 rfl (.inr (.inl (by first | rfl | kernel_rfl)))) (je_op os_add (je_var 11 rfl (.inl (by first | rfl | kernel_rfl))) je_int))) (je_op os_sub (je_ix (je_var 9 rfl (.inr (.inl (by first | rfl | kernel_rfl)))) (je_var 11 rfl (.inl (by first | rfl | kernel_rfl)))) (je_ix (je_var 8 rfl (.inr (.inl (by first | rfl | kernel_rfl)))) (je_var 11 rfl (.inl (by first | rfl | kernel_rfl))))) rfl)) ja_nil))) (jw_or1 (jw_and (jt_cmp os_ne (je_var 10 rfl (.inl (by first | rfl | kernel_rfl))) (je_lst ja_nil) rfl) (jw_and1 (jt_cmp os_ne (je_slice (je_var 4 rfl (.inl (by first | rfl | kernel_rfl))) (jo_some (je_ix (je_var 10 rfl (.inl (by first | rfl | kernel_rfl))) je_int)) jo_none) (je_slice (je_var 8 rfl (.inr (.inl (by first | rfl | kernel_rfl)))) (jo_some (je_ix (je_var 10 rfl (.inl (by first | rfl | kernel_rfl))) je_int)) jo_none) rfl))).jt)).jt (jss_one (js_ret je_bl)) jss_nil)
      (jss_one (js_ret (je_or (je_cmp os_lt (je_var 2 rfl (.inl (by first | rfl | kernel_rfl))) je_int rfl) (je_one (je_and (je_cmp os_eq (je_call (f_levels GG) (Nat.le_of_ble_eq_true rfl) (by first | rfl | kernel_rfl) (ja_cons (je_var 1 rfl (.inl (by first | rfl | kernel_rfl))) (ja_cons je_int (ja_cons (je_var 2 rfl (.inl (by first | rfl | kernel_rfl))) ja_nil)))) (je_call (f_waits GG) (Nat.le_of_ble_eq_true rfl) (by first | rfl | kernel_rfl) (ja_cons (je_var 1 rfl (.inl (by first | rfl | kernel_rfl))) ja_nil)) rfl) (je_and (je_cmp os_eq (je_call (f_lacking GG) (Nat.le_of_ble_eq_true rfl) (by first | rfl | kernel_rfl) (ja_cons (je_var 1 rfl (.inl (by first | rfl | kernel_rfl))) (ja_cons je_int (ja_cons (je_var 2 rfl (.inl (by first | rfl | kernel_rfl))) ja_nil)))) (je_call (f_lost GG) (Nat.le_of_ble_eq_true rfl) (by first | rfl | kernel_rfl) (ja_cons (je_var 1 rfl (.inl (by first | rfl | kernel_rfl))) ja_nil)) rfl) (je_one (je_cmp os_eq (je_call (f_spilled GG) (Nat.le_of_ble_eq_true rfl) (by first | rfl | kernel_rfl) (ja_cons (je_var 1 rfl (.inl (by first | rfl | kernel_rfl))) (ja_cons je_int (ja_cons (je_var 2 rfl (.inl (by first | rfl | kernel_rfl))) ja_nil)))) je_int rfl)))))))))))))))
theorem f_u_law_is_told {g : Gb} (GG : GF g) : Fn g (top 44) "_law_is_told" "_law_is_told" ["well", "row", "high"] 15 D_u_law_is_told := by
  obtain ⟨f, fd, hx, D0⟩ := GG.d_u_law_is_told
  exact fn_mk outD outD_hout hx D0 sc_u_law_is_told (fun kV doc pm an cdv ct us hl => match us, hl with | [_, _, _], _ => rfl) (fun b hr => b_u_law_is_told GG b hr)
/-- _law_row -/
theorem sc_u_law_row : FnScope ["well", "most", "great", "place"] ["well", "most"] (defScope (top 42)) := ⟨rfl, rfl, rfl, by decide +kernel, rfl, by decide +kernel, by decide +kernel⟩
def m_u_law_row_e1 : XM D :=
  (xop subD (xfn 2 (D_u_law_take) (xcons (xvar 0) (xcons (xop addD (xop mulD (xpure (.int 2)) (xvar 2)) (xpure (.int 1))) (xpure [])))) (xvar 2))
def m_u_law_row : SM :=
  (sseq (sset 2 (xfn 2 (D_u_law_of) (xcons (xvar 0) (xcons (xtup (xcons (xpure (.int 1)) (xcons (xpure (.int 3)) (xcons (xpure (.int 9)) (xpure []))))) (xpure []))))) (sret (xcall (f1 tupleD) (xcons (xcomp (xrange1 (xop addD (xpure (.int 1)) (xfn 2 (D_u_law_take) (xcons (xvar 0) (xcons (xvar 1) (xpure [])))))) [3] (gname 3) (xpure true) m_u_law_row_e1) (xpure [])))))
abbrev D_u_law_row : DF := runF 4 m_u_law_row
theorem b_u_law_row {g : Gb} (GG : GF g) (b : Bd) (hr : Room 4 (b.A.deeper (PyProof.Rows.envOfC b.qual (defScope (top 42)) b.s.heap.objs.size b.f b.cdv))) :
    JSs (famB g 4 ["well", "most", "great", "place"] sc_u_law_row.nd (defScope (top 42)) b hr) (defBody (top 42)) m_u_law_row :=
  (jss_cons (js_set 2 rfl (.inr (by first | rfl | kernel_rfl)) (je_call (f_u_law_of GG) (Nat.le_of_ble_eq_true rfl) (by first | rfl | kernel_rfl) (ja_cons (je_var 0 rfl (.inr (.inl (by first | rfl | kernel_rfl)))) (ja_cons (je_tup (ja_cons je_int (ja_cons je_int (ja_cons je_int ja_nil)))) ja_nil))))
      (jss_one (js_ret (je_callTy cs_tuple (by first | rfl | kernel_rfl) GG.b_tuple bt_tuple (ja_cons (je_lc [("place", 3)] (ji_range1 (by first | rfl | kernel_rfl) GG.b_range (je_op os_add je_int (je_call (f_u_law_take GG) (Nat.le_of_ble_eq_true rfl) (by first | rfl | kernel_rfl) (ja_cons (je_var 0 rfl (.inr (.inl (by first | rfl | kernel_rfl)))) (ja_cons (je_var 1 rfl (.inl (by first | rfl | kernel_rfl))) ja_nil))))) (by first | rfl | kernel_rfl) (jc_name 3 rfl (.inl (by first | rfl | kernel_rfl)) (by decide)) jts_nil (je_op os_sub (je_call (f_u_law_take GG) (Nat.le_of_ble_eq_true rfl) (by first | rfl | kernel_rfl) (ja_cons (je_var 0 rfl (.inr (.inl (by first | rfl | kernel_rfl)))) (ja_cons (je_op os_add (je_op os_mul je_int (je_var 2 rfl (.inr (.inl (by first | rfl | kernel_rfl))))) je_int) ja_nil))) (je_var 2 rfl (.inr (.inl (by first | rfl | kernel_rfl)))))) ja_nil)))))
theorem f_u_law_row {g : Gb} (GG : GF g) : Fn g (top 42) "_law_row" "_law_row" ["well", "most"] 5 D_u_law_row := by
  obtain ⟨f, fd, hx, D0⟩ := GG.d_u_law_row
  exact fn_mk outD outD_hout hx D0 sc_u_law_row (fun kV doc pm an cdv ct us hl => match us, hl with | [_, _], _ => rfl) (fun b hr => b_u_law_row GG b hr)
/-- _law_right -/
theorem sc_u_law_right : FnScope ["well", "turn", "high"] ["well"] (defScope (top 45)) := ⟨rfl, rfl, rfl, by decide +kernel, rfl, by decide +kernel, by decide +kernel⟩
def m_u_law_right_b1 : SM :=
  (sseq (sset 2 (xif (xbool (xop eqD (xop modD (xcall (f1 intD) (xcons (xvar 1) (xpure []))) (xpure (.int 6))) (xpure (.int 5)))) (xpure (.int 99)) (xop addD (xpure (.int 1)) (xfn 2 (D_u_law_take) (xcons (xvar 0) (xcons (xfn 2 (D_u_law_of) (xcons (xvar 0) (xcons (xtup (xcons (xpure (.int 3)) (xcons (xpure (.int 12)) (xcons (xpure (.int 99)) (xpure []))))) (xpure [])))) (xpure []))))))) (sif (tnot (xtru (xfn 3 (D_u_law_is_told) (xcons (xvar 0) (xcons (xfn 2 (D_u_law_row) (xcons (xvar 0) (xcons (xpure (.int 8)) (xpure [])))) (xcons (xvar 2) (xpure []))))))) (sret (xpure (.bl false))) snext))
def m_u_law_right : SM :=
  (sseq (sfor (xrange1 (xpure (.int 20))) (gname 1) m_u_law_right_b1) (sret (xfn 2 (D_u_law_same 6) (xcons (xlst (xcons (xfn 3 (D_levels) (xcons (xtup (xcons (xpure (.int 5)) (xcons (xop subD (xpure (.int 0)) (xpure (.int 3))) (xpure [])))) (xcons (xpure (.int 1)) (xcons (xpure (.int 4)) (xpure []))))) (xcons (xfn 3 (D_spilled) (xcons (xtup (xcons (xpure (.int 5)) (xcons (xop subD (xpure (.int 0)) (xpure (.int 3))) (xpure [])))) (xcons (xpure (.int 1)) (xcons (xpure (.int 4)) (xpure []))))) (xcons (xfn 3 (D_lacking) (xcons (xtup (xcons (xop subD (xpure (.int 0)) (xpure (.int 9))) (xpure []))) (xcons (xpure (.int 2)) (xcons (xpure (.int 4)) (xpure []))))) (xcons (xfn 2 (D_same_from) (xcons (xtup (xcons (xpure (.int 1)) (xpure []))) (xcons (xpure (.int 2)) (xpure [])))) (xcons (xfn 2 (D_same_from) (xcons (xtup (xcons (xpure (.int 2)) (xpure []))) (xcons (xpure (.int 2)) (xpure [])))) (xpure []))))))) (xcons (xlst (xcons (xtup (xcons (xpure (.int 1)) (xcons (xpure (.int 4)) (xcons (xpure (.int 1)) (xpure []))))) (xcons (xpure (.int 2)) (xcons (xpure (.int 7)) (xcons (xpure .non) (xcons (xpure (.int 1)) (xpure []))))))) (xpure []))))))
abbrev D_u_law_right : DF := runF 3 m_u_law_right
theorem b_u_law_right {g : Gb} (GG : GF g) (b : Bd) (hr : Room 16 (b.A.deeper (PyProof.Rows.envOfC b.qual (defScope (top 45)) b.s.heap.objs.size b.f b.cdv))) :
    JSs (famB g 16 ["well", "turn", "high"] sc_u_law_right.nd (defScope (top 45)) b hr) (defBody (top 45)) m_u_law_right :=
  (jss_cons (js_for (ji_range1 (by first | rfl | kernel_rfl) GG.b_range je_int) (jg_name 1 rfl (.inl (by first | rfl | kernel_rfl))) (jss_cons (js_set 2 rfl (.inl (by first | rfl | kernel_rfl)) (je_if (jt_cmp os_eq (je_op os_mod (je_callTy cs_int (by first | rfl | kernel_rfl) GG.b_int bt_int (ja_cons (je_var 1 rfl (.inl (by first | rfl | kernel_rfl))) ja_nil)) je_int) je_int rfl) je_int (je_op os_add je_int (je_call (f_u_law_take GG) (Nat.le_of_ble_eq_true rfl) (by first | rfl | kernel_rfl) (ja_cons (je_var 0 rfl (.inl (by first | rfl | kernel_rfl))) (ja_cons (je_call (f_u_law_of GG) (Nat.le_of_ble_eq_true rfl) (by first | rfl | kernel_rfl) (ja_cons (je_var 0 rfl (.inl (by first | rfl | kernel_rfl))) (ja_cons (je_tup (ja_cons je_int (ja_cons je_int (ja_cons je_int ja_nil)))) ja_nil))) ja_nil))))))
      (jss_one (js_if (jt_not (jt_tru (je_call (f_u_law_is_told GG) (Nat.le_of_ble_eq_true rfl) (by first | rfl | kernel_rfl) (ja_cons (je_var 0 rfl (.inl (by first | rfl | kernel_rfl))) (ja_cons (je_call (f_u_law_row GG) (Nat.le_of_ble_eq_true rfl) (by first | rfl | kernel_rfl) (ja_cons (je_var 0 rfl (.inl (by first | rfl | kernel_rfl))) (ja_cons je_int ja_nil))) (ja_cons (je_var 2 rfl (.inl (by first | rfl | kernel_rfl))) ja_nil)))))) (jss_one (js_ret je_bl)) jss_nil))))
      (jss_one (js_ret (je_call (f_u_law_same GG 6) (Nat.le_of_ble_eq_true rfl) (by first | rfl | kernel_rfl) (ja_cons (je_lst (ja_cons (je_call (f_levels GG) (Nat.le_of_ble_eq_true rfl) (by first | rfl | kernel_rfl) (ja_cons (je_tup (ja_cons je_int (ja_cons (je_op os_sub je_int je_int) ja_nil))) (ja_cons je_int (ja_cons je_int ja_nil)))) (ja_cons (je_call (f_spilled GG) (Nat.le_of_ble_eq_true rfl) (by first | rfl | kernel_rfl) (ja_cons (je_tup (ja_cons je_int (ja_cons (je_op os_sub je_int je_int) ja_nil))) (ja_cons je_int (ja_cons je_int ja_nil)))) (ja_cons (je_call (f_lacking GG) (Nat.le_of_ble_eq_true rfl) (by first | rfl | kernel_rfl) (ja_cons (je_tup (ja_cons (je_op os_sub je_int je_int) ja_nil)) (ja_cons je_int (ja_cons je_int ja_nil)))) (ja_cons (je_call (f_same_from GG) (Nat.le_of_ble_eq_true rfl) (by first | rfl | kernel_rfl) (ja_cons (je_tup (ja_cons je_int ja_nil)) (ja_cons je_int ja_nil))) (ja_cons (je_call (f_same_from GG) (Nat.le_of_ble_eq_true rfl) (by first | rfl | kernel_rfl) (ja_cons (je_tup (ja_cons je_int ja_nil)) (ja_cons je_int ja_nil))) ja_nil)))))) (ja_cons (je_lst (ja_cons (je_tup (ja_cons je_int (ja_cons je_int (ja_cons je_int ja_nil)))) (ja_cons je_int (ja_cons je_int (ja_cons je_non (ja_cons je_int ja_nil)))))) ja_nil))))))
theorem f_u_law_right {g : Gb} (GG : GF g) : Fn g (top 45) "_law_right" "_law_right" ["well"] 17 D_u_law_right := by
  obtain ⟨f, fd, hx, D0⟩ := GG.d_u_law_right
  exact fn_mk outD outD_hout hx D0 sc_u_law_right (fun kV doc pm an cdv ct us hl => match us, hl with | [_], _ => rfl) (fun b hr => b_u_law_right GG b hr)
/-- _law_well -/
theorem sc_u_law_well : FnScope ["script", "lap", "own", "stir", "each"] ["script", "lap"] (defScope (top 38)) := ⟨rfl, rfl, rfl, by decide +kernel, rfl, by decide +kernel, by decide +kernel⟩
def m_u_law_well_b1 : SM :=
  (sset 3 (xop modD (xcall (f1 intD) (xcons (xop addD (xop addD (xop mulD (xvar 3) (xpure (.int 44497))) (xop modD (xcall (f1 intD) (xcons (xvar 4) (xpure []))) (xpure (.int 2147483587)))) (xpure (.int 29))) (xpure []))) (xpure (.int 2147483563))))
def m_u_law_well : SM :=
  (sseq (sset 2 (xif (xbool (xop ltD (xvar 1) (xcall (f1 lenD) (xcons (xvar 0) (xpure []))))) (xcall (f1 intD) (xcons (xop ixD (xvar 0) (xvar 1)) (xpure []))) (xpure (.int 0)))) (sseq (sset 3 (xop addD (xpure (.int 52027)) (xop mulD (xpure (.int 6971)) (xvar 1)))) (sseq (sfor (xwalk (xop addD (xslice (xvar 0) (xpure none) (xpart (xpure (.int 8)))) (xlst (xcons (xvar 2) (xpure []))))) (gname 4) m_u_law_well_b1) (sret (xlstM (xcons (xif (tor (xbool (xop ltD (xvar 2) (xpure (.int 0)))) (xbool (xop geD (xvar 2) (xop powD (xpure (.int 10)) (xpure (.int 18)))))) (xcall (f1 absD) (xcons (xvar 2) (xpure []))) (xpure (.int 0))) (xcons (xvar 3) (xcons (xpure (.int 0)) (xpure [])))))))))
abbrev D_u_law_well : DF := runM 5 m_u_law_well
theorem b_u_law_well {g : Gb} (GG : GF g) (b : Bd) (hr : Room 0 (b.A.deeper (PyProof.Rows.envOfC b.qual (defScope (top 38)) b.s.heap.objs.size b.f b.cdv))) :
    JSs (famB g 0 ["script", "lap", "own", "stir", "each"] sc_u_law_well.nd (defScope (top 38)) b hr) (defBody (top 38)) m_u_law_well :=
  (jss_cons (js_set 2 rfl (.inl (by first | rfl | kernel_rfl)) (je_if (jt_cmp os_lt (je_var 1 rfl (.inl (by first | rfl | kernel_rfl))) (je_callB cs_len (by first | rfl | kernel_rfl) GG.b_len bt_len (ja_cons (je_var 0 rfl (.inl (by first | rfl | kernel_rfl))) ja_nil)) rfl) (je_callTy cs_int (by first | rfl | kernel_rfl) GG.b_int bt_int (ja_cons (je_ix (je_var 0 rfl (.inl (by first | rfl | kernel_rfl))) (je_var 1 rfl (.inl (by first | rfl | kernel_rfl)))) ja_nil)) je_int))
      (jss_cons (js_set 3 rfl (.inl (by first | rfl | kernel_rfl)) (je_op os_add je_int (je_op os_mul je_int (je_var 1 rfl (.inl (by first | rfl | kernel_rfl))))))
      (jss_cons (js_for (ji_seq (je_op os_add (je_slice (je_var 0 rfl (.inl (by first | rfl | kernel_rfl))) jo_none (jo_some je_int)) (je_lst (ja_cons (je_var 2 rfl (.inl (by first | rfl | kernel_rfl))) ja_nil)))) (jg_name 4 rfl (.inl (by first | rfl | kernel_rfl))) (jss_one (js_set 3 rfl (.inl (by first | rfl | kernel_rfl)) (je_op os_mod (je_callTy cs_int (by first | rfl | kernel_rfl) GG.b_int bt_int (ja_cons (je_op os_add (je_op os_add (je_op os_mul (je_var 3 rfl (.inl (by first | rfl | kernel_rfl))) je_int) (je_op os_mod (je_callTy cs_int (by first | rfl | kernel_rfl) GG.b_int bt_int (ja_cons (je_var 4 rfl (.inl (by first | rfl | kernel_rfl))) ja_nil)) je_int)) je_int) ja_nil)) je_int))))
      (jss_one (js_ret (je_lstM (ja_cons (je_if (jw_or (jt_cmp os_lt (je_var 2 rfl (.inl (by first | rfl | kernel_rfl))) je_int rfl) (jw_or1 (jt_cmp os_ge (je_var 2 rfl (.inl (by first | rfl | kernel_rfl))) (je_op os_pow je_int je_int) rfl))).jt (je_callB cs_abs (by first | rfl | kernel_rfl) GG.b_abs bt_abs (ja_cons (je_var 2 rfl (.inl (by first | rfl | kernel_rfl))) ja_nil)) je_int) (ja_cons (je_var 3 rfl (.inl (by first | rfl | kernel_rfl))) (ja_cons je_int ja_nil)))))))))
theorem f_u_law_well {g : Gb} (GG : GF g) : Fn g (top 38) "_law_well" "_law_well" ["script", "lap"] 1 D_u_law_well := by
  obtain ⟨f, fd, hx, D0⟩ := GG.d_u_law_well
  exact fn_mk outM outM_hout hx D0 sc_u_law_well (fun kV doc pm an cdv ct us hl => match us, hl with | [_, _], _ => rfl) (fun b hr => b_u_law_well GG b hr)
/-- law -/
theorem sc_law : FnScope ["script", "lap"] ["script"] (defScope (top 46)) := ⟨rfl, rfl, rfl, by decide +kernel, rfl, by decide +kernel, by decide +kernel⟩
def m_law_e1 : XM D :=
  (xfn 1 (D_u_law_right) (xcons (xfn 2 (D_u_law_well) (xcons (xvar 0) (xcons (xvar 1) (xpure [])))) (xpure [])))
def m_law : SM :=
  (sret (xcall (f1 allD) (xcons (xcomp (xrange1 (xcall (f2 max2D) (xcons (xpure (.int 2)) (xcons (xcall (f2 min2D) (xcons (xcall (f1 lenD) (xcons (xvar 0) (xpure []))) (xcons (xpure (.int 3)) (xpure [])))) (xpure []))))) [1] (gname 1) (xpure true) m_law_e1) (xpure []))))
abbrev D_law : DF := runF 2 m_law
theorem b_law {g : Gb} (GG : GF g) (b : Bd) (hr : Room 18 (b.A.deeper (PyProof.Rows.envOfC b.qual (defScope (top 46)) b.s.heap.objs.size b.f b.cdv))) :
    JSs (famB g 18 ["script", "lap"] sc_law.nd (defScope (top 46)) b hr) (defBody (top 46)) m_law :=
  (jss_one (js_ret (je_callB cs_all (by first | rfl | kernel_rfl) GG.b_all bt_all (ja_cons (je_lc [("lap", 1)] (ji_range1 (by first | rfl | kernel_rfl) GG.b_range (je_callB cs_max2 (by first | rfl | kernel_rfl) GG.b_max bt_max (ja_cons je_int (ja_cons (je_callB cs_min2 (by first | rfl | kernel_rfl) GG.b_min bt_min (ja_cons (je_callB cs_len (by first | rfl | kernel_rfl) GG.b_len bt_len (ja_cons (je_var 0 rfl (.inr (.inl (by first | rfl | kernel_rfl)))) ja_nil)) (ja_cons je_int ja_nil))) ja_nil)))) (by first | rfl | kernel_rfl) (jc_name 1 rfl (.inl (by first | rfl | kernel_rfl)) (by decide)) jts_nil (je_call (f_u_law_right GG) (Nat.le_of_ble_eq_true rfl) (by first | rfl | kernel_rfl) (ja_cons (je_call (f_u_law_well GG) (Nat.le_of_ble_eq_true rfl) (by first | rfl | kernel_rfl) (ja_cons (je_var 0 rfl (.inr (.inl (by first | rfl | kernel_rfl)))) (ja_cons (je_var 1 rfl (.inl (by first | rfl | kernel_rfl))) ja_nil))) ja_nil))) ja_nil))))
theorem f_law {g : Gb} (GG : GF g) : Fn g (top 46) "law" "law" ["script"] 19 D_law := by
  obtain ⟨f, fd, hx, D0⟩ := GG.d_law
  exact fn_mk outD outD_hout hx D0 sc_law (fun kV doc pm an cdv ct us hl => match us, hl with | [_], _ => rfl) (fun b hr => b_law GG b hr)
theorem ok_law {g : Gb} (GG : GF g) {f : Addr} {fd : FuncData} (D0 : FunD g.K "law" "law" (defArgs (top 46)) (defBody (top 46)) (defScope (top 46)) [] [] f fd) : FnOk g.P g.w g.K g.mg g.base (L2.CX g.P g.w) 19 f fd ["script"] (spS g 1 D_law) :=
  fn_ok outD outD_hout D0 sc_law (fun b hr => b_law GG b hr)
end LS
end
section
set_option maxRecDepth 100000
set_option maxHeartbeats 2000000
namespace LS
open PySem PySem.Spec L2

/-! # plain laws about mirrors -/
def iD (ns : List Int) : List D := ns.map D.int
@[simp] theorem iD_nil : iD [] = [] := rfl
@[simp] theorem iD_cons (n : Int) (r : List Int) : iD (n :: r) = .int n :: iD r := rfl
theorem iD_app (a b : List Int) : iD (a ++ b) = iD a ++ iD b := by simp [iD]
@[simp] theorem iD_len (ns : List Int) : (iD ns).length = ns.length := by simp [iD]
@[simp] theorem iD_get (ns : List Int) (i : Nat) : (iD ns)[i]? = ns[i]?.map D.int := by simp [iD]
theorem iD_snoc (a : List Int) (n : Int) : iD a ++ [.int n] = iD (a ++ [n]) := by simp [iD]
@[simp] theorem refsBs_iD (n : Nat) : ∀ ns : List Int, refsBs n (iD ns) = true
  | [] => rfl
  | _ :: r => by simp [refsBs, refsB, refsBs_iD n r]
@[simp] theorem pyDs_iD : ∀ ns : List Int, pyDs (iD ns) = some (ns.map PyData.int)
  | [] => rfl
  | _ :: r => by simp [pyDs, pyD, pyDs_iD r]
theorem intsOf_iD : ∀ ns : List Int, intsOf (iD ns) = some ns
  | [] => rfl
  | _ :: r => by simp [intsOf, intsOf_iD r]
theorem blsOf_bls : ∀ bs : List Bool, blsOf (bs.map D.bl) = some bs
  | [] => rfl
  | _ :: r => by simp [blsOf, blsOf_bls r]
@[simp] theorem eqvAll_int : ∀ a b : List Int, PyData.eqvAll (a.map PyData.int) (b.map PyData.int) = decide (a = b)
  | [], [] => by simp [PyData.eqvAll]
  | [], _ :: _ => by simp [PyData.eqvAll]
  | _ :: _, [] => by simp [PyData.eqvAll]
  | x :: a, y :: b => by
    simp [PyData.eqvAll, PyData.eqv, eqvAll_int a b]
    by_cases h : x = y <;> simp [h]
theorem canLayAll_int : ∀ a : List Int, PyData.canLayAll0 (a.map PyData.int) = true
  | [] => by simp [PyData.canLayAll0]
  | _ :: r => by simp [PyData.canLayAll0, PyData.canLay0, canLayAll_int r]
theorem depthAll_int : ∀ a : List Int, PyData.depthAll (a.map PyData.int) = 0
  | [] => by simp [PyData.depthAll]
  | _ :: r => by simp [PyData.depthAll, PyData.depth, depthAll_int r]
@[simp] theorem shaped_int (i : Int) : SeqAt.shaped (.int i) = true := by simp [SeqAt.shaped, PyData.canLay0, PyData.depth]
@[simp] theorem shaped_bool (i : Bool) : SeqAt.shaped (.bool i) = true := by simp [SeqAt.shaped, PyData.canLay0, PyData.depth]
@[simp] theorem shaped_none : SeqAt.shaped .none = true := by simp [SeqAt.shaped, PyData.canLay0, PyData.depth]
@[simp] theorem shaped_tint (a : List Int) : SeqAt.shaped (.tuple (a.map PyData.int)) = true := by simp [SeqAt.shaped, PyData.canLay0, PyData.depth, canLayAll_int, depthAll_int]
@[simp] theorem shaped_lint (a : List Int) : SeqAt.shaped (.list (a.map PyData.int)) = true := by simp [SeqAt.shaped, PyData.canLay0, PyData.depth, canLayAll_int, depthAll_int]
@[simp] theorem eqO_int (st : Store) (a b : Int) : eqO st (.int a) (.int b) = some (decide (a = b)) := by
  simp [eqO, pyOf, pyD, PyData.eqv]
  by_cases h : a = b <;> simp [h]
@[simp] theorem eqO_bl (st : Store) (a b : Bool) : eqO st (.bl a) (.bl b) = some (a == b) := by simp [eqO, pyOf, pyD, PyData.eqv]
@[simp] theorem eqO_tiD (st : Store) (a b : List Int) : eqO st (.tup (iD a)) (.tup (iD b)) = some (decide (a = b)) := by simp [eqO, pyOf, pyD, PyData.eqv]
@[simp] theorem eqO_lints (st : Store) (a b : List Int) : eqO st (.lst (iD a)) (.lst (iD b)) = some (decide (a = b)) := by simp [eqO, pyOf, pyD, PyData.eqv]
theorem atI_nat {α : Type} (xs : List α) (k : Nat) : atI xs (k : Int) = xs[k]? := by
  unfold atI ixN
  by_cases h : k < xs.length
  · simp [h]
  · simp [h]
theorem atI_nn {α : Type} (xs : List α) {i : Int} (h : 0 ≤ i) : atI xs i = xs[i.toNat]? := by
  have := atI_nat xs i.toNat
  rw [Int.toNat_of_nonneg h] at this
  exact this
theorem atI_last {α : Type} (xs : List α) (x : α) : atI (xs ++ [x]) (-1) = some x := by
  unfold atI ixN
  rw [if_neg (by omega), if_pos (by simp; omega)]
  simp
  have : ((-1 : Int) + ((xs.length : Int) + 1)).toNat = xs.length := by omega
  rw [this]; simp
theorem ixN_nn {n : Nat} {k : Nat} (h : k < n) : ixN n (k : Int) = some k := by
  unfold ixN
  rw [if_pos (by omega), if_pos (by omega)]; simp

mutual
theorem refsB_mono {n k : Nat} (h : n ≤ k) : ∀ {d : D}, refsB n d = true → refsB k d = true
  | .non, _ => rfl
  | .bl _, _ => rfl
  | .int _, _ => rfl
  | .str _, _ => rfl
  | .ty _, _ => rfl
  | .glo _, _ => rfl
  | .tup xs, q => by simpa [refsB] using refsBs_mono h (d := xs) (by simpa [refsB] using q)
  | .lst xs, q => by simpa [refsB] using refsBs_mono h (d := xs) (by simpa [refsB] using q)
  | .sq xs, q => by simpa [refsB] using refsBs_mono h (d := xs) (by simpa [refsB] using q)
  | .ref i, q => by simp [refsB] at q ⊢; omega
theorem refsBs_mono {n k : Nat} (h : n ≤ k) : ∀ {d : List D}, refsBs n d = true → refsBs k d = true
  | [], _ => rfl
  | x :: r, q => by
    have q' : refsB n x = true ∧ refsBs n r = true := by simpa [refsBs] using q
    simp [refsBs, refsB_mono h q'.1, refsBs_mono h q'.2]
end
/-! ## calls -/
theorem callD0 {f : DF} {ds : List D} {r : D} {e : Nv} {st : Store} (hi : refsIn ds = []) (hb : refsBs 0 ds = true) (h : f [] ds = .ok r []) (hr : refsB 0 r = true) : callD f ds e st = .ok r st := by
  unfold callD
  split
  · rw [if_pos hb, h]
    cases r <;> simp_all [unM, refsB]
  · rename_i q; rw [hi] at q; cases q
theorem callDM {f : DF} {ds : List D} {m : MO} {e : Nv} {st : Store} (hi : refsIn ds = []) (hb : refsBs 0 ds = true) (h : f [] ds = .ok (.ref 0) [m]) (hm : moB 0 m = true) : callD f ds e st = .ok (.ref st.length) (st ++ [m]) := by
  unfold callD
  split
  · rw [if_pos hb, h]
    simp [unM, hm]
  · rename_i q; rw [hi] at q; cases q
theorem callD1 {f : DF} {ds : List D} {i : Nat} {tl : List Nat} {m m' : MO} {r : D} {e : Nv} {st : Store} (hi : refsIn ds = i :: tl) (hb : ds.all (argB i) = true) (hm : st[i]? = some m) (bm : moB 0 m = true) (h : f [m] (ds.map loc1) = .ok r [m']) (bm' : moB 0 m' = true) (hr : refsB 0 r = true) : callD f ds e st = .ok r (st.set i m') := by
  unfold callD
  split
  · rename_i q; rw [hi] at q; cases q
  · rename_i q; rw [hi] at q; cases q
    rw [if_pos hb]
    simp [hm, bm, h, un1, bm', hr]

/-! ## loops -/
theorem sloop_nil {src : Option Nat} {items : List D} {gt : MG} {body : SM} {e : Nv} {st : Store} (hs : srcOk src items st = true) : sloop src items gt body [] e st = .nx e st := by simp [sloop, hs]
theorem sloop_cons {src : Option Nat} {items r : List D} {gt : MG} {body : SM} {x : D} {e e1 e2 : Nv} {st st1 st2 : Store} (hs : srcOk src items st = true) (h1 : gt x e st = some (e1, st1)) (h2 : body e1 st1 = .nx e2 st2) : sloop src items gt body (x :: r) e st = sloop src items gt body r e2 st2 := by
  simp [sloop, hs, h1, h2]
theorem sloop_rt {src : Option Nat} {items r : List D} {gt : MG} {body : SM} {x : D} {e e1 : Nv} {st st1 st2 : Store} {d : D} (hs : srcOk src items st = true) (h1 : gt x e st = some (e1, st1)) (h2 : body e1 st1 = .rt d st2) : sloop src items gt body (x :: r) e st = .rt d st2 := by
  simp [sloop, hs, h1, h2]
theorem sloop_inv {src : Option Nat} {items : List D} {gt : MG} {body : SM} (Inv : Nv → Store → Prop) (hs : ∀ e st, Inv e st → srcOk src items st = true) : ∀ (l : List D) (step : ∀ x ∈ l, ∀ e st, Inv e st → ∃ e1 st1, gt x e st = some (e1, st1) ∧ ∃ e2 st2, (body e1 st1 = .nx e2 st2 ∨ body e1 st1 = .ct e2 st2) ∧ Inv e2 st2) (e : Nv) (st : Store), Inv e st → ∃ e' st', sloop src items gt body l e st = .nx e' st' ∧ Inv e' st'
  | [], _, e, st, I => ⟨e, st, by simp [sloop, hs e st I], I⟩
  | x :: r, step, e, st, I => by
    obtain ⟨e1, st1, h1, e2, st2, h2, I2⟩ := step x (by simp) e st I
    obtain ⟨e3, st3, h3, I3⟩ := sloop_inv Inv hs r (fun y hy => step y (by simp [hy])) e2 st2 I2
    refine ⟨e3, st3, ?_, I3⟩
    unfold sloop
    rw [if_pos (hs e st I), h1]
    rcases h2 with h2 | h2 <;> simp [h2, h3]
theorem cloop_pure {src : Option Nat} {items : List D} {gt : MG} {mt : XM Bool} {me : XM D} {e : Nv} {st : Store} (c : D → Bool) (f : D → D) (hs : srcOk src items st = true) : ∀ (l acc : List D), (∀ x ∈ l, ∃ e1, gt x e st = some (e1, st) ∧ mt e1 st = .ok (c x) st ∧ (c x = true → me e1 st = .ok (f x) st)) → acc.length + l.length ≤ LIM →
    cloop src items gt mt me e l acc st = .ok (acc ++ (l.filter c).map f) st
  | [], acc, _, _ => by simp [cloop, hs]
  | x :: r, acc, h, hl => by
    obtain ⟨e1, h1, h2, h3⟩ := h x (by simp)
    have hl' : acc.length + (r.length + 1) ≤ LIM := by simpa using hl
    unfold cloop
    rw [if_pos hs, h1]
    cases hc : c x with
    | false =>
      simp only [h2, hc]
      rw [cloop_pure c f hs r acc (fun y hy => h y (by simp [hy])) (by omega)]
      simp [hc]
    | true =>
      simp only [h2, hc, h3 hc]
      rw [if_pos (by omega), cloop_pure c f hs r (acc ++ [f x]) (fun y hy => h y (by simp [hy])) (by simp; omega)]
      simp [hc]
theorem cloop_inv {src : Option Nat} {items : List D} {gt : MG} {mt : XM Bool} {me : XM D} {e : Nv} (Inv : Store → Prop) (P : D → Prop) (hs : ∀ st, Inv st → srcOk src items st = true) : ∀ (l acc : List D) (st : Store), (∀ x ∈ l, ∀ st, Inv st → ∃ e1, gt x e st = some (e1, st) ∧ mt e1 st = .ok true st ∧ ∃ d st2, me e1 st = .ok d st2 ∧ P d ∧ Inv st2) → Inv st → acc.length + l.length ≤ LIM →
    ∃ ds st', cloop src items gt mt me e l acc st = .ok (acc ++ ds) st' ∧ ds.length = l.length ∧ (∀ d ∈ ds, P d) ∧ Inv st'
  | [], acc, st, _, I, _ => ⟨[], st, by simp [cloop, hs st I], rfl, by simp, I⟩
  | x :: r, acc, st, h, I, hl => by
    obtain ⟨e1, h1, h2, d, st2, h3, p, I2⟩ := h x (by simp) st I
    have hl' : acc.length + (r.length + 1) ≤ LIM := by simpa using hl
    obtain ⟨ds, st', q, hlen, hp, I'⟩ := cloop_inv Inv P hs r (acc ++ [d]) st2 (fun y hy => h y (by simp [hy])) I2 (by simp; omega)
    refine ⟨d :: ds, st', ?_, by simp [hlen], ?_, I'⟩
    · unfold cloop
      rw [if_pos (hs st I), h1]
      simp only [h2, h3]
      rw [if_pos (by omega), q]
      simp
    · intro y hy
      rcases List.mem_cons.mp hy with rfl | hy
      · exact p
      · exact hp y hy
@[simp] theorem filter_yes {α : Type} (l : List α) : l.filter (fun _ => true) = l := by induction l <;> simp_all
@[simp] theorem filter_no {α : Type} (l : List α) : l.filter (fun _ => false) = [] := by induction l <;> simp_all
theorem rangeL_len (lo : Int) (n : Nat) : (rangeL lo n).length = n := by simp [rangeL]
theorem mem_rangeL {lo : Int} {n : Nat} {x : D} (h : x ∈ rangeL lo n) : ∃ i : Nat, i < n ∧ x = .int (lo + (i : Int)) := by
  unfold rangeL at h
  obtain ⟨i, hi, e⟩ := List.mem_map.mp h
  exact ⟨i, by simpa using hi, e.symm⟩
/-- data that can be held against each other: plain, not deep, not long -/
def okD : Nat → D → Bool
  | 0, _ => false
  | n + 1, x => match x with
    | .non => true
    | .bl _ => true
    | .int _ => true
    | .str s => decide (s.cps.all (· < 0x110000) = true)
    | .tup xs => decide (xs.length ≤ LIM) && xs.all (okD n)
    | .lst xs => decide (xs.length ≤ LIM) && xs.all (okD n)
    | _ => false
theorem okD_int (n : Nat) (i : Int) : okD (n + 1) (.int i) = true := rfl
theorem okD_bl (n : Nat) (i : Bool) : okD (n + 1) (.bl i) = true := rfl
theorem okD_non (n : Nat) : okD (n + 1) .non = true := rfl
theorem okD_tup {n : Nat} {xs : List D} (h : xs.length ≤ LIM) (h2 : xs.all (okD n) = true) : okD (n + 1) (.tup xs) = true := by simp only [okD, h, h2]; rfl
theorem okD_lst {n : Nat} {xs : List D} (h : xs.length ≤ LIM) (h2 : xs.all (okD n) = true) : okD (n + 1) (.lst xs) = true := by simp only [okD, h, h2]; rfl
theorem okD_cons {n : Nat} {x : D} {xs : List D} (h : okD n x = true) (h2 : xs.all (okD n) = true) : (x :: xs).all (okD n) = true := by simp [h, h2]
theorem okD_nil {n : Nat} : ([] : List D).all (okD n) = true := rfl
theorem okD_iD (n : Nat) (ns : List Int) : (iD ns).all (okD (n + 1)) = true := by
  rw [List.all_eq_true]
  intro x hx
  unfold iD at hx
  obtain ⟨i, _, rfl⟩ := List.mem_map.mp hx
  rfl
theorem refsB_okD : ∀ (n : Nat) (x : D), okD n x = true → refsB 0 x = true
  | 0, _, h => by simp [okD] at h
  | n + 1, x, h => by
    have all : ∀ xs : List D, xs.all (okD n) = true → refsBs 0 xs = true := by
      intro xs
      induction xs with
      | nil => intro _; rfl
      | cons y r ih =>
        intro q
        have q' : okD n y = true ∧ r.all (okD n) = true := by simpa using q
        simp [refsBs, refsB_okD n y q'.1, ih q'.2]
    cases x <;> simp_all [okD, refsB]
end LS
end
section
set_option maxRecDepth 100000
set_option maxHeartbeats 2000000
namespace LS
open PySem PySem.Spec L2
section
variable {α β : Type} {e : Nv} {st : Store}
@[simp] theorem ap_pure (a : α) : xpure a e st = .ok a st := rfl
@[simp] theorem ap_bind (m : XM α) (f : α → XM β) : xbind m f e st = match m e st with | .ok a st' => f a e st' | .exc c p st' => .exc c p st' | .stuck => .stuck := rfl
@[simp] theorem ap_var (i : Nat) : xvar i e st = match e[i]? with | some (some d) => .ok d st | _ => .stuck := rfl
@[simp] theorem ap_cons (m : XM D) (ms : XM (List D)) : xcons m ms e st = xbind m (fun x => xbind ms fun xs => xpure (x :: xs)) e st := rfl
@[simp] theorem ap_tup (ms : XM (List D)) : xtup ms e st = match ms e st with | .ok xs st' => if xs.length ≤ LIM then .ok (.tup xs) st' else .stuck | .exc c p st' => .exc c p st' | .stuck => .stuck := by
  unfold xtup xbind
  cases ms e st <;> rfl
@[simp] theorem ap_lst (ms : XM (List D)) : xlst ms e st = match ms e st with | .ok xs st' => if xs.length ≤ LIM then .ok (.lst xs) st' else .stuck | .exc c p st' => .exc c p st' | .stuck => .stuck := by
  unfold xlst xbind
  cases ms e st <;> rfl
@[simp] theorem ap_lstM (ms : XM (List D)) : xlstM ms e st = match ms e st with | .ok xs st' => if xs.length ≤ LIM then .ok (.ref st'.length) (st' ++ [.lst xs]) else .stuck | .exc c p st' => .exc c p st' | .stuck => .stuck := by
  unfold xlstM xbind
  cases ms e st <;> rfl
@[simp] theorem ap_op (f : D → D → XM D) (a b : XM D) : xop f a b e st = xbind a (fun x => xbind b fun y => f x y) e st := rfl
@[simp] theorem ap_bool (m : XM D) : xbool m e st = match m e st with | .ok (.bl b) st' => .ok b st' | .ok _ _ => .stuck | .exc c p st' => .exc c p st' | .stuck => .stuck := by
  unfold xbool xbind
  cases m e st with
  | ok d st' => cases d <;> rfl
  | _ => rfl
@[simp] theorem ap_chain (f f' : D → D → XM D) (a b c : XM D) : xchain f f' a b c e st = xbind a (fun x => xbind b fun y => xbind (f x y) fun z => match z with | .bl true => xbind c fun w => f' y w | .bl false => xpure (.bl false) | _ => fun _ _ => .stuck) e st := rfl
@[simp] theorem tru_bl (b : Bool) : truD st (.bl b) = some b := rfl
@[simp] theorem tru_non : truD st .non = some false := rfl
@[simp] theorem tru_int (i : Int) : truD st (.int i) = some (i != 0) := rfl
@[simp] theorem tru_tup (xs : List D) : truD st (.tup xs) = some (!xs.isEmpty) := rfl
@[simp] theorem tru_lst (xs : List D) : truD st (.lst xs) = some (!xs.isEmpty) := rfl
@[simp] theorem ap_tru (m : XM D) : xtru m e st = match m e st with | .ok d st' => (match truD st' d with | some b => .ok b st' | none => .stuck) | .exc c p st' => .exc c p st' | .stuck => .stuck := by
  unfold xtru xbind
  cases m e st <;> rfl
@[simp] theorem ap_tnot (m : XM Bool) : tnot m e st = match m e st with | .ok b st' => .ok (!b) st' | .exc c p st' => .exc c p st' | .stuck => .stuck := by
  unfold tnot xbind
  cases m e st <;> rfl
@[simp] theorem ap_tand (m n : XM Bool) : tand m n e st = match m e st with | .ok true st' => n e st' | .ok false st' => .ok false st' | .exc c p st' => .exc c p st' | .stuck => .stuck := by
  unfold tand xbind
  cases m e st with
  | ok d st' => cases d <;> rfl
  | _ => rfl
@[simp] theorem ap_tor (m n : XM Bool) : tor m n e st = match m e st with | .ok true st' => .ok true st' | .ok false st' => n e st' | .exc c p st' => .exc c p st' | .stuck => .stuck := by
  unfold tor xbind
  cases m e st with
  | ok d st' => cases d <;> rfl
  | _ => rfl
@[simp] theorem ap_and (m n : XM D) : xand m n e st = match m e st with | .ok d st' => (match truD st' d with | some true => n e st' | some false => .ok d st' | none => .stuck) | .exc c p st' => .exc c p st' | .stuck => .stuck := by
  unfold xand xbind
  cases m e st <;> rfl
@[simp] theorem ap_or (m n : XM D) : xor' m n e st = match m e st with | .ok d st' => (match truD st' d with | some false => n e st' | some true => .ok d st' | none => .stuck) | .exc c p st' => .exc c p st' | .stuck => .stuck := by
  unfold xor' xbind
  cases m e st <;> rfl
@[simp] theorem ap_not (m : XM D) : xnot m e st = match m e st with | .ok d st' => (match truD st' d with | some b => .ok (.bl (!b)) st' | none => .stuck) | .exc c p st' => .exc c p st' | .stuck => .stuck := by
  unfold xnot xbind
  cases m e st <;> rfl
@[simp] theorem ap_if (c : XM Bool) (m n : XM D) : xif c m n e st = match c e st with | .ok true st' => m e st' | .ok false st' => n e st' | .exc c p st' => .exc c p st' | .stuck => .stuck := by
  unfold xif xbind
  cases c e st with
  | ok d st' => cases d <;> rfl
  | _ => rfl
@[simp] theorem ap_neg (m : XM D) : xneg m e st = match m e st with | .ok (.int i) st' => .ok (.int (-i)) st' | .ok _ _ => .stuck | .exc c p st' => .exc c p st' | .stuck => .stuck := by
  unfold xneg xbind
  cases m e st with
  | ok d st' => cases d <;> rfl
  | _ => rfl
@[simp] theorem add_int (i j : Int) : addD (.int i) (.int j) e st = .ok (.int (i + j)) st := rfl
@[simp] theorem add_lst (xs ys : List D) : addD (.lst xs) (.lst ys) e st = if xs.length + ys.length ≤ LIM then .ok (.lst (xs ++ ys)) st else .stuck := rfl
@[simp] theorem add_sq (xs ys : List D) : addD (.sq xs) (.lst ys) e st = .stuck := rfl
@[simp] theorem add_tup (xs ys : List D) : addD (.tup xs) (.tup ys) e st = if xs.length + ys.length ≤ LIM then .ok (.tup (xs ++ ys)) st else .stuck := rfl
@[simp] theorem i2_int (c : Int → Int → Bool) (f : Int → Int → D) (i j : Int) : i2 c f (.int i) (.int j) e st = if c i j = true then .ok (f i j) st else .stuck := rfl
@[simp] theorem eq_ap (x y : D) : eqD x y e st = match eqO st x y with | some b => .ok (.bl b) st | none => .stuck := rfl
@[simp] theorem ne_ap (x y : D) : neD x y e st = match eqO st x y with | some b => .ok (.bl (!b)) st | none => .stuck := rfl
@[simp] theorem lt_int (i j : Int) : ltD (.int i) (.int j) e st = .ok (.bl (decide (i < j))) st := rfl
@[simp] theorem is_ap (x : D) : isD x .non e st = .ok (.bl (isN x)) st := rfl
@[simp] theorem isnt_ap (x : D) : isntD x .non e st = .ok (.bl (!isN x)) st := rfl
@[simp] theorem isN_non : isN .non = true := rfl
@[simp] theorem isN_int (i : Int) : isN (.int i) = false := rfl
@[simp] theorem isN_bl (i : Bool) : isN (.bl i) = false := rfl
@[simp] theorem isN_str (i : Str) : isN (.str i) = false := rfl
@[simp] theorem isN_tup (i : List D) : isN (.tup i) = false := rfl
@[simp] theorem isN_lst (i : List D) : isN (.lst i) = false := rfl
@[simp] theorem ix_tup (xs : List D) (i : Int) : ixD (.tup xs) (.int i) e st = match atI xs i with | some d => .ok d st | none => .stuck := rfl
@[simp] theorem ix_lst (xs : List D) (i : Int) : ixD (.lst xs) (.int i) e st = match atI xs i with | some d => .ok d st | none => .stuck := rfl
@[simp] theorem ix_sq (xs : List D) (i : Int) : ixD (.sq xs) (.int i) e st = match atI xs i with | some d => .ok d st | none => .stuck := rfl
theorem ix_ref (k : Nat) (xs : List D) (i : Int) (h : st[k]? = some (.lst xs)) : ixD (.ref k) (.int i) e st = match atI xs i with | some d => .ok d st | none => .stuck := by
  unfold ixD
  simp only [seqOf, lstOf, h] <;> rfl
@[simp] theorem ix_ref0 (xs : List D) (i : Int) (r : Store) : ixD (.ref 0) (.int i) e (.lst xs :: r) = match atI xs i with | some d => .ok d (.lst xs :: r) | none => .stuck := ix_ref 0 xs i rfl
@[simp] theorem ix_ref1 (m : MO) (xs : List D) (i : Int) (r : Store) : ixD (.ref 1) (.int i) e (m :: .lst xs :: r) = match atI xs i with | some d => .ok d (m :: .lst xs :: r) | none => .stuck := ix_ref 1 xs i rfl
@[simp] theorem ap_part (m : XM D) : xpart m e st = match m e st with | .ok (.int i) st' => .ok (some i) st' | .ok _ _ => .stuck | .exc c p st' => .exc c p st' | .stuck => .stuck := by
  unfold xpart xbind
  cases m e st with
  | ok d st' => cases d <;> rfl
  | _ => rfl
@[simp] theorem ap_slice (m : XM D) (a b : XM (Option Int)) : xslice m a b e st = xbind m (fun x => xbind a fun l => xbind b fun h => slD x l h) e st := rfl
@[simp] theorem sl_tup (xs : List D) (a b : Option Int) : slD (.tup xs) a b e st = .ok (.tup (cutD xs a b)) st := rfl
@[simp] theorem sl_sq (xs : List D) (a b : Option Int) : slD (.sq xs) a b e st = .ok (.lst (cutD xs a b)) st := rfl
@[simp] theorem sl_lst (xs : List D) (a b : Option Int) : slD (.lst xs) a b e st = .ok (.lst (cutD xs a b)) st := rfl
@[simp] theorem ap_call (f : List D → XM D) (ms : XM (List D)) : xcall f ms e st = match ms e st with | .ok a st' => f a e st' | .exc c p st' => .exc c p st' | .stuck => .stuck := by
  unfold xcall xbind
  cases ms e st <;> rfl
@[simp] theorem f1_ap (f : D → XM D) (x : D) : f1 f [x] = f x := rfl
@[simp] theorem f2_ap (f : D → D → XM D) (x y : D) : f2 f [x, y] = f x y := rfl
@[simp] theorem len_tup (xs : List D) : lenD (.tup xs) e st = .ok (.int xs.length) st := rfl
@[simp] theorem len_lst (xs : List D) : lenD (.lst xs) e st = .ok (.int xs.length) st := rfl
@[simp] theorem len_sq (xs : List D) : lenD (.sq xs) e st = .ok (.int xs.length) st := rfl
@[simp] theorem abs_int (i : Int) : absD (.int i) e st = .ok (.int i.natAbs) st := rfl
@[simp] theorem int_int (i : Int) : intD (.int i) e st = .ok (.int i) st := rfl
@[simp] theorem max2_int (i j : Int) : max2D (.int i) (.int j) e st = .ok (.int (max i j)) st := rfl
@[simp] theorem min2_int (i j : Int) : min2D (.int i) (.int j) e st = .ok (.int (min i j)) st := rfl
@[simp] theorem dm_int (i j : Int) : divmodD (.int i) (.int j) e st = if 0 < j ∧ j < 1073741824 then .ok (.tup [.int (i / j), .int (i % j)]) st else .stuck := rfl
@[simp] theorem sum_tup (ns : List Int) : sumD (.tup (iD ns)) e st = .ok (.int ns.sum) st := by simp [intsD, seqOf, intsOf_iD]
@[simp] theorem sum_lst (ns : List Int) : sumD (.lst (iD ns)) e st = .ok (.int ns.sum) st := by simp [intsD, seqOf, lstOf, intsOf_iD]
theorem all_bls {e : Nv} {st : Store} (bs : List Bool) : allD (.lst (bs.map D.bl)) e st = .ok (.bl (bs.all id)) st := by simp [blsD, lstOf, blsOf_bls]
theorem any_bls {e : Nv} {st : Store} (bs : List Bool) : anyD (.lst (bs.map D.bl)) e st = .ok (.bl (bs.any id)) st := by simp [blsD, lstOf, blsOf_bls]
@[simp] theorem list_tup (xs : List D) : listD (.tup xs) e st = .ok (.lst xs) st := rfl
@[simp] theorem list_lst (xs : List D) : listD (.lst xs) e st = .ok (.lst xs) st := rfl
@[simp] theorem tuple_lst (xs : List D) : tupleD (.lst xs) e st = .ok (.tup xs) st := rfl
@[simp] theorem tuple_tup (xs : List D) : tupleD (.tup xs) e st = .ok (.tup xs) st := rfl
@[simp] theorem tuple_ref0 (xs : List D) (r : Store) : tupleD (.ref 0) e (.lst xs :: r) = .ok (.tup xs) (.lst xs :: r) := rfl
@[simp] theorem tuple_ref1 (m : MO) (xs : List D) (r : Store) : tupleD (.ref 1) e (m :: .lst xs :: r) = .ok (.tup xs) (m :: .lst xs :: r) := rfl
@[simp] theorem isi_ap (x : D) (n : String) : isiD x (.ty n) e st = match isiO x n with | some b => (if refOk st x = true then .ok (.bl b) st else .stuck) | none => .stuck := rfl
@[simp] theorem isi2_ap (x : D) (n1 n2 : String) : isi2D n1 n2 x e st = match isiO x n1, isiO x n2 with | some a, some b => (if refOk st x = true then .ok (.bl (a || b)) st else .stuck) | _, _ => .stuck := rfl
@[simp] theorem ro_int (i : Int) : refOk st (.int i) = true := rfl
@[simp] theorem ro_bl (i : Bool) : refOk st (.bl i) = true := rfl
@[simp] theorem ro_str (i : Str) : refOk st (.str i) = true := rfl
@[simp] theorem ro_non : refOk st .non = true := rfl
@[simp] theorem ro_tup (i : List D) : refOk st (.tup i) = true := rfl
@[simp] theorem ro_lst (i : List D) : refOk st (.lst i) = true := rfl
@[simp] theorem ro_sq (i : List D) : refOk st (.sq i) = true := rfl
theorem isi_of {x : D} {a n : String} (h : tyNm x = some a) (k : knownTy n = true) : isiO x n = some (isiB a n) := by unfold isiO; rw [h]; simp [k]
@[simp] theorem ii_ii (i : Int) : isiO (.int i) "int" = some true := isi_of (a := "int") rfl (by decide)
@[simp] theorem ii_ib (i : Int) : isiO (.int i) "bool" = some false := isi_of (a := "int") rfl (by decide)
@[simp] theorem ii_is (i : Int) : isiO (.int i) "str" = some false := isi_of (a := "int") rfl (by decide)
@[simp] theorem ii_it (i : Int) : isiO (.int i) "tuple" = some false := isi_of (a := "int") rfl (by decide)
@[simp] theorem ii_il (i : Int) : isiO (.int i) "list" = some false := isi_of (a := "int") rfl (by decide)
@[simp] theorem ii_id (i : Int) : isiO (.int i) "dict" = some false := isi_of (a := "int") rfl (by decide)
@[simp] theorem ii_bi (i : Bool) : isiO (.bl i) "int" = some true := by decide +revert
@[simp] theorem ii_bb (i : Bool) : isiO (.bl i) "bool" = some true := by decide +revert
@[simp] theorem ii_bs (i : Bool) : isiO (.bl i) "str" = some false := by decide +revert
@[simp] theorem ii_bt (i : Bool) : isiO (.bl i) "tuple" = some false := by decide +revert
@[simp] theorem ii_bL (i : Bool) : isiO (.bl i) "list" = some false := by decide +revert
@[simp] theorem ii_ni : isiO .non "int" = some false := by decide
@[simp] theorem ii_nb : isiO .non "bool" = some false := by decide
@[simp] theorem ii_ns : isiO .non "str" = some false := by decide
@[simp] theorem ii_nt : isiO .non "tuple" = some false := by decide
@[simp] theorem ii_nl : isiO .non "list" = some false := by decide
@[simp] theorem ii_si (i : Str) : isiO (.str i) "int" = some false := isi_of (a := "str") rfl (by decide)
@[simp] theorem ii_sb (i : Str) : isiO (.str i) "bool" = some false := isi_of (a := "str") rfl (by decide)
@[simp] theorem ii_ss (i : Str) : isiO (.str i) "str" = some true := isi_of (a := "str") rfl (by decide)
@[simp] theorem ii_st (i : Str) : isiO (.str i) "tuple" = some false := isi_of (a := "str") rfl (by decide)
@[simp] theorem ii_sl (i : Str) : isiO (.str i) "list" = some false := isi_of (a := "str") rfl (by decide)
@[simp] theorem ii_ti (i : List D) : isiO (.tup i) "int" = some false := isi_of (a := "tuple") rfl (by decide)
@[simp] theorem ii_tb (i : List D) : isiO (.tup i) "bool" = some false := isi_of (a := "tuple") rfl (by decide)
@[simp] theorem ii_ts (i : List D) : isiO (.tup i) "str" = some false := isi_of (a := "tuple") rfl (by decide)
@[simp] theorem ii_tt (i : List D) : isiO (.tup i) "tuple" = some true := isi_of (a := "tuple") rfl (by decide)
@[simp] theorem ii_tl (i : List D) : isiO (.tup i) "list" = some false := isi_of (a := "tuple") rfl (by decide)
@[simp] theorem ii_li (i : List D) : isiO (.lst i) "int" = some false := isi_of (a := "list") rfl (by decide)
@[simp] theorem ii_lb (i : List D) : isiO (.lst i) "bool" = some false := isi_of (a := "list") rfl (by decide)
@[simp] theorem ii_ls (i : List D) : isiO (.lst i) "str" = some false := isi_of (a := "list") rfl (by decide)
@[simp] theorem ii_lt (i : List D) : isiO (.lst i) "tuple" = some false := isi_of (a := "list") rfl (by decide)
@[simp] theorem ii_ll (i : List D) : isiO (.lst i) "list" = some true := isi_of (a := "list") rfl (by decide)
/-! statements -/
@[simp] theorem ap_next : snext e st = .nx e st := rfl
@[simp] theorem ap_seq (m n : SM) : sseq m n e st = match m e st with | .nx e' st' => n e' st' | r => r := rfl
theorem seq_nx {m n : SM} {e' : Nv} {st' : Store} (h : m e st = .nx e' st') : sseq m n e st = n e' st' := by rw [ap_seq, h]
theorem seq_rt {m n : SM} {d : D} {st' : Store} (h : m e st = .rt d st') : sseq m n e st = .rt d st' := by rw [ap_seq, h]
@[simp] theorem ap_sbind (m : XM D) (f : D → SM) : sbind m f e st = match m e st with | .ok d st' => f d e st' | .exc c p st' => .exc c p e st' | .stuck => .stuck := rfl
@[simp] theorem ap_drop (m : XM D) : sdrop m e st = match m e st with | .ok d st' => .nx e st' | .exc c p st' => .exc c p e st' | .stuck => .stuck := rfl
@[simp] theorem ap_ret (m : XM D) : sret m e st = match m e st with | .ok d st' => .rt d st' | .exc c p st' => .exc c p e st' | .stuck => .stuck := rfl
@[simp] theorem ap_retN : sretN e st = .rt .non st := rfl
@[simp] theorem ap_sif (c : XM Bool) (m n : SM) : sif c m n e st = match c e st with | .ok true st' => m e st' | .ok false st' => n e st' | .exc c p st' => .exc c p e st' | .stuck => .stuck := by
  unfold sif sbindB
  cases c e st with
  | ok d st' => cases d <;> rfl
  | _ => rfl
@[simp] theorem ap_set (i : Nat) (m : XM D) : sset i m e st = match m e st with | .ok d st' => .nx (e.set i (some d)) st' | .exc c p st' => .exc c p e st' | .stuck => .stuck := rfl
@[simp] theorem ap_asg (m : XM D) (g : MG) : sasg m g e st = match m e st with | .ok d st' => (match g d e st' with | some (e', st'') => .nx e' st'' | none => .stuck) | .exc c p st' => .exc c p e st' | .stuck => .stuck := by
  unfold sasg sbind
  cases m e st <;> rfl
@[simp] theorem ap_par2 (i j : Nat) (a b : XM D) : spar2 i j a b e st = sbind a (fun x => sbind b fun y => fun e st => .nx ((e.set i (some x)).set j (some y)) st) e st := rfl
@[simp] theorem ap_par3 (i j l : Nat) (a b c : XM D) : spar3 i j l a b c e st = sbind a (fun x => sbind b fun y => sbind c fun z => fun e st => .nx (((e.set i (some x)).set j (some y)).set l (some z)) st) e st := rfl
@[simp] theorem ap_gname (i : Nat) (x : D) : gname i x e st = some (e.set i (some x), st) := rfl
@[simp] theorem ap_gtup (n : Nat) (ms : MGs) (xs : List D) : gtup n ms (.tup xs) e st = if xs.length = n then ms xs e st else none := rfl
@[simp] theorem ap_gcons (m : MG) (ms : MGs) (x : D) (r : List D) : gcons m ms (x :: r) e st = match m x e st with | some (e', st') => ms r e' st' | none => none := rfl
@[simp] theorem ap_gnil : gnil [] e st = some (e, st) := rfl
@[simp] theorem ap_for (mi : XM (List D × Option Nat)) (g : MG) (b : SM) : sfor mi g b e st = match mi e st with | .ok (xs, src) st1 => sloop src xs g b xs e st1 | .exc c p st' => .exc c p e st' | .stuck => .stuck := rfl
theorem append_ref (mo me : XM D) (k : Nat) {st1 st2 : Store} {x : D} {xs : List D} (ho : mo e st = .ok (.ref k) st1) (hx : me e st1 = .ok x st2) (hk : st2[k]? = some (.lst xs)) (hl : xs.length < LIM) : xappend mo me e st = .ok .non (st2.set k (.lst (xs ++ [x]))) := by
  unfold xappend xbind
  rw [ho]; simp only; rw [hx]; simp only [hk]
  rw [if_pos hl]
@[simp] theorem ap_append (mo me : XM D) : xappend mo me e st = match mo e st with | .ok (.ref k) st1 => (match me e st1 with | .ok x st2 => (match st2[k]? with | some (.lst xs) => if xs.length < LIM then .ok .non (st2.set k (.lst (xs ++ [x]))) else .stuck | none => .stuck) | .exc c p st' => .exc c p st' | .stuck => .stuck) | .ok _ _ => .stuck | .exc c p st' => .exc c p st' | .stuck => .stuck := by
  unfold xappend xbind
  cases mo e st with
  | ok d st' =>
    cases d with
    | ref k => simp only []; cases me e st' <;> rfl
    | _ => rfl
  | _ => rfl
@[simp] theorem ap_gsub (mo mi : XM D) (x : D) : gsub mo mi x e st = match mo e st, mi e st with
  | .ok (.ref k) _, .ok (.int i) _ => (match st[k]? with
    | some (.lst xs) => (match ixN xs.length i with
      | some j => some (e, st.set k (.lst (xs.set j x)))
      | none => none)
    | none => none)
  | _, _ => none := rfl
@[simp] theorem ap_walk (m : XM D) : xwalk m e st = match m e st with | .ok d st' => (match seqSrc st' d with | some r => .ok r st' | none => .stuck) | .exc c p st' => .exc c p st' | .stuck => .stuck := by
  unfold xwalk xbind
  cases m e st <;> rfl
@[simp] theorem src_tup (xs : List D) : seqSrc st (.tup xs) = some (xs, none) := rfl
@[simp] theorem src_lst (xs : List D) : seqSrc st (.lst xs) = some (xs, none) := rfl
@[simp] theorem src_sq (xs : List D) : seqSrc st (.sq xs) = some (xs, none) := rfl
def rngB (j : Int) : Bool := decide (-(2 ^ 62) ≤ j ∧ j < 2 ^ 62)
theorem rngB_of {j : Int} (h0 : -1000000 ≤ j) (h1 : j ≤ 1000000) : rngB j = true := by
  unfold rngB
  exact decide_eq_true ⟨by omega, by omega⟩
theorem rngB_nat {n : Nat} (h : n ≤ LIM) : rngB (n : Int) = true := rngB_of (by omega) (by simp [LIM] at h; omega)
@[simp] theorem ap_range1 (m : XM D) : xrange1 m e st = match m e st with | .ok (.int j) st' => (if rngB j = true then .ok (rangeL 0 j.toNat, none) st' else .stuck) | .ok _ _ => .stuck | .exc c p st' => .exc c p st' | .stuck => .stuck := by
  unfold xrange1 xbind rngB
  cases m e st with
  | ok d st' =>
    cases d with
    | int j => simp only [decide_eq_true_eq]
    | _ => rfl
  | _ => rfl
@[simp] theorem ap_enum (m : XM D) : xenum m e st = match m e st with | .ok d st' => (match stillOf d with | some xs => .ok (enumD 0 xs, none) st' | none => .stuck) | .exc c p st' => .exc c p st' | .stuck => .stuck := by
  unfold xenum xbind
  cases m e st <;> rfl
@[simp] theorem still_tup (xs : List D) : stillOf (.tup xs) = some xs := rfl
@[simp] theorem still_lst (xs : List D) : stillOf (.lst xs) = some xs := rfl
@[simp] theorem ap_enumZ (ma mb : XM D) : xenumZ ma mb e st = xbind ma (fun x => xbind mb fun y => fun _ st => match zipTT x y with | some (xs, ys) => .ok (ezD xs ys, none) st | none => .stuck) e st := rfl
@[simp] theorem zipTT_tup (xs ys : List D) : zipTT (.tup xs) (.tup ys) = some (xs, ys) := rfl
@[simp] theorem ap_comp (mi : XM (List D × Option Nat)) (vs : List Nat) (g : MG) (mt : XM Bool) (me : XM D) : xcomp mi vs g mt me e st = match mi e st with
  | .ok (xs, src) st1 => (match cloop src xs g mt me (wipeE e vs) xs [] st1 with | .ok ds st2 => .ok (.lst ds) st2 | .exc c p st' => .exc c p st' | .stuck => .stuck)
  | .exc c p st' => .exc c p st' | .stuck => .stuck := by
  unfold xcomp xbind xcompL xpure
  cases mi e st with
  | ok r st' => obtain ⟨xs, src⟩ := r; simp only []; cases cloop src xs g mt me (wipeE e vs) xs [] st' <;> rfl
  | _ => rfl
@[simp] theorem ap_fn (n : Nat) (f : DF) (ms : XM (List D)) : xfn n f ms e st = match ms e st with | .ok ds st' => (if ds.length = n then callD f ds e st' else .stuck) | .exc c p st' => .exc c p st' | .stuck => .stuck := by
  unfold xfn xbind
  cases ms e st with
  | ok ds st' => simp only; split <;> rfl
  | _ => rfl
@[simp] theorem ap_fnK (n : Nat) (ix : List Nat) (l : Nat) (f : DF) (ms mk : XM (List D)) : xfnK n ix l f ms mk e st = match ms e st with | .ok ds st' => (match mk e st' with | .ok zs st2 => (if ds.length = n ∧ zs.length = l then callD f (pick .non (ds ++ zs) ix) e st2 else .stuck) | .exc c p st' => .exc c p st' | .stuck => .stuck) | .exc c p st' => .exc c p st' | .stuck => .stuck := by
  unfold xfnK xbind
  cases ms e st with
  | ok ds st' =>
    simp only
    cases mk e st' with
    | ok zs st2 => simp only; split <;> rfl
    | _ => rfl
  | _ => rfl
@[simp] theorem ap_wipe1 (v : Nat) : wipeE e [v] = e.set v none := rfl
@[simp] theorem ap_wipe2 (v w : Nat) : wipeE e [v, w] = (e.set w none).set v none := rfl
@[simp] theorem srcOk_none (xs : List D) : srcOk none xs st = true := rfl
@[simp] theorem stB_nil : stB 0 st = true := by simp [stB]
theorem sif_t {c : XM Bool} {m n : SM} {st' : Store} (h : c e st = .ok true st') : sif c m n e st = m e st' := by rw [ap_sif, h]
theorem sif_f {c : XM Bool} {m n : SM} {st' : Store} (h : c e st = .ok false st') : sif c m n e st = n e st' := by rw [ap_sif, h]
theorem ret_ok {m : XM D} {d : D} {st' : Store} (h : m e st = .ok d st') : sret m e st = .rt d st' := by rw [ap_ret, h]
theorem set_ok {m : XM D} {i : Nat} {d : D} {st' : Store} (h : m e st = .ok d st') : sset i m e st = .nx (e.set i (some d)) st' := by rw [ap_set, h]
theorem and_t {m n : XM D} {st' : Store} (h : m e st = .ok (.bl true) st') : xand m n e st = n e st' := by rw [ap_and, h]; rfl
theorem and_f {m n : XM D} {st' : Store} (h : m e st = .ok (.bl false) st') : xand m n e st = .ok (.bl false) st' := by rw [ap_and, h]; rfl
theorem or_t {m n : XM D} {st' : Store} (h : m e st = .ok (.bl true) st') : xor' m n e st = .ok (.bl true) st' := by rw [ap_or, h]; rfl
theorem or_f {m n : XM D} {st' : Store} (h : m e st = .ok (.bl false) st') : xor' m n e st = n e st' := by rw [ap_or, h]; rfl
theorem tor_t {m n : XM Bool} {st' : Store} (h : m e st = .ok true st') : tor m n e st = .ok true st' := by rw [ap_tor, h]
theorem tor_f {m n : XM Bool} {st' : Store} (h : m e st = .ok false st') : tor m n e st = n e st' := by rw [ap_tor, h]
theorem tand_t {m n : XM Bool} {st' : Store} (h : m e st = .ok true st') : tand m n e st = n e st' := by rw [ap_tand, h]
theorem tand_f {m n : XM Bool} {st' : Store} (h : m e st = .ok false st') : tand m n e st = .ok false st' := by rw [ap_tand, h]
theorem tnot_ok {m : XM Bool} {b : Bool} {st' : Store} (h : m e st = .ok b st') : tnot m e st = .ok (!b) st' := by rw [ap_tnot, h]
theorem tru_ok {m : XM D} {b : Bool} {st' : Store} (h : m e st = .ok (.bl b) st') : xtru m e st = .ok b st' := by rw [ap_tru, h]; rfl
theorem all_ok {m : XM D} {l : List Bool} {st' : Store} (h : m e st = .ok (.lst (l.map D.bl)) st') : xcall (f1 allD) (xcons m (xpure [])) e st = .ok (.bl (l.all id)) st' := by
  have h2 : xcons m (xpure []) e st = .ok [.lst (l.map D.bl)] st' := by rw [ap_cons, ap_bind, h]; rfl
  rw [ap_call, h2]
  exact all_bls (e := e) l
theorem any_ok {m : XM D} {l : List Bool} {st' : Store} (h : m e st = .ok (.lst (l.map D.bl)) st') : xcall (f1 anyD) (xcons m (xpure [])) e st = .ok (.bl (l.any id)) st' := by
  have h2 : xcons m (xpure []) e st = .ok [.lst (l.map D.bl)] st' := by rw [ap_cons, ap_bind, h]; rfl
  rw [ap_call, h2]
  exact any_bls (e := e) l
theorem all_yes {m : XM D} {n : Nat} {st' : Store} (h : m e st = .ok (.lst (List.replicate n (.bl true))) st') : xcall (f1 allD) (xcons m (xpure [])) e st = .ok (.bl true) st' := by
  have := all_ok (l := List.replicate n true) (by simpa using h)
  simpa using this
theorem any_no {m : XM D} {n : Nat} {st' : Store} (h : m e st = .ok (.lst (List.replicate n (.bl false))) st') : xcall (f1 anyD) (xcons m (xpure [])) e st = .ok (.bl false) st' := by
  have := any_ok (l := List.replicate n false) (by simpa using h)
  simpa using this
end
end LS
end
section
set_option maxRecDepth 100000
set_option maxHeartbeats 4000000
namespace LS
open PySem PySem.Spec L2
variable {e : Nv} {st : Store}
theorem outD_pl {d : D} {st : Store} (h : refsB 0 d = true) : outD 0 d st = .ok d [] := by
  have hs : stB 0 st = true := by simp [stB]
  unfold outD
  rw [if_pos hs]
  cases d <;> simp_all [refsB]
theorem runF_rt {n : Nat} {m : SM} {ds : List D} {d : D} {st' : Store} (h : m (ds.map some ++ List.replicate (n - ds.length) none) [] = .rt d st') (hd : refsB 0 d = true) : runF n m [] ds = .ok d [] := by
  unfold runF
  rw [h]
  exact outD_pl hd
theorem runF_nx {n : Nat} {m : SM} {ds : List D} {e' : Nv} {st' : Store} (h : m (ds.map some ++ List.replicate (n - ds.length) none) [] = .nx e' st') : runF n m [] ds = .ok .non [] := by
  unfold runF
  rw [h]
  exact outD_pl (d := .non) rfl
theorem c_is_whole (i : Int) : callD D_is_whole [.int i] e st = .ok (.bl true) st := callD0 rfl rfl (runF_rt (st' := []) (by simp [m_is_whole]) rfl) rfl
theorem c_is_between (i a b : Int) : callD D_is_between [.int i, .int a, .int b] e st = .ok (.bl (decide (a ≤ i) && decide (i ≤ b))) st := callD0 rfl rfl (runF_rt (st' := []) (by
  simp [m_is_between, c_is_whole]
  by_cases h : a ≤ i <;> simp [h]) rfl) rfl
theorem c_is_number (i : Int) (h : -9 ≤ i ∧ i ≤ 9) : callD D_is_number [.int i] e st = .ok (.bl true) st := callD0 rfl rfl (runF_rt (st' := []) (by
  simp [m_is_number, c_is_between, h]) rfl) rfl
/-- a right row -/
def Row (ns : List Int) : Prop := 1 ≤ ns.length ∧ ns.length ≤ 8 ∧ ∀ n ∈ ns, -9 ≤ n ∧ n ≤ 9
theorem mem_enumD : ∀ {xs : List D} {k : Nat} {x : D}, x ∈ enumD k xs → ∃ (i : Nat) (y : D), y ∈ xs ∧ xs[i]? = some y ∧ x = .tup [.int ((k + i : Nat) : Int), y]
  | [], _, _, h => by simp [enumD] at h
  | y :: r, k, x, h => by
    simp only [enumD, List.mem_cons] at h
    rcases h with rfl | h
    · exact ⟨0, y, by simp, by simp, by simp⟩
    · obtain ⟨i, z, h1, h2, h3⟩ := mem_enumD h
      exact ⟨i + 1, z, by simp [h1], by simpa using h2, by rw [h3, show k + 1 + i = k + (i + 1) by omega]⟩
theorem mem_iD {ns : List Int} {x : D} (h : x ∈ iD ns) : ∃ n, n ∈ ns ∧ x = .int n := by
  unfold iD at h
  obtain ⟨n, h1, h2⟩ := List.mem_map.mp h
  exact ⟨n, h1, h2.symm⟩
theorem c_wrong (ns : List Int) (h : Row ns) : callD D_wrong_in_row [.tup (iD ns)] e st = .ok (.lst []) st := by
  refine callD0 rfl (by simp [refsBs, refsB]) (runF_rt (st' := []) ?_ rfl) rfl
  have h1 : (1 : Int) ≤ (ns.length : Int) := by have := h.1; omega
  have h2 : (ns.length : Int) ≤ 8 := by have := h.2.1; omega
  simp [m_wrong_in_row, h1, h2]
  rw [cloop_pure (fun _ => false) (fun x => x) rfl]
  · simp [cutD, HT.sIx]
  · intro x hx
    obtain ⟨i, y, hy, _, rfl⟩ := mem_enumD hx
    obtain ⟨n, hn, rfl⟩ := mem_iD hy
    exact ⟨_, by simp; rfl, by simp [m_wrong_in_row_t1, c_is_number n (h.2.2 n hn)], by simp⟩
  · simp [enumD_len, LIM]; have := h.2.1; omega
theorem c_check_row (ns : List Int) (h : Row ns) : callD D_check_row [.tup (iD ns)] e st = .ok .non st := by
  refine callD0 rfl (by simp [refsBs, refsB]) (runF_nx (e' := [some (.tup (iD ns)), none]) (st' := []) ?_) rfl
  simp [m_check_row, c_wrong ns h, sloop]
theorem c_check_number (i a b : Int) (h : a ≤ i) (h2 : i ≤ b) : callD D_check_number [.int i, .int a, .int b] e st = .ok .non st := by
  refine callD0 rfl rfl (runF_nx (e' := [some (.int i), some (.int a), some (.int b)]) (st' := []) ?_) rfl
  simp [m_check_number, c_is_between, h, h2]
theorem c_check_tub (ns : List Int) (s h : Int) (hr : Row ns) (h1 : 1 ≤ h) (h2 : h ≤ 99) (h3 : 0 ≤ s) (h4 : s ≤ h) : callD D_check_tub [.tup (iD ns), .int s, .int h] e st = .ok .non st := by
  refine callD0 rfl (by simp [refsBs, refsB]) (runF_nx (e' := [some (.tup (iD ns)), some (.int s), some (.int h)]) (st' := []) ?_) rfl
  simp [m_check_tub, c_check_row ns hr, c_check_number h 1 99 h1 h2, c_check_number s 0 h h3 h4]
def lvb (s n h : Int) : Int := min h (max 0 (s + n))
theorem c_level_behind (s n h : Int) : callD D_level_behind [.int s, .int n, .int h] e st = .ok (.int (lvb s n h)) st := by
  refine callD0 rfl rfl (runF_rt (st' := []) ?_ rfl) rfl
  simp [m_level_behind, lvb]
def lvs (h : Int) : Int → List Int → List Int
  | s, [] => [s]
  | s, n :: r => s :: lvs h (lvb s n h) r
theorem lvs_len (h : Int) : ∀ (s : Int) (ns : List Int), (lvs h s ns).length = ns.length + 1
  | _, [] => rfl
  | _, n :: r => by simp [lvs, lvs_len h _ r]
theorem lp_levels (row : D) (s0 h : Int) (items : List D) : ∀ (ns acc : List Int) (s : Int) (x4 : Option D), acc.length + ns.length < 1000 → ∃ y4, sloop none items (gname 4) m_levels_by_b1 (iD ns) [some row, some (.int s0), some (.int h), some (.ref 0), x4] [.lst (iD (acc ++ [s]))] = .nx [some row, some (.int s0), some (.int h), some (.ref 0), y4] [.lst (iD (acc ++ lvs h s ns))]
  | [], acc, s, x4, _ => ⟨x4, by simp [sloop, lvs]⟩
  | n :: r, acc, s, x4, hl => by
    have hl' : acc.length + (r.length + 1) < 1000 := by simpa using hl
    obtain ⟨y4, q⟩ := lp_levels row s0 h items r (acc ++ [s]) (lvb s n h) (some (.int n)) (by simp; omega)
    refine ⟨y4, ?_⟩
    have hlim : acc.length + 1 < LIM := by simp [LIM]; omega
    have hb : m_levels_by_b1 [some row, some (.int s0), some (.int h), some (.ref 0), some (.int n)] [.lst (iD (acc ++ [s]))] = .nx [some row, some (.int s0), some (.int h), some (.ref 0), some (.int n)] [.lst (iD (acc ++ [s] ++ [lvb s n h]))] := by
      simp [m_levels_by_b1, iD_app, atI_last, c_level_behind, hlim]
    rw [iD_cons, sloop_cons rfl rfl hb, q]
    simp [lvs]
theorem c_levels_by (ns : List Int) (s h : Int) (hl : ns.length ≤ 8) : callD D_levels_by [.tup (iD ns), .int s, .int h] e st = .ok (.tup (iD (lvs h s ns))) st := by
  refine callD0 rfl (by simp [refsBs, refsB]) (runF_rt (st' := [.lst (iD (lvs h s ns))]) ?_ (by simp [refsB])) (by simp [refsB])
  obtain ⟨y4, q⟩ := lp_levels (.tup (iD ns)) s h (iD ns) ns [] s none (by simp; omega)
  simp at q
  simp [m_levels_by, LIM, q]
end LS
end
section
set_option maxRecDepth 100000
set_option maxHeartbeats 4000000
namespace LS
open PySem PySem.Spec L2
variable {e : Nv} {st : Store}
/-! ## beyond, spilled, lacking -/
def byd (h : Int) : Int → List Int → List Int
  | _, [] => []
  | s, n :: r => (s + n - lvb s n h) :: byd h (lvb s n h) r
theorem byd_len (h : Int) : ∀ (s : Int) (ns : List Int), (byd h s ns).length = ns.length
  | _, [] => rfl
  | _, n :: r => by simp [byd, byd_len h _ r]
def fBy (L : List Int) : D → D
  | .tup [.int i, .int n] => .int (L.getD i.toNat 0 + n - L.getD (i.toNat + 1) 0)
  | _ => .non
theorem map_by (h : Int) : ∀ (ns pre : List Int) (s : Int), (enumD pre.length (iD ns)).map (fBy (pre ++ lvs h s ns)) = iD (byd h s ns)
  | [], _, _ => rfl
  | n :: r, pre, s => by
    have q := map_by h r (pre ++ [s]) (lvb s n h)
    have e1 : pre ++ [s] ++ lvs h (lvb s n h) r = pre ++ lvs h s (n :: r) := by simp [lvs]
    rw [e1] at q
    have e2 : (pre ++ [s]).length = pre.length + 1 := by simp
    rw [e2] at q
    have hd : ∀ (t : Int), (lvs h t r).getD 0 0 = t := fun t => by cases r <;> simp [lvs]
    simp only [iD_cons, enumD, List.map_cons, q, byd]
    congr 1
    simp only [fBy, Int.toNat_natCast]
    congr 1
    simp [lvs]
    cases r <;> simp [lvs]
theorem c_beyond (ns : List Int) (s h : Int) (hl : ns.length ≤ 8) : callD D_beyond_by [.tup (iD ns), .int s, .int h] e st = .ok (.lst (iD (byd h s ns))) st := by
  refine callD0 rfl (by simp [refsBs, refsB]) (runF_rt (st' := []) ?_ (by simp [refsB])) (by simp [refsB])
  simp [m_beyond_by, c_levels_by ns s h hl]
  rw [cloop_pure (fun _ => true) (fBy (lvs h s ns)) rfl]
  · simp
    exact map_by h ns [] s
  · intro x hx
    obtain ⟨i, y, hy, hi, rfl⟩ := mem_enumD hx
    obtain ⟨n, hn, rfl⟩ := mem_iD hy
    have li : i < ns.length := by
      have := (List.getElem?_eq_some_iff.mp hi).1
      simpa using this
    have ll := lvs_len h s ns
    have g1 : (lvs h s ns)[i]? = some ((lvs h s ns).getD i 0) := by rw [List.getD_eq_getElem?_getD, List.getElem?_eq_getElem (by omega)]; rfl
    have g2 : (lvs h s ns)[i + 1]? = some ((lvs h s ns).getD (i + 1) 0) := by rw [List.getD_eq_getElem?_getD, List.getElem?_eq_getElem (by omega)]; rfl
    have a1 : atI (iD (lvs h s ns)) (i : Int) = some (.int ((lvs h s ns).getD i 0)) := by rw [atI_nat, iD_get, g1]; rfl
    have a2 : atI (iD (lvs h s ns)) ((i : Int) + 1) = some (.int ((lvs h s ns).getD (i + 1) 0)) := by rw [show (i : Int) + 1 = ((i + 1 : Nat) : Int) by omega, atI_nat, iD_get, g2]; rfl
    refine ⟨_, by simp; rfl, by simp, fun _ => ?_⟩
    simp [m_beyond_by_e1, a1, a2, fBy]
  · simp [enumD_len, LIM]; omega
def fMax : D → D
  | .int i => .int (max 0 i)
  | d => d
def fMin : D → D
  | .int i => .int (max 0 (-i))
  | d => d
theorem map_fMax (ns : List Int) : (iD ns).map fMax = iD (ns.map fun i => max 0 i) := by simp [iD, fMax]
theorem map_fMin (ns : List Int) : (iD ns).map fMin = iD (ns.map fun i => max 0 (-i)) := by simp [iD, fMin]
def ovr (h : Int) : Int → List Int → Int
  | _, [] => 0
  | s, n :: r => max 0 (s + n - h) + ovr h (lvb s n h) r
def und (h : Int) : Int → List Int → Int
  | _, [] => 0
  | s, n :: r => max 0 (-(s + n)) + und h (lvb s n h) r
theorem ovr_sum (h : Int) (h0 : 0 ≤ h) : ∀ (s : Int) (ns : List Int), ((byd h s ns).map fun i => max 0 i).sum = ovr h s ns
  | _, [] => rfl
  | s, n :: r => by
    simp only [byd, List.map_cons, List.sum_cons, ovr, ovr_sum h h0 _ r]
    have : max 0 (s + n - lvb s n h) = max 0 (s + n - h) := by unfold lvb; omega
    rw [this]
theorem und_sum (h : Int) (h0 : 0 ≤ h) : ∀ (s : Int) (ns : List Int), ((byd h s ns).map fun i => max 0 (-i)).sum = und h s ns
  | _, [] => rfl
  | s, n :: r => by
    simp only [byd, List.map_cons, List.sum_cons, und, und_sum h h0 _ r]
    have : max 0 (-(s + n - lvb s n h)) = max 0 (-(s + n)) := by unfold lvb; omega
    rw [this]
theorem c_spilled_by (ns : List Int) (s h : Int) (hl : ns.length ≤ 8) (h0 : 0 ≤ h) : callD D_spilled_by [.tup (iD ns), .int s, .int h] e st = .ok (.int (ovr h s ns)) st := by
  refine callD0 rfl (by simp [refsBs, refsB]) (runF_rt (st' := []) ?_ rfl) rfl
  simp [m_spilled_by, c_beyond ns s h hl]
  rw [cloop_pure (fun _ => true) fMax rfl]
  · simp [map_fMax, ovr_sum h h0]
  · intro x hx
    obtain ⟨n, hn, rfl⟩ := mem_iD hx
    exact ⟨_, by simp; rfl, by simp, fun _ => by simp [m_spilled_by_e1, fMax]⟩
  · simp [byd_len, LIM]; omega
theorem c_lacking_by (ns : List Int) (s h : Int) (hl : ns.length ≤ 8) (h0 : 0 ≤ h) : callD D_lacking_by [.tup (iD ns), .int s, .int h] e st = .ok (.int (und h s ns)) st := by
  refine callD0 rfl (by simp [refsBs, refsB]) (runF_rt (st' := []) ?_ rfl) rfl
  simp [m_lacking_by, c_beyond ns s h hl]
  rw [cloop_pure (fun _ => true) fMin rfl]
  · simp [map_fMin, und_sum h h0]
  · intro x hx
    obtain ⟨n, hn, rfl⟩ := mem_iD hx
    exact ⟨_, by simp; rfl, by simp, fun _ => by simp [m_lacking_by_e1, fMin]⟩
  · simp [byd_len, LIM]; omega
/-! ## same_from -/
def fstE : List Int → List Int → Nat → Option Nat
  | x :: a, y :: b, k => if x = y then some k else fstE a b (k + 1)
  | _, _, _ => none
def fromE : Option Nat → D
  | none => .non
  | some k => .int (k : Int)
theorem lp_same (row h : D) (items : List D) : ∀ (a b : List Int) (k : Nat) (x2 x3 x4 : Option D), (∃ y2 y3 y4, fstE a b k = none ∧ sloop none items (gtup 2 (gcons (gname 2) (gcons (gtup 2 (gcons (gname 3) (gcons (gname 4) gnil))) gnil))) m_same_from_by_b1 (enumD k (zipD (iD a) (iD b))) [some row, some h, x2, x3, x4] [] = .nx [some row, some h, y2, y3, y4] []) ∨
    (∃ j : Nat, fstE a b k = some j ∧ sloop none items (gtup 2 (gcons (gname 2) (gcons (gtup 2 (gcons (gname 3) (gcons (gname 4) gnil))) gnil))) m_same_from_by_b1 (enumD k (zipD (iD a) (iD b))) [some row, some h, x2, x3, x4] [] = .rt (.int (j : Int)) [])
  | [], b, k, x2, x3, x4 => .inl ⟨x2, x3, x4, by simp [fstE], by simp [zipD, enumD, sloop]⟩
  | x :: a, [], k, x2, x3, x4 => .inl ⟨x2, x3, x4, by simp [fstE], by simp [zipD, enumD, sloop]⟩
  | x :: a, y :: b, k, x2, x3, x4 => by
    have ez : enumD k (zipD (iD (x :: a)) (iD (y :: b))) = .tup [.int (k : Int), .tup [.int x, .int y]] :: enumD (k + 1) (zipD (iD a) (iD b)) := rfl
    rw [ez]
    by_cases hxy : x = y
    · refine .inr ⟨k, by simp [fstE, hxy], ?_⟩
      have hb : m_same_from_by_b1 [some row, some h, some (.int (k : Int)), some (.int x), some (.int y)] [] = .rt (.int (k : Int)) [] := by simp [m_same_from_by_b1, hxy]
      exact sloop_rt rfl rfl hb
    · have hb : m_same_from_by_b1 [some row, some h, some (.int (k : Int)), some (.int x), some (.int y)] [] = .nx [some row, some h, some (.int (k : Int)), some (.int x), some (.int y)] [] := by simp [m_same_from_by_b1, hxy]
      rw [sloop_cons rfl rfl hb]
      have e1 : fstE (x :: a) (y :: b) k = fstE a b (k + 1) := by simp [fstE, hxy]
      rw [e1]
      exact lp_same row h items a b (k + 1) _ _ _
theorem c_same_from_by (ns : List Int) (h : Int) (hl : ns.length ≤ 8) : callD D_same_from_by [.tup (iD ns), .int h] e st = .ok (fromE (fstE (lvs h 0 ns) (lvs h h ns) 0)) st := by
  have hr : refsB 0 (fromE (fstE (lvs h 0 ns) (lvs h h ns) 0)) = true := by cases fstE (lvs h 0 ns) (lvs h h ns) 0 <;> rfl
  refine callD0 rfl (by simp [refsBs, refsB]) (runF_rt (st' := []) ?_ hr) hr
  simp [m_same_from_by, c_levels_by ns _ h hl, ezD]
  rcases lp_same (.tup (iD ns)) (.int h) (enumD 0 (zipD (iD (lvs h 0 ns)) (iD (lvs h h ns)))) (lvs h 0 ns) (lvs h h ns) 0 none none none with ⟨y2, y3, y4, q1, q2⟩ | ⟨j, q1, q2⟩
  · rw [q2, q1]; rfl
  · rw [q2, q1]; rfl
/-! ## sums, waits -/
theorem lp_sums (row : D) (items : List D) : ∀ (ns acc : List Int) (s : Int) (x2 : Option D), acc.length + ns.length < 1000 → ∃ (y2 : Option D) (acc' : List Int), sloop none items (gname 2) m_sums_by_b1 (iD ns) [some row, some (.ref 0), x2] [.lst (iD (acc ++ [s]))] = .nx [some row, some (.ref 0), y2] [.lst (iD (acc' ++ [s + ns.sum]))]
  | [], acc, s, x2, _ => ⟨x2, acc, by simp [sloop]⟩
  | n :: r, acc, s, x2, hl => by
    have hl' : acc.length + (r.length + 1) < 1000 := by simpa using hl
    obtain ⟨y2, acc', q⟩ := lp_sums row items r (acc ++ [s]) (s + n) (some (.int n)) (by simp; omega)
    refine ⟨y2, acc', ?_⟩
    have hlim : acc.length + 1 < LIM := by simp [LIM]; omega
    have hb : m_sums_by_b1 [some row, some (.ref 0), some (.int n)] [.lst (iD (acc ++ [s]))] = .nx [some row, some (.ref 0), some (.int n)] [.lst (iD (acc ++ [s] ++ [s + n]))] := by
      simp [m_sums_by_b1, iD_app, atI_last, hlim]
    rw [iD_cons, sloop_cons rfl rfl hb, q]
    simp [Int.add_assoc]
theorem c_sums_by (ns : List Int) (hl : ns.length ≤ 8) : ∃ acc : List Int, ∀ (e : Nv) (st : Store), callD D_sums_by [.tup (iD ns)] e st = .ok (.tup (iD (acc ++ [ns.sum]))) st := by
  obtain ⟨y2, acc', q⟩ := lp_sums (.tup (iD ns)) (iD ns) ns [] 0 none (by simp; omega)
  refine ⟨acc', fun e st => callD0 rfl (by simp [refsBs, refsB]) (runF_rt (st' := [.lst (iD (acc' ++ [ns.sum]))]) ?_ (by simp [refsB])) (by simp [refsB])⟩
  simp at q
  simp [m_sums_by, LIM, q]
theorem c_total (ns : List Int) (h : Row ns) : callD D_total [.tup (iD ns)] e st = .ok (.int ns.sum) st := by
  refine callD0 rfl (by simp [refsBs, refsB]) (runF_rt (st' := []) ?_ rfl) rfl
  obtain ⟨acc, q⟩ := c_sums_by ns h.2.1
  simp [m_total, c_check_row ns h, q, iD_app, atI_last]
def wts : Int → List Int → List Int
  | s, [] => [s]
  | s, n :: r => s :: wts (max 0 (s + n)) r
def lastW : Int → List Int → Int
  | s, [] => s
  | s, n :: r => lastW (max 0 (s + n)) r
theorem wts_last : ∀ (s : Int) (ns : List Int), ∃ acc, wts s ns = acc ++ [lastW s ns]
  | s, [] => ⟨[], rfl⟩
  | s, n :: r => let ⟨acc, q⟩ := wts_last (max 0 (s + n)) r; ⟨s :: acc, by simp [wts, lastW, q]⟩
theorem lp_waits (row : D) (items : List D) : ∀ (ns acc : List Int) (s : Int) (x2 : Option D), acc.length + ns.length < 1000 → ∃ y2 : Option D, sloop none items (gname 2) m_waits_by_b1 (iD ns) [some row, some (.ref 0), x2] [.lst (iD (acc ++ [s]))] = .nx [some row, some (.ref 0), y2] [.lst (iD (acc ++ wts s ns))]
  | [], acc, s, x2, _ => ⟨x2, by simp [sloop, wts]⟩
  | n :: r, acc, s, x2, hl => by
    have hl' : acc.length + (r.length + 1) < 1000 := by simpa using hl
    obtain ⟨y2, q⟩ := lp_waits row items r (acc ++ [s]) (max 0 (s + n)) (some (.int n)) (by simp; omega)
    refine ⟨y2, ?_⟩
    have hlim : acc.length + 1 < LIM := by simp [LIM]; omega
    have hb : m_waits_by_b1 [some row, some (.ref 0), some (.int n)] [.lst (iD (acc ++ [s]))] = .nx [some row, some (.ref 0), some (.int n)] [.lst (iD (acc ++ [s] ++ [max 0 (s + n)]))] := by
      simp [m_waits_by_b1, iD_app, atI_last, hlim]
    rw [iD_cons, sloop_cons rfl rfl hb, q]
    simp [wts]
theorem c_waits_by (ns : List Int) (hl : ns.length ≤ 8) : callD D_waits_by [.tup (iD ns)] e st = .ok (.tup (iD (wts 0 ns))) st := by
  obtain ⟨y2, q⟩ := lp_waits (.tup (iD ns)) (iD ns) ns [] 0 none (by simp; omega)
  refine callD0 rfl (by simp [refsBs, refsB]) (runF_rt (st' := [.lst (iD (wts 0 ns))]) ?_ (by simp [refsB])) (by simp [refsB])
  simp at q
  simp [m_waits_by, LIM, q]
theorem c_waits (ns : List Int) (h : Row ns) : callD D_waits [.tup (iD ns)] e st = .ok (.tup (iD (wts 0 ns))) st := by
  refine callD0 rfl (by simp [refsBs, refsB]) (runF_rt (st' := []) ?_ (by simp [refsB])) (by simp [refsB])
  simp [m_waits, c_check_row ns h, c_waits_by ns h.2.1]
theorem c_last_wait (ns : List Int) (hl : ns.length ≤ 8) : callD D_last_wait [.tup (iD ns)] e st = .ok (.int (lastW 0 ns)) st := by
  refine callD0 rfl (by simp [refsBs, refsB]) (runF_rt (st' := []) ?_ rfl) rfl
  obtain ⟨acc, q⟩ := wts_last 0 ns
  simp [m_last_wait, c_waits_by ns hl, q, iD_app, atI_last]
theorem c_lost_by (ns : List Int) (hl : ns.length ≤ 8) : callD D_lost_by [.tup (iD ns)] e st = .ok (.int (lastW 0 ns - ns.sum)) st := by
  refine callD0 rfl (by simp [refsBs, refsB]) (runF_rt (st' := []) ?_ rfl) rfl
  simp [m_lost_by, c_last_wait ns hl]
theorem c_lost (ns : List Int) (h : Row ns) : callD D_lost [.tup (iD ns)] e st = .ok (.int (lastW 0 ns - ns.sum)) st := by
  refine callD0 rfl (by simp [refsBs, refsB]) (runF_rt (st' := []) ?_ rfl) rfl
  simp [m_lost, c_check_row ns h, c_lost_by ns h.2.1]
/-! ## the doors -/
section
variable (ns : List Int) (s h : Int) (hr : Row ns) (h1 : 1 ≤ h) (h2 : h ≤ 99) (h3 : 0 ≤ s) (h4 : s ≤ h)
include hr h1 h2 h3 h4
theorem c_levels : callD D_levels [.tup (iD ns), .int s, .int h] e st = .ok (.tup (iD (lvs h s ns))) st := by
  refine callD0 rfl (by simp [refsBs, refsB]) (runF_rt (st' := []) ?_ (by simp [refsB])) (by simp [refsB])
  simp [m_levels, c_check_tub ns s h hr h1 h2 h3 h4, c_levels_by ns s h hr.2.1]
theorem c_spilled : callD D_spilled [.tup (iD ns), .int s, .int h] e st = .ok (.int (ovr h s ns)) st := by
  refine callD0 rfl (by simp [refsBs, refsB]) (runF_rt (st' := []) ?_ (by simp [refsB])) (by simp [refsB])
  simp [m_spilled, c_check_tub ns s h hr h1 h2 h3 h4, c_spilled_by ns s h hr.2.1 (Int.le_trans (by decide) h1)]
theorem c_lacking : callD D_lacking [.tup (iD ns), .int s, .int h] e st = .ok (.int (und h s ns)) st := by
  refine callD0 rfl (by simp [refsBs, refsB]) (runF_rt (st' := []) ?_ (by simp [refsB])) (by simp [refsB])
  simp [m_lacking, c_check_tub ns s h hr h1 h2 h3 h4, c_lacking_by ns s h hr.2.1 (Int.le_trans (by decide) h1)]
end
theorem c_same_from (ns : List Int) (h : Int) (hr : Row ns) (h1 : 1 ≤ h) (h2 : h ≤ 99) : callD D_same_from [.tup (iD ns), .int h] e st = .ok (fromE (fstE (lvs h 0 ns) (lvs h h ns) 0)) st := by
  have hq : refsB 0 (fromE (fstE (lvs h 0 ns) (lvs h h ns) 0)) = true := by cases fstE (lvs h 0 ns) (lvs h h ns) 0 <;> rfl
  refine callD0 rfl (by simp [refsBs, refsB]) (runF_rt (st' := []) ?_ hq) hq
  simp [m_same_from, c_check_row ns hr, c_check_number h 1 99 h1 h2, c_same_from_by ns h hr.2.1]
end LS
end
section
set_option maxRecDepth 100000
set_option maxHeartbeats 4000000
namespace LS
open PySem PySem.Spec L2
variable {e : Nv} {st : Store}
@[simp] theorem atI_0 {α : Type} (x : α) (r : List α) : atI (x :: r) 0 = some x := by have := atI_nat (x :: r) 0; simpa using this
@[simp] theorem atI_1 {α : Type} (x y : α) (r : List α) : atI (x :: y :: r) 1 = some y := by have := atI_nat (x :: y :: r) 1; simpa using this
@[simp] theorem atI_2 {α : Type} (x y z : α) (r : List α) : atI (x :: y :: z :: r) 2 = some z := by have := atI_nat (x :: y :: z :: r) 2; simpa using this
theorem cut_to (xs : List D) (k : Nat) : cutD xs none (some (k : Int)) = xs.take k := by
  unfold cutD
  rw [HT.sIx_nat]
  simp [HT.sIx]
theorem cut_from (xs : List D) (k : Nat) : cutD xs (some (k : Int)) none = xs.drop k := by
  unfold cutD
  rw [HT.sIx_nat]
  simp [HT.sIx]
  by_cases h : k ≤ xs.length
  · rw [Nat.min_eq_left h]
    exact List.take_of_length_le (by simp)
  · rw [Nat.min_eq_right (by omega)]
    simp
    omega
/-! ## the well -/
def Wl (m : MO) : Prop := ∃ a s c : Int, 0 ≤ a ∧ 0 ≤ s ∧ 0 ≤ c ∧ m = .lst [.int a, .int s, .int c]
theorem Wl.mo {m : MO} (h : Wl m) : moB 0 m = true := by obtain ⟨a, s, c, _, _, _, rfl⟩ := h; rfl
theorem lp_well (items : List D) (x0 x1 x2 : Option D) : ∀ (ns : List Int) (s : Int) (x3 : Option D), 0 ≤ s → ∃ (y : Option D) (s' : Int), 0 ≤ s' ∧ sloop none items (gname 4) m_u_law_well_b1 (iD ns) [x0, x1, x2, some (.int s), x3] [] = .nx [x0, x1, x2, some (.int s'), y] []
  | [], s, x3, h => ⟨x3, s, h, by simp [sloop]⟩
  | n :: r, s, x3, h => by
    have hp : (0 : Int) ≤ (s * 44497 + n % 2147483587 + 29) % 2147483563 := Int.emod_nonneg _ (by decide)
    obtain ⟨y, s', h', q⟩ := lp_well items x0 x1 x2 r ((s * 44497 + n % 2147483587 + 29) % 2147483563) (some (.int n)) hp
    refine ⟨y, s', h', ?_⟩
    have hb : m_u_law_well_b1 [x0, x1, x2, some (.int s), some (.int n)] [] = .nx [x0, x1, x2, some (.int ((s * 44497 + n % 2147483587 + 29) % 2147483563)), some (.int n)] [] := by
      simp [m_u_law_well_b1, mulC]
    rw [iD_cons, sloop_cons rfl rfl hb, q]
theorem c_well (ns : List Int) (lap : Int) (h0 : 0 ≤ lap) (hn : ns.length ≤ 63) : ∃ m, Wl m ∧ ∀ (e : Nv) (st : Store), callD D_u_law_well [.sq (iD ns), .int lap] e st = .ok (.ref st.length) (st ++ [m]) := by
  have main : ∀ o : Int, ((lap < (ns.length : Int) ∧ ns[lap.toNat]? = some o) ∨ (¬ lap < (ns.length : Int) ∧ o = 0)) → ∃ m, Wl m ∧ D_u_law_well [] [.sq (iD ns), .int lap] = .ok (.ref 0) [m] := by
    intro o ho
    obtain ⟨y, s', hs', q⟩ := lp_well ((iD ns).take 8 ++ [.int o]) (some (.sq (iD ns))) (some (.int lap)) (some (.int o)) (ns.take 8 ++ [o]) (52027 + 6971 * lap) none (by omega)
    have el : iD (ns.take 8 ++ [o]) = (iD ns).take 8 ++ [.int o] := by simp [iD, List.map_take]
    rw [el] at q
    have c8 : cutD (iD ns) none (some 8) = (iD ns).take 8 := cut_to _ 8
    have hl : min 8 ns.length + 1 ≤ LIM := by simp [LIM]; omega
    have l3 : 3 ≤ LIM := by decide
    have l1 : 1 ≤ LIM := by decide
    have pc : powC 10 18 = true := by decide
    have mc : mulC 6971 lap = true := by simp [mulC]
    have en : ((10 : Int) ^ (Int.toNat 18)) = 1000000000000000000 := by decide
    have sb : stB 0 [] = true := rfl
    refine ⟨.lst [.int (if o < 0 ∨ 1000000000000000000 ≤ o then (o.natAbs : Int) else 0), .int s', .int 0], ⟨_, s', 0, by split <;> omega, hs', by decide, rfl⟩, ?_⟩
    rcases ho with ⟨h, ho⟩ | ⟨h, rfl⟩
    · by_cases h2 : o < 0
      · simp [runM, m_u_law_well, h, atI_nn _ h0, ho, mc, c8, hl, l1, l3, q, h2, outF, outM, refsBs, refsB]
      · by_cases h3 : 1000000000000000000 ≤ o
        · simp [runM, m_u_law_well, h, atI_nn _ h0, ho, mc, c8, hl, l1, l3, q, h2, h3, pc, en, outF, outM, refsBs, refsB]
        · simp [runM, m_u_law_well, h, atI_nn _ h0, ho, mc, c8, hl, l1, l3, q, h2, h3, pc, en, outF, outM, refsBs, refsB]
    · simp [runM, m_u_law_well, h, mc, c8, hl, l1, l3, q, pc, en, outF, outM, refsBs, refsB]
  have ex : ∃ o : Int, (lap < (ns.length : Int) ∧ ns[lap.toNat]? = some o) ∨ (¬ lap < (ns.length : Int) ∧ o = 0) := by
    by_cases h : lap < (ns.length : Int)
    · have hl : lap.toNat < ns.length := by omega
      exact ⟨ns[lap.toNat], .inl ⟨h, List.getElem?_eq_getElem hl⟩⟩
    · exact ⟨0, .inr ⟨h, rfl⟩⟩
  obtain ⟨o, ho⟩ := ex
  obtain ⟨m, w, q⟩ := main o ho
  exact ⟨m, w, fun e st => callDM rfl (by simp [refsBs, refsB]) q w.mo⟩
theorem take_ok (m : MO) (hm : Wl m) (k : Int) (h0 : 0 < k) (h1 : k < 1073741824) : ∃ (d : Int) (m' : MO), Wl m' ∧ 0 ≤ d ∧ d < k ∧ D_u_law_take [m] [.ref 0, .int k] = .ok (.int d) [m'] := by
  obtain ⟨a, s, c, ha, hs, hc, rfl⟩ := hm
  have stb : ∀ x y z : Int, stB 1 [.lst [.int x, .int y, .int z]] = true := fun _ _ _ => rfl
  by_cases h : 0 < a
  · refine ⟨a % k, .lst [.int (a / k), .int s, .int c], ⟨a / k, s, c, Int.ediv_nonneg ha (by omega), hs, hc, rfl⟩, Int.emod_nonneg _ (by omega), Int.emod_lt_of_pos _ h0, ?_⟩
    simp [runF, m_u_law_take, h, h0, h1, ixN, outF, outD, stb, refsB]
  · have p : (0 : Int) ≤ (s * 39373 + (c + 1) * 30323 + 11) % 2147483543 := Int.emod_nonneg _ (by decide)
    refine ⟨(s * 39373 + (c + 1) * 30323 + 11) % 2147483543 / 128 % k, .lst [.int a, .int ((s * 39373 + (c + 1) * 30323 + 11) % 2147483543), .int (c + 1)], ⟨a, _, c + 1, ha, p, by omega, rfl⟩, Int.emod_nonneg _ (by omega), Int.emod_lt_of_pos _ h0, ?_⟩
    simp [runF, m_u_law_take, h, h0, h1, ixN, outF, outD, stb, refsB, mulC, divC]
theorem c_take (m : MO) (hm : Wl m) (k : Int) (h0 : 0 < k) (h1 : k < 1073741824) : ∃ (d : Int) (m' : MO), Wl m' ∧ 0 ≤ d ∧ d < k ∧ ∀ e : Nv, callD D_u_law_take [.ref 0, .int k] e [m] = .ok (.int d) [m'] := by
  obtain ⟨d, m', w, a, b, q⟩ := take_ok m hm k h0 h1
  exact ⟨d, m', w, a, b, fun e => callD1 (i := 0) (tl := []) rfl rfl rfl hm.mo q w.mo rfl⟩
/-- what a def that is handed the well gives -/
theorem runF_w {n : Nat} {f : SM} {ds : List D} {d : D} {m m' : MO} {st : Store} (h : f (ds.map some ++ List.replicate (n - ds.length) none) [m] = .rt d (m' :: st)) (w : Wl m') (hd : refsB 0 d = true) : runF n f [m] ds = .ok d [m'] := by
  unfold runF
  rw [h]
  have w' := w
  obtain ⟨a, s, c, _, _, _, rfl⟩ := w'
  have hs : stB 1 (MO.lst [.int a, .int s, .int c] :: st) = true := by simp [stB, moB, refsBs, refsB]
  have hd1 : refsB 1 d = true := refsB_mono (by decide) hd
  simp only [outF, outD, List.length_singleton, hs, if_true]
  cases d <;> simp_all [refsB]
theorem c_of (m : MO) (hm : Wl m) (a b c : Int) : ∃ (d : Int) (m' : MO), Wl m' ∧ (d = a ∨ d = b ∨ d = c) ∧ ∀ e : Nv, callD D_u_law_of [.ref 0, .tup [.int a, .int b, .int c]] e [m] = .ok (.int d) [m'] := by
  obtain ⟨k, m', w, k0, k3, q⟩ := c_take m hm 3 (by decide) (by decide)
  have hk : k = 0 ∨ k = 1 ∨ k = 2 := by omega
  have fin : ∀ d : Int, atI [D.int a, .int b, .int c] k = some (.int d) → ∀ e : Nv, callD D_u_law_of [.ref 0, .tup [.int a, .int b, .int c]] e [m] = .ok (.int d) [m'] := by
    intro d hd e
    refine callD1 (i := 0) (tl := []) rfl rfl rfl hm.mo (runF_w (st := []) ?_ w rfl) w.mo rfl
    simp [m_u_law_of, loc1, q, hd]
  rcases hk with rfl | rfl | rfl
  · exact ⟨a, m', w, .inl rfl, fin a (by simp)⟩
  · exact ⟨b, m', w, .inr (.inl rfl), fin b (by simp)⟩
  · exact ⟨c, m', w, .inr (.inr rfl), fin c (by simp)⟩
/-- an own row -/
theorem c_row (m : MO) (hm : Wl m) : ∃ (ns : List Int) (m' : MO), Wl m' ∧ Row ns ∧ ∀ e : Nv, callD D_u_law_row [.ref 0, .int 8] e [m] = .ok (.tup (iD ns)) [m'] := by
  obtain ⟨g, m1, w1, hg, q1⟩ := c_of m hm 1 3 9
  obtain ⟨k, m2, w2, k0, k8, q2⟩ := c_take m1 w1 8 (by decide) (by decide)
  have gb : 1 ≤ g ∧ g ≤ 9 := by omega
  have e0 : (Int.toNat (1 + k)) ≤ 8 := by omega
  obtain ⟨ds, st', ql, hlen, hp, ⟨m3, e3, w3⟩⟩ := cloop_inv (src := none) (items := rangeL 0 (1 + k).toNat) (gt := gname 3) (mt := xpure true) (me := m_u_law_row_e1) (e := [some (.ref 0), some (.int 8), some (.int g), none]) (fun st => ∃ m, st = [m] ∧ Wl m) (fun d => ∃ n : Int, d = .int n ∧ -9 ≤ n ∧ n ≤ 9) (fun _ _ => rfl) (rangeL 0 (1 + k).toNat) [] [m2]
    (by
      intro x hx st ⟨m, es, w⟩
      subst es
      obtain ⟨d, m', w', d0, d1, q⟩ := c_take m w (2 * g + 1) (by omega) (by omega)
      have mc : mulC 2 g = true := by simp [mulC]
      exact ⟨_, rfl, rfl, .int (d - g), [m'], by simp [m_u_law_row_e1, mc, q], ⟨d - g, rfl, by omega, by omega⟩, m', rfl, w'⟩)
    ⟨m2, rfl, w2⟩ (by simp [rangeL_len, LIM]; omega)
  have hns : ∃ ns : List Int, ds = iD ns ∧ ∀ n ∈ ns, -9 ≤ n ∧ n ≤ 9 := by
    clear ql hlen
    induction ds with
    | nil => exact ⟨[], rfl, by simp⟩
    | cons d r ih =>
      obtain ⟨ns, e1, h1⟩ := ih fun x hx => hp x (by simp [hx])
      obtain ⟨n, e2, h2⟩ := hp d (by simp)
      exact ⟨n :: ns, by rw [e2, e1]; rfl, fun x hx => by
        rcases List.mem_cons.mp hx with rfl | hx
        · exact h2
        · exact h1 x hx⟩
  obtain ⟨ns, rfl, hb⟩ := hns
  subst e3
  rw [rangeL_len, iD_len] at hlen
  refine ⟨ns, m3, w3, ⟨by omega, by omega, hb⟩, fun e => ?_⟩
  refine callD1 (i := 0) (tl := []) rfl rfl rfl hm.mo (runF_w (st := []) ?_ w3 (by simp [refsB])) w3.mo (by simp [refsB])
  have l3 : 3 ≤ LIM := by decide
  have hr : rngB (1 + k) = true := rngB_of (by omega) (by omega)
  simp at ql
  simp [m_u_law_row, loc1, l3, q1, q2, hr, ql]
end LS
end
section
set_option maxRecDepth 100000
set_option maxHeartbeats 4000000
namespace LS
open PySem PySem.Spec L2
variable {e : Nv} {st : Store}
/-! ## the law's own levels -/
theorem lp_lawlv (row s0 : D) (h : Int) (h0 : 0 ≤ h) (items : List D) : ∀ (ns acc : List Int) (s o u : Int) (x6 x7 : Option D), acc.length + ns.length < 1000 → ∃ y6 y7 : Option D, sloop none items (gname 6) m_u_law_levels_b1 (iD ns) [some row, some s0, some (.int h), some (.ref 0), some (.int o), some (.int u), x6, x7] [.lst (iD (acc ++ [s]))] =
    .nx [some row, some s0, some (.int h), some (.ref 0), some (.int (o + ovr h s ns)), some (.int (u + und h s ns)), y6, y7] [.lst (iD (acc ++ lvs h s ns))]
  | [], acc, s, o, u, x6, x7, _ => ⟨x6, x7, by simp [sloop, lvs, ovr, und]⟩
  | n :: r, acc, s, o, u, x6, x7, hl => by
    have hl' : acc.length + (r.length + 1) < 1000 := by simpa using hl
    obtain ⟨y6, y7, q⟩ := lp_lawlv row s0 h h0 items r (acc ++ [s]) (lvb s n h) (o + max 0 (s + n - h)) (u + max 0 (0 - (s + n))) (some (.int n)) (some (.int (s + n))) (by simp; omega)
    refine ⟨y6, y7, ?_⟩
    have hlim : acc.length + 1 < LIM := by simp [LIM]; omega
    have el : max 0 (min h (s + n)) = lvb s n h := by unfold lvb; omega
    have hb : m_u_law_levels_b1 [some row, some s0, some (.int h), some (.ref 0), some (.int o), some (.int u), some (.int n), x7] [.lst (iD (acc ++ [s]))] = .nx [some row, some s0, some (.int h), some (.ref 0), some (.int (o + max 0 (s + n - h))), some (.int (u + max 0 (0 - (s + n)))), some (.int n), some (.int (s + n))] [.lst (iD (acc ++ [s] ++ [lvb s n h]))] := by
      simp [m_u_law_levels_b1, iD_app, atI_last, hlim, el]
    rw [iD_cons, sloop_cons rfl rfl hb, q]
    simp [lvs, ovr, und, Int.add_assoc]
theorem c_lawlv (ns : List Int) (s h : Int) (hl : ns.length ≤ 8) (h0 : 0 ≤ h) : callD D_u_law_levels [.tup (iD ns), .int s, .int h] e st = .ok (.tup [.tup (iD (lvs h s ns)), .int (ovr h s ns), .int (und h s ns)]) st := by
  refine callD0 rfl (by simp [refsBs, refsB]) (runF_rt (st' := [.lst (iD (lvs h s ns))]) ?_ (by simp [refsB, refsBs])) (by simp [refsB, refsBs])
  obtain ⟨y6, y7, q⟩ := lp_lawlv (.tup (iD ns)) (.int s) h h0 (iD ns) ns [] s 0 0 none none (by simp; omega)
  simp at q
  simp [m_u_law_levels, LIM, q]
/-! ## the same -/
theorem refsIn_ok {n : Nat} {x y : D} (h : okD n x = true) (h2 : okD n y = true) : refsIn [x, y] = [] := by
  cases n with
  | zero => simp [okD] at h
  | succ n => cases x <;> cases y <;> simp_all [okD, refsIn]
theorem same_refl : ∀ (n : Nat) (x : D), okD n x = true → ∀ (e : Nv) (st : Store), callD (D_u_law_same n) [x, x] e st = .ok (.bl true) st := by
  intro n
  induction n with
  | zero => intro x h; simp [okD] at h
  | succ n ih =>
    intro x h e st
    refine callD0 (refsIn_ok h h) (by have := refsB_okD _ _ h; simp [refsBs, this]) (runF_rt (st' := []) ?_ rfl) rfl
    have seq : ∀ (xs : List D) (x0 x1 : D), decide (xs.length ≤ LIM) && xs.all (okD n) = true → (∀ i : Int, ∀ e st, ixD x0 (.int i) e st = match atI xs i with | some d => .ok d st | none => .stuck) → (∀ i : Int, ∀ e st, ixD x1 (.int i) e st = match atI xs i with | some d => .ok d st | none => .stuck) →
        cloop none (rangeL 0 xs.length) (gname 2) (xpure true) (m_u_law_same_e1 (D_u_law_same n)) [some x0, some x1, none] (rangeL 0 xs.length) [] [] = .ok (List.replicate xs.length (.bl true)) [] := by
      intro xs x0 x1 hx h0 h1
      have hx' : xs.length ≤ LIM ∧ xs.all (okD n) = true := by simpa using hx
      have := cloop_pure (src := none) (items := rangeL 0 xs.length) (gt := gname 2) (mt := xpure true) (me := m_u_law_same_e1 (D_u_law_same n)) (e := [some x0, some x1, none]) (st := []) (fun _ => true) (fun _ => .bl true) rfl (rangeL 0 xs.length) [] (by
        intro y hy
        obtain ⟨i, hi, rfl⟩ := mem_rangeL hy
        have hg : xs[i]? = some xs[i] := List.getElem?_eq_getElem hi
        have ok : okD n xs[i] = true := List.all_eq_true.mp hx'.2 _ (List.getElem_mem hi)
        refine ⟨_, rfl, rfl, fun _ => ?_⟩
        simp [m_u_law_same_e1, h0, h1, atI_nat, hg, ih _ ok]) (by simp [rangeL_len]; exact hx'.1)
      rw [this]
      have : ∀ (l : List D), (l.filter fun _ => true).map (fun _ => D.bl true) = List.replicate l.length (.bl true) := fun l => by rw [filter_yes]; exact List.map_const' ..
      rw [this, rangeL_len]
      rfl
    cases x with
    | non => simp [m_u_law_same, m_u_law_same_s1, m_u_law_same_s2, m_u_law_same_s3]
    | bl b => simp [m_u_law_same, m_u_law_same_s1, m_u_law_same_s2, m_u_law_same_s3, m_u_law_same_s4]
    | int i => simp [m_u_law_same, m_u_law_same_s1, m_u_law_same_s2, m_u_law_same_s3, m_u_law_same_s4, m_u_law_same_s5]
    | str s =>
      have hs : SeqAt.shaped (.str s) = true := by
        have : s.cps.all (· < 0x110000) = true := by simpa [okD] using h
        simp [SeqAt.shaped, PyData.canLay0, PyData.depth, PyData.strOk, this]
      simp [m_u_law_same, m_u_law_same_s1, m_u_law_same_s2, m_u_law_same_s3, m_u_law_same_s4, m_u_law_same_s5, m_u_law_same_s6, eqO, pyOf, pyD, hs, PyData.eqv]
    | tup xs =>
      have hx : decide (xs.length ≤ LIM) && xs.all (okD n) = true := by simpa [okD] using h
      have hx' : xs.length ≤ LIM ∧ xs.all (okD n) = true := by simpa using hx
      have q := seq xs (.tup xs) (.tup xs) hx (fun _ _ _ => rfl) (fun _ _ _ => rfl)
      have r := rngB_nat hx'.1
      have g1 : m_u_law_same_s1 [some (.tup xs), some (.tup xs), none] [] = .nx [some (.tup xs), some (.tup xs), none] [] := by simp [m_u_law_same_s1]
      have g2 : m_u_law_same_s2 (D_u_law_same n) [some (.tup xs), some (.tup xs), none] [] = .rt (.bl true) [] := by
        unfold m_u_law_same_s2
        exact (sif_t (st' := []) (by simp)).trans (ret_ok ((and_t (st' := []) (by simp)).trans (all_yes (n := xs.length) (by simp [r, q]))))
      exact (seq_nx g1).trans (seq_rt g2)
    | lst xs =>
      have hx : decide (xs.length ≤ LIM) && xs.all (okD n) = true := by simpa [okD] using h
      have hx' : xs.length ≤ LIM ∧ xs.all (okD n) = true := by simpa using hx
      have q := seq xs (.lst xs) (.lst xs) hx (fun _ _ _ => rfl) (fun _ _ _ => rfl)
      have r := rngB_nat hx'.1
      have g1 : m_u_law_same_s1 [some (.lst xs), some (.lst xs), none] [] = .nx [some (.lst xs), some (.lst xs), none] [] := by simp [m_u_law_same_s1]
      have g2 : m_u_law_same_s2 (D_u_law_same n) [some (.lst xs), some (.lst xs), none] [] = .rt (.bl true) [] := by
        unfold m_u_law_same_s2
        exact (sif_t (st' := []) (by simp)).trans (ret_ok ((and_t (st' := []) (by simp)).trans (all_yes (n := xs.length) (by simp [r, q]))))
      exact (seq_nx g1).trans (seq_rt g2)
    | ty _ => simp [okD] at h
    | glo _ => simp [okD] at h
    | sq _ => simp [okD] at h
    | ref _ => simp [okD] at h
/-! ## plain laws of levels -/
theorem lvs_last (h : Int) (h0 : 0 ≤ h) : ∀ (s : Int) (ns : List Int), ∃ acc, lvs h s ns = acc ++ [s + ns.sum + und h s ns - ovr h s ns]
  | s, [] => ⟨[], by simp [lvs, und, ovr]⟩
  | s, n :: r => by
    obtain ⟨acc, q⟩ := lvs_last h h0 (lvb s n h) r
    refine ⟨s :: acc, ?_⟩
    have e1 : lvb s n h + r.sum + und h (lvb s n h) r - ovr h (lvb s n h) r = s + (n :: r).sum + und h s (n :: r) - ovr h s (n :: r) := by
      simp only [und, ovr, List.sum_cons]
      have : lvb s n h = s + n + max 0 (-(s + n)) - max 0 (s + n - h) := by unfold lvb; omega
      omega
    simp only [lvs, q, e1]
    rfl
theorem lvs_hd (h t : Int) (r : List Int) : (lvs h t r).getD 0 0 = t := by cases r <;> simp [lvs]
theorem gap (h : Int) : ∀ (ns : List Int) (l t : Int) (k : Nat), l ≤ t → k < ns.length → (lvs h t ns).getD (k + 1) 0 - (lvs h l ns).getD (k + 1) 0 ≤ (lvs h t ns).getD k 0 - (lvs h l ns).getD k 0
  | [], _, _, k, _, hk => by simp at hk
  | n :: r, l, t, 0, hlt, _ => by
    have e1 : (lvs h t (n :: r)).getD 1 0 = lvb t n h := by show (lvs h (lvb t n h) r).getD 0 0 = _; exact lvs_hd ..
    have e2 : (lvs h l (n :: r)).getD 1 0 = lvb l n h := by show (lvs h (lvb l n h) r).getD 0 0 = _; exact lvs_hd ..
    rw [e1, e2, lvs_hd, lvs_hd]
    unfold lvb; omega
  | n :: r, l, t, k + 1, hlt, hk => by
    have hm : lvb l n h ≤ lvb t n h := by unfold lvb; omega
    exact gap h r (lvb l n h) (lvb t n h) k hm (by simpa using hk)
theorem meet (h : Int) : ∀ (ns : List Int) (l s t : Int) (k : Nat), l ≤ s → s ≤ t → k ≤ ns.length → (lvs h l ns).getD k 0 = (lvs h t ns).getD k 0 → (lvs h s ns).drop k = (lvs h l ns).drop k
  | ns, l, s, t, 0, h1, h2, _, q => by
    rw [lvs_hd, lvs_hd] at q
    have : s = l := by omega
    rw [this]
  | [], l, s, t, k + 1, _, _, hk, _ => by simp at hk
  | n :: r, l, s, t, k + 1, h1, h2, hk, q => by
    have m1 : lvb l n h ≤ lvb s n h := by unfold lvb; omega
    have m2 : lvb s n h ≤ lvb t n h := by unfold lvb; omega
    exact meet h r _ _ _ k m1 m2 (by simpa using hk) q
def sameL : List Int → List Int → Nat → List Int
  | x :: a, y :: b, k => if x = y then (k : Int) :: sameL a b (k + 1) else sameL a b (k + 1)
  | _, _, _ => []
theorem fst_same : ∀ (a b : List Int) (k : Nat), fromE (fstE a b k) = match sameL a b k with | [] => .non | i :: _ => .int i
  | [], b, k => by simp [fstE, sameL, fromE]
  | x :: a, [], k => by simp [fstE, sameL, fromE]
  | x :: a, y :: b, k => by
    by_cases h : x = y
    · simp [fstE, sameL, fromE, h]
    · simp [fstE, sameL, h, fst_same a b (k + 1)]
theorem same_at : ∀ (a b : List Int) (k : Nat) (i : Int) (r : List Int), sameL a b k = i :: r → ∃ j : Nat, i = ((k + j : Nat) : Int) ∧ j < a.length ∧ a.getD j 0 = b.getD j 0
  | [], b, k, i, r, h => by simp [sameL] at h
  | x :: a, [], k, i, r, h => by simp [sameL] at h
  | x :: a, y :: b, k, i, r, h => by
    by_cases hxy : x = y
    · simp [sameL, hxy] at h
      exact ⟨0, by rw [← h.1]; simp, by simp, by simp [hxy]⟩
    · simp [sameL, hxy] at h
      obtain ⟨j, h1, h2, h3⟩ := same_at a b (k + 1) i r h
      exact ⟨j + 1, by rw [h1]; congr 1; omega, by simp; omega, by simpa using h3⟩
def cE (A B : List Int) : D → Bool
  | .int i => decide (A.getD i.toNat 0 = B.getD i.toNat 0)
  | _ => false
theorem rangeL_succ (k n : Nat) : rangeL (k : Int) (n + 1) = .int (k : Int) :: rangeL ((k + 1 : Nat) : Int) n := by
  unfold rangeL
  rw [List.range_succ_eq_map]
  simp
  intro i _
  omega
theorem same_filter : ∀ (a b p q : List Int), p.length = q.length → a.length = b.length → (rangeL (p.length : Int) a.length).filter (cE (p ++ a) (q ++ b)) = iD (sameL a b p.length)
  | [], b, p, q, _, _ => by simp [rangeL, sameL]
  | x :: a, [], p, q, _, hl => by simp at hl
  | x :: a, y :: b, p, q, hp, hl => by
    have ih := same_filter a b (p ++ [x]) (q ++ [y]) (by simp [hp]) (by simpa using hl)
    have e1 : p ++ [x] ++ a = p ++ x :: a := by simp
    have e2 : q ++ [y] ++ b = q ++ y :: b := by simp
    have e3 : (p ++ [x]).length = p.length + 1 := by simp
    rw [e1, e2, e3] at ih
    have hc : cE (p ++ x :: a) (q ++ y :: b) (.int (p.length : Int)) = decide (x = y) := by
      simp [cE]
      rw [List.getElem?_append_right (by omega), hp]
      simp
    simp only [List.length_cons, rangeL_succ, List.filter_cons, hc, ih]
    by_cases h : x = y <;> simp [sameL, h]
theorem high_free (h : Int) : ∀ (ns : List Int) (s : Int), 0 ≤ s → (∀ n ∈ ns, n ≤ 9) → s + 9 * (ns.length : Int) ≤ h → lvs h s ns = wts s ns ∧ und h s ns = lastW s ns - s - ns.sum ∧ ovr h s ns = 0
  | [], s, _, _, _ => ⟨rfl, by simp [und, lastW], rfl⟩
  | n :: r, s, h0, hn, hs => by
    have n9 := hn n (by simp)
    have hl : ((n :: r).length : Int) = (r.length : Int) + 1 := by simp
    rw [hl] at hs
    have e1 : lvb s n h = max 0 (s + n) := by unfold lvb; omega
    obtain ⟨q1, q2, q3⟩ := high_free h r (max 0 (s + n)) (by omega) (fun x hx => hn x (by simp [hx])) (by omega)
    refine ⟨by simp [lvs, wts, e1, q1], ?_, ?_⟩
    · simp only [und, e1, q2, lastW, List.sum_cons]; omega
    · simp only [ovr, e1, q3]; omega
end LS
end
section
set_option maxRecDepth 100000
set_option maxHeartbeats 8000000
namespace LS
open PySem PySem.Spec L2
variable {e : Nv} {st : Store}
theorem getD_at {a : List Int} {k : Nat} (h : k < a.length) : atI (iD a) (k : Int) = some (.int (a.getD k 0)) := by
  rw [atI_nat, iD_get, List.getD_eq_getElem?_getD, List.getElem?_eq_getElem h]; rfl
theorem getD_at1 {a : List Int} {k : Nat} (h : k + 1 < a.length) : atI (iD a) ((k : Int) + 1) = some (.int (a.getD (k + 1) 0)) := by
  rw [show (k : Int) + 1 = ((k + 1 : Nat) : Int) by omega]; exact getD_at h
@[simp] theorem eqO_l0 (st : Store) : eqO st (.lst []) (.lst []) = some true := by simpa using eqO_lints st [] []
@[simp] theorem eqO_lc0 (st : Store) (i : Int) (r : List Int) : eqO st (.lst (.int i :: iD r)) (.lst []) = some false := by simpa using eqO_lints st (i :: r) []
section
variable (a b : List Int) (hab : a.length = b.length) (ha : a.length ≤ 1000) (x0 x1 x2 x3 x4 x5 x6 x7 x10 : Option D) (st : Store)
include hab ha in
theorem lc_same : cloop none (rangeL 0 a.length) (gname 11) m_u_law_is_told_t1 (xvar 11) [x0, x1, x2, x3, x4, x5, x6, x7, some (.tup (iD a)), some (.tup (iD b)), x10, none] (rangeL 0 a.length) [] st = .ok (iD (sameL a b 0)) st := by
  have h := cloop_pure (src := none) (items := rangeL 0 a.length) (gt := gname 11) (mt := m_u_law_is_told_t1) (me := xvar 11) (e := [x0, x1, x2, x3, x4, x5, x6, x7, some (.tup (iD a)), some (.tup (iD b)), x10, none]) (st := st) (cE a b) (fun x => x) rfl (rangeL 0 a.length) [] (by
    intro y hy
    obtain ⟨i, hi, rfl⟩ := mem_rangeL hy
    refine ⟨_, rfl, ?_, fun _ => rfl⟩
    simp [m_u_law_is_told_t1, getD_at hi, getD_at (a := b) (k := i) (by omega), cE]) (by simp [rangeL_len, LIM]; omega)
  rw [h]
  have := same_filter a b [] [] rfl hab
  simp at this
  simp [this]
theorem lc_any (n : Nat) (hn : n + 1 = a.length) (hn2 : n + 1 = b.length) (hl : n ≤ 1000) (g : ∀ k, k < n → b.getD (k + 1) 0 - a.getD (k + 1) 0 ≤ b.getD k 0 - a.getD k 0) : cloop none (rangeL 0 n) (gname 11) (xpure true) m_u_law_is_told_e1 [x0, x1, x2, x3, x4, x5, x6, x7, some (.tup (iD a)), some (.tup (iD b)), x10, none] (rangeL 0 n) [] st = .ok (List.replicate n (.bl false)) st := by
  have h := cloop_pure (src := none) (items := rangeL 0 n) (gt := gname 11) (mt := xpure true) (me := m_u_law_is_told_e1) (e := [x0, x1, x2, x3, x4, x5, x6, x7, some (.tup (iD a)), some (.tup (iD b)), x10, none]) (st := st) (fun _ => true) (fun _ => .bl false) rfl (rangeL 0 n) [] (by
    intro y hy
    obtain ⟨i, hi, rfl⟩ := mem_rangeL hy
    refine ⟨_, rfl, rfl, fun _ => ?_⟩
    have gi := g i hi
    have h1 := getD_at (a := a) (k := i) (by omega)
    have h2 := getD_at (a := b) (k := i) (by omega)
    have h3 := getD_at1 (a := a) (k := i) (by omega)
    have h4 := getD_at1 (a := b) (k := i) (by omega)
    simp only [List.getD_eq_getElem?_getD] at gi h1 h2 h3 h4
    simp [m_u_law_is_told_e1, h1, h2, h3, h4]
    exact gi) (by simp [rangeL_len, LIM]; omega)
  rw [h, filter_yes, List.map_const', rangeL_len]
  rfl
end
/-- what the four calls are told to give -/
def toldL (ns : List Int) (s h : Int) : D := .lst [.tup (iD (lvs h s ns)), .int (ovr h s ns), .int (und h s ns), fromE (fstE (lvs h 0 ns) (lvs h h ns) 0)]
theorem okD_told (ns : List Int) (s h : Int) (hl : ns.length ≤ 8) : okD 6 (toldL ns s h) = true := by
  have h1 : (iD (lvs h s ns)).length ≤ LIM := by rw [iD_len, lvs_len]; simp [LIM]; omega
  have h2 : okD 5 (fromE (fstE (lvs h 0 ns) (lvs h h ns) 0)) = true := by cases fstE (lvs h 0 ns) (lvs h h ns) 0 <;> rfl
  exact okD_lst (show 4 ≤ LIM by decide) (okD_cons (okD_tup h1 (okD_iD 3 _)) (okD_cons (okD_int _ _) (okD_cons (okD_int _ _) (okD_cons h2 okD_nil))))
abbrev V2 (ns : List Int) (s h : Int) (a b c : Option D) : Nv := [some (.ref 0), some (.tup (iD ns)), some (.int h), some (.int s), some (.tup (iD (lvs h s ns))), some (.int (ovr h s ns)), some (.int (und h s ns)), some (toldL ns s h), a, b, c, none]
abbrev VT (ns : List Int) (s h : Int) : Nv := V2 ns s h (some (.tup (iD (lvs h 0 ns)))) (some (.tup (iD (lvs h h ns)))) (some (.lst (iD (sameL (lvs h 0 ns) (lvs h h ns) 0))))
section
variable (ns : List Int) (s h : Int) (hr : Row ns) (h1 : 1 ≤ h) (h2 : h ≤ 99) (s0 : 0 ≤ s) (sh : s ≤ h) (m m1 m2 : MO)
include hr h1 h2 s0 sh
theorem t2 : m_u_law_is_told_s2 [some (.ref 0), some (.tup (iD ns)), some (.int h), some (.int s), none, none, none, none, none, none, none, none] [m1] = .nx [some (.ref 0), some (.tup (iD ns)), some (.int h), some (.int s), some (.tup (iD (lvs h s ns))), some (.int (ovr h s ns)), some (.int (und h s ns)), none, none, none, none, none] [m1] := by
  simp [m_u_law_is_told_s2, c_lawlv ns s h hr.2.1 (Int.le_trans (by decide) h1)]
theorem t3 (d : Int) (d0 : 0 ≤ d) (d2 : d < 2) (q2 : ∀ (e : Nv), callD D_u_law_take [D.ref 0, D.int 2] e [m1] = RX.ok (D.int d) [m2]) :
    m_u_law_is_told_s3 [some (.ref 0), some (.tup (iD ns)), some (.int h), some (.int s), some (.tup (iD (lvs h s ns))), some (.int (ovr h s ns)), some (.int (und h s ns)), none, none, none, none, none] [m1] = .nx (V2 ns s h none none none) [m2] := by
  have cl := fun e st => c_levels (e := e) (st := st) ns s h hr h1 h2 s0 sh
  have cp := fun e st => c_spilled (e := e) (st := st) ns s h hr h1 h2 s0 sh
  have ck := fun e st => c_lacking (e := e) (st := st) ns s h hr h1 h2 s0 sh
  have cf := fun e st => c_same_from (e := e) (st := st) ns h hr h1 h2
  have l4 : 4 ≤ LIM := by decide
  unfold m_u_law_is_told_s3
  by_cases hd : d = 0
  · exact (sif_t (st' := [m2]) (by simp [q2, hd])).trans (set_ok (d := toldL ns s h) (by simp [cl, cp, ck, cf, l4, toldL]))
  · exact (sif_f (st' := [m2]) (by simp [q2, hd])).trans (set_ok (d := toldL ns s h) (by simp [cl, cp, ck, cf, l4, toldL, pick]))
theorem t4 : m_u_law_is_told_s4 (V2 ns s h none none none) [m2] = .nx (V2 ns s h (some (.tup (iD (lvs h 0 ns)))) (some (.tup (iD (lvs h h ns)))) none) [m2] := by
  have l2 : 2 ≤ LIM := by decide
  simp [m_u_law_is_told_s4, c_lawlv ns _ h hr.2.1 (Int.le_trans (by decide) h1), l2]
theorem t5 : m_u_law_is_told_s5 (V2 ns s h (some (.tup (iD (lvs h 0 ns)))) (some (.tup (iD (lvs h h ns)))) none) [m2] = .nx (VT ns s h) [m2] := by
  have hl := hr.2.1
  have hlen : (lvs h 0 ns).length ≤ 1000 := by rw [lvs_len]; omega
  have lcs := lc_same (lvs h 0 ns) (lvs h h ns) (by rw [lvs_len, lvs_len]) hlen (some (.ref 0)) (some (.tup (iD ns))) (some (.int h)) (some (.int s)) (some (.tup (iD (lvs h s ns)))) (some (.int (ovr h s ns))) (some (.int (und h s ns))) (some (toldL ns s h)) none [m2]
  rw [lvs_len] at lcs
  have rg : rngB ((ns.length : Int) + 1) = true := rngB_of (by omega) (by omega)
  have et : ((ns.length : Int) + 1).toNat = ns.length + 1 := by omega
  unfold m_u_law_is_told_s5
  exact set_ok (by simp [lvs_len, rg, et, lcs])
theorem t6 : m_u_law_is_told_s6 (VT ns s h) [m2] = .nx (VT ns s h) [m2] := by
  have hT := same_refl 6 _ (okD_told ns s h hr.2.1)
  have ct := fun e st => c_total (e := e) (st := st) ns hr
  have l4 : 4 ≤ LIM := by decide
  obtain ⟨acc, ql⟩ := lvs_last h (Int.le_trans (by decide) h1) s ns
  have hlast : atI (iD (lvs h s ns)) (-1) = some (.int (s + ns.sum + und h s ns - ovr h s ns)) := by
    rw [ql, iD_app]; exact atI_last _ _
  have hf := fst_same (lvs h 0 ns) (lvs h h ns) 0
  unfold m_u_law_is_told_s6
  refine (sif_f (st' := [m2]) ((tor_f (st' := [m2]) (tnot_ok (b := true) (tru_ok ?_))).trans ?_)).trans (ap_next ..)
  · cases hS : sameL (lvs h 0 ns) (lvs h h ns) 0 with
    | nil =>
      rw [hS] at hf
      have eT : toldL ns s h = .lst [.tup (iD (lvs h s ns)), .int (ovr h s ns), .int (und h s ns), .non] := by unfold toldL; rw [hf]
      rw [eT] at hT
      simp [hS, eT, l4, hT]
    | cons k r =>
      rw [hS] at hf
      have eT : toldL ns s h = .lst [.tup (iD (lvs h s ns)), .int (ovr h s ns), .int (und h s ns), .int k] := by unfold toldL; rw [hf]
      rw [eT] at hT
      simp [hS, eT, l4, hT]
  · simp [hlast, ct]
theorem t7 : m_u_law_is_told_s7 (VT ns s h) [m2] = .nx (VT ns s h) [m2] := by
  have hl := hr.2.1
  have h0 : 0 ≤ h := Int.le_trans (by decide) h1
  have lca := lc_any (lvs h 0 ns) (lvs h h ns) (some (.ref 0)) (some (.tup (iD ns))) (some (.int h)) (some (.int s)) (some (.tup (iD (lvs h s ns)))) (some (.int (ovr h s ns))) (some (.int (und h s ns))) (some (toldL ns s h)) (some (.lst (iD (sameL (lvs h 0 ns) (lvs h h ns) 0)))) [m2] ns.length (by rw [lvs_len]) (by rw [lvs_len]) (by omega) (fun k hk => gap h ns 0 h k h0 hk)
  have rg2 : rngB (ns.length : Int) = true := rngB_of (by omega) (by omega)
  unfold m_u_law_is_told_s7
  refine (sif_f (st' := [m2]) ((tor_f (st' := [m2]) (tru_ok (any_no (n := ns.length) (by simp [rg2, lca])))).trans ?_)).trans (ap_next ..)
  cases hS : sameL (lvs h 0 ns) (lvs h h ns) 0 with
  | nil => exact tand_f (by simp [hS])
  | cons k r =>
    obtain ⟨j, ej, lj, qj⟩ := same_at _ _ _ _ _ hS
    rw [lvs_len] at lj
    have hd := meet h ns 0 s h j s0 sh (by omega) qj
    have ek : k = (j : Int) := by rw [ej]; simp
    have c1 : cutD (iD (lvs h s ns)) (some k) none = iD ((lvs h 0 ns).drop j) := by rw [ek, cut_from, ← hd]; simp [iD, List.map_drop]
    have c2 : cutD (iD (lvs h 0 ns)) (some k) none = iD ((lvs h 0 ns).drop j) := by rw [ek, cut_from]; simp [iD, List.map_drop]
    exact (tand_t (st' := [m2]) (by simp [hS])).trans (by simp [hS, c1, c2])
theorem t8 : m_u_law_is_told_s8 (VT ns s h) [m2] = .rt (.bl true) [m2] := by
  have h0 : 0 ≤ h := Int.le_trans (by decide) h1
  unfold m_u_law_is_told_s8
  refine ret_ok ?_
  by_cases h80 : h < 80
  · exact or_t (by simp [h80])
  · obtain ⟨f1, f2, f3⟩ := high_free h ns 0 (Int.le_refl 0) (fun n hn => (hr.2.2 n hn).2) (by have := hr.2.1; omega)
    have cl := fun e st => c_levels (e := e) (st := st) ns 0 h hr h1 h2 (Int.le_refl 0) h0
    have cp := fun e st => c_spilled (e := e) (st := st) ns 0 h hr h1 h2 (Int.le_refl 0) h0
    have ck := fun e st => c_lacking (e := e) (st := st) ns 0 h hr h1 h2 (Int.le_refl 0) h0
    have cw := fun e st => c_waits (e := e) (st := st) ns hr
    have co := fun e st => c_lost (e := e) (st := st) ns hr
    refine (or_f (st' := [m2]) (by simp [h80])).trans ((and_t (st' := [m2]) ?_).trans ((and_t (st' := [m2]) ?_).trans ?_))
    · simp [cl, cw, f1]
    · simp [ck, co, f2]
    · simp [cp, f3]
end
theorem c_told (m : MO) (hm : Wl m) (ns : List Int) (h : Int) (hr : Row ns) (h1 : 1 ≤ h) (h2 : h ≤ 99) : ∃ m', Wl m' ∧ ∀ e : Nv, callD D_u_law_is_told [.ref 0, .tup (iD ns), .int h] e [m] = .ok (.bl true) [m'] := by
  obtain ⟨s, m1, w1, s0, s1, q1⟩ := c_take m hm (h + 1) (by omega) (by omega)
  obtain ⟨d, m2, w2, d0, d1, q2⟩ := c_take m1 w1 2 (by decide) (by decide)
  have sh : s ≤ h := by omega
  refine ⟨m2, w2, fun e => callD1 (i := 0) rfl (by simp [argB, refsB]) rfl hm.mo (runF_w (st := []) ?_ w2 rfl) w2.mo rfl⟩
  have g1 : m_u_law_is_told_s1 [some (.ref 0), some (.tup (iD ns)), some (.int h), none, none, none, none, none, none, none, none, none] [m] = .nx [some (.ref 0), some (.tup (iD ns)), some (.int h), some (.int s), none, none, none, none, none, none, none, none] [m1] := by simp [m_u_law_is_told_s1, q1]
  show m_u_law_is_told [some (.ref 0), some (.tup (iD ns)), some (.int h), none, none, none, none, none, none, none, none, none] [m] = _
  unfold m_u_law_is_told
  rw [seq_nx g1, seq_nx (t2 ns s h hr h1 h2 s0 sh m1), seq_nx (t3 ns s h hr h1 h2 s0 sh m1 m2 d d0 d1 q2), seq_nx (t4 ns s h hr h1 h2 s0 sh m2), seq_nx (t5 ns s h hr h1 h2 s0 sh m2), seq_nx (t6 ns s h hr h1 h2 s0 sh m2), seq_nx (t7 ns s h hr h1 h2 s0 sh m2)]
  exact t8 ns s h hr h1 h2 s0 sh m2
end LS
end
section
set_option maxRecDepth 100000
set_option maxHeartbeats 8000000
namespace LS
open PySem PySem.Spec L2
variable {e : Nv} {st : Store}
/-- one turn -/
theorem turn_ok (m : MO) (hm : Wl m) (t : Nat) (x2 : Option D) : ∃ (y2 : Option D) (m' : MO), Wl m' ∧ m_u_law_right_b1 [some (.ref 0), some (.int (0 + (t : Int))), x2] [m] = .nx [some (.ref 0), some (.int (0 + (t : Int))), y2] [m'] := by
  have l3 : 3 ≤ LIM := by decide
  have hi : ∃ (h : Int) (m1 : MO), Wl m1 ∧ 1 ≤ h ∧ h ≤ 99 ∧ (xif (xbool (xop eqD (xop modD (xcall (f1 intD) (xcons (xvar 1) (xpure []))) (xpure (.int 6))) (xpure (.int 5)))) (xpure (.int 99)) (xop addD (xpure (.int 1)) (xfn 2 (D_u_law_take) (xcons (xvar 0) (xcons (xfn 2 (D_u_law_of) (xcons (xvar 0) (xcons (xtup (xcons (xpure (.int 3)) (xcons (xpure (.int 12)) (xcons (xpure (.int 99)) (xpure []))))) (xpure [])))) (xpure [])))))) [some (.ref 0), some (.int (0 + (t : Int))), x2] [m] = .ok (.int h) [m1] := by
    by_cases h6 : (t : Int) % 6 = 5
    · exact ⟨99, m, hm, by decide, by decide, by simp [h6]⟩
    · obtain ⟨k, m1, w1, hk, q1⟩ := c_of m hm 3 12 99
      obtain ⟨d, m2, w2, d0, d1, q2⟩ := c_take m1 w1 k (by omega) (by omega)
      exact ⟨1 + d, m2, w2, by omega, by omega, by simp [h6, l3, q1, q2]⟩
  obtain ⟨h, m1, w1, h1, h2, q⟩ := hi
  obtain ⟨ns, m2, w2, hr, q2⟩ := c_row m1 w1
  obtain ⟨m3, w3, q3⟩ := c_told m2 w2 ns h hr h1 h2
  refine ⟨some (.int h), m3, w3, ?_⟩
  unfold m_u_law_right_b1
  rw [seq_nx (set_ok q)]
  exact (sif_f (st' := [m3]) (tnot_ok (b := true) (tru_ok (by simp [q2, q3])))).trans (ap_next ..)
theorem c_right (m : MO) (hm : Wl m) : ∃ m', Wl m' ∧ D_u_law_right [m] [.ref 0] = .ok (.bl true) [m'] := by
  obtain ⟨e', st', q, ⟨y, m', ee, es, w⟩⟩ := sloop_inv (src := none) (items := rangeL 0 20) (gt := gname 1) (body := m_u_law_right_b1) (fun e st => ∃ (y : Option D × Option D) (m : MO), e = [some (.ref 0), y.1, y.2] ∧ st = [m] ∧ Wl m) (fun _ _ _ => rfl) (rangeL 0 20) (by
    rintro x hx e st ⟨y, m, rfl, rfl, w⟩
    obtain ⟨i, hi, rfl⟩ := mem_rangeL hx
    obtain ⟨y2, m', w', q⟩ := turn_ok m w i y.2
    exact ⟨_, _, rfl, _, _, .inl q, ⟨_, y2⟩, m', rfl, rfl, w'⟩) [some (.ref 0), none, none] [m] ⟨(none, none), m, rfl, rfl, hm⟩
  subst ee es
  refine ⟨m', w, runF_w (st := []) ?_ w rfl⟩
  have rg : rngB 20 = true := by decide
  have g1 : sfor (xrange1 (xpure (.int 20))) (gname 1) m_u_law_right_b1 [some (.ref 0), none, none] [m] = .nx [some (.ref 0), y.1, y.2] [m'] := by
    have e20 : (Int.toNat 20) = 20 := rfl
    simp [rg, e20, q]
  have r1 : Row [5, 0 - 3] := ⟨by decide, by decide, by decide⟩
  have r2 : Row [0 - 9] := ⟨by decide, by decide, by decide⟩
  have r3 : Row [1] := ⟨by decide, by decide, by decide⟩
  have r4 : Row [2] := ⟨by decide, by decide, by decide⟩
  have a1 := fun e st => c_levels (e := e) (st := st) [5, 0 - 3] 1 4 r1 (by decide) (by decide) (by decide) (by decide)
  have a2 := fun e st => c_spilled (e := e) (st := st) [5, 0 - 3] 1 4 r1 (by decide) (by decide) (by decide) (by decide)
  have a3 := fun e st => c_lacking (e := e) (st := st) [0 - 9] 2 4 r2 (by decide) (by decide) (by decide) (by decide)
  have a4 := fun e st => c_same_from (e := e) (st := st) [1] 2 r3 (by decide) (by decide)
  have a5 := fun e st => c_same_from (e := e) (st := st) [2] 2 r4 (by decide) (by decide)
  have v1 : lvs 4 1 [5, 0 - 3] = [1, 4, 1] := by decide
  have v2 : ovr 4 1 [5, 0 - 3] = 2 := by decide
  have v3 : und 4 2 [0 - 9] = 7 := by decide
  have v4 : fstE (lvs 2 0 [1]) (lvs 2 2 [1]) 0 = none := by decide
  have v5 : fstE (lvs 2 0 [2]) (lvs 2 2 [2]) 0 = some 1 := by decide
  rw [v1] at a1
  rw [v2] at a2
  rw [v3] at a3
  rw [v4] at a4
  rw [v5] at a5
  have ok : okD 6 (.lst [.tup (iD [1, 4, 1]), .int 2, .int 7, .non, .int 1]) = true := by decide
  have hT := same_refl 6 _ ok
  have l1 : 1 ≤ LIM := by decide
  have l2 : 2 ≤ LIM := by decide
  have l3 : 3 ≤ LIM := by decide
  have l5 : 5 ≤ LIM := by decide
  show m_u_law_right [some (.ref 0), none, none] [m] = _
  unfold m_u_law_right
  rw [seq_nx g1]
  refine ret_ok ?_
  simp at a1 a2 a3 a4 a5 hT
  simp [fromE] at a4 a5
  simp [l1, l2, l3, l5, a1, a2, a3, a4, a5, hT]
theorem lap_ok (ns : List Int) (hn : ns.length ≤ 63) (lap : Nat) (x1 : Option D) (st : Store) : ∃ st2, m_law_e1 [some (.sq (iD ns)), some (.int (0 + (lap : Int)))] st = .ok (.bl true) st2 := by
  obtain ⟨m, w, q⟩ := c_well ns (0 + (lap : Int)) (by omega) hn
  obtain ⟨m', w', q'⟩ := c_right m w
  have h1 : ∀ e : Nv, callD D_u_law_right [.ref st.length] e (st ++ [m]) = .ok (.bl true) ((st ++ [m]).set st.length m') := fun e => callD1 (i := st.length) rfl (by simp [argB]) (by simp) w.mo q' w'.mo rfl
  refine ⟨(st ++ [m]).set st.length m', ?_⟩
  unfold m_law_e1
  rw [ap_fn, ap_cons, ap_bind, ap_fn]
  have h2 : (xcons (xvar 0) (xcons (xvar 1) (xpure []))) [some (.sq (iD ns)), some (.int (0 + (lap : Int)))] st = .ok [.sq (iD ns), .int (0 + (lap : Int))] st := by simp
  rw [h2]
  simp only [List.length_cons, List.length_nil, Nat.zero_add, if_true]
  rw [q]
  exact h1 [some (.sq (iD ns)), some (.int (0 + (lap : Int)))]
theorem law_ok (ns : List Int) (hn : ns.length ≤ 63) : D_law [] [.sq (iD ns)] = .ok (.bl true) [] := by
  obtain ⟨n, hn3, en⟩ : ∃ n : Nat, n ≤ 3 ∧ max (2 : Int) (min (ns.length : Int) 3) = (n : Int) := ⟨(max (2 : Int) (min (ns.length : Int) 3)).toNat, by omega, by omega⟩
  obtain ⟨ds, st', q, hl, hp, _⟩ := cloop_inv (src := none) (items := rangeL 0 n) (gt := gname 1) (mt := xpure true) (me := m_law_e1) (e := [some (.sq (iD ns)), none]) (fun _ => True) (fun d => d = .bl true) (fun _ _ => rfl) (rangeL 0 n) [] [] (by
    intro x hx st _
    obtain ⟨i, hi, rfl⟩ := mem_rangeL hx
    obtain ⟨st2, q⟩ := lap_ok ns hn i none st
    exact ⟨_, rfl, rfl, .bl true, st2, q, rfl, trivial⟩) trivial (by simp [rangeL_len, LIM]; omega)
  have hd : ds = List.replicate ds.length (.bl true) := List.eq_replicate_of_mem hp
  refine runF_rt (st' := st') (d := .bl true) ?_ rfl
  show m_law [some (.sq (iD ns)), none] [] = _
  unfold m_law
  refine ret_ok (all_yes (n := ds.length) ?_)
  rw [← hd]
  have rg : rngB (n : Int) = true := rngB_of (by omega) (by omega)
  have h1 : xrange1 (xcall (f2 max2D) (xcons (xpure (.int 2)) (xcons (xcall (f2 min2D) (xcons (xcall (f1 lenD) (xcons (xvar 0) (xpure []))) (xcons (xpure (.int 3)) (xpure [])))) (xpure [])))) [some (.sq (iD ns)), none] [] = .ok (rangeL 0 n, none) [] := by
    simp [en, rg]
  rw [ap_comp, h1]
  simp only [ap_wipe1]
  simp at q
  simp [q]
end LS
end
namespace HD
open PySem PySem.Spec PyProof.Rows L2
def df (x : Str) (i : Nat) : He.DefD := ⟨(x, none), x, x, defArgs (LS.top i), defBody (LS.top i), defScope (LS.top i), [], []⟩
def fn0 : List He.DefD := [df "is_whole" 5, df "is_between" 6, df "is_number" 10, df "wrong_in_row" 11, df "sums_by" 12, df "check_row" 14, df "check_number" 15, df "waits_by" 17, df "last_wait" 18, df "lost_by" 19, df "level_behind" 20, df "levels_by" 21, df "beyond_by" 22, df "spilled_by" 23, df "lacking_by" 24, df "same_from_by" 25, df "waits" 28, df "lost" 29, df "check_tub" 30, df "levels" 31, df "spilled" 32, df "lacking" 33, df "same_from" 34, df "total" 36, df "_law_well" 38, df "_law_take" 39, df "_law_of" 40, df "_law_same" 41, df "_law_row" 42, df "_law_levels" 43]
def fn1 : List He.DefD := [df "_law_is_told" 44, df "_law_right" 45, df "law" 46]
def fn : List He.DefD := fn0 ++ fn1
def fa0 : List He.Fa := [.glo "is_whole", .glo "is_between", .glo "is_number", .glo "wrong_in_row", .glo "sums_by", .glo "check_row", .glo "check_number", .glo "waits_by", .glo "last_wait", .glo "lost_by", .glo "level_behind", .glo "levels_by", .glo "beyond_by", .glo "spilled_by", .glo "lacking_by", .glo "same_from_by", .glo "waits", .glo "lost", .glo "check_tub", .glo "levels", .glo "spilled", .glo "lacking", .glo "same_from", .glo "total", .glo "_law_well", .glo "_law_take", .glo "_law_of", .glo "_law_same", .glo "_law_row", .glo "_law_levels"]
def fa1 : List He.Fa := [.glo "_law_is_told", .glo "_law_right", .glo "law", .free "abs", .free "all", .free "any", .free "bool", .free "dict", .free "divmod", .free "enumerate", .free "int", .free "isinstance", .free "len", .free "list", .free "max", .free "min", .free "range", .free "str", .free "sum", .free "tuple", .free "zip", .int "MOST_NUMBERS" (8), .int "MOST_SIZE" (9), .int "MOST_HIGH" (99)]
def fa : List He.Fa := fa0 ++ fa1
def ls0 : List Str := ["SumError", "InvalidNumber", "InvalidRow", "is_whole", "is_between", "MOST_NUMBERS", "MOST_SIZE", "is_number", "wrong_in_row", "sums_by", "check_row", "check_number", "waits_by", "last_wait", "lost_by", "level_behind", "levels_by", "beyond_by", "spilled_by", "lacking_by", "same_from_by", "MOST_HIGH", "waits", "lost", "check_tub", "levels", "spilled", "lacking", "same_from", "total"]
def ls1 : List Str := ["_law_well", "_law_take", "_law_of", "_law_same", "_law_row", "_law_levels", "_law_is_told", "_law_right"]
def ls : List Str := ls0 ++ ls1
abbrev R : PySem.W.OpenRow := PySem.W.OpenLaw.row PySem.Challenge.rw_leadsums_k75_whole_tubs_that_spill
abbrev hk : PySem.W.Hook := He.hookD 4 fa fn
def ob (s : PySem.W.SharedT) : He.AlD := He.obsDG 4 fa fn (HandSHeadRun.getT s)
theorem ob_eq (s : PySem.W.SharedT) : ob s = hk.obs s.abs := He.obsDG_eq (HandSHeadRun.getT_eq s)
theorem run (w : World) : HandSHeadRun.RunEq R (PySem.W.view R.prog [46]) hk ob 4000 ls w := by
  intro os
  kernel_rfl
theorem facts {P : Program} {w : World} {K : PySem.W.Frag} {h : Heap} {mg : Str → Option Value} (X : K.In h) (G : h.Ns mainGlobals mg) (c : He.SaysD fa fn K) (base : Heap) : LS.GF ⟨P, w, K, mg, base⟩ where
    b_abs := He.free_ok X G (c.fact 33 (f := .free "abs") rfl)
    b_all := He.free_ok X G (c.fact 34 (f := .free "all") rfl)
    b_any := He.free_ok X G (c.fact 35 (f := .free "any") rfl)
    b_bool := He.free_ok X G (c.fact 36 (f := .free "bool") rfl)
    b_dict := He.free_ok X G (c.fact 37 (f := .free "dict") rfl)
    b_divmod := He.free_ok X G (c.fact 38 (f := .free "divmod") rfl)
    b_enumerate := He.free_ok X G (c.fact 39 (f := .free "enumerate") rfl)
    b_int := He.free_ok X G (c.fact 40 (f := .free "int") rfl)
    b_isinstance := He.free_ok X G (c.fact 41 (f := .free "isinstance") rfl)
    b_len := He.free_ok X G (c.fact 42 (f := .free "len") rfl)
    b_list := He.free_ok X G (c.fact 43 (f := .free "list") rfl)
    b_max := He.free_ok X G (c.fact 44 (f := .free "max") rfl)
    b_min := He.free_ok X G (c.fact 45 (f := .free "min") rfl)
    b_range := He.free_ok X G (c.fact 46 (f := .free "range") rfl)
    b_str := He.free_ok X G (c.fact 47 (f := .free "str") rfl)
    b_sum := He.free_ok X G (c.fact 48 (f := .free "sum") rfl)
    b_tuple := He.free_ok X G (c.fact 49 (f := .free "tuple") rfl)
    b_zip := He.free_ok X G (c.fact 50 (f := .free "zip") rfl)
    c_MOST_HIGH := He.int_ok X G (c.fact 53 (f := .int "MOST_HIGH" (99)) rfl)
    c_MOST_NUMBERS := He.int_ok X G (c.fact 51 (f := .int "MOST_NUMBERS" (8)) rfl)
    c_MOST_SIZE := He.int_ok X G (c.fact 52 (f := .int "MOST_SIZE" (9)) rfl)
    d_u_law_take := let ⟨fd, F⟩ := c.def_ 25 (d := df "_law_take" 39) rfl; ⟨_, fd, He.glo_ok X G (c.fact 25 (f := .glo "_law_take") rfl), F⟩
    d_u_law_of := let ⟨fd, F⟩ := c.def_ 26 (d := df "_law_of" 40) rfl; ⟨_, fd, He.glo_ok X G (c.fact 26 (f := .glo "_law_of") rfl), F⟩
    d_u_law_levels := let ⟨fd, F⟩ := c.def_ 29 (d := df "_law_levels" 43) rfl; ⟨_, fd, He.glo_ok X G (c.fact 29 (f := .glo "_law_levels") rfl), F⟩
    d_is_whole := let ⟨fd, F⟩ := c.def_ 0 (d := df "is_whole" 5) rfl; ⟨_, fd, He.glo_ok X G (c.fact 0 (f := .glo "is_whole") rfl), F⟩
    d_is_between := let ⟨fd, F⟩ := c.def_ 1 (d := df "is_between" 6) rfl; ⟨_, fd, He.glo_ok X G (c.fact 1 (f := .glo "is_between") rfl), F⟩
    d_is_number := let ⟨fd, F⟩ := c.def_ 2 (d := df "is_number" 10) rfl; ⟨_, fd, He.glo_ok X G (c.fact 2 (f := .glo "is_number") rfl), F⟩
    d_wrong_in_row := let ⟨fd, F⟩ := c.def_ 3 (d := df "wrong_in_row" 11) rfl; ⟨_, fd, He.glo_ok X G (c.fact 3 (f := .glo "wrong_in_row") rfl), F⟩
    d_check_row := let ⟨fd, F⟩ := c.def_ 5 (d := df "check_row" 14) rfl; ⟨_, fd, He.glo_ok X G (c.fact 5 (f := .glo "check_row") rfl), F⟩
    d_check_number := let ⟨fd, F⟩ := c.def_ 6 (d := df "check_number" 15) rfl; ⟨_, fd, He.glo_ok X G (c.fact 6 (f := .glo "check_number") rfl), F⟩
    d_check_tub := let ⟨fd, F⟩ := c.def_ 18 (d := df "check_tub" 30) rfl; ⟨_, fd, He.glo_ok X G (c.fact 18 (f := .glo "check_tub") rfl), F⟩
    d_level_behind := let ⟨fd, F⟩ := c.def_ 10 (d := df "level_behind" 20) rfl; ⟨_, fd, He.glo_ok X G (c.fact 10 (f := .glo "level_behind") rfl), F⟩
    d_levels_by := let ⟨fd, F⟩ := c.def_ 11 (d := df "levels_by" 21) rfl; ⟨_, fd, He.glo_ok X G (c.fact 11 (f := .glo "levels_by") rfl), F⟩
    d_levels := let ⟨fd, F⟩ := c.def_ 19 (d := df "levels" 31) rfl; ⟨_, fd, He.glo_ok X G (c.fact 19 (f := .glo "levels") rfl), F⟩
    d_beyond_by := let ⟨fd, F⟩ := c.def_ 12 (d := df "beyond_by" 22) rfl; ⟨_, fd, He.glo_ok X G (c.fact 12 (f := .glo "beyond_by") rfl), F⟩
    d_spilled_by := let ⟨fd, F⟩ := c.def_ 13 (d := df "spilled_by" 23) rfl; ⟨_, fd, He.glo_ok X G (c.fact 13 (f := .glo "spilled_by") rfl), F⟩
    d_spilled := let ⟨fd, F⟩ := c.def_ 20 (d := df "spilled" 32) rfl; ⟨_, fd, He.glo_ok X G (c.fact 20 (f := .glo "spilled") rfl), F⟩
    d_lacking_by := let ⟨fd, F⟩ := c.def_ 14 (d := df "lacking_by" 24) rfl; ⟨_, fd, He.glo_ok X G (c.fact 14 (f := .glo "lacking_by") rfl), F⟩
    d_lacking := let ⟨fd, F⟩ := c.def_ 21 (d := df "lacking" 33) rfl; ⟨_, fd, He.glo_ok X G (c.fact 21 (f := .glo "lacking") rfl), F⟩
    d_same_from_by := let ⟨fd, F⟩ := c.def_ 15 (d := df "same_from_by" 25) rfl; ⟨_, fd, He.glo_ok X G (c.fact 15 (f := .glo "same_from_by") rfl), F⟩
    d_same_from := let ⟨fd, F⟩ := c.def_ 22 (d := df "same_from" 34) rfl; ⟨_, fd, He.glo_ok X G (c.fact 22 (f := .glo "same_from") rfl), F⟩
    d_u_law_same := let ⟨fd, F⟩ := c.def_ 27 (d := df "_law_same" 41) rfl; ⟨_, fd, He.glo_ok X G (c.fact 27 (f := .glo "_law_same") rfl), F⟩
    d_sums_by := let ⟨fd, F⟩ := c.def_ 4 (d := df "sums_by" 12) rfl; ⟨_, fd, He.glo_ok X G (c.fact 4 (f := .glo "sums_by") rfl), F⟩
    d_total := let ⟨fd, F⟩ := c.def_ 23 (d := df "total" 36) rfl; ⟨_, fd, He.glo_ok X G (c.fact 23 (f := .glo "total") rfl), F⟩
    d_waits_by := let ⟨fd, F⟩ := c.def_ 7 (d := df "waits_by" 17) rfl; ⟨_, fd, He.glo_ok X G (c.fact 7 (f := .glo "waits_by") rfl), F⟩
    d_waits := let ⟨fd, F⟩ := c.def_ 16 (d := df "waits" 28) rfl; ⟨_, fd, He.glo_ok X G (c.fact 16 (f := .glo "waits") rfl), F⟩
    d_last_wait := let ⟨fd, F⟩ := c.def_ 8 (d := df "last_wait" 18) rfl; ⟨_, fd, He.glo_ok X G (c.fact 8 (f := .glo "last_wait") rfl), F⟩
    d_lost_by := let ⟨fd, F⟩ := c.def_ 9 (d := df "lost_by" 19) rfl; ⟨_, fd, He.glo_ok X G (c.fact 9 (f := .glo "lost_by") rfl), F⟩
    d_lost := let ⟨fd, F⟩ := c.def_ 17 (d := df "lost" 29) rfl; ⟨_, fd, He.glo_ok X G (c.fact 17 (f := .glo "lost") rfl), F⟩
    d_u_law_is_told := let ⟨fd, F⟩ := c.def_ 30 (d := df "_law_is_told" 44) rfl; ⟨_, fd, He.glo_ok X G (c.fact 30 (f := .glo "_law_is_told") rfl), F⟩
    d_u_law_row := let ⟨fd, F⟩ := c.def_ 28 (d := df "_law_row" 42) rfl; ⟨_, fd, He.glo_ok X G (c.fact 28 (f := .glo "_law_row") rfl), F⟩
    d_u_law_right := let ⟨fd, F⟩ := c.def_ 31 (d := df "_law_right" 45) rfl; ⟨_, fd, He.glo_ok X G (c.fact 31 (f := .glo "_law_right") rfl), F⟩
    d_u_law_well := let ⟨fd, F⟩ := c.def_ 24 (d := df "_law_well" 38) rfl; ⟨_, fd, He.glo_ok X G (c.fact 24 (f := .glo "_law_well") rfl), F⟩
    d_law := let ⟨fd, F⟩ := c.def_ 32 (d := df "law" 46) rfl; ⟨_, fd, He.glo_ok X G (c.fact 32 (f := .glo "law") rfl), F⟩
theorem facts_law {P : Program} {w : World} {K : PySem.W.Frag} {h : Heap} {mg : Str → Option Value} {fl : Addr} (X : K.In h) (G : h.Ns mainGlobals mg) (hfa : mg ("law" : Str) = some (.ref fl)) (c : He.SaysD fa fn K) :
    ∃ fd : FuncData, (∀ (s : Shared) (v : Value), BindsTo s fd ⟨[v], []⟩ [("script", v)]) ∧ ∀ base : Heap, K.In base → base.Ns mainGlobals mg → FnOk P w K mg base (L2.CX P w) 19 fl fd ["script"] (LS.spS ⟨P, w, K, mg, base⟩ 1 LS.D_law) := by
  obtain ⟨fd, F⟩ := c.def_ 32 (d := df "law" 46) rfl
  have e := hfa.symm.trans (He.glo_ok X G (c.fact 32 (f := .glo "law") rfl))
  cases e
  have b := FunD.bindsA (ps := ["script"]) F fun _ _ _ _ _ _ us hl => match us, hl with | [_], _ => rfl
  exact ⟨fd, fun s v => b s [v] rfl, fun base _ _ => LS.ok_law (facts X G c base) F⟩
end HD

theorem PySem.Challenge.cw_leadsums_k75_whole_tubs_that_spill_holds : PySem.Challenge.rw_leadsums_k75_whole_tubs_that_spill.Holds := by
  w_on; o_law
  refine HandSHeadRun.head_any (r := PySem.W.OpenLaw.row PySem.Challenge.rw_leadsums_k75_whole_tubs_that_spill) (q := PySem.W.view (PySem.W.OpenLaw.row PySem.Challenge.rw_leadsums_k75_whole_tubs_that_spill).prog [46]) (H := HD.hk) (ob := HD.ob) (M := 4000) (loose := HD.ls) (d := HandSHeadRun.topDef (PySem.W.OpenLaw.row PySem.Challenge.rw_leadsums_k75_whole_tubs_that_spill).prog 46) (kwd := []) HD.ob_eq
    (by kernel_rfl) (fun s => by kernel_rfl) HD.run (by kernel_rfl) (by kernel_rfl) (by kernel_rfl) (by rfl) (by first | assumption | decide +kernel) (by decide +kernel) ⟨rfl, rfl, rfl, rfl, rfl, by decide +kernel⟩ ?hw ?hc
  case hw => w_witness2
  case hc =>
    refine LS.walk_w (l := PySem.Challenge.rw_leadsums_k75_whole_tubs_that_spill) (n := 63) (k := 19) (x := "script") rfl (by decide) (by kernel_rfl) ⟨rfl, by decide, by decide⟩ ?_
    intro w mg fa h Y G hmg0
    obtain ⟨K, KX, c⟩ := Y
    have hmg : mg ("law" : PySem.Str) = some (.ref fa) := by
      have e : (HandSHeadRun.topDef (PySem.W.OpenLaw.row PySem.Challenge.rw_leadsums_k75_whole_tubs_that_spill).prog 46).name = ("law" : PySem.Str) := by kernel_rfl
      rw [← e]
      exact hmg0
    obtain ⟨fd, hb, hF⟩ := HD.facts_law (P := (PySem.Challenge.rw_leadsums_k75_whole_tubs_that_spill).prog) (w := w) KX G hmg c
    exact ⟨K, fd, LS.D_law, KX, hb, LS.law_ok, hF⟩
