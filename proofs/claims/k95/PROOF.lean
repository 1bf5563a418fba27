import PyProof.Rows.All
import Wide.All
import OpenK.AllK
import Wide.FinOn
import HandS.ForExc
import HandS.Comp
import HandS.Flow
import HandS.IsInst
import HandS.Deep
import HandS.TupAny
import HandS.Wide
import HandS.SetKeys
import HandS.Sort
import HandS.Defaults
import HandS.Zip
import KE.GoesNew
import HandS.Style
import HandS.HeadEnd
import HandS.Dict
import HandS.More
import HandS.Star
import HandS.SortInts
import HandS.DictSub
import KE.SortData
import KE.KMathGC
import KE.DataFind
import KE.GoesEnum
import HandS.IterVal
import HandS.Conv
import HandS.Iter
import PyProof.ZipIter
import PyProof.CallType
import PyProof.Walk
import PyProof.WalkLemmas
import PyProof.RangeIter
import PyProof.RulesTry
import PyProof.TupleOfSeq
import HandS.RepeatKit
import HandS.TupSets
import HandS.OwnIter
import KE.KStateDown
import Lean
import HandS.Base
import HandS.Call
import HandS.Ends
import HandS.Words
import HandS.WordsExc
import HandS.Head0
import HandS.Head1
import HandS.Head2
import HandS.Head3
import HandS.HeadHook1
import HandS.HeadHook2
import PySem.Challenge.RW_leadsums_k95_whole_orders_beside_moved_r
set_option Elab.async false
set_option linter.all false
set_option maxRecDepth 100000
set_option maxHeartbeats 0
section
namespace LS
open PySem PySem.Spec PyProof.Rows L2
def top (i : Nat) : Stmt := PySem.Challenge.pw_leadsums_k95_whole_orders_beside_moved_r.main.body.getD i (.Pass ⟨0, 0, 0, 0⟩)
end LS
namespace HD
open PySem PySem.Spec PyProof.Rows L2
def df (x : Str) (i : Nat) : He.DefD := ⟨(x, none), x, x, defArgs (LS.top i), defBody (LS.top i), defScope (LS.top i), [], []⟩
def fn0 : List He.DefD := [df "is_whole" 8, df "is_between" 9, df "is_tuple_of" 10, df "is_number" 14, df "wrong_in_row" 15, df "is_order_by" 16, df "sums_by" 17, df "above_by" 18, df "not_below_by" 19, df "highest_by" 20, df "places_with" 21, df "first_highest_by" 22, df "last_highest_by" 23, df "in_order_by" 24, df "most_above_by" 25, df "least_above_by" 26, df "moved_by" 27, df "moved_back_by" 28, df "check_row" 30, df "check_order" 31, df "check_number" 32, df "check_few" 33, df "all_orders" 35, df "all_in_order" 36, df "counted" 37, df "orders_above_by" 38, df "orders_not_below_by" 39, df "orders_first_by" 40, df "orders_last_by" 41, df "orders_with_by" 42]
def fn1 : List He.DefD := [df "check_few_numbers" 45, df "orders_above" 46, df "orders_not_below" 47, df "orders_first" 48, df "orders_last" 49, df "orders_with" 50, df "above" 52, df "not_below" 53, df "first_highest" 54, df "last_highest" 55, df "in_order" 56, df "moved" 57, df "moved_back" 58, df "most_above" 59, df "least_above" 60, df "_law_pool" 62, df "_law_draw" 63, df "_law_pick" 64, df "_law_same" 65, df "_law_row" 66, df "_law_sums" 67, df "_law_orders" 68, df "_law_counts" 69, df "_law_is_told" 70, df "_law_right" 71, df "law" 72]
def fn : List He.DefD := fn0 ++ fn1
def fa0 : List He.Fa := [.glo "is_whole", .glo "is_between", .glo "is_tuple_of", .glo "is_number", .glo "wrong_in_row", .glo "is_order_by", .glo "sums_by", .glo "above_by", .glo "not_below_by", .glo "highest_by", .glo "places_with", .glo "first_highest_by", .glo "last_highest_by", .glo "in_order_by", .glo "most_above_by", .glo "least_above_by", .glo "moved_by", .glo "moved_back_by", .glo "check_row", .glo "check_order", .glo "check_number", .glo "check_few", .glo "all_orders", .glo "all_in_order", .glo "counted", .glo "orders_above_by", .glo "orders_not_below_by", .glo "orders_first_by", .glo "orders_last_by", .glo "orders_with_by"]
def fa1 : List He.Fa := [.glo "check_few_numbers", .glo "orders_above", .glo "orders_not_below", .glo "orders_first", .glo "orders_last", .glo "orders_with", .glo "above", .glo "not_below", .glo "first_highest", .glo "last_highest", .glo "in_order", .glo "moved", .glo "moved_back", .glo "most_above", .glo "least_above", .glo "_law_pool", .glo "_law_draw", .glo "_law_pick", .glo "_law_same", .glo "_law_row", .glo "_law_sums", .glo "_law_orders", .glo "_law_counts", .glo "_law_is_told", .glo "_law_right", .glo "law", .free "abs", .free "all", .free "bool", .free "divmod"]
def fa2 : List He.Fa := [.free "enumerate", .free "int", .free "isinstance", .free "len", .free "list", .free "max", .free "min", .free "range", .free "set", .free "sorted", .free "str", .free "sum", .free "tuple", .free "zip", .int "MOST_NUMBERS" (8), .int "MOST_SIZE" (9), .int "MOST_ORDERED" (6)]
def fa : List He.Fa := fa0 ++ fa1 ++ fa2
def ls0 : List Str := ["permutations", "SumError", "InvalidOrder", "InvalidNumber", "InvalidRow", "TooMany", "is_whole", "is_between", "is_tuple_of", "MOST_NUMBERS", "MOST_SIZE", "is_number", "wrong_in_row", "is_order_by", "sums_by", "above_by", "not_below_by", "highest_by", "places_with", "first_highest_by", "last_highest_by", "in_order_by", "most_above_by", "least_above_by", "moved_by", "moved_back_by", "check_row", "check_order", "check_number", "check_few"]
def ls1 : List Str := ["all_orders", "all_in_order", "counted", "orders_above_by", "orders_not_below_by", "orders_first_by", "orders_last_by", "orders_with_by", "MOST_ORDERED", "check_few_numbers", "orders_above", "orders_not_below", "orders_first", "orders_last", "orders_with", "above", "not_below", "first_highest", "last_highest", "in_order", "moved", "moved_back", "most_above", "least_above", "_law_pool", "_law_draw", "_law_pick", "_law_same", "_law_row", "_law_sums"]
def ls2 : List Str := ["_law_orders", "_law_counts", "_law_is_told", "_law_right"]
def ls : List Str := ls0 ++ ls1 ++ ls2
abbrev R : PySem.W.OpenRow := PySem.W.OpenLaw.row PySem.Challenge.rw_leadsums_k95_whole_orders_beside_moved_r
/-- further facts: any test of the part of the heap -/
def fx : List (PySem.W.Frag → Bool) := [fun K => He.eqO (PySem.W.nsIn K mainGlobals "permutations") (some (some (.type "itertools.permutations")))]
def hookX (n : Nat) (fa : List He.Fa) (fn : List He.DefD) (fx : List (PySem.W.Frag → Bool)) : PySem.W.Hook where
  α := He.AlD × Bool
  obs := fun s => (He.obsDG n fa fn s.heap.get?, fx.all fun f => f (He.frG s.heap.get? (He.asD s.heap.get? n)))
  val := fun _ => (He.valD fn, true)
  says := fun _ h => ∃ K : PySem.W.Frag, K.In h ∧ He.SaysD fa fn K ∧ (fx.all fun f => f K) = true
  of := fun _ _ e => ⟨_, He.frG_in, congrArg (fun z : He.AlD × Bool => z.1) e, congrArg (fun z : He.AlD × Bool => z.2) e⟩
  keeps := fun _ _ _ ⟨K, hK, c, d⟩ k => ⟨K, PySem.W.Frag.In.keeps hK k, c, d⟩
abbrev hk : PySem.W.Hook := hookX 2 fa fn fx
def ob (s : PySem.W.SharedT) : He.AlD × Bool := (He.obsDG 2 fa fn (HandSHeadRun.getT s), fx.all fun f => f (He.frG (HandSHeadRun.getT s) (He.asD (HandSHeadRun.getT s) 2)))
theorem ob_eq (s : PySem.W.SharedT) : ob s = hk.obs s.abs := by
  have e : HandSHeadRun.getT s = s.abs.heap.get? := funext (HandSHeadRun.getT_eq s)
  unfold ob
  rw [e] <;> rfl
theorem run (w : World) : HandSHeadRun.RunEqI R (PySem.W.view R.prog [0, 72]) hk ob 4000 ls w := by
  show _ = _
  kernel_rfl
end HD
end
section
set_option maxRecDepth 100000
set_option maxHeartbeats 2000000
namespace LS
open PySem PySem.Spec PyProof.Rows L2

/-! ## data, stores, outcomes -/
/-- values as data: scalars, names of the top, tuples and lists that stand still, the i-th moving object -/
inductive D where
  | non | bl (b : Bool) | int (i : Int) | str (s : Str) | ty (n : String) | glo (x : Str)
  | tup (xs : List D) | lst (xs : List D) | sq (xs : List D) | ref (i : Nat)
  /-- a tuple that has no dict of its own, as a display makes it -/
  | tpz (xs : List D)
/-- moving objects -/
inductive MO where
  | lst (xs : List D)
  /-- a dict whose keys are ints and texts; the same while a loop walks it -/
  | dct (kvs : List (Key × D)) | lck (kvs : List (Key × D))
abbrev Store := List MO
abbrev Nv := List (Option D)
abbrev Pay := Option (Str × D)
/-- an expression's outcome -/
inductive RX (α : Type) where
  | ok (a : α) (st : Store) | exc (c : Str) (p : Pay) (st : Store) | stuck
/-- a statement's outcome -/
inductive RS where
  | nx (e : Nv) (st : Store) | rt (d : D) (st : Store) | bk (e : Nv) (st : Store) | ct (e : Nv) (st : Store) | exc (c : Str) (p : Pay) (e : Nv) (st : Store) | stuck
abbrev XM (α : Type) := Nv → Store → RX α
abbrev SM := Nv → Store → RS
@[reducible] def xpure {α : Type} (a : α) : XM α := fun _ st => .ok a st
def xbind {α β : Type} (m : XM α) (f : α → XM β) : XM β := fun e st => match m e st with
  | .ok a st' => f a e st'
  | .exc c p st' => .exc c p st'
  | .stuck => .stuck
/-- a value's operation that changes nothing -/
def xopt {α : Type} (o : Option α) : XM α := fun _ st => match o with
  | some a => .ok a st
  | none => .stuck

/-! ## what stands for what -/
section
variable (K : PySem.W.Frag) (mg : Str → Option Value)
mutual
inductive Rp (G : Hp) (as : List Addr) : V → D → Prop
  | non : Rp G as .non .non
  | bl (b : Bool) : Rp G as (.bl b) (.bl b)
  | int (i : Int) : Rp G as (.int i) (.int i)
  | str (x : Str) : Rp G as (.str x) (.str x)
  | ty (n : String) : Rp G as (.ty n) (.ty n)
  | glo (x : Str) (a : Addr) : mg x = some (.ref a) → Rp G as (.ref a) (.glo x)
  | tup {a : Addr} {vs : List V} {ds : List D} : SqT K G a vs → RpA G as vs ds → Rp G as (.ref a) (.tup ds)
  | lst {a : Addr} {vs : List V} {ds : List D} : G a = some (.lst vs) → RpA G as vs ds → Rp G as (.ref a) (.lst ds)
  | sq {a : Addr} {vs : List V} {ds : List D} : SqL K G a vs → RpA G as vs ds → Rp G as (.ref a) (.sq ds)
  | ref {a : Addr} {i : Nat} : as[i]? = some a → Rp G as (.ref a) (.ref i)
  | tpz {a : Addr} {ob : Obj} {vs : List V} {ds : List D} : G a = some (.frz ob (.tup vs)) → ob.dict = none → RpA G as vs ds → Rp G as (.ref a) (.tpz ds)
inductive RpA (G : Hp) (as : List Addr) : List V → List D → Prop
  | nil : RpA G as [] []
  | cons {v : V} {vs : List V} {d : D} {ds : List D} : Rp G as v d → RpA G as vs ds → RpA G as (v :: vs) (d :: ds)
end
/-- a moving object -/
inductive Ro (G : Hp) (as : List Addr) : HO → MO → Prop
  | lst {vs : List V} {ds : List D} : RpA K mg G as vs ds → Ro G as (.lst vs) (.lst ds)
  | dct {kvs : List (Key × V)} {kds : List (Key × D)} : kvs.map (·.1) = kds.map (·.1) → RpA K mg G as (kvs.map (·.2)) (kds.map (·.2)) → Ro G as (.dK kvs) (.dct kds)
  | lck {o : Obj} {kvs : List (Key × V)} {kds : List (Key × D)} : kvs.map (·.1) = kds.map (·.1) → RpA K mg G as (kvs.map (·.2)) (kds.map (·.2)) → Ro G as (.frz o (.dK kvs)) (.lck kds)
/-- the store -/
structure Ri (G H : Hp) (as : List Addr) (st : Store) : Prop where
  sub : ∀ a o, G a = some o → H a = some o
  len : as.length = st.length
  nd : as.Nodup
  out : ∀ a ∈ as, G a = none
  obj : ∀ (i : Nat) a o, as[i]? = some a → st[i]? = some o → ∃ ho, H a = some ho ∧ Ro K mg G as ho o
/-- the names -/
structure Rn (G : Hp) (as : List Addr) (σ : L2.St) (e : Nv) : Prop where
  len : σ.length = e.length
  at_ : ∀ (i : Nat) x, e[i]? = some (some x) → ∃ v, σ[i]? = some (some v) ∧ Rp K mg G as v x
end
/-- what comes later -/
structure Ext (G H : Hp) (as : List Addr) (G' H' : Hp) (as' : List Addr) : Prop where
  sub : ∀ a o, G a = some o → G' a = some o
  pre : as <+: as'
  keep : ∀ a o, H a = some o → a ∉ as → H' a = some o
  frG : ∀ a, G a = none → H a ≠ none → G' a = none
  frA : ∀ a ∈ as', a ∉ as → H a = none
  dom : ∀ a, H a ≠ none → H' a ≠ none
  lk : ∀ a o kvs, H a = some (.frz o (.dK kvs)) → H' a = some (.frz o (.dK kvs))

section
variable {K : PySem.W.Frag} {mg : Str → Option Value} {G H G' H' G1 H1 : Hp} {as as' as1 : List Addr} {σ : L2.St} {e : Nv} {st st' : Store}
theorem Ext.refl : Ext G H as G H as := ⟨fun _ _ h => h, List.prefix_refl _, fun _ _ h _ => h, fun _ h _ => h, fun a h h' => absurd h h', fun _ h => h, fun _ _ _ h => h⟩
theorem Ext.trans (a : Ext G H as G1 H1 as1) (b : Ext G1 H1 as1 G' H' as') : Ext G H as G' H' as' where
  sub := fun x o h => b.sub x o (a.sub x o h)
  pre := a.pre.trans b.pre
  keep := fun x o h n => by
    refine b.keep x o (a.keep x o h n) fun m => ?_
    have := a.frA x m n
    rw [h] at this; cases this
  frG := fun x g h => b.frG x (a.frG x g h) (a.dom x h)
  frA := fun x m n => by
    by_cases q : x ∈ as1
    · exact a.frA x q n
    · have h1 := b.frA x m q
      cases h : H x with
      | none => rfl
      | some o => exact absurd h1 (a.dom x (by rw [h]; exact fun z => nomatch z))
  dom := fun x h => b.dom x (a.dom x h)
  lk := fun x o kvs h => b.lk x o kvs (a.lk x o kvs h)
theorem sqL_sub (h : ∀ a o, G a = some o → G' a = some o) {a : Addr} {vs : List V} (s : SqL K G a vs) : SqL K G' a vs := by
  rcases s with (s | ⟨o, s⟩) | s
  · exact .inl (.inl (h _ _ s))
  · exact .inl (.inr ⟨o, h _ _ s⟩)
  · exact .inr s
theorem sqT_sub (h : ∀ a o, G a = some o → G' a = some o) {a : Addr} {vs : List V} (s : SqT K G a vs) : SqT K G' a vs := by
  rcases s with (s | ⟨o, s⟩) | s
  · exact .inl (.inl (h _ _ s))
  · exact .inl (.inr ⟨o, h _ _ s⟩)
  · exact .inr s
theorem pre_get {α : Type} {as as' : List α} (h : as <+: as') {i : Nat} {a : α} (q : as[i]? = some a) : as'[i]? = some a := by
  obtain ⟨t, rfl⟩ := h
  rw [List.getElem?_append_left (List.getElem?_eq_some_iff.mp q).1]
  exact q
mutual
theorem Rp.mono (hs : ∀ a o, G a = some o → G' a = some o) (hp : as <+: as') : ∀ {d : D} {v : V}, Rp K mg G as v d → Rp K mg G' as' v d
  | .non, _, h => by cases h; exact .non
  | .bl _, _, h => by cases h; exact .bl _
  | .int _, _, h => by cases h; exact .int _
  | .str _, _, h => by cases h; exact .str _
  | .ty _, _, h => by cases h; exact .ty _
  | .glo _, _, h => by cases h; rename_i a q; exact .glo _ _ q
  | .tup ds, _, h => by cases h with | tup s r => exact .tup (sqT_sub hs s) (RpA.mono hs hp r)
  | .lst ds, _, h => by cases h with | lst s r => exact .lst (hs _ _ s) (RpA.mono hs hp r)
  | .sq ds, _, h => by cases h with | sq s r => exact .sq (sqL_sub hs s) (RpA.mono hs hp r)
  | .ref i, _, h => by cases h with | ref q => exact .ref (pre_get hp q)
  | .tpz ds, _, h => by cases h with | tpz s z r => exact .tpz (hs _ _ s) z (RpA.mono hs hp r)
theorem RpA.mono (hs : ∀ a o, G a = some o → G' a = some o) (hp : as <+: as') : ∀ {ds : List D} {vs : List V}, RpA K mg G as vs ds → RpA K mg G' as' vs ds
  | [], _, h => by cases h; exact .nil
  | d :: ds, _, h => by cases h with | cons a b => exact .cons (Rp.mono hs hp a) (RpA.mono hs hp b)
end
theorem Rp.ext (x : Ext G H as G' H' as') {d : D} {v : V} (h : Rp K mg G as v d) : Rp K mg G' as' v d := h.mono x.sub x.pre
theorem RpA.ext (x : Ext G H as G' H' as') {d : List D} {v : List V} (h : RpA K mg G as v d) : RpA K mg G' as' v d := h.mono x.sub x.pre
theorem Rn.ext (x : Ext G H as G' H' as') (h : Rn K mg G as σ e) : Rn K mg G' as' σ e :=
  ⟨h.len, fun i d q => let ⟨v, a, r⟩ := h.at_ i d q; ⟨v, a, r.ext x⟩⟩
theorem Ro.ext (x : Ext G H as G' H' as') {ho : HO} {o : MO} (h : Ro K mg G as ho o) : Ro K mg G' as' ho o := by
  cases h with
  | lst r => exact .lst (r.ext x)
  | dct e r => exact .dct e (r.ext x)
  | lck e r => exact .lck e (r.ext x)
theorem RpA.len : ∀ {vs : List V} {ds : List D}, RpA K mg G as vs ds → vs.length = ds.length
  | _, _, .nil => rfl
  | _, _, .cons _ t => congrArg (· + 1) t.len
theorem RpA.get : ∀ {vs : List V} {ds : List D} {i : Nat} {d : D}, RpA K mg G as vs ds → ds[i]? = some d → ∃ v, vs[i]? = some v ∧ Rp K mg G as v d
  | _, _, _, _, .nil, h => by simp at h
  | _, _, 0, _, .cons r _, h => by simp at h; subst h; exact ⟨_, rfl, r⟩
  | _, _, i + 1, _, .cons _ t, h => by
    obtain ⟨v, a, b⟩ := t.get (i := i) (by simpa using h)
    exact ⟨v, by simpa using a, b⟩
theorem RpA.getV : ∀ {vs : List V} {ds : List D} {i : Nat} {v : V}, RpA K mg G as vs ds → vs[i]? = some v → ∃ d, ds[i]? = some d ∧ Rp K mg G as v d
  | _, _, _, _, .nil, h => by simp at h
  | _, _, 0, _, .cons r _, h => by simp at h; subst h; exact ⟨_, rfl, r⟩
  | _, _, i + 1, _, .cons _ t, h => by
    obtain ⟨v, a, b⟩ := t.getV (i := i) (by simpa using h)
    exact ⟨v, by simpa using a, b⟩
theorem RpA.append : ∀ {vs ws : List V} {ds es : List D}, RpA K mg G as vs ds → RpA K mg G as ws es → RpA K mg G as (vs ++ ws) (ds ++ es)
  | _, _, _, _, .nil, h => h
  | _, _, _, _, .cons r t, h => .cons r (t.append h)
theorem RpA.take : ∀ {vs : List V} {ds : List D} (n : Nat), RpA K mg G as vs ds → RpA K mg G as (vs.take n) (ds.take n)
  | _, _, 0, _ => .nil
  | _, _, _ + 1, .nil => .nil
  | _, _, n + 1, .cons r t => .cons r (t.take n)
theorem RpA.drop : ∀ {vs : List V} {ds : List D} (n : Nat), RpA K mg G as vs ds → RpA K mg G as (vs.drop n) (ds.drop n)
  | _, _, 0, h => h
  | _, _, _ + 1, .nil => .nil
  | _, _, n + 1, .cons r t => t.drop n
theorem RpA.set : ∀ {vs : List V} {ds : List D} (n : Nat) {v : V} {d : D}, RpA K mg G as vs ds → Rp K mg G as v d → RpA K mg G as (vs.set n v) (ds.set n d)
  | _, _, _, _, _, .nil, _ => .nil
  | _, _, 0, _, _, .cons _ t, q => .cons q t
  | _, _, n + 1, _, _, .cons r t, q => .cons r (t.set n q)
theorem RpA.reverse {vs : List V} {ds : List D} (h : RpA K mg G as vs ds) : RpA K mg G as vs.reverse ds.reverse := by
  induction vs generalizing ds with
  | nil => cases h; exact .nil
  | cons v vs ih =>
    cases h with
    | cons r t =>
      rw [List.reverse_cons, List.reverse_cons]
      exact (ih t).append (.cons r .nil)
theorem RpA.ints : ∀ (ns : List Int) {vs : List V}, RpA K mg G as vs (ns.map D.int) → vs = ns.map V.int
  | [], _, h => by cases h; rfl
  | n :: ns, _, h => by
    cases h with
    | cons r t =>
      cases r
      rw [RpA.ints ns t] <;> rfl
theorem RpA.of_ints : ∀ (ns : List Int), RpA K mg G as (ns.map V.int) (ns.map D.int)
  | [] => .nil
  | n :: ns => .cons (.int n) (RpA.of_ints ns)
theorem RpA.bls : ∀ (bs : List Bool) {vs : List V}, RpA K mg G as vs (bs.map D.bl) → vs = bs.map V.bl
  | [], _, h => by cases h; rfl
  | n :: ns, _, h => by
    cases h with
    | cons r t =>
      cases r
      rw [RpA.bls ns t] <;> rfl

/-- a new object that stands still -/
theorem Ri.still {p : Addr} {o : HO} (R : Ri K mg G H as st) (n : H p = none) : Ri K mg (upd G p o) (upd H p o) as st ∧ Ext G H as (upd G p o) (upd H p o) as := by
  have gn : G p = none := by
    cases q : G p with
    | none => rfl
    | some u => rw [R.sub _ _ q] at n; cases n
  have na : ∀ a ∈ as, a ≠ p := fun a ha z => by
    subst z
    obtain ⟨i, hi, e⟩ := List.getElem_of_mem ha
    have hi' : i < st.length := by rw [← R.len]; exact hi
    obtain ⟨ho, q, _⟩ := R.obj i a st[i] (by rw [List.getElem?_eq_getElem hi, e]) (List.getElem?_eq_getElem hi')
    rw [n] at q; cases q
  have x : Ext G H as (upd G p o) (upd H p o) as := by
    refine ⟨fun a u h => ?_, List.prefix_refl _, fun a u h _ => ?_, fun a g h => ?_, fun a h h' => absurd h h', fun a h => ?_, fun a u kvs h => by rw [upd_ne (ne_of_none h n)]; exact h⟩
    · rw [upd_ne (ne_of_none h gn)]; exact h
    · rw [upd_ne (ne_of_none h n)]; exact h
    · have : a ≠ p := fun z => by subst z; exact h n
      rw [upd_ne this]; exact g
    · by_cases z : a = p
      · subst z; rw [upd_same]; exact fun z => nomatch z
      · rw [upd_ne z]; exact h
  refine ⟨⟨fun a u h => ?_, R.len, R.nd, fun a ha => ?_, fun i a u ha hu => ?_⟩, x⟩
  · by_cases z : a = p
    · subst z; rw [upd_same] at h ⊢; exact h
    · rw [upd_ne z] at h ⊢; exact R.sub _ _ h
  · rw [upd_ne (na a ha)]; exact R.out a ha
  · obtain ⟨ho, q, r⟩ := R.obj i a u ha hu
    refine ⟨ho, ?_, r.ext x⟩
    rw [upd_ne (na a (List.mem_of_getElem? ha))]; exact q
/-- a new moving object -/
theorem Ri.moving {p : Addr} {o : HO} {m : MO} (R : Ri K mg G H as st) (n : H p = none) (r : Ro K mg G as o m) : Ri K mg G (upd H p o) (as ++ [p]) (st ++ [m]) ∧ Ext G H as G (upd H p o) (as ++ [p]) := by
  have gn : G p = none := by
    cases q : G p with
    | none => rfl
    | some u => rw [R.sub _ _ q] at n; cases n
  have na : ∀ a ∈ as, a ≠ p := fun a ha z => by
    subst z
    obtain ⟨i, hi, e⟩ := List.getElem_of_mem ha
    have hi' : i < st.length := by rw [← R.len]; exact hi
    obtain ⟨ho, q, _⟩ := R.obj i a st[i] (by rw [List.getElem?_eq_getElem hi, e]) (List.getElem?_eq_getElem hi')
    rw [n] at q; cases q
  have x : Ext G H as G (upd H p o) (as ++ [p]) := by
    refine ⟨fun _ _ h => h, List.prefix_append _ _, fun a u h _ => ?_, fun _ g _ => g, fun a h h' => ?_, fun a h => ?_, fun a u kvs h => by rw [upd_ne (ne_of_none h n)]; exact h⟩
    · rw [upd_ne (ne_of_none h n)]; exact h
    · rcases List.mem_append.mp h with h | h
      · exact absurd h h'
      · have : a = p := by simpa using h
        subst this; exact n
    · by_cases z : a = p
      · subst z; rw [upd_same]; exact fun z => nomatch z
      · rw [upd_ne z]; exact h
  refine ⟨⟨fun a u h => ?_, by simp [R.len], ?_, fun a ha => ?_, fun i a u ha hu => ?_⟩, x⟩
  · rw [upd_ne (ne_of_none h gn)]; exact R.sub _ _ h
  · rw [List.nodup_append]
    refine ⟨R.nd, by simp, fun a ha b hb => ?_⟩
    have : b = p := by simpa using hb
    rw [this]; exact na a ha
  · rcases List.mem_append.mp ha with ha | ha
    · exact R.out a ha
    · have : a = p := by simpa using ha
      subst this; exact gn
  · by_cases hi : i < as.length
    · rw [List.getElem?_append_left hi] at ha
      rw [List.getElem?_append_left (by rw [← R.len]; exact hi)] at hu
      obtain ⟨ho, q, r⟩ := R.obj i a u ha hu
      refine ⟨ho, ?_, r.ext x⟩
      rw [upd_ne (na a (List.mem_of_getElem? ha))]; exact q
    · rw [List.getElem?_append_right (by omega)] at ha
      rw [List.getElem?_append_right (by rw [← R.len]; omega)] at hu
      have h0 : i - as.length = 0 := by
        have := (List.getElem?_eq_some_iff.mp ha).1
        simp at this; omega
      have h1 : i - st.length = 0 := by rw [← R.len]; exact h0
      rw [h0] at ha; rw [h1] at hu
      simp at ha hu
      subst ha hu
      exact ⟨o, upd_same, r.ext x⟩
/-- a moving object changes -/
theorem Ri.change {i : Nat} {a : Addr} {o : HO} {m : MO} (R : Ri K mg G H as st) (ha : as[i]? = some a) (r : Ro K mg G as o m) (hz : ∀ u kvs, H a ≠ some (.frz u (.dK kvs))) : Ri K mg G (upd H a o) as (st.set i m) ∧ Ext G H as G (upd H a o) as := by
  have hm : a ∈ as := List.mem_of_getElem? ha
  have gn := R.out a hm
  refine ⟨⟨fun b u h => ?_, by simp [R.len], R.nd, R.out, fun j b u hb hu => ?_⟩, ⟨fun _ _ h => h, List.prefix_refl _, fun b u h n => ?_, fun _ g _ => g, fun b h h' => absurd h h', fun b h => ?_, fun b u kvs h => by
    have : b ≠ a := fun z => hz u kvs (z ▸ h)
    rw [upd_ne this]; exact h⟩⟩
  · rw [upd_ne (ne_of_none h gn)]; exact R.sub _ _ h
  · by_cases z : j = i
    · subst z
      rw [ha] at hb; cases hb
      have hj : j < st.length := by rw [← R.len]; exact (List.getElem?_eq_some_iff.mp ha).1
      rw [List.getElem?_set_self hj] at hu; cases hu
      exact ⟨o, upd_same, r⟩
    · rw [List.getElem?_set_ne (Ne.symm z)] at hu
      obtain ⟨ho, q, r'⟩ := R.obj j b u hb hu
      refine ⟨ho, ?_, r'⟩
      have : b ≠ a := fun z' => z (by
        subst z'
        obtain ⟨h1, e1⟩ := List.getElem?_eq_some_iff.mp hb
        obtain ⟨h2, e2⟩ := List.getElem?_eq_some_iff.mp ha
        exact (List.getElem_inj R.nd).mp (e1.trans e2.symm))
      rw [upd_ne this]; exact q
  · have : b ≠ a := fun z => n (z ▸ hm)
    rw [upd_ne this]; exact h
  · by_cases z : b = a
    · subst z; rw [upd_same]; exact fun z => nomatch z
    · rw [upd_ne z]; exact h
theorem Ri.at_ {i : Nat} {a : Addr} {m : MO} (R : Ri K mg G H as st) (ha : as[i]? = some a) (hm : st[i]? = some m) : ∃ ho, H a = some ho ∧ Ro K mg G as ho m := R.obj i a m ha hm
end

/-! ## what is wanted of an outcome -/
/-- an exception's value -/
def ExR (K : PySem.W.Frag) (mg : Str → Option Value) (G H : Hp) (as : List Addr) (c : Str) (p : Pay) (cls : Value) (d : Option Addr) : Prop :=
  mg c = some cls ∧ (∃ C, cls = .ref C) ∧ match p with
    | none => d = none
    | some (f, x) => ∃ dx v, d = some dx ∧ H dx = some (.xd [(f, v)]) ∧ dx ∉ as ∧ Rp K mg G as v x
def PX (K : PySem.W.Frag) (mg : Str → Option Value) (W : WX) (G H : Hp) (as : List Addr) (σ : L2.St) (r : RX D) (Q : VK) : Prop := match r with
  | .ok x st' => ∀ v G' H' as', Ri K mg G' H' as' st' → Ext G H as G' H' as' → Rp K mg G' as' v x → Q v H'
  | .exc c p st' => ∀ cls d G' H' as', Ri K mg G' H' as' st' → Ext G H as G' H' as' → ExR K mg G' H' as' c p cls d → W cls d σ H'
  | .stuck => False
def PXB (K : PySem.W.Frag) (mg : Str → Option Value) (W : WX) (G H : Hp) (as : List Addr) (σ : L2.St) (r : RX Bool) (Q : Bool → Hp → Prop) : Prop := match r with
  | .ok x st' => ∀ G' H' as', Ri K mg G' H' as' st' → Ext G H as G' H' as' → Q x H'
  | .exc c p st' => ∀ cls d G' H' as', Ri K mg G' H' as' st' → Ext G H as G' H' as' → ExR K mg G' H' as' c p cls d → W cls d σ H'
  | .stuck => False
def PXA (K : PySem.W.Frag) (mg : Str → Option Value) (W : WX) (G H : Hp) (as : List Addr) (σ : L2.St) (r : RX (List D)) (Q : List V → Hp → Prop) : Prop := match r with
  | .ok x st' => ∀ v G' H' as', Ri K mg G' H' as' st' → Ext G H as G' H' as' → RpA K mg G' as' v x → Q v H'
  | .exc c p st' => ∀ cls d G' H' as', Ri K mg G' H' as' st' → Ext G H as G' H' as' → ExR K mg G' H' as' c p cls d → W cls d σ H'
  | .stuck => False
def PS_ (K : PySem.W.Frag) (mg : Str → Option Value) (W : WX) (G H : Hp) (as : List Addr) (n : Nat) (r : RS) (E : Ends) : Prop := match r with
  | .nx e st' => ∀ σ' G' H' as', Ri K mg G' H' as' st' → Rn K mg G' as' σ' e → Ext G H as G' H' as' → E.nx σ' H'
  | .bk e st' => ∀ σ' G' H' as', Ri K mg G' H' as' st' → Rn K mg G' as' σ' e → Ext G H as G' H' as' → E.bk σ' H'
  | .ct e st' => ∀ σ' G' H' as', Ri K mg G' H' as' st' → Rn K mg G' as' σ' e → Ext G H as G' H' as' → E.ct σ' H'
  | .rt x st' => ∀ v G' H' as', Ri K mg G' H' as' st' → Ext G H as G' H' as' → Rp K mg G' as' v x → E.rt v H'
  | .exc c p e st' => ∀ σ' cls d G' H' as', Ri K mg G' H' as' st' → Rn K mg G' as' σ' e → Ext G H as G' H' as' → ExR K mg G' H' as' c p cls d → W cls d σ' H'
  | .stuck => False
end LS
end
section
set_option maxRecDepth 100000
set_option maxHeartbeats 2000000
namespace LS
open PySem PySem.Spec L2

/-! ## families of contexts, judgements -/
structure Gb where
  P : Program
  w : World
  K : PySem.W.Frag
  mg : Str → Option Value
  base : Heap
structure Fam (g : Gb) where
  k : Nat
  N : List Str
  sc : Scope
  nd : N.Nodup
  own : Str → Bool
  mem : WX → Cx → Prop
  prog : ∀ {W X}, mem W X → X.prog = g.P
  w : ∀ {W X}, mem W X → X.w = g.w
  hK : ∀ {W X}, mem W X → X.K = g.K
  hmg : ∀ {W X}, mem W X → X.mg = g.mg
  base : ∀ {W X}, mem W X → X.base = g.base
  hN : ∀ {W X}, mem W X → X.N = N
  hsc : ∀ {W X}, mem W X → X.env.scope = sc
  calm : ∀ {W X}, mem W X → X.calm = true
  room : ∀ {W X}, mem W X → Room k X.A
  takes : ∀ {W X}, mem W X → Takes X W
  pass : ∀ {W X}, mem W X → PassesOwn (model X.prog X.w) X.A X.env X.xe
  fn : ∀ {W X}, mem W X → ∀ x, own x = true → Loc sc x → X.fn x = true ∨ X.env.scope.names.lookup x = some .local

section
variable {g : Gb}
def SE (g : Gb) (t : WX → TE) (m : XM D) : Prop := ∀ (W : WX) (G H : Hp) (as : List Addr) (st : Store) (σ : L2.St) (e : Nv) (Q : VK), Ri g.K g.mg G H as st → Rn g.K g.mg G as σ e → PX g.K g.mg W G H as σ (m e st) Q → t W σ H Q
def ST (g : Gb) (t : WX → TT) (m : XM Bool) : Prop := ∀ (W : WX) (G H : Hp) (as : List Addr) (st : Store) (σ : L2.St) (e : Nv) (Q : Bool → Hp → Prop), Ri g.K g.mg G H as st → Rn g.K g.mg G as σ e → PXB g.K g.mg W G H as σ (m e st) Q → t W σ H Q
def SA (g : Gb) (t : WX → TA) (m : XM (List D)) : Prop := ∀ (W : WX) (G H : Hp) (as : List Addr) (st : Store) (σ : L2.St) (e : Nv) (Q : List V → Hp → Prop), Ri g.K g.mg G H as st → Rn g.K g.mg G as σ e → PXA g.K g.mg W G H as σ (m e st) Q → t W σ H Q
def SS (g : Gb) (t : WX → TS) (m : SM) : Prop := ∀ (W : WX) (G H : Hp) (as : List Addr) (st : Store) (σ : L2.St) (e : Nv) (E : Ends), Ri g.K g.mg G H as st → Rn g.K g.mg G as σ e → PS_ g.K g.mg W G H as e.length (m e st) E → t W E σ H
variable (F : Fam g)
def JE (ex : Expr) (m : XM D) : Prop := ∃ t : WX → TE, (∀ W X, F.mem W X → PE X ex (t W)) ∧ SE g t m
def JT (ex : Expr) (m : XM Bool) : Prop := ∃ t : WX → TT, (∀ W X, F.mem W X → PT X ex (t W)) ∧ ST g t m
def JA (ex : List Expr) (m : XM (List D)) : Prop := ∃ t : WX → TA, (∀ W X, F.mem W X → PA X ex (t W)) ∧ SA g t m
def JS (s : Stmt) (m : SM) : Prop := ∃ t : WX → TS, (∀ W X, F.mem W X → L2.PS X s (t W)) ∧ SS g t m
def JSs (s : List Stmt) (m : SM) : Prop := ∃ t : WX → TS, (∀ W X, F.mem W X → PSs X s (t W)) ∧ SS g t m
end

/-! ## carrying what is wanted -/
section
variable {K : PySem.W.Frag} {mg : Str → Option Value} {W : WX} {G H G1 H1 : Hp} {as as1 : List Addr} {σ : L2.St} {e : Nv} {st : Store} {n : Nat}
theorem PX.ext {r : RX D} {Q : VK} (h : PX K mg W G H as σ r Q) (x : Ext G H as G1 H1 as1) : PX K mg W G1 H1 as1 σ r Q := by
  cases r with
  | ok d st' => exact fun v G' H' as' R y => h v G' H' as' R (x.trans y)
  | exc c p st' => exact fun cls d G' H' as' R y => h cls d G' H' as' R (x.trans y)
  | stuck => exact h
theorem PXB.ext {r : RX Bool} {Q : Bool → Hp → Prop} (h : PXB K mg W G H as σ r Q) (x : Ext G H as G1 H1 as1) : PXB K mg W G1 H1 as1 σ r Q := by
  cases r with
  | ok d st' => exact fun G' H' as' R y => h G' H' as' R (x.trans y)
  | exc c p st' => exact fun cls d G' H' as' R y => h cls d G' H' as' R (x.trans y)
  | stuck => exact h
theorem PXA.ext {r : RX (List D)} {Q : List V → Hp → Prop} (h : PXA K mg W G H as σ r Q) (x : Ext G H as G1 H1 as1) : PXA K mg W G1 H1 as1 σ r Q := by
  cases r with
  | ok d st' => exact fun v G' H' as' R y => h v G' H' as' R (x.trans y)
  | exc c p st' => exact fun cls d G' H' as' R y => h cls d G' H' as' R (x.trans y)
  | stuck => exact h
theorem PS_.ext {r : RS} {E : Ends} (h : PS_ K mg W G H as n r E) (x : Ext G H as G1 H1 as1) : PS_ K mg W G1 H1 as1 n r E := by
  cases r with
  | nx e st' => exact fun σ G' H' as' R N y => h σ G' H' as' R N (x.trans y)
  | bk e st' => exact fun σ G' H' as' R N y => h σ G' H' as' R N (x.trans y)
  | ct e st' => exact fun σ G' H' as' R N y => h σ G' H' as' R N (x.trans y)
  | rt d st' => exact fun v G' H' as' R y => h v G' H' as' R (x.trans y)
  | exc c p e st' => exact fun σ cls d G' H' as' R N y => h σ cls d G' H' as' R N (x.trans y)
  | stuck => exact h
end
/-! the first part of a row of parts -/
section
variable {g : Gb} {W : WX} {G H : Hp} {as : List Addr} {σ : L2.St} {e : Nv} {st : Store}
theorem SE.one {t : WX → TE} {m : XM D} {f : D → XM D} {Q Q1 : VK} (s : SE g t m) (R : Ri g.K g.mg G H as st) (N : Rn g.K g.mg G as σ e) (h : PX g.K g.mg W G H as σ (xbind m f e st) Q)
    (k : ∀ x st1 v G1 H1 as1, Ri g.K g.mg G1 H1 as1 st1 → Ext G H as G1 H1 as1 → Rn g.K g.mg G1 as1 σ e → Rp g.K g.mg G1 as1 v x → PX g.K g.mg W G1 H1 as1 σ (f x e st1) Q → Q1 v H1) : t W σ H Q1 := by
  refine s W G H as st σ e Q1 R N ?_
  unfold xbind at h
  cases q : m e st with
  | ok x st1 =>
    rw [q] at h
    exact fun v G1 H1 as1 R1 X1 rv => k x st1 v G1 H1 as1 R1 X1 (N.ext X1) rv (PX.ext (r := f x e st1) h X1)
  | exc c p st1 => rw [q] at h; exact h
  | stuck => rw [q] at h; exact h.elim
theorem SE.oneA {t : WX → TE} {m : XM D} {f : D → XM (List D)} {Q : List V → Hp → Prop} {Q1 : VK} (s : SE g t m) (R : Ri g.K g.mg G H as st) (N : Rn g.K g.mg G as σ e) (h : PXA g.K g.mg W G H as σ (xbind m f e st) Q)
    (k : ∀ x st1 v G1 H1 as1, Ri g.K g.mg G1 H1 as1 st1 → Ext G H as G1 H1 as1 → Rn g.K g.mg G1 as1 σ e → Rp g.K g.mg G1 as1 v x → PXA g.K g.mg W G1 H1 as1 σ (f x e st1) Q → Q1 v H1) : t W σ H Q1 := by
  refine s W G H as st σ e Q1 R N ?_
  unfold xbind at h
  cases q : m e st with
  | ok x st1 =>
    rw [q] at h
    exact fun v G1 H1 as1 R1 X1 rv => k x st1 v G1 H1 as1 R1 X1 (N.ext X1) rv (PXA.ext (r := f x e st1) h X1)
  | exc c p st1 => rw [q] at h; exact h
  | stuck => rw [q] at h; exact h.elim
theorem SE.oneB {t : WX → TE} {m : XM D} {f : D → XM Bool} {Q : Bool → Hp → Prop} {Q1 : VK} (s : SE g t m) (R : Ri g.K g.mg G H as st) (N : Rn g.K g.mg G as σ e) (h : PXB g.K g.mg W G H as σ (xbind m f e st) Q)
    (k : ∀ x st1 v G1 H1 as1, Ri g.K g.mg G1 H1 as1 st1 → Ext G H as G1 H1 as1 → Rn g.K g.mg G1 as1 σ e → Rp g.K g.mg G1 as1 v x → PXB g.K g.mg W G1 H1 as1 σ (f x e st1) Q → Q1 v H1) : t W σ H Q1 := by
  refine s W G H as st σ e Q1 R N ?_
  unfold xbind at h
  cases q : m e st with
  | ok x st1 =>
    rw [q] at h
    exact fun v G1 H1 as1 R1 X1 rv => k x st1 v G1 H1 as1 R1 X1 (N.ext X1) rv (PXB.ext (r := f x e st1) h X1)
  | exc c p st1 => rw [q] at h; exact h
  | stuck => rw [q] at h; exact h.elim
theorem ST.one {t : WX → TT} {m : XM Bool} {f : Bool → XM D} {Q : VK} {Q1 : Bool → Hp → Prop} (s : ST g t m) (R : Ri g.K g.mg G H as st) (N : Rn g.K g.mg G as σ e) (h : PX g.K g.mg W G H as σ (xbind m f e st) Q)
    (k : ∀ x st1 G1 H1 as1, Ri g.K g.mg G1 H1 as1 st1 → Ext G H as G1 H1 as1 → Rn g.K g.mg G1 as1 σ e → PX g.K g.mg W G1 H1 as1 σ (f x e st1) Q → Q1 x H1) : t W σ H Q1 := by
  refine s W G H as st σ e Q1 R N ?_
  unfold xbind at h
  cases q : m e st with
  | ok x st1 =>
    rw [q] at h
    exact fun G1 H1 as1 R1 X1 => k x st1 G1 H1 as1 R1 X1 (N.ext X1) (PX.ext (r := f x e st1) h X1)
  | exc c p st1 => rw [q] at h; exact h
  | stuck => rw [q] at h; exact h.elim
theorem ST.oneB {t : WX → TT} {m : XM Bool} {f : Bool → XM Bool} {Q Q1 : Bool → Hp → Prop} (s : ST g t m) (R : Ri g.K g.mg G H as st) (N : Rn g.K g.mg G as σ e) (h : PXB g.K g.mg W G H as σ (xbind m f e st) Q)
    (k : ∀ x st1 G1 H1 as1, Ri g.K g.mg G1 H1 as1 st1 → Ext G H as G1 H1 as1 → Rn g.K g.mg G1 as1 σ e → PXB g.K g.mg W G1 H1 as1 σ (f x e st1) Q → Q1 x H1) : t W σ H Q1 := by
  refine s W G H as st σ e Q1 R N ?_
  unfold xbind at h
  cases q : m e st with
  | ok x st1 =>
    rw [q] at h
    exact fun G1 H1 as1 R1 X1 => k x st1 G1 H1 as1 R1 X1 (N.ext X1) (PXB.ext (r := f x e st1) h X1)
  | exc c p st1 => rw [q] at h; exact h
  | stuck => rw [q] at h; exact h.elim
theorem SA.one {t : WX → TA} {m : XM (List D)} {f : List D → XM D} {Q : VK} {Q1 : List V → Hp → Prop} (s : SA g t m) (R : Ri g.K g.mg G H as st) (N : Rn g.K g.mg G as σ e) (h : PX g.K g.mg W G H as σ (xbind m f e st) Q)
    (k : ∀ x st1 v G1 H1 as1, Ri g.K g.mg G1 H1 as1 st1 → Ext G H as G1 H1 as1 → Rn g.K g.mg G1 as1 σ e → RpA g.K g.mg G1 as1 v x → PX g.K g.mg W G1 H1 as1 σ (f x e st1) Q → Q1 v H1) : t W σ H Q1 := by
  refine s W G H as st σ e Q1 R N ?_
  unfold xbind at h
  cases q : m e st with
  | ok x st1 =>
    rw [q] at h
    exact fun v G1 H1 as1 R1 X1 rv => k x st1 v G1 H1 as1 R1 X1 (N.ext X1) rv (PX.ext (r := f x e st1) h X1)
  | exc c p st1 => rw [q] at h; exact h
  | stuck => rw [q] at h; exact h.elim
theorem SA.oneA {t : WX → TA} {m : XM (List D)} {f : List D → XM (List D)} {Q Q1 : List V → Hp → Prop} (s : SA g t m) (R : Ri g.K g.mg G H as st) (N : Rn g.K g.mg G as σ e) (h : PXA g.K g.mg W G H as σ (xbind m f e st) Q)
    (k : ∀ x st1 v G1 H1 as1, Ri g.K g.mg G1 H1 as1 st1 → Ext G H as G1 H1 as1 → Rn g.K g.mg G1 as1 σ e → RpA g.K g.mg G1 as1 v x → PXA g.K g.mg W G1 H1 as1 σ (f x e st1) Q → Q1 v H1) : t W σ H Q1 := by
  refine s W G H as st σ e Q1 R N ?_
  unfold xbind at h
  cases q : m e st with
  | ok x st1 =>
    rw [q] at h
    exact fun v G1 H1 as1 R1 X1 rv => k x st1 v G1 H1 as1 R1 X1 (N.ext X1) rv (PXA.ext (r := f x e st1) h X1)
  | exc c p st1 => rw [q] at h; exact h
  | stuck => rw [q] at h; exact h.elim

end
section
variable {K : PySem.W.Frag} {mg : Str → Option Value} {W : WX} {G H : Hp} {as : List Addr} {σ : L2.St} {st : Store}
/-- the end of a pure row -/
theorem PX.pure {d : D} {v : V} {Q : VK} (R : Ri K mg G H as st) (r : Rp K mg G as v d) (h : PX K mg W G H as σ (.ok d st) Q) : Q v H := h v G H as R Ext.refl r
/-- .. of a new thing that stands still -/
theorem PX.still {d : D} {Q : VK} {p : Addr} {o : HO} (R : Ri K mg G H as st) (n : H p = none) (r : Rp K mg (upd G p o) as (.ref p) d) (h : PX K mg W G H as σ (.ok d st) Q) : Q (.ref p) (upd H p o) :=
  let ⟨R', x⟩ := R.still (o := o) n; h _ _ _ as R' x r
end
end LS
end
section
set_option maxRecDepth 100000
set_option maxHeartbeats 2000000
namespace LS
open PySem PySem.Spec L2

def LIM : Nat := 1000000
theorem lim_le {n : Nat} (h : n ≤ LIM) : n ≤ sizeLine := Nat.le_trans h (by rw [sizeLine_eq]; decide)
theorem lim_lt {n : Nat} (h : n < LIM) : n < sizeLine := Nat.lt_of_lt_of_le h (by rw [sizeLine_eq]; decide)

/-! ## lists and rows -/
def lstOf (st : Store) : D → Option (List D)
  | .lst xs => some xs
  | .ref i => match st[i]? with
    | some (.lst xs) => some xs
    | _ => none
  | _ => none
def seqOf (st : Store) : D → Option (List D)
  | .tup xs => some xs
  | .sq xs => some xs
  | .tpz xs => some xs
  | d => lstOf st d
section
variable {K : PySem.W.Frag} {mg : Str → Option Value} {G H : Hp} {as : List Addr} {st : Store} {v : V} {d : D} {xs : List D}
theorem sqL_H (R : Ri K mg G H as st) {a : Addr} {vs : List V} (h : SqL K G a vs) : SqL K H a vs := sqL_sub R.sub h
theorem sqT_H (R : Ri K mg G H as st) {a : Addr} {vs : List V} (h : SqT K G a vs) : SqT K H a vs := sqT_sub R.sub h
theorem lstOf_ok (R : Ri K mg G H as st) (r : Rp K mg G as v d) (h : lstOf st d = some xs) : ∃ a vs, v = .ref a ∧ H a = some (.lst vs) ∧ RpA K mg G as vs xs := by
  cases r with
  | lst s q =>
    have e : _ = xs := Option.some.inj h
    subst e
    exact ⟨_, _, rfl, R.sub _ _ s, q⟩
  | ref q =>
    rename_i a i
    unfold lstOf at h
    cases hs : st[i]? with
    | none => simp [hs] at h
    | some m =>
      cases m with
      | lst ys =>
        simp only [hs, Option.some.injEq] at h
        subst h
        obtain ⟨ho, e, o⟩ := R.at_ q hs
        cases o with | lst r => exact ⟨_, _, rfl, e, r⟩
      | _ => simp [hs] at h
  | _ => cases h
theorem seqOf_ok (R : Ri K mg G H as st) (r : Rp K mg G as v d) (h : seqOf st d = some xs) : ∃ a vs, v = .ref a ∧ (SqL K H a vs ∨ SqT K H a vs) ∧ RpA K mg G as vs xs := by
  cases r with
  | tup s q =>
    have e : _ = xs := Option.some.inj h
    subst e
    exact ⟨_, _, rfl, .inr (sqT_H R s), q⟩
  | sq s q =>
    have e : _ = xs := Option.some.inj h
    subst e
    exact ⟨_, _, rfl, .inl (sqL_H R s), q⟩
  | tpz s z q =>
    have e : _ = xs := Option.some.inj h
    subst e
    exact ⟨_, _, rfl, .inr (.inl (.inr ⟨_, R.sub _ _ s⟩)), q⟩
  | lst s q =>
    obtain ⟨a, vs, e, h1, h2⟩ := lstOf_ok R (Rp.lst s q) h
    exact ⟨a, vs, e, .inl (.of h1), h2⟩
  | ref q =>
    obtain ⟨a, vs, e, h1, h2⟩ := lstOf_ok R (Rp.ref q) h
    exact ⟨a, vs, e, .inl (.of h1), h2⟩
  | _ => cases h
end

/-! ## names and constants -/
section
variable {g : Gb} {F : Fam g} {pos : Pos}
def xvar (i : Nat) : XM D := fun e st => match e[i]? with
  | some (some d) => .ok d st
  | _ => .stuck
theorem je_var (i : Nat) {x : Str} (hN : F.N[i]? = some x) (hv : Vis F.sc x) (hd : (x == ("__debug__" : Str)) = false := by decide) (hcd : (x == ("__classdict__" : Str)) = false := by decide) : JE F (.Name x pos) (xvar i) := by
  refine ⟨fun _ => tVar i, fun W X m => pe_var (by rw [F.hN m]; exact hN) (by rw [F.hsc m]; exact hv) hd hcd, ?_⟩
  intro W G H as st σ e Q R N h
  unfold xvar at h
  split at h
  · rename_i d q
    obtain ⟨v, e1, r⟩ := N.at_ _ _ q
    exact ⟨v, e1, h.pure R r⟩
  · exact h.elim
theorem je_c {v : V} {d : D} {ex : Expr} (hp : ∀ X : Cx, PE X ex (tC v)) (hr : ∀ G as, Rp g.K g.mg G as v d) : JE F ex (xpure d) :=
  ⟨fun _ => tC v, fun _ X _ => hp X, fun W G H as st σ e Q R N h => h.pure R (hr G as)⟩
theorem je_int {i : Int} {j} : JE F (.Constant (.int i) j pos) (xpure (.int i)) := je_c (fun _ => pe_int) fun _ _ => .int i
theorem je_bl {b : Bool} {j} : JE F (.Constant (.bool b) j pos) (xpure (.bl b)) := je_c (fun _ => pe_bl) fun _ _ => .bl b
theorem je_non {j} : JE F (.Constant .none j pos) (xpure .non) := je_c (fun _ => pe_non) fun _ _ => .non
theorem je_str {x : Str} {j} : JE F (.Constant (.str x) j pos) (xpure (.str x)) := je_c (fun _ => pe_str) fun _ _ => .str x
theorem je_gint {x : Str} {i : Int} (hg : F.sc.names.lookup x = some .globalImplicit) (hm : ∃ t, g.mg x = some (.int i t)) (hd : (x == ("__debug__" : Str)) = false := by decide) : JE F (.Name x pos) (xpure (.int i)) := by
  obtain ⟨t, hm⟩ := hm
  refine ⟨fun _ => tC (.int i), fun W X m => pe_glob (u := .int i t) (by show X.env.scope.names.lookup x = _; rw [F.hsc m]; exact hg) (by rw [F.hmg m]; exact hm) ⟨t, rfl⟩ hd, ?_⟩
  exact fun W G H as st σ e Q R N h => h.pure R (.int i)
theorem je_gstr {x : Str} {z : Str} (hg : F.sc.names.lookup x = some .globalImplicit) (hm : ∃ t, g.mg x = some (.str z t)) (hd : (x == ("__debug__" : Str)) = false := by decide) : JE F (.Name x pos) (xpure (.str z)) := by
  obtain ⟨t, hm⟩ := hm
  refine ⟨fun _ => tC (.str z), fun W X m => pe_glob (u := .str z t) (by show X.env.scope.names.lookup x = _; rw [F.hsc m]; exact hg) (by rw [F.hmg m]; exact hm) ⟨t, rfl⟩ hd, ?_⟩
  exact fun W G H as st σ e Q R N h => h.pure R (.str z)
theorem je_gfn {x : Str} {a : Addr} (hg : F.sc.names.lookup x = some .globalImplicit) (hm : g.mg x = some (.ref a)) (hd : (x == ("__debug__" : Str)) = false := by decide) : JE F (.Name x pos) (xpure (.glo x)) := by
  refine ⟨fun _ => tC (.ref a), fun W X m => pe_glob (u := .ref a) (by show X.env.scope.names.lookup x = _; rw [F.hsc m]; exact hg) (by rw [F.hmg m]; exact hm) rfl hd, ?_⟩
  exact fun W G H as st σ e Q R N h => h.pure R (.glo x a hm)
/-- a built-in class by its name -/
theorem je_gty {x : Str} {n : String} (hg : F.sc.names.lookup x = some .globalImplicit) (hm : g.mg x = none) (hv : bootBuiltins x = some (.type n)) (hn : x ≠ "__name__" := by decide) (hd : (x == ("__debug__" : Str)) = false := by decide) : JE F (.Name x pos) (xpure (.ty n)) := by
  refine ⟨fun _ => tC (.ty n), fun W X m => pe_bltn (u := .type n) (by show X.env.scope.names.lookup x = _; rw [F.hsc m]; exact hg) (by rw [F.hmg m]; exact hm) hv rfl hn hd, ?_⟩
  exact fun W G H as st σ e Q R N h => h.pure R (.ty n)

/-! ## arguments, displays -/
theorem ja_nil : JA F [] (xpure []) := ⟨fun _ => tNil, fun _ _ _ => pa_nil, fun W G H as st σ e Q R N h => h [] G H as R Ext.refl .nil⟩
def xcons (m : XM D) (ms : XM (List D)) : XM (List D) := xbind m fun x => xbind ms fun xs => xpure (x :: xs)
theorem ja_cons {ex : Expr} {es : List Expr} {m : XM D} {ms : XM (List D)} (h : JE F ex m) (hs : JA F es ms) (hst : ∀ env, starEach (ex :: es) env = (false, eval ex env) :: starEach es env := by intro _; rfl) : JA F (ex :: es) (xcons m ms) := by
  obtain ⟨t, p, s⟩ := h
  obtain ⟨ts, ps, ss⟩ := hs
  refine ⟨fun W => tCons (t W) (ts W), fun W X m => pa_cons (p W X m) (ps W X m) (hst _), ?_⟩
  intro W G H as st σ e Q R N h
  refine s.oneA R N h fun x st1 v G1 H1 as1 R1 X1 N1 rv h1 => ?_
  refine ss.oneA R1 N1 h1 fun xs st2 vs G2 H2 as2 R2 X2 N2 rvs h2 => ?_
  exact h2 _ _ _ _ R2 Ext.refl (.cons (rv.ext X2) rvs)
def xtup (ms : XM (List D)) : XM D := xbind ms fun xs => fun _ st => if xs.length ≤ LIM then .ok (.tup xs) st else .stuck
theorem je_tup {es : List Expr} {k : Nat} {ms : XM (List D)} (hs : JA F es ms) : JE F (.Tuple es k pos) (xtup ms) := by
  obtain ⟨ts, ps, ss⟩ := hs
  refine ⟨fun W => tTup (ts W), fun W X m => pe_tup (ps W X m), ?_⟩
  intro W G H as st σ e Q R N h
  refine ss.one R N h fun xs st1 vs G1 H1 as1 R1 X1 N1 rv h1 => ?_
  by_cases hl : xs.length ≤ LIM
  · rw [if_pos hl] at h1
    refine ⟨by rw [rv.len]; exact lim_le hl, fun p hp => ?_⟩
    exact PX.still R1 hp (.tup (.inl (.inl upd_same)) (rv.ext (R1.still (o := .tup vs) hp).2)) h1
  · rw [if_neg hl] at h1; exact h1.elim
/-- a list that stands still from now on -/
def xlst (ms : XM (List D)) : XM D := xbind ms fun xs => fun _ st => if xs.length ≤ LIM then .ok (.lst xs) st else .stuck
theorem je_lst {es : List Expr} {ms : XM (List D)} (hs : JA F es ms) : JE F (.List es pos) (xlst ms) := by
  obtain ⟨ts, ps, ss⟩ := hs
  refine ⟨fun W => tLst (ts W), fun W X m => pe_lst (ps W X m), ?_⟩
  intro W G H as st σ e Q R N h
  refine ss.one R N h fun xs st1 vs G1 H1 as1 R1 X1 N1 rv h1 => ?_
  by_cases hl : xs.length ≤ LIM
  · rw [if_pos hl] at h1
    refine ⟨by rw [rv.len]; exact lim_le hl, fun p hp => ?_⟩
    exact PX.still R1 hp (.lst upd_same (rv.ext (R1.still (o := .lst vs) hp).2)) h1
  · rw [if_neg hl] at h1; exact h1.elim
/-- a list that will move -/
def xlstM (ms : XM (List D)) : XM D := xbind ms fun xs => fun _ st => if xs.length ≤ LIM then .ok (.ref st.length) (st ++ [.lst xs]) else .stuck
theorem je_lstM {es : List Expr} {ms : XM (List D)} (hs : JA F es ms) : JE F (.List es pos) (xlstM ms) := by
  obtain ⟨ts, ps, ss⟩ := hs
  refine ⟨fun W => tLst (ts W), fun W X m => pe_lst (ps W X m), ?_⟩
  intro W G H as st σ e Q R N h
  refine ss.one R N h fun xs st1 vs G1 H1 as1 R1 X1 N1 rv h1 => ?_
  by_cases hl : xs.length ≤ LIM
  · rw [if_pos hl] at h1
    refine ⟨by rw [rv.len]; exact lim_le hl, fun p hp => ?_⟩
    obtain ⟨R2, X2⟩ := R1.moving (o := .lst vs) hp (.lst rv)
    refine h1 _ _ _ _ R2 X2 (.ref ?_)
    rw [← R1.len, List.getElem?_append_right (Nat.le_refl _), Nat.sub_self]; rfl
  · rw [if_neg hl] at h1; exact h1.elim

/-! ## operators on values -/
def OpS (F : Fam g) (f : Value → Value → Sem Value) (fop : D → D → XM D) : Prop := ∃ r : R2, (∀ W X, F.mem W X → OpR X f r) ∧
  ∀ (W : WX) (G H : Hp) (as : List Addr) (st : Store) (σ : L2.St) (e : Nv) (x y : D) (v w : V) (Q : VK), Ri g.K g.mg G H as st → Rp g.K g.mg G as v x → Rp g.K g.mg G as w y → PX g.K g.mg W G H as σ (fop x y e st) Q → r v w H Q
def xop (fop : D → D → XM D) (ma mb : XM D) : XM D := xbind ma fun x => xbind mb fun y => fop x y
theorem je_op {a b : Expr} {op : Operator} {ma mb : XM D} {fop : D → D → XM D} (ho : OpS F (binaryOp op) fop) (ha : JE F a ma) (hb : JE F b mb) : JE F (.BinOp a op b pos) (xop fop ma mb) := by
  obtain ⟨r, hr, hv⟩ := ho
  obtain ⟨ta, pa, sa⟩ := ha
  obtain ⟨tb, pb, sb⟩ := hb
  refine ⟨fun W => tOp r (ta W) (tb W), fun W X m => pe_op (hr W X m) (pa W X m) (pb W X m), ?_⟩
  intro W G H as st σ e Q R N h
  refine sa.one R N h fun x st1 v G1 H1 as1 R1 X1 N1 rv h1 => ?_
  refine sb.one R1 N1 h1 fun y st2 w G2 H2 as2 R2 X2 N2 rw' h2 => ?_
  exact hv W G2 H2 as2 st2 σ e x y v w Q R2 (rv.ext X2) rw' h2
theorem je_cmp {a b : Expr} {op : CmpOp} {ma mb : XM D} {fop : D → D → XM D} (ho : OpS F (compareOp op) fop) (ha : JE F a ma) (hb : JE F b mb) (hm : behindInMarks op b = false) : JE F (.Compare a [op] [b] pos) (xop fop ma mb) := by
  obtain ⟨r, hr, hv⟩ := ho
  obtain ⟨ta, pa, sa⟩ := ha
  obtain ⟨tb, pb, sb⟩ := hb
  refine ⟨fun W => tOp r (ta W) (tb W), fun W X m => pe_cmpR (hr W X m) (pa W X m) (pb W X m) hm, ?_⟩
  intro W G H as st σ e Q R N h
  refine sa.one R N h fun x st1 v G1 H1 as1 R1 X1 N1 rv h1 => ?_
  refine sb.one R1 N1 h1 fun y st2 w G2 H2 as2 R2 X2 N2 rw' h2 => ?_
  exact hv W G2 H2 as2 st2 σ e x y v w Q R2 (rv.ext X2) rw' h2
/-- a bool asked for -/
def xbool (m : XM D) : XM Bool := xbind m fun x => fun _ st => match x with
  | .bl b => .ok b st
  | _ => .stuck
theorem SE.bool {t : WX → TE} {m : XM D} (s : SE g t m) : ST g (fun W => tTest (t W)) (xbool m) := by
  intro W G H as st σ e Q R N h
  refine s.oneB R N h fun x st1 v G1 H1 as1 R1 X1 N1 rv h1 => ?_
  cases rv with
  | bl b => exact ⟨b, rfl, h1 G1 H1 as1 R1 Ext.refl⟩
  | _ => exact h1.elim
theorem jt_cmp {a b : Expr} {op : CmpOp} {ma mb : XM D} {fop : D → D → XM D} (ho : OpS F (compareOp op) fop) (ha : JE F a ma) (hb : JE F b mb) (hm : behindInMarks op b = false) : JT F (.Compare a [op] [b] pos) (xbool (xop fop ma mb)) := by
  obtain ⟨r, hr, hv⟩ := ho
  obtain ⟨ta, pa, sa⟩ := ha
  obtain ⟨tb, pb, sb⟩ := hb
  refine ⟨fun W => tTest (tOp r (ta W) (tb W)), fun W X m => pt_cmpR (hr W X m) (pa W X m) (pb W X m) hm, SE.bool (t := fun W => tOp r (ta W) (tb W)) ?_⟩
  intro W G H as st σ e Q R N h
  refine sa.one R N h fun x st1 v G1 H1 as1 R1 X1 N1 rv h1 => ?_
  refine sb.one R1 N1 h1 fun y st2 w G2 H2 as2 R2 X2 N2 rw' h2 => ?_
  exact hv W G2 H2 as2 st2 σ e x y v w Q R2 (rv.ext X2) rw' h2
/-- a op b op' c -/
def xchain (f f' : D → D → XM D) (ma mb mc : XM D) : XM D := xbind ma fun x => xbind mb fun y => xbind (f x y) fun z => match z with
  | .bl true => xbind mc fun w => f' y w
  | .bl false => xpure (.bl false)
  | _ => fun _ _ => .stuck
theorem chain_SE {r r' : R2} {ta tb tc : WX → TE} {ma mb mc : XM D} {f f' : D → D → XM D}
    (hv : ∀ (W : WX) (G H : Hp) (as : List Addr) (st : Store) (σ : L2.St) (e : Nv) (x y : D) (v w : V) (Q : VK), Ri g.K g.mg G H as st → Rp g.K g.mg G as v x → Rp g.K g.mg G as w y → PX g.K g.mg W G H as σ (f x y e st) Q → r v w H Q)
    (hv' : ∀ (W : WX) (G H : Hp) (as : List Addr) (st : Store) (σ : L2.St) (e : Nv) (x y : D) (v w : V) (Q : VK), Ri g.K g.mg G H as st → Rp g.K g.mg G as v x → Rp g.K g.mg G as w y → PX g.K g.mg W G H as σ (f' x y e st) Q → r' v w H Q)
    (sa : SE g ta ma) (sb : SE g tb mb) (sc : SE g tc mc) : SE g (fun W => tChain r r' (ta W) (tb W) (tc W)) (xchain f f' ma mb mc) := by
  intro W G H as st σ e Q R N h
  refine sa.one R N h fun x st1 v G1 H1 as1 R1 X1 N1 rv h1 => ?_
  refine sb.one R1 N1 h1 fun y st2 w G2 H2 as2 R2 X2 N2 rw' h2 => ?_
  refine hv W G2 H2 as2 st2 σ e x y v w _ R2 (rv.ext X2) rw' ?_
  unfold xbind at h2
  cases q : f x y e st2 with
  | stuck => rw [q] at h2; exact h2.elim
  | exc c p st3 => rw [q] at h2; exact h2
  | ok z st3 =>
    rw [q] at h2
    intro u G3 H3 as3 R3 X3 ru
    cases ru with
    | bl b =>
      cases b with
      | false => exact ⟨false, rfl, iteF ((PX.ext (r := .ok (.bl false) st3) h2 X3).pure R3 (.bl false))⟩
      | true =>
        refine ⟨true, rfl, iteT ?_⟩
        have h3 : PX g.K g.mg W G3 H3 as3 σ (xbind mc (fun w => f' y w) e st3) Q := PX.ext (r := xbind mc (fun w => f' y w) e st3) h2 X3
        refine sc.one R3 ((N2.ext X3)) h3 fun w' st4 z' G4 H4 as4 R4 X4 N4 rz h4 => ?_
        exact hv' W G4 H4 as4 st4 σ e y w' w z' Q R4 ((rw'.ext X3).ext X4) rz h4
    | _ => exact h2.elim
theorem je_chain {a b c : Expr} {op op' : CmpOp} {ma mb mc : XM D} {f f' : D → D → XM D} (ho : OpS F (compareOp op) f) (ho' : OpS F (compareOp op') f') (ha : JE F a ma) (hb : JE F b mb) (hc : JE F c mc) (hm : lastMarks [op, op'] [b, c] = false := by with_unfolding_all rfl) :
    JE F (.Compare a [op, op'] [b, c] pos) (xchain f f' ma mb mc) := by
  obtain ⟨r, hr, hv⟩ := ho
  obtain ⟨r', hr', hv'⟩ := ho'
  obtain ⟨ta, pa, sa⟩ := ha
  obtain ⟨tb, pb, sb⟩ := hb
  obtain ⟨tc, pc, sc⟩ := hc
  exact ⟨fun W => tChain r r' (ta W) (tb W) (tc W), fun W X m => pe_chain (hr W X m) (hr' W X m) (pa W X m) (pb W X m) (pc W X m) hm, chain_SE hv hv' sa sb sc⟩
theorem jt_chain {a b c : Expr} {op op' : CmpOp} {ma mb mc : XM D} {f f' : D → D → XM D} (ho : OpS F (compareOp op) f) (ho' : OpS F (compareOp op') f') (ha : JE F a ma) (hb : JE F b mb) (hc : JE F c mc) (hm : lastMarks [op, op'] [b, c] = false := by with_unfolding_all rfl) :
    JT F (.Compare a [op, op'] [b, c] pos) (xbool (xchain f f' ma mb mc)) := by
  obtain ⟨r, hr, hv⟩ := ho
  obtain ⟨r', hr', hv'⟩ := ho'
  obtain ⟨ta, pa, sa⟩ := ha
  obtain ⟨tb, pb, sb⟩ := hb
  obtain ⟨tc, pc, sc⟩ := hc
  exact ⟨fun W => tTest (tChain r r' (ta W) (tb W) (tc W)), fun W X m => pt_chain (hr W X m) (hr' W X m) (pa W X m) (pb W X m) (pc W X m) hm, SE.bool (chain_SE hv hv' sa sb sc)⟩

/-! ## tests -/
/-- an expression as a test, by its truth -/
def truD (st : Store) : D → Option Bool
  | .non => some false
  | .bl b => some b
  | .int i => some (i != 0)
  | .str s => if s.length ≤ LIM then some ((s.length : Int) != 0) else none
  | d => (seqOf st d).map fun xs => !xs.isEmpty
def xtru (m : XM D) : XM Bool := xbind m fun x => fun _ st => match truD st x with
  | some b => .ok b st
  | none => .stuck
theorem isEmpty_rp {K : PySem.W.Frag} {mg : Str → Option Value} {G : Hp} {as : List Addr} {vs : List V} {xs : List D} (h : RpA K mg G as vs xs) : vs.isEmpty = xs.isEmpty := by cases h <;> rfl
theorem truD_ok {K : PySem.W.Frag} {mg : Str → Option Value} {G H : Hp} {as : List Addr} {st : Store} {v : V} {x : D} {b : Bool} (R : Ri K mg G H as st) (r : Rp K mg G as v x) (h : truD st x = some b) : TruV K v H b := by
  have sq : ∀ xs, seqOf st x = some xs → b = !xs.isEmpty → TruV K v H b := fun xs h1 e => by
    obtain ⟨a, vs, rfl, h2, h3⟩ := seqOf_ok R r h1
    rw [e, ← isEmpty_rp h3]
    rcases h2 with h2 | h2
    · exact .inl ⟨vs, h2, rfl⟩
    · exact .inr (.inl ⟨vs, h2, rfl⟩)
  have sq' : (seqOf st x).map (fun xs => !xs.isEmpty) = some b → TruV K v H b := fun h1 => by
    obtain ⟨xs, h2, h3⟩ := Option.map_eq_some_iff.mp h1
    exact sq xs h2 h3.symm
  cases r with
  | non => exact (Option.some.inj h).symm
  | bl b' => exact (Option.some.inj h).symm
  | int i => exact (Option.some.inj h).symm
  | str s =>
    unfold truD at h
    by_cases hl : s.length ≤ LIM
    · simp only [hl, if_true, Option.some.injEq] at h
      exact ⟨lim_le hl, h.symm⟩
    · simp [hl] at h
  | ty n => cases h
  | glo x a q => cases h
  | tup s q => exact sq' h
  | lst s q => exact sq' h
  | sq s q => exact sq' h
  | ref q => exact sq' h
  | tpz s z q => exact sq' h
theorem jt_tru {ex : Expr} {m : XM D} (h : JE F ex m) (he : ∀ env whole, isTrue ex env whole = (do let v ← whole; standAt ex.pos; holding [v] (truthy v)) := by intro _ _; rfl) : JT F ex (xtru m) := by
  obtain ⟨t, p, s⟩ := h
  refine ⟨fun W => fun σ H Q => t W σ H fun x H' => ∃ k, TruV g.K x H' k ∧ Q k H', fun W X m => by have := pt_truth (p W X m) (he _); rw [F.hK m] at this; exact this, ?_⟩
  intro W G H as st σ e Q R N h
  refine s.oneB R N h fun x st1 v G1 H1 as1 R1 X1 N1 rv h1 => ?_
  cases q : truD st1 x with
  | none => simp [q] at h1; exact h1.elim
  | some b =>
    simp only [q] at h1
    exact ⟨b, truD_ok R1 rv q, h1 _ _ _ R1 Ext.refl⟩
def tnot (m : XM Bool) : XM Bool := xbind m fun b => xpure (!b)
theorem jt_not {a : Expr} {m : XM Bool} (h : JT F a m) : JT F (.UnaryOp .Not a pos) (tnot m) := by
  obtain ⟨t, p, s⟩ := h
  refine ⟨fun W => tNot (t W), fun W X m => pt_not (p W X m), ?_⟩
  intro W G H as st σ e Q R N h
  refine s.oneB R N h fun b st1 G1 H1 as1 R1 X1 N1 h1 => ?_
  exact h1 _ _ _ R1 Ext.refl
def tand (m n : XM Bool) : XM Bool := xbind m fun b => if b = true then n else xpure false
def tor (m n : XM Bool) : XM Bool := xbind m fun b => if b = true then xpure true else n
/-- a row of and | or as a test -/
def JW (F : Fam g) (ex : Expr) (m : XM Bool) : Prop := ∃ t : WX → TT, (∀ W X, F.mem W X → PW X ex (t W)) ∧ ST g t m
theorem JW.jt {ex : Expr} {m : XM Bool} (h : JW F ex m) : JT F ex m := let ⟨t, p, s⟩ := h; ⟨t, fun W X m => (p W X m).pt, s⟩
theorem jw_and1 {a : Expr} {m : XM Bool} (h : JT F a m) : JW F (.BoolOp .And [a] pos) m := let ⟨t, p, s⟩ := h; ⟨t, fun W X m => pw_and1 (p W X m), s⟩
theorem jw_or1 {a : Expr} {m : XM Bool} (h : JT F a m) : JW F (.BoolOp .Or [a] pos) m := let ⟨t, p, s⟩ := h; ⟨t, fun W X m => pw_or1 (p W X m), s⟩
theorem jw_and {a b : Expr} {rest : List Expr} {m n : XM Bool} (h : JT F a m) (h' : JW F (.BoolOp .And (b :: rest) pos) n) : JW F (.BoolOp .And (a :: b :: rest) pos) (tand m n) := by
  obtain ⟨t, p, s⟩ := h
  obtain ⟨t', p', s'⟩ := h'
  refine ⟨fun W => tAnd (t W) (t' W), fun W X m => pw_and (p W X m) (p' W X m), ?_⟩
  intro W G H as st σ e Q R N h
  refine s.oneB R N h fun b st1 G1 H1 as1 R1 X1 N1 h1 => ?_
  cases b with
  | true => exact iteT (s' W G1 H1 as1 st1 σ e Q R1 N1 h1)
  | false => exact iteF (h1 _ _ _ R1 Ext.refl)
theorem jw_or {a b : Expr} {rest : List Expr} {m n : XM Bool} (h : JT F a m) (h' : JW F (.BoolOp .Or (b :: rest) pos) n) : JW F (.BoolOp .Or (a :: b :: rest) pos) (tor m n) := by
  obtain ⟨t, p, s⟩ := h
  obtain ⟨t', p', s'⟩ := h'
  refine ⟨fun W => tOr (t W) (t' W), fun W X m => pw_or (p W X m) (p' W X m), ?_⟩
  intro W G H as st σ e Q R N h
  refine s.oneB R N h fun b st1 G1 H1 as1 R1 X1 N1 h1 => ?_
  cases b with
  | true => exact iteT (h1 _ _ _ R1 Ext.refl)
  | false => exact iteF (s' W G1 H1 as1 st1 σ e Q R1 N1 h1)

/-! ## and, or, not as values; a if t else b -/
theorem je_one {a : Expr} {op} {m : XM D} (h : JE F a m) : JE F (.BoolOp op [a] pos) m := let ⟨t, p, s⟩ := h; ⟨t, fun W X m => pe_one (p W X m), s⟩
def xand (m n : XM D) : XM D := xbind m fun x => fun e st => match truD st x with
  | some true => n e st
  | some false => .ok x st
  | none => .stuck
def xor' (m n : XM D) : XM D := xbind m fun x => fun e st => match truD st x with
  | some false => n e st
  | some true => .ok x st
  | none => .stuck
theorem je_and {a b : Expr} {rest : List Expr} {m n : XM D} (h : JE F a m) (h' : JE F (.BoolOp .And (b :: rest) pos) n) : JE F (.BoolOp .And (a :: b :: rest) pos) (xand m n) := by
  obtain ⟨t, p, s⟩ := h
  obtain ⟨t', p', s'⟩ := h'
  refine ⟨fun W => tAndT g.K (t W) (t' W), fun W X m => by have := pe_andT (p W X m) (p' W X m); rw [F.hK m] at this; exact this, ?_⟩
  intro W G H as st σ e Q R N h
  refine s.one R N h fun x st1 v G1 H1 as1 R1 X1 N1 rv h1 => ?_
  cases q : truD st1 x with
  | none => simp [q] at h1; exact h1.elim
  | some b =>
    refine ⟨b, truD_ok R1 rv q, ?_⟩
    cases b with
    | true => exact iteT (s' W G1 H1 as1 st1 σ e Q R1 N1 (by simpa only [q] using h1))
    | false => exact iteF (PX.pure R1 rv (σ := σ) (W := W) (by simpa only [q] using h1))
theorem je_or {a b : Expr} {rest : List Expr} {m n : XM D} (h : JE F a m) (h' : JE F (.BoolOp .Or (b :: rest) pos) n) : JE F (.BoolOp .Or (a :: b :: rest) pos) (xor' m n) := by
  obtain ⟨t, p, s⟩ := h
  obtain ⟨t', p', s'⟩ := h'
  refine ⟨fun W => tOrT g.K (t W) (t' W), fun W X m => by have := pe_orT (p W X m) (p' W X m); rw [F.hK m] at this; exact this, ?_⟩
  intro W G H as st σ e Q R N h
  refine s.one R N h fun x st1 v G1 H1 as1 R1 X1 N1 rv h1 => ?_
  cases q : truD st1 x with
  | none => simp [q] at h1; exact h1.elim
  | some b =>
    refine ⟨b, truD_ok R1 rv q, ?_⟩
    cases b with
    | false => exact iteF (s' W G1 H1 as1 st1 σ e Q R1 N1 (by simpa only [q] using h1))
    | true => exact iteT (PX.pure R1 rv (σ := σ) (W := W) (by simpa only [q] using h1))
def xnot (m : XM D) : XM D := xbind m fun x => fun _ st => match truD st x with
  | some b => .ok (.bl (!b)) st
  | none => .stuck
theorem je_not {a : Expr} {m : XM D} (h : JE F a m) : JE F (.UnaryOp .Not a pos) (xnot m) := by
  obtain ⟨t, p, s⟩ := h
  refine ⟨fun W => tNotT g.K (t W), fun W X m => by have := pe_notT (pos := pos) (p W X m); rw [F.hK m] at this; exact this, ?_⟩
  intro W G H as st σ e Q R N h
  refine s.one R N h fun x st1 v G1 H1 as1 R1 X1 N1 rv h1 => ?_
  cases q : truD st1 x with
  | none => simp [q] at h1; exact h1.elim
  | some b => exact ⟨b, truD_ok R1 rv q, PX.pure R1 (.bl (!b)) (σ := σ) (W := W) (by simpa only [q] using h1)⟩
def xif (c : XM Bool) (m n : XM D) : XM D := xbind c fun b => if b = true then m else n
theorem je_if {c a b : Expr} {mc : XM Bool} {m n : XM D} (hc : JT F c mc) (ha : JE F a m) (hb : JE F b n) : JE F (.IfExp c a b pos) (xif mc m n) := by
  obtain ⟨tc, pc, sc⟩ := hc
  obtain ⟨ta, pa, sa⟩ := ha
  obtain ⟨tb, pb, sb⟩ := hb
  refine ⟨fun W => tIf (tc W) (ta W) (tb W), fun W X m => pe_ifExp (pc W X m) (pa W X m) (pb W X m), ?_⟩
  intro W G H as st σ e Q R N h
  refine sc.one R N h fun b st1 G1 H1 as1 R1 X1 N1 h1 => ?_
  cases b with
  | true => exact iteT (sa W G1 H1 as1 st1 σ e Q R1 N1 h1)
  | false => exact iteF (sb W G1 H1 as1 st1 σ e Q R1 N1 h1)
/-- a minus ahead -/
def xneg (m : XM D) : XM D := xbind m fun x => fun _ st => match x with
  | .int i => .ok (.int (-i)) st
  | _ => .stuck
theorem je_neg {a : Expr} {m : XM D} (h : JE F a m) : JE F (.UnaryOp .USub a pos) (xneg m) := by
  obtain ⟨t, p, s⟩ := h
  refine ⟨fun W => tUn (rU fun i => .int (-i)) (t W), fun W X m => pe_un un_neg (p W X m), ?_⟩
  intro W G H as st σ e Q R N h
  refine s.one R N h fun x st1 v G1 H1 as1 R1 X1 N1 rv h1 => ?_
  cases rv with
  | int i => exact ⟨i, rfl, PX.pure R1 (.int (-i)) h1⟩
  | _ => exact h1.elim
end
end LS
end
section
set_option maxRecDepth 100000
set_option maxHeartbeats 2000000
namespace LS
open PySem PySem.Spec L2

/-! ## data as the library's data -/
mutual
def pyD : D → Option PyData
  | .non => some .none
  | .bl b => some (.bool b)
  | .int i => some (.int i)
  | .str s => some (.str s)
  | .tup xs => (pyDs xs).map .tuple
  | .lst xs => (pyDs xs).map .list
  | .sq xs => (pyDs xs).map .list
  | _ => none
def pyDs : List D → Option (List PyData)
  | [] => some []
  | d :: ds => match pyD d, pyDs ds with
    | some p, some ps => some (p :: ps)
    | _, _ => none
end
def pyOf (st : Store) : D → Option PyData
  | .ref i => match st[i]? with
    | some (.lst xs) => (pyDs xs).map .list
    | _ => none
  | d => pyD d
section
variable {K : PySem.W.Frag} {mg : Str → Option Value} {G H : Hp} {as : List Addr} {st : Store}
mutual
theorem pyD_ok (R : Ri K mg G H as st) : ∀ {d : D} {v : V} {p : PyData}, Rp K mg G as v d → pyD d = some p → Dp K H v p
  | .non, _, _, r, h => by cases r; cases h; exact .non
  | .bl _, _, _, r, h => by cases r; cases h; exact .bl _
  | .int _, _, _, r, h => by cases r; cases h; exact .int _
  | .str _, _, _, r, h => by cases r; cases h; exact .str _
  | .ty _, _, _, _, h => by cases h
  | .glo _, _, _, _, h => by cases h
  | .ref _, _, _, _, h => by cases h
  | .tup xs, _, _, r, h => by
    cases r with
    | tup s q =>
      obtain ⟨ps, e, rfl⟩ := Option.map_eq_some_iff.mp (show (pyDs xs).map PyData.tuple = some _ from h)
      exact .tup (sqT_H R s) (pyDs_ok R q e)
  | .lst xs, _, _, r, h => by
    cases r with
    | lst s q =>
      obtain ⟨ps, e, rfl⟩ := Option.map_eq_some_iff.mp (show (pyDs xs).map PyData.list = some _ from h)
      exact .lst (.of (R.sub _ _ s)) (pyDs_ok R q e)
  | .sq xs, _, _, r, h => by
    cases r with
    | sq s q =>
      obtain ⟨ps, e, rfl⟩ := Option.map_eq_some_iff.mp (show (pyDs xs).map PyData.list = some _ from h)
      exact .lst (sqL_H R s) (pyDs_ok R q e)
theorem pyDs_ok (R : Ri K mg G H as st) : ∀ {ds : List D} {vs : List V} {ps : List PyData}, RpA K mg G as vs ds → pyDs ds = some ps → DpAll K H vs ps
  | [], _, _, r, h => by cases r; cases h; exact .nil
  | d :: ds, _, _, r, h => by
    cases r with
    | cons a b =>
      unfold pyDs at h
      split at h
      · rename_i p qs e1 e2
        cases h
        exact .cons (pyD_ok R a e1) (pyDs_ok R b e2)
      · cases h
end
theorem pyOf_ok (R : Ri K mg G H as st) {d : D} {v : V} {p : PyData} (r : Rp K mg G as v d) (h : pyOf st d = some p) : Dp K H v p := by
  cases r with
  | ref q =>
    rename_i a i
    unfold pyOf at h
    cases hs : st[i]? with
    | none => simp [hs] at h
    | some m =>
      cases m with
      | lst ys =>
        simp only [hs] at h
        obtain ⟨ps, e, rfl⟩ := Option.map_eq_some_iff.mp h
        obtain ⟨ho, e1, o⟩ := R.at_ q hs
        cases o with | lst r' => exact .lst (.of e1) (pyDs_ok R r' e)
      | _ => simp [hs] at h
  | non => exact pyD_ok R .non h
  | bl b => exact pyD_ok R (.bl b) h
  | int i => exact pyD_ok R (.int i) h
  | str i => exact pyD_ok R (.str i) h
  | ty n => cases h
  | glo x a q => cases h
  | tup s q => exact pyD_ok R (.tup s q) h
  | lst s q => exact pyD_ok R (.lst s q) h
  | sq s q => exact pyD_ok R (.sq s q) h
  | tpz s z q => cases h
end
def intsOf : List D → Option (List Int)
  | [] => some []
  | .int i :: r => (intsOf r).map (i :: ·)
  | _ => none
def blsOf : List D → Option (List Bool)
  | [] => some []
  | .bl i :: r => (blsOf r).map (i :: ·)
  | _ => none
theorem intsOf_eq : ∀ {ds : List D} {ns : List Int}, intsOf ds = some ns → ds = ns.map D.int
  | [], _, h => by cases h; rfl
  | .int i :: r, _, h => by
    obtain ⟨ps, e, rfl⟩ := Option.map_eq_some_iff.mp (show (intsOf r).map (i :: ·) = some _ from h)
    rw [intsOf_eq e]; rfl
theorem intsOf_map : ∀ ns : List Int, intsOf (ns.map D.int) = some ns
  | [] => rfl
  | n :: ns => by show (intsOf (ns.map D.int)).map (n :: ·) = _; rw [intsOf_map ns]; rfl
theorem blsOf_eq : ∀ {ds : List D} {ns : List Bool}, blsOf ds = some ns → ds = ns.map D.bl
  | [], _, h => by cases h; rfl
  | .bl i :: r, _, h => by
    obtain ⟨ps, e, rfl⟩ := Option.map_eq_some_iff.mp (show (blsOf r).map (i :: ·) = some _ from h)
    rw [blsOf_eq e]; rfl
theorem blsOf_map : ∀ ns : List Bool, blsOf (ns.map D.bl) = some ns
  | [] => rfl
  | n :: ns => by show (blsOf (ns.map D.bl)).map (n :: ·) = _; rw [blsOf_map ns]; rfl

/-! ## operators -/
section
variable {g : Gb} {F : Fam g}
abbrev dpure (o : Option D) : XM D := fun _ st => match o with
  | some d => .ok d st
  | none => .stuck
def addD (x y : D) : XM D := fun _ st => match x, y with
  | .int i, .int j => .ok (.int (i + j)) st
  | .str a, .str b => if a.length + b.length ≤ LIM then .ok (.str (a ++ b)) st else .stuck
  | .tup xs, .tup ys => if xs.length + ys.length ≤ LIM then .ok (.tup (xs ++ ys)) st else .stuck
  | x, y => match lstOf st x, lstOf st y with
    | some xs, some ys => if xs.length + ys.length ≤ LIM then .ok (.lst (xs ++ ys)) st else .stuck
    | _, _ => .stuck
theorem or1 {f : Value → Value → Sem Value} {X : Cx} {r r' : R2} (h : OpR X f r) (h' : OpR X f r') : OpR X f (fun x y H Q => r x y H Q ∨ r' x y H Q) := h.or h'
theorem addD_lst {K : PySem.W.Frag} {mg : Str → Option Value} {W : WX} {G H : Hp} {as : List Addr} {st : Store} {σ : L2.St} {x y : D} {v w : V} {Q : VK} (R : Ri K mg G H as st) (rx : Rp K mg G as v x) (ry : Rp K mg G as w y)
    (h : PX K mg W G H as σ (match lstOf st x, lstOf st y with | some xs, some ys => if xs.length + ys.length ≤ LIM then .ok (.lst (xs ++ ys)) st else .stuck | _, _ => .stuck) Q) : rCat v w H Q := by
  cases e1 : lstOf st x with
  | none => simp [e1] at h; exact h.elim
  | some xs =>
    cases e2 : lstOf st y with
    | none => simp [e1, e2] at h; exact h.elim
    | some ys =>
      simp only [e1, e2] at h
      by_cases hl : xs.length + ys.length ≤ LIM
      · rw [if_pos hl] at h
        obtain ⟨a, vs, rfl, h1, r1⟩ := lstOf_ok R rx e1
        obtain ⟨b, ws, rfl, h2, r2⟩ := lstOf_ok R ry e2
        refine ⟨a, b, vs, ws, rfl, rfl, h1, h2, by rw [r1.len, r2.len]; exact lim_le hl, fun p hp => ?_⟩
        obtain ⟨R', x'⟩ := R.still (o := .lst (vs ++ ws)) hp
        exact h _ _ _ _ R' x' (.lst upd_same ((r1.append r2).ext x'))
      · rw [if_neg hl] at h; exact h.elim
theorem os_add : OpS F (binaryOp .Add) addD := by
  refine ⟨fun x y H Q => rI0 (fun i j => .int (i + j)) x y H Q ∨ (∃ i j, x = .str i ∧ y = .str j ∧ i.length + j.length ≤ sizeLine ∧ Q (.str (i ++ j)) H) ∨ rCatA g.K x y H Q ∨ rCat x y H Q,
    fun W X m => op_add.or (op_add_str.or (OpR.or (by have := op_catA (X := X); rw [F.hK m] at this; exact this) op_cat)), ?_⟩
  intro W G H as st σ e x y v w Q R rx ry h
  unfold addD at h
  split at h
  · cases rx; cases ry; exact .inl ⟨_, _, rfl, rfl, h.pure R (.int _)⟩
  · rename_i a b
    cases rx; cases ry
    by_cases hl : a.length + b.length ≤ LIM
    · rw [if_pos hl] at h
      exact .inr (.inl ⟨_, _, rfl, rfl, lim_le hl, h.pure R (.str _)⟩)
    · rw [if_neg hl] at h; exact h.elim
  · rename_i xs ys
    by_cases hl : xs.length + ys.length ≤ LIM
    · rw [if_pos hl] at h
      cases rx with
      | tup s1 r1 =>
        cases ry with
        | tup s2 r2 =>
          rename_i a vs b ws
          refine .inr (.inr (.inl ⟨a, b, vs, ws, rfl, rfl, sqT_H R s1, sqT_H R s2, by rw [r1.len, r2.len]; exact lim_le hl, fun z => ?_, fun _ z => ?_, fun _ _ p hp => ?_⟩))
          · subst z; cases r1
            exact h.pure R (.tup s2 r2)
          · subst z; cases r2
            rw [List.append_nil] at h
            exact h.pure R (.tup s1 r1)
          · obtain ⟨R', x'⟩ := R.still (o := .tup (vs ++ ws)) hp
            exact h _ _ _ _ R' x' (.tup (.inl (.inl upd_same)) ((r1.append r2).ext x'))
    · rw [if_neg hl] at h; exact h.elim
  · exact .inr (.inr (.inr (addD_lst R rx ry h)))
def i2 (c : Int → Int → Bool) (f : Int → Int → D) (x y : D) : XM D := fun _ st => match x, y with
  | .int i, .int j => if c i j = true then .ok (f i j) st else .stuck
  | _, _ => .stuck
theorem os_i2 {fv : Value → Value → Sem Value} {C : Int → Int → Prop} {c : Int → Int → Bool} {f : Int → Int → D} {fV : Int → Int → V} (h : ∀ X : Cx, OpR X fv (rI C fV)) (hc : ∀ i j, c i j = true → C i j) (hf : ∀ i j G as, Rp g.K g.mg G as (fV i j) (f i j)) : OpS F fv (i2 c f) := by
  refine ⟨rI C fV, fun W X m => h X, ?_⟩
  intro W G H as st σ e x y v w Q R rx ry q
  unfold i2 at q
  split at q
  · rename_i i j
    cases rx; cases ry
    by_cases hl : c i j = true
    · rw [if_pos hl] at q
      exact ⟨i, j, rfl, rfl, hc i j hl, q.pure R (hf i j _ _)⟩
    · rw [if_neg hl] at q; exact q.elim
  · exact q.elim
theorem op_of0 {fv : Value → Value → Sem Value} {X : Cx} {fV : Int → Int → V} (h : OpR X fv (rI0 fV)) : OpR X fv (rI (fun _ _ => True) fV) := by
  intro pins s σ H x y v u Q I rx ry q
  obtain ⟨i, j, e1, e2, _, q⟩ := q
  exact h pins s σ H x y v u Q I rx ry ⟨i, j, e1, e2, q⟩
abbrev subD : D → D → XM D := i2 (fun _ _ => true) fun i j => .int (i - j)
theorem os_sub : OpS F (binaryOp .Sub) subD := os_i2 (fun _ => op_of0 op_sub) (fun _ _ _ => trivial) fun _ _ _ _ => .int _
def mulC (i j : Int) : Bool := decide (i.natAbs < 2 ^ 64) || decide (j.natAbs < 2 ^ 64) || decide (i.natAbs.log2 + j.natAbs.log2 < 1000000)
abbrev mulD : D → D → XM D := i2 mulC fun i j => .int (i * j)
theorem op_mulA {X : Cx} : OpR X (binaryOp .Mult) (rI (fun i j => mulC i j = true) fun i j => .int (i * j)) := by
  intro pins s σ H x y v u Q I rx ry q
  obtain ⟨i, j, e1, e2, c, q⟩ := q
  unfold mulC at c
  simp only [Bool.or_eq_true, decide_eq_true_eq] at c
  rcases c with (c | c) | c
  · exact op_mul pins s σ H x y v u Q I rx ry ⟨i, j, e1, e2, .inl (by omega), q⟩
  · exact op_mul pins s σ H x y v u Q I rx ry ⟨i, j, e1, e2, .inr (by omega), q⟩
  · exact op_mulW pins s σ H x y v u Q I rx ry ⟨i, j, e1, e2, c, q⟩
theorem os_mul : OpS F (binaryOp .Mult) mulD := os_i2 (fun _ => op_mulA) (fun _ _ h => h) fun _ _ _ _ => .int _
def divC (_ j : Int) : Bool := decide (0 < j) && (decide (j.natAbs < 1073741824) || decide (j.natAbs.log2 < 9000))
abbrev divD : D → D → XM D := i2 divC fun i j => .int (i / j)
theorem op_divA {X : Cx} : OpR X (binaryOp .FloorDiv) (rI (fun i j => divC i j = true) fun i j => .int (i / j)) := by
  intro pins s σ H x y v u Q I rx ry q
  obtain ⟨i, j, e1, e2, c, q⟩ := q
  unfold divC at c
  simp only [Bool.and_eq_true, Bool.or_eq_true, decide_eq_true_eq] at c
  rcases c with ⟨c0, c | c⟩
  · exact op_fdiv pins s σ H x y v u Q I rx ry ⟨i, j, e1, e2, ⟨c0, by omega⟩, q⟩
  · exact op_fdivW pins s σ H x y v u Q I rx ry ⟨i, j, e1, e2, ⟨c0, c⟩, q⟩
theorem os_div : OpS F (binaryOp .FloorDiv) divD := os_i2 (fun _ => op_divA) (fun _ _ h => h) fun _ _ _ _ => .int _
abbrev modD : D → D → XM D := i2 (fun _ j => decide (0 < j)) fun i j => .int (i % j)
theorem os_mod : OpS F (binaryOp .Mod) modD := os_i2 (fun _ => op_mod) (fun _ _ h => of_decide_eq_true h) fun _ _ _ _ => .int _
def powC (i j : Int) : Bool := decide (0 ≤ j) && decide (j ≤ 1000000) && decide (i.natAbs < 2 ^ 64)
theorem powC_ok {i j : Int} (h : powC i j = true) : CPow i j := by
  unfold powC at h
  simp only [Bool.and_eq_true, decide_eq_true_eq] at h
  exact ⟨h.1.1, h.1.2, h.2⟩
abbrev powD : D → D → XM D := i2 powC fun i j => .int (i ^ j.toNat)
theorem os_pow : OpS F (binaryOp .Pow) powD := os_i2 (fun _ => op_pow) (fun _ _ h => powC_ok h) fun _ _ _ _ => .int _
abbrev shlD : D → D → XM D := i2 powC fun i j => .int (i * 2 ^ j.toNat)
theorem os_shl : OpS F (binaryOp .LShift) shlD := os_i2 (fun _ => op_shl) (fun _ _ h => powC_ok h) fun _ _ _ _ => .int _

/-! ### comparisons -/
def eqO (st : Store) (x y : D) : Option Bool := match pyOf st x, pyOf st y with
  | some p, some q => if (SeqAt.shaped p && SeqAt.shaped q) = true then some (PyData.eqv p q) else none
  | _, _ => none
def eqD (x y : D) : XM D := fun _ st => match eqO st x y with
  | some b => .ok (.bl b) st
  | none => .stuck
def neD (x y : D) : XM D := fun _ st => match eqO st x y with
  | some b => .ok (.bl (!b)) st
  | none => .stuck
theorem eqO_ok {K : PySem.W.Frag} {mg : Str → Option Value} {G H : Hp} {as : List Addr} {st : Store} {x y : D} {v w : V} {b : Bool} (R : Ri K mg G H as st) (rx : Rp K mg G as v x) (ry : Rp K mg G as w y) (h : eqO st x y = some b) :
    ∃ p q, Dp K H v p ∧ Dp K H w q ∧ SeqAt.shaped p = true ∧ SeqAt.shaped q = true ∧ PyData.eqv p q = b := by
  unfold eqO at h
  split at h
  · rename_i p q e1 e2
    by_cases hs : (SeqAt.shaped p && SeqAt.shaped q) = true
    · rw [if_pos hs] at h
      have hs' := Bool.and_eq_true_iff.mp hs
      exact ⟨p, q, pyOf_ok R rx e1, pyOf_ok R ry e2, hs'.1, hs'.2, Option.some.inj h⟩
    · rw [if_neg hs] at h; cases h
  · cases h
theorem os_eq : OpS F (compareOp .Eq) eqD := by
  refine ⟨rEqD g.K, fun W X m => by have := op_eqD (X := X) (F.room m).units; rw [F.hK m] at this; exact this, ?_⟩
  intro W G H as st σ e x y v w Q R rx ry h
  unfold eqD at h
  cases q : eqO st x y with
  | none => simp [q] at h; exact h.elim
  | some b =>
    simp only [q] at h
    obtain ⟨p, p', d1, d2, s1, s2, e1⟩ := eqO_ok R rx ry q
    exact ⟨p, p', d1, d2, s1, s2, by rw [e1]; exact h.pure R (.bl b)⟩
theorem os_ne : OpS F (compareOp .NotEq) neD := by
  refine ⟨rNeD g.K, fun W X m => by have := op_neD (X := X) (F.room m).units; rw [F.hK m] at this; exact this, ?_⟩
  intro W G H as st σ e x y v w Q R rx ry h
  unfold neD at h
  cases q : eqO st x y with
  | none => simp [q] at h; exact h.elim
  | some b =>
    simp only [q] at h
    obtain ⟨p, p', d1, d2, s1, s2, e1⟩ := eqO_ok R rx ry q
    exact ⟨p, p', d1, d2, s1, s2, by rw [e1]; exact h.pure R (.bl (!b))⟩
def ltD (x y : D) : XM D := fun _ st => match x, y with
  | .int i, .int j => .ok (.bl (decide (i < j))) st
  | .tup xs, .tup ys => match intsOf xs, intsOf ys with
    | some ns, some ms => .ok (.bl (HT.lexLt ns ms)) st
    | _, _ => .stuck
  | _, _ => .stuck
theorem os_lt : OpS F (compareOp .Lt) ltD := by
  refine ⟨fun x y H Q => rI0 (fun i j => .bl (decide (i < j))) x y H Q ∨ rLtT g.K x y H Q, fun W X m => op_lt.or (by have := op_ltT (X := X) (F.room m).units0; rw [F.hK m] at this; exact this), ?_⟩
  intro W G H as st σ e x y v w Q R rx ry h
  unfold ltD at h
  split at h
  · cases rx; cases ry; exact .inl ⟨_, _, rfl, rfl, h.pure R (.bl _)⟩
  · split at h
    · rename_i xs ys ns ms e1 e2
      cases intsOf_eq e1; cases intsOf_eq e2
      cases rx with
      | tup s1 r1 =>
        cases ry with
        | tup s2 r2 =>
          cases RpA.ints _ r1
          cases RpA.ints _ r2
          exact .inr ⟨_, _, ns, ms, rfl, rfl, sqT_H R s1, sqT_H R s2, h.pure R (.bl _)⟩
    · exact h.elim
  · exact h.elim
abbrev leD : D → D → XM D := i2 (fun _ _ => true) fun i j => .bl (decide (i ≤ j))
theorem os_le : OpS F (compareOp .LtE) leD := os_i2 (fun _ => op_of0 op_le) (fun _ _ _ => trivial) fun _ _ _ _ => .bl _
abbrev gtD : D → D → XM D := i2 (fun _ _ => true) fun i j => .bl (decide (j < i))
theorem os_gt : OpS F (compareOp .Gt) gtD := os_i2 (fun _ => op_of0 op_gt) (fun _ _ _ => trivial) fun _ _ _ _ => .bl _
abbrev geD : D → D → XM D := i2 (fun _ _ => true) fun i j => .bl (decide (j ≤ i))
theorem os_ge : OpS F (compareOp .GtE) geD := os_i2 (fun _ => op_of0 op_ge) (fun _ _ _ => trivial) fun _ _ _ _ => .bl _
def isN : D → Bool
  | .non => true
  | _ => false
def isD (x y : D) : XM D := fun _ st => match y with
  | .non => .ok (.bl (isN x)) st
  | _ => .stuck
def isntD (x y : D) : XM D := fun _ st => match y with
  | .non => .ok (.bl (!isN x)) st
  | _ => .stuck
theorem isN_ok {K : PySem.W.Frag} {mg : Str → Option Value} {G : Hp} {as : List Addr} {x : D} {v : V} (r : Rp K mg G as v x) : decide (v = .non) = isN x := by
  cases r <;> first | rfl | exact decide_eq_false (fun z => nomatch z)
theorem os_is : OpS F (compareOp .Is) isD := by
  refine ⟨fun x y H Q => y = .non ∧ Q (.bl (decide (x = .non))) H, fun W X m => op_isN, ?_⟩
  intro W G H as st σ e x y v w Q R rx ry h
  cases ry with
  | non => exact ⟨rfl, by rw [isN_ok rx]; exact PX.pure R (.bl _) h⟩
  | _ => exact h.elim
theorem os_isnt : OpS F (compareOp .IsNot) isntD := by
  refine ⟨fun x y H Q => y = .non ∧ Q (.bl (!decide (x = .non))) H, fun W X m => op_notN, ?_⟩
  intro W G H as st σ e x y v w Q R rx ry h
  cases ry with
  | non => exact ⟨rfl, by rw [isN_ok rx]; exact PX.pure R (.bl _) h⟩
  | _ => exact h.elim
/-- x in a list, a tuple -/
def rInA (K : PySem.W.Frag) : R2 := fun x y H Q => ∃ d ds, Dp K H x d ∧ (Dp K H y (.list ds) ∨ Dp K H y (.tuple ds)) ∧ SeqAt.shaped d = true ∧ SeqAt.shaped (.list ds) = true ∧ Q (.bl (ds.any fun z => PyData.eqv z d)) H
def rNotInA (K : PySem.W.Frag) : R2 := fun x y H Q => ∃ d ds, Dp K H x d ∧ (Dp K H y (.list ds) ∨ Dp K H y (.tuple ds)) ∧ SeqAt.shaped d = true ∧ SeqAt.shaped (.list ds) = true ∧ Q (.bl (!ds.any fun z => PyData.eqv z d)) H
theorem room_in {A : Around} {ds : List PyData} {d : PyData} (h : SeqAt.shaped d = true) (hu : A.units + 65 < cLine) : A.units + 1 + min (PyData.depthAll ds) d.depth < cLine := by
  have h1 := SeqAt.depth_of_shaped h
  have h2 : min (PyData.depthAll ds) d.depth ≤ d.depth := Nat.min_le_right _ _
  omega
theorem op_inA {X : Cx} (hu : X.A.units + 65 < cLine) : OpR X (compareOp .In) (rInA X.K) := by
  intro pins s σ H x y v u Q I rx ry h
  obtain ⟨d, ds, hd, he, sd, se, q⟩ := h
  obtain ⟨as, r1⟩ := Dp.reads I d x v hd rx
  rcases he with he | he
  · obtain ⟨bs, r2⟩ := Dp.reads I (.list ds) y u he ry
    exact SeqAt.in_list_reads r2 r1 (SeqAt.canLay_of_shaped se) (SeqAt.canLay_of_shaped sd) (room_in sd hu) ⟨.bl _, H, I, rfl, q⟩
  · obtain ⟨bs, r2⟩ := Dp.reads I (.tuple ds) y u he ry
    exact SeqAt.in_tuple_reads r2 r1 (SeqAt.canLay_of_shaped se) (SeqAt.canLay_of_shaped sd) (room_in sd hu) ⟨.bl _, H, I, rfl, q⟩
theorem op_notInA {X : Cx} (hu : X.A.units + 65 < cLine) : OpR X (compareOp .NotIn) (rNotInA X.K) := by
  intro pins s σ H x y v u Q I rx ry h
  obtain ⟨d, ds, hd, he, sd, se, q⟩ := h
  obtain ⟨as, r1⟩ := Dp.reads I d x v hd rx
  rcases he with he | he
  · obtain ⟨bs, r2⟩ := Dp.reads I (.list ds) y u he ry
    exact SeqAt.notIn_list_reads r2 r1 (SeqAt.canLay_of_shaped se) (SeqAt.canLay_of_shaped sd) (room_in sd hu) ⟨.bl _, H, I, rfl, q⟩
  · obtain ⟨bs, r2⟩ := Dp.reads I (.tuple ds) y u he ry
    exact SeqAt.notIn_tuple_reads r2 r1 (SeqAt.canLay_of_shaped se) (SeqAt.canLay_of_shaped sd) (room_in sd hu) ⟨.bl _, H, I, rfl, q⟩
def inO (st : Store) (x y : D) : Option Bool := match pyOf st x, pyOf st y with
  | some p, some (.list qs) => if (SeqAt.shaped p && SeqAt.shaped (.list qs)) = true then some (qs.any fun z => PyData.eqv z p) else none
  | some p, some (.tuple qs) => if (SeqAt.shaped p && SeqAt.shaped (.list qs)) = true then some (qs.any fun z => PyData.eqv z p) else none
  | _, _ => none
def inD (x y : D) : XM D := fun _ st => match inO st x y with
  | some b => .ok (.bl b) st
  | none => .stuck
def notInD (x y : D) : XM D := fun _ st => match inO st x y with
  | some b => .ok (.bl (!b)) st
  | none => .stuck
theorem inO_ok {K : PySem.W.Frag} {mg : Str → Option Value} {G H : Hp} {as : List Addr} {st : Store} {x y : D} {v w : V} {b : Bool} (R : Ri K mg G H as st) (rx : Rp K mg G as v x) (ry : Rp K mg G as w y) (h : inO st x y = some b) :
    ∃ d ds, Dp K H v d ∧ (Dp K H w (.list ds) ∨ Dp K H w (.tuple ds)) ∧ SeqAt.shaped d = true ∧ SeqAt.shaped (.list ds) = true ∧ (ds.any fun z => PyData.eqv z d) = b := by
  unfold inO at h
  split at h
  · rename_i p qs e1 e2
    by_cases hs : (SeqAt.shaped p && SeqAt.shaped (.list qs)) = true
    · rw [if_pos hs] at h
      have hs' := Bool.and_eq_true_iff.mp hs
      exact ⟨p, qs, pyOf_ok R rx e1, .inl (pyOf_ok R ry e2), hs'.1, hs'.2, Option.some.inj h⟩
    · rw [if_neg hs] at h; cases h
  · rename_i p qs e1 e2
    by_cases hs : (SeqAt.shaped p && SeqAt.shaped (.list qs)) = true
    · rw [if_pos hs] at h
      have hs' := Bool.and_eq_true_iff.mp hs
      exact ⟨p, qs, pyOf_ok R rx e1, .inr (pyOf_ok R ry e2), hs'.1, hs'.2, Option.some.inj h⟩
    · rw [if_neg hs] at h; cases h
  · cases h
theorem units65 {k : Nat} {A : Around} (r : Room k A) : A.units + 65 < cLine := by have := r.un; omega
theorem os_in : OpS F (compareOp .In) inD := by
  refine ⟨rInA g.K, fun W X m => by have := op_inA (X := X) (units65 (F.room m)); rw [F.hK m] at this; exact this, ?_⟩
  intro W G H as st σ e x y v w Q R rx ry h
  unfold inD at h
  cases q : inO st x y with
  | none => simp [q] at h; exact h.elim
  | some b =>
    simp only [q] at h
    obtain ⟨d, ds, h1, h2, h3, h4, h5⟩ := inO_ok R rx ry q
    exact ⟨d, ds, h1, h2, h3, h4, by rw [h5]; exact h.pure R (.bl b)⟩
theorem os_notin : OpS F (compareOp .NotIn) notInD := by
  refine ⟨rNotInA g.K, fun W X m => by have := op_notInA (X := X) (units65 (F.room m)); rw [F.hK m] at this; exact this, ?_⟩
  intro W G H as st σ e x y v w Q R rx ry h
  unfold notInD at h
  cases q : inO st x y with
  | none => simp [q] at h; exact h.elim
  | some b =>
    simp only [q] at h
    obtain ⟨d, ds, h1, h2, h3, h4, h5⟩ := inO_ok R rx ry q
    exact ⟨d, ds, h1, h2, h3, h4, by rw [h5]; exact h.pure R (.bl (!b))⟩

/-! ## items and slices -/
variable {pos : Pos}
def ixD (x y : D) : XM D := fun _ st => match y with
  | .int i => (match seqOf st x with
    | some xs => (match atI xs i with
      | some d => .ok d st
      | none => .stuck)
    | none => .stuck)
  | _ => .stuck
theorem atI_rp {K : PySem.W.Frag} {mg : Str → Option Value} {G : Hp} {as : List Addr} {vs : List V} {xs : List D} {i : Int} {d : D} (r : RpA K mg G as vs xs) (h : atI xs i = some d) : ∃ v, atI vs i = some v ∧ Rp K mg G as v d := by
  unfold atI at h ⊢
  rw [r.len]
  cases q : ixN xs.length i with
  | none => rw [q] at h; cases h
  | some j =>
    rw [q] at h
    exact r.get (by simpa using h)
theorem je_ix {a b : Expr} {ma mb : XM D} (ha : JE F a ma) (hb : JE F b mb) (hs : PlainIx b := by intro _ _; rfl) : JE F (.Subscript a b pos) (xop ixD ma mb) := by
  obtain ⟨ta, pa, sa⟩ := ha
  obtain ⟨tb, pb, sb⟩ := hb
  refine ⟨fun W => tOp (fun x y H Q => rIxL g.K x y H Q ∨ rIxT g.K x y H Q) (ta W) (tb W), fun W X m => by have := pe_ix (pos := pos) ((ix_list (X := X)).or ix_tup) (pa W X m) (pb W X m) hs; rw [F.hK m] at this; exact this, ?_⟩
  intro W G H as st σ e Q R N h
  refine sa.one R N h fun x st1 v G1 H1 as1 R1 X1 N1 rv h1 => ?_
  refine sb.one R1 N1 h1 fun y st2 w G2 H2 as2 R2 X2 N2 rw' h2 => ?_
  have rv2 := rv.ext X2
  unfold ixD at h2
  cases rw' with
  | int i =>
    cases q : seqOf st2 x with
    | none => simp [q] at h2; exact h2.elim
    | some xs =>
      cases q2 : atI xs i with
      | none => simp [q, q2] at h2; exact h2.elim
      | some d =>
        simp only [q, q2] at h2
        obtain ⟨a', vs, rfl, s, r⟩ := seqOf_ok R2 rv2 q
        obtain ⟨u, e1, ru⟩ := atI_rp r q2
        rcases s with s | s
        · exact .inl ⟨a', vs, i, u, rfl, rfl, s, e1, h2.pure R2 ru⟩
        · exact .inr ⟨a', vs, i, u, rfl, rfl, s, e1, h2.pure R2 ru⟩
  | _ => exact h2.elim
def JO (F : Fam g) (ex : Option Expr) (m : XM (Option Int)) : Prop := ∃ t : WX → TO, (∀ W X, F.mem W X → PO X ex (t W)) ∧
  ∀ (W : WX) (G H : Hp) (as : List Addr) (st : Store) (σ : L2.St) (e : Nv) (f : Option Int → XM D) (Q : VK) (Q1 : Option Int → Hp → Prop), Ri g.K g.mg G H as st → Rn g.K g.mg G as σ e → PX g.K g.mg W G H as σ (xbind m f e st) Q →
    (∀ x st1 G1 H1 as1, Ri g.K g.mg G1 H1 as1 st1 → Ext G H as G1 H1 as1 → Rn g.K g.mg G1 as1 σ e → PX g.K g.mg W G1 H1 as1 σ (f x e st1) Q → Q1 x H1) → t W σ H Q1
theorem jo_none : JO F none (xpure none) := ⟨fun _ => tNoPart, fun _ _ _ => po_none, fun W G H as st σ e f Q Q1 R N h k => k none st G H as R Ext.refl N h⟩
def xpart (m : XM D) : XM (Option Int) := xbind m fun x => fun _ st => match x with
  | .int i => .ok (some i) st
  | _ => .stuck
theorem jo_some {ex : Expr} {m : XM D} (h : JE F ex m) : JO F (some ex) (xpart m) := by
  obtain ⟨t, p, s⟩ := h
  refine ⟨fun W => tPart (t W), fun W X m => po_some (p W X m), ?_⟩
  intro W G H as st σ e f Q Q1 R N h k
  have h' : PX g.K g.mg W G H as σ (xbind m (fun x => xbind (fun _ st => match x with | .int i => .ok (some i) st | _ => .stuck) f) e st) Q := by
    refine Eq.mp (congrArg (fun r => PX g.K g.mg W G H as σ r Q) ?_) h
    unfold xpart xbind
    cases q : m e st <;> rfl
  refine s.one R N h' fun x st1 v G1 H1 as1 R1 X1 N1 rv h1 => ?_
  cases rv with
  | int i => exact ⟨i, rfl, k (some i) st1 G1 H1 as1 R1 X1 N1 h1⟩
  | _ => exact h1.elim
def cutD (xs : List D) (lo hi : Option Int) : List D := (xs.drop (HT.sIx xs.length 0 lo)).take (HT.sIx xs.length xs.length hi - HT.sIx xs.length 0 lo)
theorem cut_rp {K : PySem.W.Frag} {mg : Str → Option Value} {G : Hp} {as : List Addr} {vs : List V} {xs : List D} (r : RpA K mg G as vs xs) (lo hi : Option Int) : RpA K mg G as (cutV vs lo hi) (cutD xs lo hi) := by
  unfold cutV cutD
  rw [r.len]
  exact (r.drop _).take _
def slD (x : D) (lo hi : Option Int) : XM D := fun _ st => match x with
  | .tup xs => .ok (.tup (cutD xs lo hi)) st
  | .sq xs => .ok (.lst (cutD xs lo hi)) st
  | x => match lstOf st x with
    | some xs => .ok (.lst (cutD xs lo hi)) st
    | none => .stuck
def xslice (m : XM D) (ml mh : XM (Option Int)) : XM D := xbind m fun x => xbind ml fun l => xbind mh fun h => slD x l h
theorem je_slice {ex : Expr} {lo hi : Option Expr} {p2 : Pos} {m : XM D} {ml mh : XM (Option Int)} (he : JE F ex m) (hl : JO F lo ml) (hh : JO F hi mh) : JE F (.Subscript ex (.Slice lo hi none p2) pos) (xslice m ml mh) := by
  obtain ⟨t, p, s⟩ := he
  obtain ⟨tl, pl, sl⟩ := hl
  obtain ⟨th, ph, sh⟩ := hh
  refine ⟨fun W => tSl (fun x lo hi H Q => rSlA g.K x lo hi H Q ∨ rSlL g.K x lo hi H Q) (t W) (tl W) (th W), fun W X m => by have := pe_slice (pos := pos) (p2 := p2) ((sl_tupA (X := X)).or sl_list) (p W X m) (pl W X m) (ph W X m); rw [F.hK m] at this; exact this, ?_⟩
  intro W G H as st σ e Q R N h
  refine s.one R N h fun x st1 v G1 H1 as1 R1 X1 N1 rv h1 => ?_
  refine sl W G1 H1 as1 st1 σ e _ Q _ R1 N1 h1 fun l st2 G2 H2 as2 R2 X2 N2 h2 => ?_
  refine sh W G2 H2 as2 st2 σ e _ Q _ R2 N2 h2 fun u st3 G3 H3 as3 R3 X3 N3 h3 => ?_
  have rv3 := (rv.ext X2).ext X3
  have lists : ∀ xs, (∃ a vs, v = .ref a ∧ SqL g.K H3 a vs ∧ RpA g.K g.mg G3 as3 vs xs) → PX g.K g.mg W G3 H3 as3 σ (.ok (.lst (cutD xs l u)) st3) Q → rSlL g.K v l u H3 Q := fun xs ⟨a, vs, e1, s1, r1⟩ q => by
    refine ⟨a, vs, e1, s1, fun p hp => ?_⟩
    obtain ⟨R', x'⟩ := R3.still (o := .lst (cutV vs l u)) hp
    exact q _ _ _ _ R' x' (.lst upd_same ((cut_rp r1 l u).ext x'))
  have lists2 : PX g.K g.mg W G3 H3 as3 σ (match lstOf st3 x with | some xs => .ok (.lst (cutD xs l u)) st3 | none => .stuck) Q → rSlL g.K v l u H3 Q := fun q => by
    cases q2 : lstOf st3 x with
    | none => simp [q2] at q; exact q.elim
    | some xs =>
      simp only [q2] at q
      obtain ⟨a, vs, e1, s1, r1⟩ := lstOf_ok R3 rv3 q2
      exact lists xs ⟨a, vs, e1, .of s1, r1⟩ q
  unfold slD at h3
  split at h3
  · cases rv3 with
    | tup s1 r1 =>
      refine .inl ⟨_, _, rfl, sqT_H R3 s1, fun z => ?_, fun _ p hp => ?_⟩
      · rename_i xs _ _
        have e1 : cutD xs l u = xs := by
          unfold cutD
          rw [← r1.len, z.1, z.2, Nat.sub_zero, List.drop_zero, r1.len]
          exact List.take_length
        rw [e1] at h3
        exact h3.pure R3 (.tup s1 r1)
      · obtain ⟨R', x'⟩ := R3.still hp
        exact h3 _ _ _ _ R' x' (.tup (.inl (.inl upd_same)) ((cut_rp r1 l u).ext x'))
  · cases rv3 with
    | sq s1 r1 => exact .inr (lists _ ⟨_, _, rfl, sqL_H R3 s1, r1⟩ h3)
  · exact .inr (lists2 h3)
end
end LS
end
section
set_option maxRecDepth 100000
set_option maxHeartbeats 2000000
namespace LS
open PySem PySem.Spec L2

/-! ## calls of built-ins, by values -/
section
variable {g : Gb} {F : Fam g} {pos : Pos}
def CallS (F : Fam g) (fv : Value) (fop : List D → XM D) : Prop := ∃ r : List V → Hp → VK → Prop, (∀ W X, F.mem W X → CallR X fv r) ∧
  ∀ (W : WX) (G H : Hp) (as : List Addr) (st : Store) (σ : L2.St) (e : Nv) (xs : List D) (vs : List V) (Q : VK), Ri g.K g.mg G H as st → RpA g.K g.mg G as vs xs → PX g.K g.mg W G H as σ (fop xs e st) Q → r vs H Q
def xcall (fop : List D → XM D) (ms : XM (List D)) : XM D := xbind ms fop
theorem callS_SE {r : List V → Hp → VK → Prop} {ts : WX → TA} {ms : XM (List D)} {fop : List D → XM D} (ss : SA g ts ms)
    (hv : ∀ (W : WX) (G H : Hp) (as : List Addr) (st : Store) (σ : L2.St) (e : Nv) (xs : List D) (vs : List V) (Q : VK), Ri g.K g.mg G H as st → RpA g.K g.mg G as vs xs → PX g.K g.mg W G H as σ (fop xs e st) Q → r vs H Q) : SE g (fun W => tCB r (ts W)) (xcall fop ms) := by
  intro W G H as st σ e Q R N h
  refine ss.one R N h fun xs st1 vs G1 H1 as1 R1 X1 N1 rv h1 => ?_
  exact hv W G1 H1 as1 st1 σ e xs vs Q R1 rv h1
theorem je_callB {x : Str} {id : String} {p : Pos} {a : Expr} {es : List Expr} {ms : XM (List D)} {fop : List D → XM D} (hc : CallS F (.builtin id) fop) (hg : F.sc.names.lookup x = some .globalImplicit) (hm : g.mg x = none) (hv : bootBuiltins x = some (.builtin id)) (ha : JA F (a :: es) ms)
    (hn : x ≠ "__name__" := by decide) (hdb : (x == ("__debug__" : Str)) = false := by decide) (he : ∀ env, starEach (a :: es) env = (false, eval a env) :: starEach es env := by intro _; rfl) (hpl : ∀ env, (backTo pos (starEach es env)).any (·.1) = false := by intro _; rfl) :
    JE F (.Call (.Name x p) (a :: es) [] pos) (xcall fop ms) := by
  obtain ⟨r, hr, hv'⟩ := hc
  obtain ⟨ts, ps, ss⟩ := ha
  exact ⟨fun W => tCB r (ts W), fun W X m => pe_callB (hr W X m) (by show X.env.scope.names.lookup x = _; rw [F.hsc m]; exact hg) (by rw [F.hmg m]; exact hm) hv (ps W X m) hn hdb (he _) (hpl _), callS_SE ss hv'⟩
theorem je_callTy {x : Str} {T : String} {p : Pos} {a : Expr} {es : List Expr} {ms : XM (List D)} {fop : List D → XM D} (hc : CallS F (.type T) fop) (hg : F.sc.names.lookup x = some .globalImplicit) (hm : g.mg x = none) (hv : bootBuiltins x = some (.type T)) (ha : JA F (a :: es) ms)
    (hn : x ≠ "__name__" := by decide) (hdb : (x == ("__debug__" : Str)) = false := by decide) (he : ∀ env, starEach (a :: es) env = (false, eval a env) :: starEach es env := by intro _; rfl) (hpl : ∀ env, (backTo pos (starEach es env)).any (·.1) = false := by intro _; rfl) :
    JE F (.Call (.Name x p) (a :: es) [] pos) (xcall fop ms) := by
  obtain ⟨r, hr, hv'⟩ := hc
  obtain ⟨ts, ps, ss⟩ := ha
  exact ⟨fun W => tCB r (ts W), fun W X m => pe_callTy (hr W X m) (by show X.env.scope.names.lookup x = _; rw [F.hsc m]; exact hg) (by rw [F.hmg m]; exact hm) hv (ps W X m) hn hdb (he _) (hpl _), callS_SE ss hv'⟩

/-! ### one argument -/
theorem rp1 {K : PySem.W.Frag} {mg : Str → Option Value} {G : Hp} {as : List Addr} {vs : List V} {x : D} (h : RpA K mg G as vs [x]) : ∃ v, vs = [v] ∧ Rp K mg G as v x := by
  cases h with | cons a b => cases b; exact ⟨_, rfl, a⟩
theorem rp2 {K : PySem.W.Frag} {mg : Str → Option Value} {G : Hp} {as : List Addr} {vs : List V} {x y : D} (h : RpA K mg G as vs [x, y]) : ∃ v w, vs = [v, w] ∧ Rp K mg G as v x ∧ Rp K mg G as w y := by
  cases h with | cons a b => cases b with | cons c d => cases d; exact ⟨_, _, rfl, a, c⟩
def f1 (f : D → XM D) : List D → XM D
  | [x] => f x
  | _ => fun _ _ => .stuck
def f2 (f : D → D → XM D) : List D → XM D
  | [x, y] => f x y
  | _ => fun _ _ => .stuck
theorem cs_1 {fv : Value} {f : D → XM D} {r : List V → Hp → VK → Prop} (hr : ∀ W X, F.mem W X → CallR X fv r)
    (h : ∀ (W : WX) (G H : Hp) (as : List Addr) (st : Store) (σ : L2.St) (e : Nv) (x : D) (v : V) (Q : VK), Ri g.K g.mg G H as st → Rp g.K g.mg G as v x → PX g.K g.mg W G H as σ (f x e st) Q → r [v] H Q) : CallS F fv (f1 f) := by
  refine ⟨r, hr, ?_⟩
  intro W G H as st σ e xs vs Q R rv q
  match xs, q with
  | [x], q =>
    obtain ⟨v, rfl, rx⟩ := rp1 rv
    exact h W G H as st σ e x v Q R rx q
theorem cs_2 {fv : Value} {f : D → D → XM D} {r : List V → Hp → VK → Prop} (hr : ∀ W X, F.mem W X → CallR X fv r)
    (h : ∀ (W : WX) (G H : Hp) (as : List Addr) (st : Store) (σ : L2.St) (e : Nv) (x y : D) (v w : V) (Q : VK), Ri g.K g.mg G H as st → Rp g.K g.mg G as v x → Rp g.K g.mg G as w y → PX g.K g.mg W G H as σ (f x y e st) Q → r [v, w] H Q) : CallS F fv (f2 f) := by
  refine ⟨r, hr, ?_⟩
  intro W G H as st σ e xs vs Q R rv q
  match xs, q with
  | [x, y], q =>
    obtain ⟨v, w, rfl, rx, ry⟩ := rp2 rv
    exact h W G H as st σ e x y v w Q R rx ry q
def lenD (x : D) : XM D := fun _ st => match x with
  | .str s => if s.length ≤ LIM then .ok (.int s.length) st else .stuck
  | x => match seqOf st x with
    | some xs => .ok (.int xs.length) st
    | none => .stuck
theorem seq_px {K : PySem.W.Frag} {mg : Str → Option Value} {W : WX} {G H : Hp} {as : List Addr} {st : Store} {σ : L2.St} {x : D} {v : V} {Q : VK} {f : List D → RX D} (R : Ri K mg G H as st) (rx : Rp K mg G as v x)
    (h : PX K mg W G H as σ (match seqOf st x with | some xs => f xs | none => .stuck) Q) : ∃ xs a vs, v = .ref a ∧ (SqL K H a vs ∨ SqT K H a vs) ∧ RpA K mg G as vs xs ∧ PX K mg W G H as σ (f xs) Q := by
  cases q : seqOf st x with
  | none => simp [q] at h; exact h.elim
  | some xs =>
    simp only [q] at h
    obtain ⟨a, vs, e, s, r⟩ := seqOf_ok R rx q
    exact ⟨xs, a, vs, e, s, r, h⟩
theorem cs_len : CallS F (.builtin "len") (f1 lenD) := by
  refine cs_1 (r := fun xs H Q => (∃ p ys, xs = [.ref p] ∧ (SqL g.K H p ys ∨ SqT g.K H p ys) ∧ Q (.int ys.length) H) ∨ (∃ z, xs = [.str z] ∧ z.length ≤ sizeLine ∧ Q (.int z.length) H))
    (fun W X m => by have := (call_len_seq (X := X)).or call_len_str; rw [F.hK m] at this; exact this) ?_
  intro W G H as st σ e x v Q R rx h
  unfold lenD at h
  split at h
  · rename_i s
    cases rx
    by_cases hl : s.length ≤ LIM
    · rw [if_pos hl] at h; exact .inr ⟨s, rfl, lim_le hl, h.pure R (.int _)⟩
    · rw [if_neg hl] at h; exact h.elim
  · obtain ⟨xs, a, vs, rfl, s, r, h'⟩ := seq_px R rx h
    refine .inl ⟨a, vs, rfl, s, ?_⟩
    rw [r.len]
    exact h'.pure R (.int _)
def absD (x : D) : XM D := fun _ st => match x with
  | .int i => .ok (.int i.natAbs) st
  | _ => .stuck
theorem cs_abs : CallS F (.builtin "abs") (f1 absD) := by
  refine cs_1 (fun W X m => call_abs) ?_
  intro W G H as st σ e x v Q R rx h
  cases rx with
  | int i =>
    refine ⟨i, rfl, ?_⟩
    rw [show (if i < 0 then -i else i) = (i.natAbs : Int) by split <;> omega]
    exact PX.pure R (.int _) h
  | _ => exact h.elim
def intD (x : D) : XM D := fun _ st => match x with
  | .int i => .ok (.int i) st
  | .bl b => .ok (.int (if b then 1 else 0)) st
  | _ => .stuck
theorem cs_int : CallS F (.type "int") (f1 intD) := by
  refine cs_1 (fun W X m => call_int1) ?_
  intro W G H as st σ e x v Q R rx h
  cases rx with
  | int i => exact .inl ⟨i, rfl, PX.pure R (.int _) h⟩
  | bl i => exact .inr ⟨i, rfl, PX.pure R (.int _) h⟩
  | _ => exact h.elim
def max2D (x y : D) : XM D := fun _ st => match x, y with
  | .int i, .int j => .ok (.int (max i j)) st
  | _, _ => .stuck
def min2D (x y : D) : XM D := fun _ st => match x, y with
  | .int i, .int j => .ok (.int (min i j)) st
  | _, _ => .stuck
theorem cs_max2 : CallS F (.builtin "max") (f2 max2D) := by
  refine cs_2 (fun W X m => call_max2 (F.calm m)) ?_
  intro W G H as st σ e x y v w Q R rx ry h
  unfold max2D at h
  split at h
  · rename_i i j
    cases rx; cases ry
    refine ⟨i, j, rfl, ?_⟩
    rw [show (if j > i then j else i) = max i j by split <;> omega]
    exact h.pure R (.int _)
  · exact h.elim
theorem cs_min2 : CallS F (.builtin "min") (f2 min2D) := by
  refine cs_2 (fun W X m => call_min2 (F.calm m)) ?_
  intro W G H as st σ e x y v w Q R rx ry h
  unfold min2D at h
  split at h
  · rename_i i j
    cases rx; cases ry
    refine ⟨i, j, rfl, ?_⟩
    rw [show (if j < i then j else i) = min i j by split <;> omega]
    exact h.pure R (.int _)
  · exact h.elim
def divmodD (x y : D) : XM D := fun _ st => match x, y with
  | .int i, .int j => if 0 < j ∧ j < 1073741824 then .ok (.tup [.int (i / j), .int (i % j)]) st else .stuck
  | _, _ => .stuck
theorem cs_divmod : CallS F (.builtin "divmod") (f2 divmodD) := by
  refine cs_2 (fun W X m => call_divmod) ?_
  intro W G H as st σ e x y v w Q R rx ry h
  unfold divmodD at h
  split at h
  · rename_i i j
    cases rx; cases ry
    by_cases hc : 0 < j ∧ j < 1073741824
    · rw [if_pos hc] at h
      refine ⟨i, j, rfl, hc, fun p hp => ?_⟩
      exact PX.still R hp (.tup (.inl (.inl upd_same)) (.cons (.int _) (.cons (.int _) .nil))) h
    · rw [if_neg hc] at h; exact h.elim
  · exact h.elim
/-! ### lists and rows of ints, of bools -/
section raw
open PyProof.Rows
variable {prog : Program} {w : World} {A : Around} {E : Value → Shared → Prop} {s : Shared} {l : Addr} {its : List Value} {ns : List Int} {Q : Value → Shared → Prop}
theorem iter_intTup {xs : Array (Int × Tok)} (hl : s.heap.IsTuple l (intItems xs))
    (h : ∀ s₂ : Shared, s₂ = { s with heap := s.heap.push { cls := .type "tuple_iterator", data := .fields #[.ref l, .int 0 0] } } →
      (s₂.heap.IsTupleIter s.heap.objs.size l 0 ∧ s₂.heap.IsTuple l (intItems xs)) → (∀ b ∈ [s.heap.objs.size, l], b < s₂.heap.objs.size) → l ≠ s.heap.objs.size → Q (.ref s.heap.objs.size) s₂) :
    wpAny (model prog w) A (pyIter (.ref l)) Q E s := by
  have hlt : l < s.heap.objs.size := by obtain ⟨_, e, _⟩ := hl; exact Heap.lt_size e
  refine wpAny_pyIter_tuple hl (h _ rfl ⟨⟨_, Heap.get?_push_size _ rfl, rfl, rfl⟩, hl.at fun o e => Heap.get?_push_of_some _ e⟩ (fun b hb => ?_) (Nat.ne_of_lt hlt))
  show b < (s.heap.push _).objs.size
  rw [Heap.size_push]
  rcases List.mem_cons.mp hb with rfl | hb
  · exact Nat.lt_succ_self _
  · rcases List.mem_cons.mp hb with rfl | hb
    · exact Nat.lt_succ_of_lt hlt
    · cases hb
theorem old_keptT {h' : Heap} (hk : ∀ b o, b ∉ [s.heap.objs.size] → (s.heap.push { cls := .type "tuple_iterator", data := .fields #[.ref l, .int 0 0] }).get? b = some o → h'.get? b = some o) :
    ∀ b o, s.heap.get? b = some o → h'.get? b = some o := fun b o e => by
  refine hk b o (fun hm => ?_) (Heap.get?_push_of_some _ e)
  rcases List.mem_cons.mp hm with e1 | hm
  · exact absurd (e1 ▸ Heap.lt_size e) (Nat.lt_irrefl _)
  · cases hm
theorem sum_rawT (hh : A.handled = none) (hl : s.heap.IsTuple l its.toArray) (hi : IntsAre its ns)
    (h : ∀ h' tk t', (∀ b o, s.heap.get? b = some o → h'.get? b = some o) → Q (.int ns.sum t') { s with heap := h', toks := tk }) : wpAny (model prog w) A (call (.builtin "sum") [.ref l]) Q E s := by
  obtain ⟨xs, e⟩ := hi.allInts.items
  have hn : numsOf (intItems xs).toList = ns := by rw [← e]; exact hi.numsOf
  rw [nums_intItems] at hn
  rw [e] at hl
  refine call_sum_walkG (iter_intTup hl fun s₂ e st hfp hlI => ?_)
  subst e
  refine ⟨_, _, _, _, _, _, numAt xs, rfl, Walks.tuple (A := A.in1) hh _ l hlI (intItems xs), st, hfp, (fun _ _ => intItems_at), fun h' tk t' hk => ?_⟩
  have := h h' tk t' (old_keptT hk)
  rw [show (intItems xs).size = xs.size by simp [intItems], preSum_eq, List.take_of_length_le (by simp), hn]; exact this
theorem max_rawT (hh : A.handled = none) (hl : s.heap.IsTuple l its.toArray) (hi : IntsAre its ns) (hne : 0 < ns.length)
    (h : ∀ h' tk M t', (∀ b o, s.heap.get? b = some o → h'.get? b = some o) → M ∈ ns → (∀ a, a ∈ ns → a ≤ M) → Q (.int M t') { s with heap := h', toks := tk }) : wpAny (model prog w) A (call (.builtin "max") [.ref l]) Q E s := by
  obtain ⟨xs, e⟩ := hi.allInts.items
  have hn : numsOf (intItems xs).toList = ns := by rw [← e]; exact hi.numsOf
  rw [nums_intItems] at hn
  subst hn
  rw [e] at hl
  have hsz : 0 < xs.size := by simpa using hne
  refine call_max_walk (iter_intTup hl fun s₂ e st hfp hlI => ?_)
  subst e
  refine ⟨_, _, _, _, _, _, _, rfl, Walks.tuple (A := A.in1) hh _ l hlI (intItems xs), st, hfp, by simpa [intItems] using hsz, CmpOf.ints_gt (numAt xs) (fun _ _ => intItems_at), fun v h' tk hP hk => ?_⟩
  have hv : (intItems xs)[argBest (fun i j => decide (numAt xs i > numAt xs j)) (xs.size - 1)]? = some v := by simpa [intItems] using hP
  obtain ⟨t, rfl⟩ := intItems_at hv
  obtain ⟨h1, h2⟩ := argBest_gt (numAt xs) (xs.size - 1)
  refine h h' tk _ t (old_keptT hk) ?_ fun a ha => ?_
  · rw [numAt_eq]; exact PySem.getD_mem (by rw [List.length_map, Array.length_toList]; omega)
  · obtain ⟨j, hj, rfl⟩ := mem_getD ha
    rw [List.length_map, Array.length_toList] at hj
    rw [← numAt_eq]; exact h2 j (by omega)
theorem min_rawT (hh : A.handled = none) (hl : s.heap.IsTuple l its.toArray) (hi : IntsAre its ns) (hne : 0 < ns.length)
    (h : ∀ h' tk M t', (∀ b o, s.heap.get? b = some o → h'.get? b = some o) → M ∈ ns → (∀ a, a ∈ ns → M ≤ a) → Q (.int M t') { s with heap := h', toks := tk }) : wpAny (model prog w) A (call (.builtin "min") [.ref l]) Q E s := by
  obtain ⟨xs, e⟩ := hi.allInts.items
  have hn : numsOf (intItems xs).toList = ns := by rw [← e]; exact hi.numsOf
  rw [nums_intItems] at hn
  subst hn
  rw [e] at hl
  have hsz : 0 < xs.size := by simpa using hne
  refine call_min_walk (iter_intTup hl fun s₂ e st hfp hlI => ?_)
  subst e
  refine ⟨_, _, _, _, _, _, _, rfl, Walks.tuple (A := A.in1) hh _ l hlI (intItems xs), st, hfp, by simpa [intItems] using hsz, CmpOf.ints_lt (numAt xs) (fun _ _ => intItems_at), fun v h' tk hP hk => ?_⟩
  have hv : (intItems xs)[argBest (fun i j => decide (numAt xs i < numAt xs j)) (xs.size - 1)]? = some v := by simpa [intItems] using hP
  obtain ⟨t, rfl⟩ := intItems_at hv
  obtain ⟨h1, h2⟩ := argBest_lt (numAt xs) (xs.size - 1)
  refine h h' tk _ t (old_keptT hk) ?_ fun a ha => ?_
  · rw [numAt_eq]; exact PySem.getD_mem (by rw [List.length_map, Array.length_toList]; omega)
  · obtain ⟨j, hj, rfl⟩ := mem_getD ha
    rw [List.length_map, Array.length_toList] at hj
    rw [← numAt_eq]; exact h2 j (by omega)
end raw
/-- greatest, least -/
def maxL : List Int → Int
  | [] => 0
  | [x] => x
  | x :: r => max x (maxL r)
def minL : List Int → Int
  | [] => 0
  | [x] => x
  | x :: r => min x (minL r)
theorem maxL_le : ∀ {ns : List Int} {y : Int}, y ∈ ns → y ≤ maxL ns
  | [x], y, h => by simp at h; subst h; exact Int.le_refl _
  | x :: z :: r, y, h => by
    show y ≤ max x (maxL (z :: r))
    rcases List.mem_cons.mp h with rfl | h
    · exact Int.le_max_left _ _
    · exact Int.le_trans (maxL_le h) (Int.le_max_right _ _)
theorem maxL_mem : ∀ {ns : List Int}, 0 < ns.length → maxL ns ∈ ns
  | [x], _ => by simp [maxL]
  | x :: z :: r, _ => by
    show max x (maxL (z :: r)) ∈ _
    have := maxL_mem (ns := z :: r) (by simp)
    by_cases h : maxL (z :: r) ≤ x
    · rw [Int.max_eq_left h]; exact List.mem_cons_self
    · rw [Int.max_eq_right (by omega)]; exact List.mem_cons_of_mem _ this
theorem minL_le : ∀ {ns : List Int} {y : Int}, y ∈ ns → minL ns ≤ y
  | [x], y, h => by simp at h; subst h; exact Int.le_refl _
  | x :: z :: r, y, h => by
    show min x (minL (z :: r)) ≤ y
    rcases List.mem_cons.mp h with rfl | h
    · exact Int.min_le_left _ _
    · exact Int.le_trans (Int.min_le_right _ _) (minL_le h)
theorem minL_mem : ∀ {ns : List Int}, 0 < ns.length → minL ns ∈ ns
  | [x], _ => by simp [minL]
  | x :: z :: r, _ => by
    show min x (minL (z :: r)) ∈ _
    have := minL_mem (ns := z :: r) (by simp)
    by_cases h : x ≤ minL (z :: r)
    · rw [Int.min_eq_left h]; exact List.mem_cons_self
    · rw [Int.min_eq_right (by omega)]; exact List.mem_cons_of_mem _ this
/-- a function of a row of ints -/
def intsD (c : List Int → Bool) (f : List Int → D) (x : D) : XM D := fun _ st => match seqOf st x with
  | some xs => (match intsOf xs with
    | some ns => if c ns = true then .ok (f ns) st else .stuck
    | none => .stuck)
  | none => .stuck
theorem ints_px {K : PySem.W.Frag} {mg : Str → Option Value} {W : WX} {G H : Hp} {as : List Addr} {st : Store} {σ : L2.St} {e : Nv} {x : D} {v : V} {Q : VK} {c : List Int → Bool} {f : List Int → D} (R : Ri K mg G H as st) (rx : Rp K mg G as v x)
    (h : PX K mg W G H as σ (intsD c f x e st) Q) : ∃ ns a, v = .ref a ∧ (SqL K H a (ns.map V.int) ∨ SqT K H a (ns.map V.int)) ∧ c ns = true ∧ PX K mg W G H as σ (.ok (f ns) st) Q := by
  obtain ⟨xs, a, vs, e1, s, r, h'⟩ := seq_px R rx h
  cases q : intsOf xs with
  | none => simp [q] at h'; exact h'.elim
  | some ns =>
    simp only [q] at h'
    cases intsOf_eq q
    cases RpA.ints _ r
    by_cases hc : c ns = true
    · rw [if_pos hc] at h'; exact ⟨ns, a, e1, s, hc, h'⟩
    · rw [if_neg hc] at h'; exact h'.elim
def rSeqI (K : PySem.W.Frag) (P : List Int → (V → Prop) → Prop) : List V → Hp → VK → Prop := fun vs H Q => ∃ (a : Addr) (ns : List Int), vs = [V.ref a] ∧ (SqL K H a (ns.map V.int) ∨ SqT K H a (ns.map V.int)) ∧ P ns fun v => Q v H
theorem cr_sumA {X : Cx} (hc : X.calm = true) : CallR X (.builtin "sum") (rSeqI X.K fun ns Q => Q (.int ns.sum)) := by
  intro pins s σ H vs us Q I r h
  obtain ⟨a, ns, rfl, hs | hs, q⟩ := h
  · exact cr_sum hc pins s σ H _ us Q I r ⟨a, ns, rfl, hs, q⟩
  · obtain ⟨its, rv, hl, _⟩ := I.tuple hs
    rw [Vals.ref1 r]
    exact sum_rawT (I.ok.hd hc) (show s.heap.IsTuple a its.toArray from hl) rv.ints fun h' tk t' hk => ⟨.int _, H, I.kept hk, ⟨_, rfl⟩, q⟩
theorem cr_maxA {X : Cx} (hc : X.calm = true) : CallR X (.builtin "max") (rSeqI X.K fun ns Q => 0 < ns.length ∧ Q (.int (maxL ns))) := by
  intro pins s σ H vs us Q I r h
  have uq : ∀ (ns : List Int) (m : Int), 0 < ns.length → m ∈ ns → (∀ y, y ∈ ns → y ≤ m) → m = maxL ns := fun ns m h0 h1 h2 => Int.le_antisymm (maxL_le h1) (h2 _ (maxL_mem h0))
  obtain ⟨a, ns, rfl, hs | hs, hne, q⟩ := h
  · exact cr_max hc pins s σ H _ us Q I r ⟨a, ns, rfl, hs, hne, fun m h1 h2 => by rw [uq ns m hne h1 h2]; exact q⟩
  · obtain ⟨its, rv, hl, _⟩ := I.tuple hs
    rw [Vals.ref1 r]
    exact max_rawT (I.ok.hd hc) (show s.heap.IsTuple a its.toArray from hl) rv.ints hne fun h' tk m t' hk h1 h2 => ⟨.int _, H, I.kept hk, ⟨_, rfl⟩, by rw [uq ns m hne h1 h2]; exact q⟩
theorem cr_minA {X : Cx} (hc : X.calm = true) : CallR X (.builtin "min") (rSeqI X.K fun ns Q => 0 < ns.length ∧ Q (.int (minL ns))) := by
  intro pins s σ H vs us Q I r h
  have uq : ∀ (ns : List Int) (m : Int), 0 < ns.length → m ∈ ns → (∀ y, y ∈ ns → m ≤ y) → m = minL ns := fun ns m h0 h1 h2 => Int.le_antisymm (h2 _ (minL_mem h0)) (minL_le h1)
  obtain ⟨a, ns, rfl, hs | hs, hne, q⟩ := h
  · exact cr_min hc pins s σ H _ us Q I r ⟨a, ns, rfl, hs, hne, fun m h1 h2 => by rw [uq ns m hne h1 h2]; exact q⟩
  · obtain ⟨its, rv, hl, _⟩ := I.tuple hs
    rw [Vals.ref1 r]
    exact min_rawT (I.ok.hd hc) (show s.heap.IsTuple a its.toArray from hl) rv.ints hne fun h' tk m t' hk h1 h2 => ⟨.int _, H, I.kept hk, ⟨_, rfl⟩, by rw [uq ns m hne h1 h2]; exact q⟩
abbrev sumD : D → XM D := intsD (fun _ => true) fun ns => .int ns.sum
abbrev maxD : D → XM D := intsD (fun ns => !ns.isEmpty) fun ns => .int (maxL ns)
abbrev minD : D → XM D := intsD (fun ns => !ns.isEmpty) fun ns => .int (minL ns)
theorem cs_sum : CallS F (.builtin "sum") (f1 sumD) := by
  refine cs_1 (r := rSeqI g.K fun ns Q => Q (.int ns.sum)) (fun W X m => by have := cr_sumA (F.calm m); rw [F.hK m] at this; exact this) ?_
  intro W G H as st σ e x v Q R rx h
  obtain ⟨ns, a, rfl, s, _, h'⟩ := ints_px R rx h
  exact ⟨a, ns, rfl, s, h'.pure R (.int _)⟩
theorem ne_pos {ns : List Int} (h : (!ns.isEmpty) = true) : 0 < ns.length := by
  cases ns with
  | nil => cases h
  | cons _ _ => simp
theorem cs_max : CallS F (.builtin "max") (f1 maxD) := by
  refine cs_1 (r := rSeqI g.K fun ns Q => 0 < ns.length ∧ Q (.int (maxL ns))) (fun W X m => by have := cr_maxA (F.calm m); rw [F.hK m] at this; exact this) ?_
  intro W G H as st σ e x v Q R rx h
  obtain ⟨ns, a, rfl, s, c, h'⟩ := ints_px R rx h
  exact ⟨a, ns, rfl, s, ne_pos c, h'.pure R (.int _)⟩
theorem cs_min : CallS F (.builtin "min") (f1 minD) := by
  refine cs_1 (r := rSeqI g.K fun ns Q => 0 < ns.length ∧ Q (.int (minL ns))) (fun W X m => by have := cr_minA (F.calm m); rw [F.hK m] at this; exact this) ?_
  intro W G H as st σ e x v Q R rx h
  obtain ⟨ns, a, rfl, s, c, h'⟩ := ints_px R rx h
  exact ⟨a, ns, rfl, s, ne_pos c, h'.pure R (.int _)⟩
/-- all, any of a list of bools -/
def blsD (f : List Bool → Bool) (x : D) : XM D := fun _ st => match lstOf st x with
  | some xs => (match blsOf xs with
    | some bs => .ok (.bl (f bs)) st
    | none => .stuck)
  | none => .stuck
theorem bls_px {K : PySem.W.Frag} {mg : Str → Option Value} {W : WX} {G H : Hp} {as : List Addr} {st : Store} {σ : L2.St} {e : Nv} {x : D} {v : V} {Q : VK} {f : List Bool → Bool} (R : Ri K mg G H as st) (rx : Rp K mg G as v x)
    (h : PX K mg W G H as σ (blsD f x e st) Q) : ∃ bs a, v = .ref a ∧ SqL K H a (bs.map V.bl) ∧ Q (.bl (f bs)) H := by
  unfold blsD at h
  cases q0 : lstOf st x with
  | none => simp [q0] at h; exact h.elim
  | some xs =>
    obtain ⟨a, vs, e1, s, r⟩ := lstOf_ok R rx q0
    cases q : blsOf xs with
    | none => simp [q0, q] at h; exact h.elim
    | some bs =>
      simp only [q0, q] at h
      cases blsOf_eq q
      cases RpA.bls _ r
      exact ⟨bs, a, e1, .of s, h.pure R (.bl _)⟩
abbrev allD : D → XM D := blsD fun bs => bs.all id
abbrev anyD : D → XM D := blsD fun bs => bs.any id
theorem cs_all : CallS F (.builtin "all") (f1 allD) := by
  refine cs_1 (r := rAll g.K) (fun W X m => by have := cr_all (X := X) (F.calm m); rw [F.hK m] at this; exact this) ?_
  intro W G H as st σ e x v Q R rx h
  obtain ⟨bs, a, rfl, s, q⟩ := bls_px R rx h
  exact ⟨a, bs, rfl, s, q⟩
theorem cs_any : CallS F (.builtin "any") (f1 anyD) := by
  refine cs_1 (r := rAny g.K) (fun W X m => by have := cr_any (X := X) (F.calm m); rw [F.hK m] at this; exact this) ?_
  intro W G H as st σ e x v Q R rx h
  obtain ⟨bs, a, rfl, s, q⟩ := bls_px R rx h
  exact ⟨a, bs, rfl, s, q⟩
/-! ### list(x), tuple(x) -/
def listD (x : D) : XM D := fun _ st => match seqOf st x with
  | some xs => .ok (.lst xs) st
  | none => .stuck
def tupleD (x : D) : XM D := fun _ st => match seqOf st x with
  | some xs => .ok (.tup xs) st
  | none => .stuck
theorem cs_list : CallS F (.type "list") (f1 listD) := by
  refine cs_1 (r := fun xs H Q => ∃ p ys, xs = [.ref p] ∧ (SqL g.K H p ys ∨ SqT g.K H p ys) ∧ ∀ l, H l = none → Q (.ref l) (upd H l (.lst ys))) (fun W X m => by have := call_list_of (X := X); rw [F.hK m] at this; exact this) ?_
  intro W G H as st σ e x v Q R rx h
  obtain ⟨xs, a, vs, rfl, s, r, h'⟩ := seq_px (f := fun xs => .ok (.lst xs) st) R rx h
  refine ⟨a, vs, rfl, s, fun p hp => ?_⟩
  exact PX.still R hp (.lst upd_same (r.ext (R.still hp).2)) h'
theorem cs_tuple : CallS F (.type "tuple") (f1 tupleD) := by
  refine cs_1 (r := fun xs H Q => ∃ p ys, xs = [.ref p] ∧ ((SqL g.K H p ys ∧ ∀ l, H l = none → Q (.ref l) (upd H l (.tup ys))) ∨ (SqT g.K H p ys ∧ Q (.ref p) H))) (fun W X m => by have := call_tuple_of (X := X); rw [F.hK m] at this; exact this) ?_
  intro W G H as st σ e x v Q R rx h
  have new : ∀ xs a vs, SqL g.K H a vs → RpA g.K g.mg G as vs xs → PX g.K g.mg W G H as σ (.ok (.tup xs) st) Q → ∀ l, H l = none → Q (.ref l) (upd H l (.tup vs)) := fun xs a vs s r q p hp =>
    PX.still R hp (.tup (.inl (.inl upd_same)) (r.ext (R.still hp).2)) q
  have mov : (match lstOf st x with | some xs => (.ok (.tup xs) st : RX D) | none => .stuck) = tupleD x e st → ∃ p ys, [v] = [V.ref p] ∧ ((SqL g.K H p ys ∧ ∀ l, H l = none → Q (.ref l) (upd H l (.tup ys))) ∨ (SqT g.K H p ys ∧ Q (.ref p) H)) := fun e' => by
    rw [← e'] at h
    cases q0 : lstOf st x with
    | none => simp [q0] at h; exact h.elim
    | some xs =>
      simp only [q0] at h
      obtain ⟨a, vs, rfl, s, r⟩ := lstOf_ok R rx q0
      exact ⟨a, vs, rfl, .inl ⟨.of s, new xs a vs (.of s) r h⟩⟩
  cases rx with
  | tup s q => exact ⟨_, _, rfl, .inr ⟨sqT_H R s, PX.pure R (.tup s q) h⟩⟩
  | tpz s z q => exact ⟨_, _, rfl, .inr ⟨sqT_H R (.inl (.inr ⟨_, s⟩)), PX.pure R (.tup (.inl (.inr ⟨_, s⟩)) q) h⟩⟩
  | sq s q => exact ⟨_, _, rfl, .inl ⟨sqL_H R s, new _ _ _ (sqL_H R s) q h⟩⟩
  | lst s q => exact mov rfl
  | ref q => exact mov rfl
  | _ => exact h.elim

/-! ### isinstance -/
def tyNm : D → Option String
  | .non => some "NoneType"
  | .bl _ => some "bool"
  | .int _ => some "int"
  | .str _ => some "str"
  | .tup _ => some "tuple"
  | .lst _ => some "list"
  | .sq _ => some "list"
  | .ref _ => some "list"
  | _ => none
def knownTy (n : String) : Bool := n == "int" || n == "bool" || n == "str" || n == "tuple" || n == "list" || n == "dict"
def isiB (a n : String) : Bool := a == n || (a == "bool" && n == "int")
def isiO (x : D) (n : String) : Option Bool := match tyNm x with
  | some a => if knownTy n = true then some (isiB a n) else none
  | none => none
theorem known_cases {n : String} (h : knownTy n = true) : n = "int" ∨ n = "bool" ∨ n = "str" ∨ n = "tuple" ∨ n = "list" ∨ n = "dict" := by
  unfold knownTy at h
  simp only [Bool.or_eq_true, beq_iff_eq] at h
  rcases h with ((((h | h) | h) | h) | h) | h <;> simp [h]
theorem kit_cases {K : PySem.W.Frag} {a n : String} (ha : a = "NoneType" ∨ a = "bool" ∨ a = "int" ∨ a = "str" ∨ a = "tuple" ∨ a = "list") (h : knownTy n = true) : PySem.W.kitOne K (.type a) (.type n) = some (isiB a n) := by
  rcases ha with rfl | rfl | rfl | rfl | rfl | rfl <;> rcases known_cases h with rfl | rfl | rfl | rfl | rfl | rfl <;> exact kit_ty (by decide +kernel)
theorem tyX_of {K : PySem.W.Frag} {mg : Str → Option Value} {G H : Hp} {as : List Addr} {st : Store} {x : D} {v : V} {a : String} (R : Ri K mg G H as st) (r : Rp K mg G as v x) (h : tyNm x = some a) (hr : ∀ i, x = .ref i → ∃ xs, lstOf st x = some xs) :
    TyX K H v (.type a) ∧ (a = "NoneType" ∨ a = "bool" ∨ a = "int" ∨ a = "str" ∨ a = "tuple" ∨ a = "list") := by
  have sqL : ∀ {a : Addr} {vs : List V}, SqL K H a vs → TyX K H (.ref a) (.type "list") := fun {a vs} s => by
    rcases s with (s | ⟨o, s⟩) | ⟨o, its, n, hk, hc, _⟩
    · exact .base (.lst s)
    · exact .base (.frz s)
    · exact .kList hk hc
  have sqT : ∀ {a : Addr} {vs : List V}, SqT K H a vs → TyX K H (.ref a) (.type "tuple") := fun {a vs} s => by
    rcases s with (s | ⟨o, s⟩) | ⟨o, its, n, hk, hc, _⟩
    · exact .base (.tup s)
    · exact .fTuple s
    · exact .kTuple hk hc
  cases r with
  | non => cases h; exact ⟨.base .non, by simp⟩
  | bl b => cases h; exact ⟨.base (.bl b), by simp⟩
  | int b => cases h; exact ⟨.base (.int b), by simp⟩
  | str b => cases h; exact ⟨.base (.str b), by simp⟩
  | ty n => cases h
  | glo x a q => cases h
  | tup s q => cases h; exact ⟨sqT (sqT_H R s), by simp⟩
  | lst s q => cases h; exact ⟨sqL (.of (R.sub _ _ s)), by simp⟩
  | sq s q => cases h; exact ⟨sqL (sqL_H R s), by simp⟩
  | tpz s z q => cases h
  | ref q =>
    cases h
    obtain ⟨xs, e⟩ := hr _ rfl
    obtain ⟨b, vs, e1, s, _⟩ := lstOf_ok R (.ref q) e
    cases e1
    exact ⟨sqL (.of s), by simp⟩
def refOk (st : Store) (x : D) : Bool := match x with
  | .ref i => (lstOf st (.ref i)).isSome
  | _ => true
theorem refOk_ok {st : Store} {x : D} (h : refOk st x = true) : ∀ i, x = .ref i → ∃ xs, lstOf st x = some xs := fun i e => by
  subst e
  exact Option.isSome_iff_exists.mp h
def isiD (x y : D) : XM D := fun _ st => match y with
  | .ty n => (match isiO x n with
    | some b => if refOk st x = true then .ok (.bl b) st else .stuck
    | none => .stuck)
  | _ => .stuck
theorem cs_isi : CallS F (.builtin "isinstance") (f2 isiD) := by
  refine cs_2 (r := rIsi g.K) (fun W X m => by have := call_isi (X := X); rw [F.hK m] at this; exact this) ?_
  intro W G H as st σ e x y v w Q R rx ry h
  cases ry with
  | ty n =>
    unfold isiD at h
    cases q : isiO x n with
    | none => simp [q] at h; exact h.elim
    | some b =>
      simp only [q] at h
      by_cases hr : refOk st x = true
      · rw [if_pos hr] at h
        unfold isiO at q
        cases q1 : tyNm x with
        | none => simp [q1] at q
        | some a =>
          simp only [q1] at q
          by_cases hk : knownTy n = true
          · rw [if_pos hk] at q
            cases q
            obtain ⟨t, c⟩ := tyX_of R rx q1 (refOk_ok hr)
            exact ⟨v, .ty n, .type a, .type n, isiB a n, rfl, .ty n, t, kit_cases c hk, h.pure R (.bl _)⟩
          · rw [if_neg hk] at q; cases q
      · rw [if_neg hr] at h; exact h.elim
  | _ => exact h.elim
/-- isinstance(x, (T1, T2)) -/
def isi2D (n1 n2 : String) (x : D) : XM D := fun _ st => match isiO x n1, isiO x n2 with
  | some a, some b => if refOk st x = true then .ok (.bl (a || b)) st else .stuck
  | _, _ => .stuck
theorem je_isi2 {x : Str} {p p2 pa pb : Pos} {k : Nat} {a : Expr} {m : XM D} {x1 x2 : Str} {n1 n2 : String} (hg : F.sc.names.lookup x = some .globalImplicit) (hm : g.mg x = none) (hv : bootBuiltins x = some (.builtin "isinstance")) (ha : JE F a m)
    (hg1 : F.sc.names.lookup x1 = some .globalImplicit) (hm1 : g.mg x1 = none) (hv1 : bootBuiltins x1 = some (.type n1)) (hg2 : F.sc.names.lookup x2 = some .globalImplicit) (hm2 : g.mg x2 = none) (hv2 : bootBuiltins x2 = some (.type n2))
    (hn : x ≠ "__name__" := by decide) (hdb : (x == ("__debug__" : Str)) = false := by decide) (hn1 : x1 ≠ "__name__" := by decide) (hd1 : (x1 == ("__debug__" : Str)) = false := by decide) (hn2 : x2 ≠ "__name__" := by decide) (hd2 : (x2 == ("__debug__" : Str)) = false := by decide)
    (he : ∀ env, starEach [a, .Tuple [.Name x1 pa, .Name x2 pb] k p2] env = (false, eval a env) :: starEach [.Tuple [.Name x1 pa, .Name x2 pb] k p2] env := by intro _; rfl) (hpl : ∀ env, (backTo pos (starEach [.Tuple [.Name x1 pa, .Name x2 pb] k p2] env)).any (·.1) = false := by intro _; rfl) :
    JE F (.Call (.Name x p) [a, .Tuple [.Name x1 pa, .Name x2 pb] k p2] [] pos) (xbind m (isi2D n1 n2)) := by
  obtain ⟨t, p', s⟩ := ha
  refine ⟨fun W => tCB (rIsiT g.K) (tCons (t W) (tCons (tTup (tCons (tC (.ty n1)) (tCons (tC (.ty n2)) tNil))) tNil)), fun W X m => ?_, ?_⟩
  · have gl : ∀ y, F.sc.names.lookup y = some .globalImplicit → Gl X y := fun y hy => by show X.env.scope.names.lookup y = _; rw [F.hsc m]; exact hy
    have mg' : ∀ y, g.mg y = none → X.mg y = none := fun y hy => by rw [F.hmg m]; exact hy
    have c := call_isiT (X := X)
    rw [F.hK m] at c
    exact pe_callB c (gl x hg) (mg' x hm) hv (pa_cons (p' W X m) (pa_cons (pe_tup (pa_cons (pe_bltn (gl x1 hg1) (mg' x1 hm1) hv1 rfl hn1 hd1) (pa_cons (pe_bltn (gl x2 hg2) (mg' x2 hm2) hv2 rfl hn2 hd2) pa_nil))) pa_nil) (he _)) hn hdb (he _) (hpl _)
  · intro W G H as st σ e Q R N h
    refine s.one R N h fun d st1 v G1 H1 as1 R1 X1 N1 rv h1 => ?_
    unfold isi2D at h1
    cases q1 : isiO d n1 with
    | none => simp [q1] at h1; exact h1.elim
    | some b1 =>
      cases q2 : isiO d n2 with
      | none => simp [q1, q2] at h1; exact h1.elim
      | some b2 =>
        simp only [q1, q2] at h1
        by_cases hr : refOk st1 d = true
        · rw [if_pos hr] at h1
          unfold isiO at q1 q2
          cases q3 : tyNm d with
          | none => simp [q3] at q1
          | some ty =>
            simp only [q3] at q1 q2
            by_cases hk1 : knownTy n1 = true
            · by_cases hk2 : knownTy n2 = true
              · rw [if_pos hk1] at q1
                rw [if_pos hk2] at q2
                cases q1; cases q2
                refine ⟨by show 2 ≤ sizeLine; decide, fun tp htp => ?_⟩
                obtain ⟨R2, X2⟩ := R1.still (o := .tup [V.ty n1, V.ty n2]) htp
                obtain ⟨tx, c⟩ := tyX_of R2 (rv.ext X2) q3 (refOk_ok hr)
                refine ⟨v, tp, [.ty n1, .ty n2], .type ty, [.type n1, .type n2], isiB ty n1 || isiB ty n2, rfl, upd_same, .cons (.ty n1) (.cons (.ty n2) .nil), tx, ?_, h1 _ _ _ _ R2 X2 (.bl _)⟩
                refine kitAny_cons (b := isiB ty n1) (kit_cases c hk1) (fun z => ?_) (fun z => by rw [z]; rfl)
                rw [z, Bool.false_or]
                exact kitAny_cons (b := isiB ty n2) (kit_cases c hk2) (fun z2 => by rw [z2]; exact kitAny_nil) (fun z2 => z2)
              · rw [if_neg hk2] at q2; cases q2
            · rw [if_neg hk1] at q1; cases q1
        · rw [if_neg hr] at h1; exact h1.elim
end
end LS
end
section
set_option maxRecDepth 100000
set_option maxHeartbeats 2000000
namespace LS
open PySem PySem.Spec L2

/-! ## statements -/
section
variable {g : Gb} {F : Fam g} {pos : Pos}
def snext : SM := fun e st => .nx e st
def sseq (m n : SM) : SM := fun e st => match m e st with
  | .nx e' st' => n e' st'
  | r => r
theorem jss_nil : JSs F [] snext := ⟨fun _ => tNext, fun _ _ _ => pss_nil, fun W G H as st σ e E R N h => h σ G H as R N Ext.refl⟩
theorem jss_one {s : Stmt} {m : SM} (h : JS F s m) : JSs F [s] m := let ⟨t, p, q⟩ := h; ⟨t, fun W X m => pss_one (p W X m), q⟩
theorem PS_.ends {K : PySem.W.Frag} {mg : Str → Option Value} {W : WX} {G H : Hp} {as : List Addr} {n : Nat} {m : RS} {E E' : Ends} (h : PS_ K mg W G H as n m E) (hr : E'.rt = E.rt) (hb : E'.bk = E.bk) (hc : E'.ct = E.ct)
    (hn : ∀ e st, m = .nx e st → ∀ σ G' H' as', Ri K mg G' H' as' st → Rn K mg G' as' σ e → Ext G H as G' H' as' → E'.nx σ H') : PS_ K mg W G H as n m E' := by
  cases m with
  | nx e st => exact hn e st rfl
  | rt d st => intro v G' H' as' R x r; rw [hr]; exact h v G' H' as' R x r
  | bk e st => intro σ G' H' as' R N x; rw [hb]; exact h σ G' H' as' R N x
  | ct e st => intro σ G' H' as' R N x; rw [hc]; exact h σ G' H' as' R N x
  | exc c p e st => exact h
  | stuck => exact h
theorem jss_cons {s : Stmt} {r : List Stmt} {m n : SM} (h : JS F s m) (h' : JSs F r n) : JSs F (s :: r) (sseq m n) := by
  obtain ⟨t, p, q⟩ := h
  obtain ⟨t', p', q'⟩ := h'
  refine ⟨fun W => tSeq (t W) (t' W), fun W X mm => pss_cons (p W X mm) (p' W X mm), ?_⟩
  intro W G H as st σ e E R N h
  refine q W G H as st σ e _ R N ?_
  unfold sseq at h
  cases hm : m e st with
  | nx e1 st1 =>
    rw [hm] at h
    exact fun σ1 G1 H1 as1 R1 N1 X1 => q' W G1 H1 as1 st1 σ1 e1 E R1 N1 (PS_.ext (n := e.length) h X1)
  | rt d st1 => rw [hm] at h; exact h
  | bk e1 st1 => rw [hm] at h; exact h
  | ct e1 st1 => rw [hm] at h; exact h
  | exc c p e1 st1 => rw [hm] at h; exact h
  | stuck => rw [hm] at h; exact h
theorem js_pass : JS F (.Pass pos) snext := ⟨fun _ => tNext, fun _ _ _ => ps_pass, fun W G H as st σ e E R N h => h σ G H as R N Ext.refl⟩
def sbreak : SM := fun e st => .bk e st
def scont : SM := fun e st => .ct e st
theorem js_break : JS F (.Break pos) sbreak := ⟨fun _ => tBreak, fun _ _ _ => ps_break, fun W G H as st σ e E R N h => h σ G H as R N Ext.refl⟩
theorem js_cont : JS F (.Continue pos) scont := ⟨fun _ => tCont, fun _ _ _ => ps_continue, fun W G H as st σ e E R N h => h σ G H as R N Ext.refl⟩
/-- an expression's outcome ahead of a statement's rest -/
def sbind (m : XM D) (f : D → SM) : SM := fun e st => match m e st with
  | .ok d st' => f d e st'
  | .exc c p st' => .exc c p e st'
  | .stuck => .stuck
theorem SE.oneS {t : WX → TE} {m : XM D} {f : D → SM} {W : WX} {G H : Hp} {as : List Addr} {σ : L2.St} {e : Nv} {st : Store} {E : Ends} {Q1 : VK} (s : SE g t m) (R : Ri g.K g.mg G H as st) (N : Rn g.K g.mg G as σ e) (h : PS_ g.K g.mg W G H as e.length (sbind m f e st) E)
    (k : ∀ x st1 v G1 H1 as1, Ri g.K g.mg G1 H1 as1 st1 → Ext G H as G1 H1 as1 → Rn g.K g.mg G1 as1 σ e → Rp g.K g.mg G1 as1 v x → PS_ g.K g.mg W G1 H1 as1 e.length (f x e st1) E → Q1 v H1) : t W σ H Q1 := by
  refine s W G H as st σ e Q1 R N ?_
  unfold sbind at h
  cases q : m e st with
  | ok x st1 =>
    rw [q] at h
    exact fun v G1 H1 as1 R1 X1 rv => k x st1 v G1 H1 as1 R1 X1 (N.ext X1) rv (PS_.ext (r := f x e st1) h X1)
  | exc c p st1 =>
    rw [q] at h
    exact fun cls d G1 H1 as1 R1 X1 x => h σ cls d G1 H1 as1 R1 (N.ext X1) X1 x
  | stuck => rw [q] at h; exact h.elim
def sbindB (m : XM Bool) (f : Bool → SM) : SM := fun e st => match m e st with
  | .ok d st' => f d e st'
  | .exc c p st' => .exc c p e st'
  | .stuck => .stuck
theorem ST.oneS {t : WX → TT} {m : XM Bool} {f : Bool → SM} {W : WX} {G H : Hp} {as : List Addr} {σ : L2.St} {e : Nv} {st : Store} {E : Ends} {Q1 : Bool → Hp → Prop} (s : ST g t m) (R : Ri g.K g.mg G H as st) (N : Rn g.K g.mg G as σ e) (h : PS_ g.K g.mg W G H as e.length (sbindB m f e st) E)
    (k : ∀ x st1 G1 H1 as1, Ri g.K g.mg G1 H1 as1 st1 → Ext G H as G1 H1 as1 → Rn g.K g.mg G1 as1 σ e → PS_ g.K g.mg W G1 H1 as1 e.length (f x e st1) E → Q1 x H1) : t W σ H Q1 := by
  refine s W G H as st σ e Q1 R N ?_
  unfold sbindB at h
  cases q : m e st with
  | ok x st1 =>
    rw [q] at h
    exact fun G1 H1 as1 R1 X1 => k x st1 G1 H1 as1 R1 X1 (N.ext X1) (PS_.ext (r := f x e st1) h X1)
  | exc c p st1 =>
    rw [q] at h
    exact fun cls d G1 H1 as1 R1 X1 x => h σ cls d G1 H1 as1 R1 (N.ext X1) X1 x
  | stuck => rw [q] at h; exact h.elim
def sdrop (m : XM D) : SM := sbind m fun _ => snext
theorem js_expr {ex : Expr} {m : XM D} (h : JE F ex m) (hs : ∀ env, swapsWith ex none pos.line env = pure false := by intro _; rfl) : JS F (.Expr ex pos) (sdrop m) := by
  obtain ⟨t, p, s⟩ := h
  refine ⟨fun W => tDrop (t W), fun W X m => ps_expr (p W X m) (hs _), ?_⟩
  intro W G H as st σ e E R N h
  exact s.oneS R N h fun x st1 v G1 H1 as1 R1 X1 N1 rv h1 => h1 σ G1 H1 as1 R1 N1 Ext.refl
def sret (m : XM D) : SM := sbind m fun d => fun _ st => .rt d st
theorem js_ret {ex : Expr} {m : XM D} (h : JE F ex m) : JS F (.Return (some ex) pos) (sret m) := by
  obtain ⟨t, p, s⟩ := h
  refine ⟨fun W => tRet (t W), fun W X m => ps_ret (p W X m), ?_⟩
  intro W G H as st σ e E R N h
  exact s.oneS R N h fun x st1 v G1 H1 as1 R1 X1 N1 rv h1 => h1 v G1 H1 as1 R1 Ext.refl rv
def sretN : SM := fun _ st => .rt .non st
theorem js_retN : JS F (.Return none pos) sretN := ⟨fun _ => tRetN, fun _ _ _ => ps_retN, fun W G H as st σ e E R N h => h .non G H as R Ext.refl .non⟩
def sif (c : XM Bool) (m n : SM) : SM := sbindB c fun b => if b = true then m else n
theorem js_if {c : Expr} {a b : List Stmt} {mc : XM Bool} {m n : SM} (hc : JT F c mc) (ha : JSs F a m) (hb : JSs F b n) : JS F (.If c a b pos) (sif mc m n) := by
  obtain ⟨tc, pc, sc⟩ := hc
  obtain ⟨ta, pa, sa⟩ := ha
  obtain ⟨tb, pb, sb⟩ := hb
  refine ⟨fun W => tIfS (tc W) (ta W) (tb W), fun W X m => ps_if (pc W X m) (pa W X m) (pb W X m), ?_⟩
  intro W G H as st σ e E R N h
  refine sc.oneS R N h fun b st1 G1 H1 as1 R1 X1 N1 h1 => ?_
  cases b with
  | true => exact iteT (sa W G1 H1 as1 st1 σ e E R1 N1 h1)
  | false => exact iteF (sb W G1 H1 as1 st1 σ e E R1 N1 h1)

/-! ## targets -/
abbrev MG := D → Nv → Store → Option (Nv × Store)
def JG (F : Fam g) (target : Expr) (m : MG) : Prop := ∃ t : WX → TG, (∀ W X, F.mem W X → PG X target (t W)) ∧
  ∀ (W : WX) (G H : Hp) (as : List Addr) (st : Store) (σ : L2.St) (e : Nv) (v : V) (x : D) (e' : Nv) (st' : Store) (Q : L2.St → Hp → Prop), Ri g.K g.mg G H as st → Rn g.K g.mg G as σ e → Rp g.K g.mg G as v x → m x e st = some (e', st') →
    (∀ σ' G' H' as', Ri g.K g.mg G' H' as' st' → Rn g.K g.mg G' as' σ' e' → Ext G H as G' H' as' → Q σ' H') → t W v σ H Q
theorem Rn.set {K : PySem.W.Frag} {mg : Str → Option Value} {G : Hp} {as : List Addr} {σ : L2.St} {e : Nv} {v : V} {x : D} (N : Rn K mg G as σ e) (i : Nat) (r : Rp K mg G as v x) : Rn K mg G as (σ.set i (some v)) (e.set i (some x)) := by
  refine ⟨by simp [N.len], fun j y h => ?_⟩
  by_cases hj : j = i
  · subst hj
    have hl : j < e.length := by
      have := (List.getElem?_eq_some_iff.mp h).1
      simpa using this
    rw [List.getElem?_set_self hl] at h
    cases h
    exact ⟨v, List.getElem?_set_self (by rw [N.len]; exact hl), r⟩
  · rw [List.getElem?_set_ne (Ne.symm hj)] at h
    obtain ⟨u, e1, r1⟩ := N.at_ j y h
    exact ⟨u, by rw [List.getElem?_set_ne (Ne.symm hj)]; exact e1, r1⟩
def gname (i : Nat) : MG := fun x e st => some (e.set i (some x), st)
theorem jg_name (i : Nat) {x : Str} (hi : F.N[i]? = some x) (hx : Loc F.sc x) (hw : F.own x = true := by rfl) : JG F (.Name x pos) (gname i) := by
  refine ⟨fun _ => gName i, fun W X m => pg_name (by rw [F.hN m]; exact F.nd) (by rw [F.hN m]; exact hi) (by rw [F.hsc m]; exact hx) (F.fn m x hw hx), ?_⟩
  intro W G H as st σ e v x e' st' Q R N r h k
  cases h
  exact k _ G H as R (N.set i r) Ext.refl
/-- several targets -/
abbrev MGs := List D → Nv → Store → Option (Nv × Store)
def JGs (F : Fam g) (ts : List Expr) (m : MGs) : Prop := ∃ t : WX → TGs, (∀ W X, F.mem W X → PGs X ts (t W)) ∧
  ∀ (W : WX) (G H : Hp) (as : List Addr) (st : Store) (σ : L2.St) (e : Nv) (vs : List V) (xs : List D) (e' : Nv) (st' : Store) (Q : L2.St → Hp → Prop), Ri g.K g.mg G H as st → Rn g.K g.mg G as σ e → RpA g.K g.mg G as vs xs → m xs e st = some (e', st') →
    (∀ σ' G' H' as', Ri g.K g.mg G' H' as' st' → Rn g.K g.mg G' as' σ' e' → Ext G H as G' H' as' → Q σ' H') → t W vs σ H Q
def gnil : MGs := fun xs e st => match xs with
  | [] => some (e, st)
  | _ => none
def gcons (m : MG) (ms : MGs) : MGs := fun xs e st => match xs with
  | x :: r => (match m x e st with
    | some (e', st') => ms r e' st'
    | none => none)
  | [] => none
theorem jgs_nil : JGs F [] gnil := by
  refine ⟨fun _ => gNil, fun _ _ _ => pgs_nil, ?_⟩
  intro W G H as st σ e vs xs e' st' Q R N r h k
  cases r with
  | nil => cases h; exact ⟨rfl, k _ G H as R N Ext.refl⟩
  | cons _ _ => cases h
theorem jgs_cons {ex : Expr} {es : List Expr} {m : MG} {ms : MGs} (h : JG F ex m) (hs : JGs F es ms) (ha : ∀ env, (assignEach (ex :: es) env).map (·.2) = assign ex env :: (assignEach es env).map (·.2) := by intro _; rfl) : JGs F (ex :: es) (gcons m ms) := by
  obtain ⟨t, p, s⟩ := h
  obtain ⟨ts, ps, ss⟩ := hs
  refine ⟨fun W => gCons (t W) (ts W), fun W X m => pgs_cons (p W X m) (ps W X m) (ha _), ?_⟩
  intro W G H as st σ e vs xs e' st' Q R N r h k
  cases r with
  | nil => cases h
  | cons r rr =>
    rename_i v vr x xr
    unfold gcons at h
    cases q : m x e st with
    | none => simp [q] at h
    | some z =>
      obtain ⟨e1, st1⟩ := z
      simp only [q] at h
      refine ⟨v, vr, rfl, s W G H as st σ e v x e1 st1 _ R N r q fun σ1 G1 H1 as1 R1 N1 X1 => ?_⟩
      exact ss W G1 H1 as1 st1 σ1 e1 vr xr e' st' Q R1 N1 (rr.ext X1) h fun σ2 G2 H2 as2 R2 N2 X2 => k σ2 G2 H2 as2 R2 N2 (X1.trans X2)
def gtup (n : Nat) (ms : MGs) : MG := fun x e st => match x with
  | .tup xs => if xs.length = n then ms xs e st else none
  | _ => none
theorem jg_tup {es : List Expr} {k n : Nat} {ms : MGs} (hs : JGs F es ms) (hn : ∀ env, (assignEach es env).length = n := by intro _; rfl) (hst : ∀ env, (assignEach es env).findIdx? (·.1) = none := by intro _; rfl) : JG F (.Tuple es k pos) (gtup n ms) := by
  obtain ⟨ts, ps, ss⟩ := hs
  refine ⟨fun W => gTup g.K n (ts W), fun W X m => by have := pg_tup (k := k) (pos := pos) (F.calm m) (ps W X m) (hn _) (hst _); rw [F.hK m] at this; exact this, ?_⟩
  intro W G H as st σ e v x e' st' Q R N r h k
  cases r with
  | tup s q =>
    rename_i a vs xs
    unfold gtup at h
    by_cases hl : xs.length = n
    · simp only [hl, if_true] at h
      exact ⟨a, vs, rfl, sqT_H R s, q.len.trans hl, ss W G H as st σ e vs xs e' st' Q R N q h k⟩
    · simp [hl] at h
  | _ => cases h
/-- o[i] = .. of a moving list; o and i by parts that change nothing -/
def gsub (mo mi : XM D) : MG := fun x e st => match mo e st, mi e st with
  | .ok (.ref k) _, .ok (.int i) _ => (match st[k]? with
    | some (.lst xs) => (match ixN xs.length i with
      | some j => some (e, st.set k (.lst (xs.set j x)))
      | none => none)
    | _ => none)
  | _, _ => none
/-- parts that change nothing -/
def Quiet (m : XM D) : Prop := ∀ e st d st', m e st = .ok d st' → st' = st
theorem quiet_var (i : Nat) : Quiet (xvar i) := fun e st d st' h => by
  unfold xvar at h
  split at h
  · cases h; rfl
  · cases h
theorem quiet_pure (d : D) : Quiet (xpure d) := fun _ _ _ _ h => by cases h; rfl
theorem jg_sub {o i : Expr} {mo mi : XM D} (ho : JE F o mo) (hi : JE F i mi) (qo : Quiet mo) (qi : Quiet mi)
    (ha : ∀ (env : Env) v, assign (.Subscript o i pos) env v = (do
      let ov ← holding [v] (eval o env)
      let iv ← holding [v, ov] (eval i env)
      standAt pos
      holding [v, ov, iv] (setItem ov iv v)
      release [v, ov, iv] []) := by intro _ _; rfl) : JG F (.Subscript o i pos) (gsub mo mi) := by
  obtain ⟨t, p, s⟩ := ho
  obtain ⟨ti, pi, si⟩ := hi
  refine ⟨fun W => gSub (t W) (ti W) rSetL, fun W X m => pg_sub (p W X m) (pi W X m) set_list (ha _), ?_⟩
  intro W G H as st σ e v x e' st' Q R N r h k
  unfold gsub at h
  cases q1 : mo e st with
  | exc c p st1 => simp [q1] at h
  | stuck => simp [q1] at h
  | ok d st1 =>
    cases q2 : mi e st with
    | exc c p st1 => simp [q1, q2] at h
    | stuck => simp [q1, q2] at h
    | ok d2 st2 =>
      cases qo _ _ _ _ q1
      cases qi _ _ _ _ q2
      rw [q1, q2] at h
      cases d with
      | ref kk =>
        cases d2 with
        | int ii =>
          simp only at h
          cases q3 : st[kk]? with
          | none => simp [q3] at h
          | some mo' =>
            cases mo' with
            | lst xs =>
              simp only [q3] at h
              cases q4 : ixN xs.length ii with
              | none => simp [q4] at h
              | some j =>
                simp only [q4] at h
                cases h
                refine s W G H as st σ e _ R N ?_
                rw [q1]
                intro ov G1 H1 as1 R1 X1 ro
                refine si W G1 H1 as1 st σ e _ R1 (N.ext X1) ?_
                rw [q2]
                intro iv G2 H2 as2 R2 X2 ri
                have ro2 := ro.ext X2
                cases ri
                cases ro2 with
                | ref qa =>
                  rename_i a
                  obtain ⟨ho', e1, oo⟩ := R2.at_ qa q3
                  cases oo with
                  | lst rr =>
                    rename_i vs
                    obtain ⟨R3, X3⟩ := R2.change (o := .lst (vs.set j v)) (m := .lst (xs.set j x)) qa (.lst (rr.set j ((r.ext X1).ext X2))) (fun u kvs z => by rw [e1] at z; cases z)
                    exact ⟨a, vs, ii, j, rfl, rfl, e1, by rw [rr.len]; exact q4, k _ _ _ _ R3 (((N.ext X1).ext X2).ext X3) ((X1.trans X2).trans X3)⟩
            | _ => simp [q3] at h
        | _ => simp at h
      | _ => simp at h
/-! ## assignments -/
def sasg (m : XM D) (gt : MG) : SM := sbind m fun x => fun e st => match gt x e st with
  | some (e', st') => .nx e' st'
  | none => .stuck
theorem js_asg {tg ex : Expr} {m : XM D} {gt : MG} (h : JE F ex m) (hg : JG F tg gt) (hs : ∀ env, swapsWithSole [tg] ex pos.line env = pure false := by intro _; rfl) (hw : ∀ env, swappedStores [tg] ex env = pure none := by intro _; rfl)
    (h1 : ∀ env, (assignEach [tg] env).map (·.2) = [assign tg env] := by intro _; rfl) : JS F (.Assign [tg] ex pos) (sasg m gt) := by
  obtain ⟨t, p, s⟩ := h
  obtain ⟨tg', pg', sg'⟩ := hg
  refine ⟨fun W => tAsg (t W) (tg' W), fun W X m => ps_asg (p W X m) (pg' W X m) (hs _) (hw _) (h1 _), ?_⟩
  intro W G H as st σ e E R N h
  refine s.oneS R N h fun x st1 v G1 H1 as1 R1 X1 N1 rv h1 => ?_
  cases q : gt x e st1 with
  | none => simp [q] at h1; exact h1.elim
  | some z =>
    obtain ⟨e', st'⟩ := z
    simp only [q] at h1
    exact sg' W G1 H1 as1 st1 σ e v x e' st' _ R1 N1 rv q fun σ2 G2 H2 as2 R2 N2 X2 => h1 σ2 G2 H2 as2 R2 N2 X2
/-- the same, what hangs on the context told of the family -/
theorem js_asgF {tg ex : Expr} {m : XM D} {gt : MG} (h : JE F ex m) (hg : JG F tg gt) (hs : ∀ env, swapsWithSole [tg] ex pos.line env = pure false) (hw : ∀ W X, F.mem W X → swappedStores [tg] ex X.env = pure none)
    (h1 : ∀ env, (assignEach [tg] env).map (·.2) = [assign tg env] := by intro _; rfl) : JS F (.Assign [tg] ex pos) (sasg m gt) := by
  obtain ⟨t, p, s⟩ := h
  obtain ⟨tg', pg', sg'⟩ := hg
  refine ⟨fun W => tAsg (t W) (tg' W), fun W X m => ps_asg (p W X m) (pg' W X m) (hs _) (hw W X m) (h1 _), ?_⟩
  intro W G H as st σ e E R N h
  refine s.oneS R N h fun x st1 v G1 H1 as1 R1 X1 N1 rv h1 => ?_
  cases q : gt x e st1 with
  | none => simp [q] at h1; exact h1.elim
  | some z =>
    obtain ⟨e', st'⟩ := z
    simp only [q] at h1
    exact sg' W G1 H1 as1 st1 σ e v x e' st' _ R1 N1 rv q fun σ2 G2 H2 as2 R2 N2 X2 => h1 σ2 G2 H2 as2 R2 N2 X2
def sset (i : Nat) (m : XM D) : SM := sbind m fun x => fun e st => .nx (e.set i (some x)) st
theorem js_set (i : Nat) {x : Str} {ex : Expr} {m : XM D} {pos' : Pos} (hi : F.N[i]? = some x) (hx : Loc F.sc x) (h : JE F ex m) (hs : ∀ env, swapsWith ex (some (.Name x pos')) pos.line env = pure false := by intro _; rfl) (hw : F.own x = true := by rfl) : JS F (.Assign [.Name x pos'] ex pos) (sset i m) := by
  obtain ⟨t, p, s⟩ := h
  refine ⟨fun W => tAsg (t W) (gName i), fun W X m => ps_set (by rw [F.hN m]; exact F.nd) (by rw [F.hN m]; exact hi) (by rw [F.hsc m]; exact hx) (p W X m) (hs _) (F.fn m x hw hx), ?_⟩
  intro W G H as st σ e E R N h
  exact s.oneS R N h fun x st1 v G1 H1 as1 R1 X1 N1 rv h1 => h1 _ G1 H1 as1 R1 (N1.set i rv) Ext.refl
/-- .. where the value is a comprehension and the name a cell: the context told of the family -/
theorem js_setF (i : Nat) {x : Str} {ex : Expr} {m : XM D} {pos' : Pos} (hi : F.N[i]? = some x) (hx : Loc F.sc x) (h : JE F ex m) (hs : ∀ W X, F.mem W X → swapsWith ex (some (.Name x pos')) pos.line X.env = pure false) (hw : F.own x = true := by rfl) : JS F (.Assign [.Name x pos'] ex pos) (sset i m) := by
  obtain ⟨t, p, s⟩ := h
  refine ⟨fun W => tAsg (t W) (gName i), fun W X m => ps_set (by rw [F.hN m]; exact F.nd) (by rw [F.hN m]; exact hi) (by rw [F.hsc m]; exact hx) (p W X m) (hs W X m) (F.fn m x hw hx), ?_⟩
  intro W G H as st σ e E R N h
  exact s.oneS R N h fun x st1 v G1 H1 as1 R1 X1 N1 rv h1 => h1 _ G1 H1 as1 R1 (N1.set i rv) Ext.refl
/-- a, b = x, y -/
def spar2 (i j : Nat) (ma mb : XM D) : SM := sbind ma fun x => sbind mb fun y => fun e st => .nx ((e.set i (some x)).set j (some y)) st
theorem js_par2 (i j : Nat) {x y : Str} {a b : Expr} {ma mb : XM D} {px py pt : Pos} {kt k2 pt2} (hi : F.N[i]? = some x) (hj : F.N[j]? = some y) (hij : i ≠ j) (hx : F.sc.names.lookup x = some .local) (hy : F.sc.names.lookup y = some .local) (ha : JE F a ma) (hb : JE F b mb)
    (hw : ∀ W X, F.mem W X → swappedStores [.Tuple [.Name x px, .Name y py] kt pt] (.Tuple [a, b] k2 pt2) X.env = pure (some [x, y]))
    (he : ∀ env, starEach [a, b] env = (false, eval a env) :: starEach [b] env := by intro _; rfl) (he2 : ∀ env, starEach [b] env = (false, eval b env) :: starEach [] env := by intro _; rfl)
    (hs : ∀ env, swapsWithSole [.Tuple [.Name x px, .Name y py] kt pt] (.Tuple [a, b] k2 pt2) pos.line env = pure false := by intro _; rfl) :
    JS F (.Assign [.Tuple [.Name x px, .Name y py] kt pt] (.Tuple [a, b] k2 pt2) pos) (spar2 i j ma mb) := by
  obtain ⟨ta, pa, sa⟩ := ha
  obtain ⟨tb, pb, sb⟩ := hb
  refine ⟨fun W => tPar i j (tCons (ta W) (tCons (tb W) tNil)), fun W X m => ps_par (F.calm m) (by rw [F.hN m]; exact F.nd) (by rw [F.hN m]; exact hi) (by rw [F.hN m]; exact hj) hij (by rw [F.hsc m]; exact hx) (by rw [F.hsc m]; exact hy) (pa_cons (pa W X m) (pa_cons (pb W X m) pa_nil (he2 _)) (he _)) (hw W X m) (hs _), ?_⟩
  intro W G H as st σ e E R N h
  refine sa.oneS R N h fun x st1 v G1 H1 as1 R1 X1 N1 rv h1 => ?_
  refine sb.oneS R1 N1 h1 fun y st2 w G2 H2 as2 R2 X2 N2 rw' h2 => ?_
  exact ⟨v, w, rfl, h2 _ G2 H2 as2 R2 ((N2.set i (rv.ext X2)).set j rw') Ext.refl⟩
/-- xs.append(e) of a moving list -/
def isLst (st : Store) (k : Nat) : Bool := match st[k]? with
  | some (.lst _) => true
  | _ => false
def xappend (mo me : XM D) : XM D := xbind mo fun o => match o with
  | .ref k => fun e st => if isLst st k = true then (match me e st with
    | .ok x st' => (match st'[k]? with
      | some (.lst xs) => if xs.length < LIM then .ok .non (st'.set k (.lst (xs ++ [x]))) else .stuck
      | _ => .stuck)
    | .exc c p st' => .exc c p st'
    | .stuck => .stuck) else .stuck
  | _ => fun _ _ => .stuck
theorem isLst_at {st : Store} {k : Nat} (h : isLst st k = true) : ∃ xs, st[k]? = some (.lst xs) := by
  unfold isLst at h
  split at h
  · rename_i xs q; exact ⟨xs, q⟩
  · cases h
theorem ty_ref {K : PySem.W.Frag} {mg : Str → Option Value} {G H : Hp} {as : List Addr} {st : Store} {v : V} {kk : Nat} (R : Ri K mg G H as st) (r : Rp K mg G as v (.ref kk)) (h : isLst st kk = true) : tyV K "list" v H := by
  cases r with
  | ref q =>
    obtain ⟨xs, e⟩ := isLst_at h
    obtain ⟨ho, e1, oo⟩ := R.at_ q e
    cases oo
    exact .inl ⟨rfl, _, .inl (.inl e1)⟩
theorem je_append {o ex : Expr} {mo me : XM D} {apos : Pos} (ho : JE F o mo) (he : JE F ex me) (h1 : ∀ env, attributeBase o "append" env (eval o env) = eval o env := by intro _; rfl) (h2 : (apos.endLine == pos.line) = true := by rfl)
    (hst : ∀ env, starEach [ex] env = (false, eval ex env) :: starEach [] env := by intro _; rfl)
    (hfew : ∀ env, ((backTo pos (starEach [ex] env)).all (fun x => !x.1) && (backToKw pos (keywordEach [] env)).all (fun x => x.1.isSome)
      && decide ([ex].length + ([] : List Keyword).length + (if ([] : List Keyword).isEmpty then 0 else 1) < 30)) = true := by intro _; rfl) : JE F (.Call (.Attribute o "append" apos) [ex] [] pos) (xappend mo me) := by
  obtain ⟨t, p, s⟩ := ho
  obtain ⟨te, pe, se⟩ := he
  refine ⟨fun W => tBM g.K "list" rAppend (t W) (tCons (te W) tNil), fun W X m => ?_, ?_⟩
  · have := pe_bm (cpos := pos) (apos := apos) PySem.F.plainAttrs_list PySem.F.slot_list_append PySem.F.type_list_append (mt_append (X := X)) (p W X m) (pa_cons (pe W X m) pa_nil (hst _)) (h1 _) (hfew _) h2 (hst _) rfl
    rw [F.hK m] at this
    exact this
  · intro W G H as st σ e Q R N h
    refine s.one R N h fun x st1 v G1 H1 as1 R1 X1 N1 rv h1 => ?_
    cases x with
    | ref kk =>
      simp only at h1
      by_cases hk : isLst st1 kk = true
      · rw [if_pos hk] at h1
        refine ⟨ty_ref R1 rv hk, ?_⟩
        refine se W G1 H1 as1 st1 σ e _ R1 N1 ?_
        cases q2 : me e st1 with
        | stuck => simp only [q2] at h1; exact h1.elim
        | exc c p st2 => simp only [q2] at h1; exact h1
        | ok y st2 =>
          simp only [q2] at h1
          intro w G2 H2 as2 R2 X2 rw'
          have rv2 := rv.ext X2
          cases q3 : st2[kk]? with
          | none => simp [q3] at h1; exact h1.elim
          | some mo' =>
            cases mo' with
            | lst xs =>
              simp only [q3] at h1
              by_cases hl : xs.length < LIM
              · rw [if_pos hl] at h1
                cases rv2 with
                | ref qa =>
                  rename_i a
                  obtain ⟨ho', e1, oo⟩ := R2.at_ qa q3
                  cases oo with
                  | lst rr =>
                    rename_i vs
                    obtain ⟨R3, X3⟩ := R2.change (o := .lst (vs ++ [w])) (m := .lst (xs ++ [y])) qa (.lst (rr.append (.cons rw' .nil))) (fun u kvs z => by rw [e1] at z; cases z)
                    exact ⟨a, vs, w, rfl, rfl, e1, by rw [rr.len]; exact lim_lt hl, h1 _ _ _ _ R3 (X2.trans X3) .non⟩
              · rw [if_neg hl] at h1; exact h1.elim
            | _ => simp [q3] at h1; exact h1.elim
      · rw [if_neg hk] at h1; exact h1.elim
    | _ => exact h1.elim
end
end LS
end
section
set_option maxRecDepth 100000
set_option maxHeartbeats 2000000
namespace LS
open PySem PySem.Spec L2

/-! ## equal data -/
mutual
def eqb : D → D → Bool
  | .non, .non => true
  | .bl a, .bl b => a == b
  | .int a, .int b => a == b
  | .str a, .str b => decide (a = b)
  | .ty a, .ty b => decide (a = b)
  | .glo a, .glo b => decide (a = b)
  | .tup a, .tup b => eqbs a b
  | .lst a, .lst b => eqbs a b
  | .sq a, .sq b => eqbs a b
  | .tpz a, .tpz b => eqbs a b
  | .ref a, .ref b => a == b
  | _, _ => false
def eqbs : List D → List D → Bool
  | [], [] => true
  | a :: r, b :: s => eqb a b && eqbs r s
  | _, _ => false
end
mutual
theorem eqb_eq : ∀ {a b : D}, eqb a b = true → a = b
  | .non, b, h => by cases b <;> first | rfl | (simp [eqb] at h)
  | .bl x, b, h => by cases b <;> first | (simp [eqb] at h; done) | (simp [eqb] at h; rw [h])
  | .int x, b, h => by cases b <;> first | (simp [eqb] at h; done) | (simp [eqb] at h; rw [h])
  | .str x, b, h => by cases b <;> first | (simp [eqb] at h; done) | (simp [eqb] at h; rw [h])
  | .ty x, b, h => by cases b <;> first | (simp [eqb] at h; done) | (simp [eqb] at h; rw [h])
  | .glo x, b, h => by cases b <;> first | (simp [eqb] at h; done) | (simp [eqb] at h; rw [h])
  | .ref x, b, h => by cases b <;> first | (simp [eqb] at h; done) | (simp [eqb] at h; rw [h])
  | .tup x, b, h => by
    cases b with
    | tup y => rw [eqbs_eq (a := x) (b := y) (by simpa [eqb] using h)]
    | _ => simp [eqb] at h
  | .lst x, b, h => by
    cases b with
    | lst y => rw [eqbs_eq (a := x) (b := y) (by simpa [eqb] using h)]
    | _ => simp [eqb] at h
  | .sq x, b, h => by
    cases b with
    | sq y => rw [eqbs_eq (a := x) (b := y) (by simpa [eqb] using h)]
    | _ => simp [eqb] at h
  | .tpz x, b, h => by
    cases b with
    | tpz y => rw [eqbs_eq (a := x) (b := y) (by simpa [eqb] using h)]
    | _ => simp [eqb] at h
theorem eqbs_eq : ∀ {a b : List D}, eqbs a b = true → a = b
  | [], b, h => by cases b <;> first | rfl | (simp [eqbs] at h)
  | x :: r, b, h => by
    cases b with
    | nil => simp [eqbs] at h
    | cons y s =>
      simp only [eqbs, Bool.and_eq_true] at h
      rw [eqb_eq h.1, eqbs_eq h.2]
end
/-- the moving list that is walked stands as it stood -/
def srcOk (src : Option Nat) (xs : List D) (st : Store) : Bool := match src with
  | none => true
  | some i => match st[i]? with
    | some (.lst ys) => eqbs ys xs
    | _ => false

/-! ## what is walked -/
section
variable {g : Gb} {F : Fam g} {pos : Pos}
structure Yl (g : Gb) (G0 H0 : Hp) (as0 : List Addr) (src : Option Nat) (xs : List D) (J : It) : Prop where
  go : ∀ i G H as st, i < xs.length → Ri g.K g.mg G H as st → (∀ a o, G0 a = some o → G a = some o) → as0 <+: as → (∀ a o kvs, H0 a = some (.frz o (.dK kvs)) → H a = some (.frz o (.dK kvs))) → srcOk src xs st = true → J.go i H
  stop : ∀ G H as st, Ri g.K g.mg G H as st → (∀ a o, G0 a = some o → G a = some o) → as0 <+: as → (∀ a o kvs, H0 a = some (.frz o (.dK kvs)) → H a = some (.frz o (.dK kvs))) → srcOk src xs st = true → J.stop xs.length H
  yld : ∀ i G H as st v H' x, Ri g.K g.mg G H as st → (∀ a o, G0 a = some o → G a = some o) → as0 <+: as → (∀ a o kvs, H0 a = some (.frz o (.dK kvs)) → H a = some (.frz o (.dK kvs))) → srcOk src xs st = true → xs[i]? = some x → J.yld i H v H' → ∃ G', Ri g.K g.mg G' H' as st ∧ Ext G H as G' H' as ∧ Rp g.K g.mg G' as v x
def PXI (g : Gb) (W : WX) (G H : Hp) (as : List Addr) (σ : L2.St) (r : RX (List D × Option Nat)) (R : It → Hp → Prop) : Prop := match r with
  | .ok (xs, src) st' => srcOk src xs st' = true ∧ ∀ J G' H' as', Ri g.K g.mg G' H' as' st' → Ext G H as G' H' as' → Yl g G' H' as' src xs J → R J H'
  | .exc c p st' => ∀ cls d G' H' as', Ri g.K g.mg G' H' as' st' → Ext G H as G' H' as' → ExR g.K g.mg G' H' as' c p cls d → W cls d σ H'
  | .stuck => False
def JI (F : Fam g) (tg iter : Expr) (m : XM (List D × Option Nat)) : Prop := ∃ wi : WX → TI, (∀ W X, F.mem W X → PI X tg iter (wi W)) ∧
  ∀ (W : WX) (G H : Hp) (as : List Addr) (st : Store) (σ : L2.St) (e : Nv) (R : It → Hp → Prop), Ri g.K g.mg G H as st → Rn g.K g.mg G as σ e → PXI g W G H as σ (m e st) R → wi W σ H R
/-- a list or a tuple -/
def iSeq (K : PySem.W.Frag) (tl : TE) : TI := fun σ H R => tl σ H fun x H1 => ∃ a, x = .ref a ∧ (((∃ xs, SqL K H1 a xs) ∧ R (Itl K a) H1) ∨ ((∃ xs, SqT K H1 a xs) ∧ R (Itt K a) H1))
theorem pi_seq {X : Cx} {tg l : Expr} {tl : TE} (hl : PE X l tl) : PI X tg l (iSeq X.K tl) := by
  refine ⟨fun pins s σ H R I h => ?_⟩
  refine thn (hl.run pins s σ H _ I h) fun v s1 ⟨x, H1, I1, r1, q1⟩ => ?_
  obtain ⟨a, e, q | q⟩ := q1
  · obtain ⟨⟨xs, hq⟩, q⟩ := q
    subst e
    cases r1
    obtain ⟨its, rv, p, hz⟩ := I1.list hq
    refine wpAny_pyIter_list p.isList ?_
    refine ⟨s1.heap.objs.size, [s1.heap.objs.size], _, _, H1, rfl, I1.kept (t' := s1.toks) fun b o e => Heap.get?_push_of_some _ e, turn_list a _, ⟨_, Heap.get?_push_size _ rfl, rfl, rfl⟩, fun b hb => ?_, q⟩
    have e : b = s1.heap.objs.size := by simpa using hb
    subst e
    exact I1.fpOk (Nat.le_refl _) (I1.hok.fresh (Nat.le_refl _))
  · obtain ⟨⟨xs, hq⟩, q⟩ := q
    subst e
    cases r1
    obtain ⟨its, rv, p, hz⟩ := I1.tuple hq
    refine wpAny_pyIter_tuple (show s1.heap.IsTuple a its.toArray from p) ?_
    refine ⟨s1.heap.objs.size, [s1.heap.objs.size], _, _, H1, rfl, I1.kept (t' := s1.toks) fun b o e => Heap.get?_push_of_some _ e, turn_tuple a _, ⟨_, Heap.get?_push_size _ rfl, rfl, rfl⟩, fun b hb => ?_, q⟩
    have e : b = s1.heap.objs.size := by simpa using hb
    subst e
    exact I1.fpOk (Nat.le_refl _) (I1.hok.fresh (Nat.le_refl _))
def seqSrc (st : Store) (x : D) : Option (List D × Option Nat) := match x with
  | .ref i => (lstOf st x).map fun xs => (xs, some i)
  | x => (seqOf st x).map fun xs => (xs, none)
def xwalk (m : XM D) : XM (List D × Option Nat) := xbind m fun x => fun _ st => match seqSrc st x with
  | some r => .ok r st
  | none => .stuck
theorem eqbs_refl_of {a b : List D} (h : a = b) : eqbs a b = true := by
  subst h
  have r : ∀ d : D, eqb d d = true := by
    intro d
    exact D.rec (motive_1 := fun d => eqb d d = true) (motive_2 := fun l => eqbs l l = true) (by simp [eqb]) (by simp [eqb]) (by simp [eqb]) (by simp [eqb]) (by simp [eqb]) (by simp [eqb]) (fun _ h => by simpa [eqb] using h) (fun _ h => by simpa [eqb] using h) (fun _ h => by simpa [eqb] using h) (by simp [eqb]) (fun _ h => by simpa [eqb] using h) (by simp [eqbs]) (fun _ _ h1 h2 => by simp [eqbs, h1, h2]) d
  induction a with
  | nil => rfl
  | cons x l ih => simp [eqbs, r x, ih]
theorem yl_list {G0 H0 : Hp} {as0 : List Addr} {a : Addr} {vs : List V} {xs : List D} (s : SqL g.K G0 a vs) (r : RpA g.K g.mg G0 as0 vs xs) : Yl g G0 H0 as0 none xs (Itl g.K a) where
  go := fun i G H as st hi R hs hp hl _ => by
    have hv : i < vs.length := by rw [r.len]; exact hi
    exact ⟨vs, vs[i], sqL_H R (sqL_sub hs s), List.getElem?_eq_getElem hv⟩
  stop := fun G H as st R hs hp hl _ => ⟨vs, sqL_H R (sqL_sub hs s), by rw [r.len]; exact Nat.le_refl _⟩
  yld := fun i G H as st v H' x R hs hp hl _ hx y => by
    obtain ⟨e, y⟩ := y
    subst e
    obtain ⟨u, e1, ru⟩ := r.get hx
    have e2 := y vs (sqL_H R (sqL_sub hs s))
    rw [e1] at e2; cases e2
    exact ⟨G, R, Ext.refl, ru.mono hs hp⟩
theorem yl_tup {G0 H0 : Hp} {as0 : List Addr} {a : Addr} {vs : List V} {xs : List D} (s : SqT g.K G0 a vs) (r : RpA g.K g.mg G0 as0 vs xs) : Yl g G0 H0 as0 none xs (Itt g.K a) where
  go := fun i G H as st hi R hs hp hl _ => by
    have hv : i < vs.length := by rw [r.len]; exact hi
    exact ⟨vs, vs[i], sqT_H R (sqT_sub hs s), List.getElem?_eq_getElem hv⟩
  stop := fun G H as st R hs hp hl _ => ⟨vs, sqT_H R (sqT_sub hs s), by rw [r.len]; exact Nat.le_refl _⟩
  yld := fun i G H as st v H' x R hs hp hl _ hx y => by
    obtain ⟨e, y⟩ := y
    subst e
    obtain ⟨u, e1, ru⟩ := r.get hx
    have e2 := y vs (sqT_H R (sqT_sub hs s))
    rw [e1] at e2; cases e2
    exact ⟨G, R, Ext.refl, ru.mono hs hp⟩
theorem src_at {K : PySem.W.Frag} {mg : Str → Option Value} {G H : Hp} {as : List Addr} {st : Store} {i : Nat} {a : Addr} {xs : List D} (R : Ri K mg G H as st) (ha : as[i]? = some a) (h : srcOk (some i) xs st = true) : ∃ vs, H a = some (.lst vs) ∧ RpA K mg G as vs xs := by
  unfold srcOk at h
  cases q : st[i]? with
  | none => simp [q] at h
  | some m =>
    cases m with
    | lst ys =>
      simp only [q] at h
      cases eqbs_eq h
      obtain ⟨ho, e1, oo⟩ := R.at_ ha q
      cases oo with | lst r => exact ⟨_, e1, r⟩
    | _ => simp [q] at h
theorem yl_ref {G0 H0 : Hp} {as0 : List Addr} {a : Addr} {k : Nat} {xs : List D} (ha : as0[k]? = some a) : Yl g G0 H0 as0 (some k) xs (Itl g.K a) where
  go := fun i G H as st hi R hs hp hl ok => by
    obtain ⟨vs, e, r⟩ := src_at R (pre_get hp ha) ok
    have hv : i < vs.length := by rw [r.len]; exact hi
    exact ⟨vs, vs[i], .of e, List.getElem?_eq_getElem hv⟩
  stop := fun G H as st R hs hp hl ok => by
    obtain ⟨vs, e, r⟩ := src_at R (pre_get hp ha) ok
    exact ⟨vs, .of e, by rw [r.len]; exact Nat.le_refl _⟩
  yld := fun i G H as st v H' x R hs hp hl ok hx y => by
    obtain ⟨e, y⟩ := y
    subst e
    obtain ⟨vs, e0, r⟩ := src_at R (pre_get hp ha) ok
    obtain ⟨u, e1, ru⟩ := r.get hx
    have e2 := y vs (.of e0)
    rw [e1] at e2; cases e2
    exact ⟨G, R, Ext.refl, ru⟩
theorem ji_seq {tg l : Expr} {m : XM D} (h : JE F l m) : JI F tg l (xwalk m) := by
  obtain ⟨t, p, s⟩ := h
  refine ⟨fun W => iSeq g.K (t W), fun W X m => by have := pi_seq (tg := tg) (p W X m); rw [F.hK m] at this; exact this, ?_⟩
  intro W G H as st σ e R' R N h
  refine s W G H as st σ e _ R N ?_
  unfold xwalk xbind at h
  cases q : m e st with
  | stuck => rw [q] at h; exact h
  | exc c p st1 => rw [q] at h; exact h
  | ok x st1 =>
    simp only [q] at h
    intro v G1 H1 as1 R1 X1 rv
    cases q2 : seqSrc st1 x with
    | none => simp only [q2] at h; exact h.elim
    | some z =>
      obtain ⟨xs, src⟩ := z
      simp only [q2] at h
      obtain ⟨ok, k⟩ := h
      have still : ∀ ys, seqOf st1 x = some ys → (∀ i, x ≠ .ref i) → xs = ys → src = none → ∃ a, v = .ref a ∧ (((∃ xs, SqL g.K H1 a xs) ∧ R' (Itl g.K a) H1) ∨ ((∃ xs, SqT g.K H1 a xs) ∧ R' (Itt g.K a) H1)) := by
        intro ys e1 nr e2 e3
        subst e2 e3
        cases rv with
        | tup s0 r0 => cases e1; exact ⟨_, rfl, .inr ⟨⟨_, sqT_H R1 s0⟩, k _ G1 H1 as1 R1 X1 (yl_tup s0 r0)⟩⟩
        | tpz s0 z0 r0 => cases e1; exact ⟨_, rfl, .inr ⟨⟨_, sqT_H R1 (.inl (.inr ⟨_, s0⟩))⟩, k _ G1 H1 as1 R1 X1 (yl_tup (.inl (.inr ⟨_, s0⟩)) r0)⟩⟩
        | sq s0 r0 => cases e1; exact ⟨_, rfl, .inl ⟨⟨_, sqL_H R1 s0⟩, k _ G1 H1 as1 R1 X1 (yl_list s0 r0)⟩⟩
        | lst s0 r0 => cases e1; exact ⟨_, rfl, .inl ⟨⟨_, .of (R1.sub _ _ s0)⟩, k _ G1 H1 as1 R1 X1 (yl_list (.of s0) r0)⟩⟩
        | ref q0 => exact absurd rfl (nr _)
        | _ => cases e1
      cases x with
      | ref i =>
        obtain ⟨ys, e1, e2⟩ := Option.map_eq_some_iff.mp (show (lstOf st1 (.ref i)).map (fun xs => (xs, some i)) = some (xs, src) from q2)
        cases e2
        obtain ⟨a, vs, rfl, e3, r3⟩ := lstOf_ok R1 rv e1
        cases rv with
        | ref q0 => exact ⟨a, rfl, .inl ⟨⟨vs, .of e3⟩, k _ G1 H1 as1 R1 X1 (yl_ref q0)⟩⟩
      | tup ys =>
        obtain ⟨ys', e1, e2⟩ := Option.map_eq_some_iff.mp (show (seqOf st1 (.tup ys)).map (fun xs => (xs, none)) = some (xs, src) from q2)
        cases e2; exact still _ e1 (fun _ z => nomatch z) rfl rfl
      | tpz ys =>
        obtain ⟨ys', e1, e2⟩ := Option.map_eq_some_iff.mp (show (seqOf st1 (.tpz ys)).map (fun xs => (xs, none)) = some (xs, src) from q2)
        cases e2; exact still _ e1 (fun _ z => nomatch z) rfl rfl
      | sq ys =>
        obtain ⟨ys', e1, e2⟩ := Option.map_eq_some_iff.mp (show (seqOf st1 (.sq ys)).map (fun xs => (xs, none)) = some (xs, src) from q2)
        cases e2; exact still _ e1 (fun _ z => nomatch z) rfl rfl
      | lst ys =>
        obtain ⟨ys', e1, e2⟩ := Option.map_eq_some_iff.mp (show (seqOf st1 (.lst ys)).map (fun xs => (xs, none)) = some (xs, src) from q2)
        cases e2; exact still _ e1 (fun _ z => nomatch z) rfl rfl
      | _ => cases q2
/-- range(n), range(a, b) -/
def rangeL (lo : Int) (n : Nat) : List D := (List.range n).map fun (i : Nat) => .int (lo + (i : Int))
theorem yl_range {G0 H0 : Hp} {as0 : List Addr} {lo : Int} {n : Nat} : Yl g G0 H0 as0 none (rangeL lo n) (Itr lo n) where
  go := fun i G H as st hi R hs hp hl _ => by
    have : i < n := by simpa [rangeL] using hi
    exact this
  stop := fun G H as st R hs hp hl _ => by show n ≤ (rangeL lo n).length; simp [rangeL]
  yld := fun i G H as st v H' x R hs hp hl _ hx y => by
    obtain ⟨e, y⟩ := y
    subst e y
    unfold rangeL at hx
    rw [List.getElem?_map] at hx
    obtain ⟨j, e1, e2⟩ := Option.map_eq_some_iff.mp hx
    have := List.getElem?_eq_some_iff.mp e1
    obtain ⟨h1, h2⟩ := this
    have ej : j = i := by rw [← h2]; simp
    subst ej
    cases e2
    exact ⟨G, R, Ext.refl, .int _⟩
def xrange1 (m : XM D) : XM (List D × Option Nat) := xbind m fun x => fun _ st => match x with
  | .int j => if -(2 ^ 62) ≤ j ∧ j < 2 ^ 62 then .ok (rangeL 0 j.toNat, none) st else .stuck
  | _ => .stuck
theorem ji_range1 {tg a : Expr} {m : XM D} {p : Pos} (hg : F.sc.names.lookup ("range" : Str) = some .globalImplicit) (hm : g.mg "range" = none) (ha : JE F a m) (hs : ∀ env, starEach [a] env = [(false, eval a env)] := by intro _; rfl) : JI F tg (.Call (.Name "range" p) [a] [] pos) (xrange1 m) := by
  obtain ⟨t, p', s⟩ := ha
  refine ⟨fun W => iRng1 (tCons (t W) tNil), fun W X m => pi_range1 (by show X.env.scope.names.lookup _ = _; rw [F.hsc m]; exact hg) (by rw [F.hmg m]; exact hm) (pa_cons (p' W X m) pa_nil (hs _)) (hs _), ?_⟩
  intro W G H as st σ e R' R N h
  refine s W G H as st σ e _ R N ?_
  unfold xrange1 xbind at h
  cases q : m e st with
  | stuck => rw [q] at h; exact h
  | exc c p st1 => rw [q] at h; exact h
  | ok x st1 =>
    simp only [q] at h
    intro v G1 H1 as1 R1 X1 rv
    cases rv with
    | int j =>
      by_cases hc : -(2 ^ 62) ≤ j ∧ j < 2 ^ 62
      · simp only [hc, and_self, if_true] at h
        exact ⟨j, rfl, hc.1, hc.2, h.2 _ G1 H1 as1 R1 X1 yl_range⟩
      · simp only [hc, if_false] at h; exact h.elim
    | _ => exact h.elim
def xrange2 (ma mb : XM D) : XM (List D × Option Nat) := xbind ma fun x => xbind mb fun y => fun _ st => match x, y with
  | .int i, .int j => if -(2 ^ 62) ≤ i ∧ i < 2 ^ 62 ∧ -(2 ^ 62) ≤ j ∧ j < 2 ^ 62 then .ok (rangeL i (j - i).toNat, none) st else .stuck
  | _, _ => .stuck
theorem ji_range2 {tg a b : Expr} {ma mb : XM D} {p : Pos} (hg : F.sc.names.lookup ("range" : Str) = some .globalImplicit) (hm : g.mg "range" = none) (ha : JE F a ma) (hb : JE F b mb)
    (hs : ∀ env, starEach [a, b] env = [(false, eval a env), (false, eval b env)] := by intro _; rfl) (hs2 : ∀ env, starEach [b] env = [(false, eval b env)] := by intro _; rfl) : JI F tg (.Call (.Name "range" p) [a, b] [] pos) (xrange2 ma mb) := by
  obtain ⟨t, p', s⟩ := ha
  obtain ⟨t2, p2, s2⟩ := hb
  refine ⟨fun W => iRng2 (tCons (t W) (tCons (t2 W) tNil)), fun W X m => pi_range2 (by show X.env.scope.names.lookup _ = _; rw [F.hsc m]; exact hg) (by rw [F.hmg m]; exact hm) (pa_cons (p' W X m) (pa_cons (p2 W X m) pa_nil (hs2 _)) (by rw [hs, hs2])) (hs _) (hs2 _), ?_⟩
  intro W G H as st σ e R' R N h
  refine s W G H as st σ e _ R N ?_
  unfold xrange2 xbind at h
  cases q : ma e st with
  | stuck => rw [q] at h; exact h
  | exc c p st1 => rw [q] at h; exact h
  | ok x st1 =>
    simp only [q] at h
    intro v G1 H1 as1 R1 X1 rv
    refine s2 W G1 H1 as1 st1 σ e _ R1 (N.ext X1) ?_
    cases q2 : mb e st1 with
    | stuck => simp only [q2] at h; exact h
    | exc c p st2 =>
      simp only [q2] at h
      exact fun cls d G2 H2 as2 R2 X2 x2 => h cls d G2 H2 as2 R2 (X1.trans X2) x2
    | ok y st2 =>
      simp only [q2] at h
      intro w G2 H2 as2 R2 X2 rw'
      cases rv with
      | int i =>
        cases rw' with
        | int j =>
          by_cases hc : -(2 ^ 62) ≤ i ∧ i < 2 ^ 62 ∧ -(2 ^ 62) ≤ j ∧ j < 2 ^ 62
          · simp only [hc, and_self, if_true] at h
            exact ⟨i, j, rfl, hc, h.2 _ G2 H2 as2 R2 (X1.trans X2) yl_range⟩
          · simp only [hc, if_false] at h; exact h.elim
        | _ => exact h.elim
      | _ => cases rw' <;> exact h.elim
/-! ## for -/
def sloop (src : Option Nat) (items : List D) (gt : MG) (body : SM) : List D → Nv → Store → RS
  | [], e, st => if srcOk src items st = true then .nx e st else .stuck
  | x :: r, e, st => if srcOk src items st = true then (match gt x e st with
    | none => .stuck
    | some (e1, st1) => match body e1 st1 with
      | .nx e2 st2 => sloop src items gt body r e2 st2
      | .ct e2 st2 => sloop src items gt body r e2 st2
      | .bk e2 st2 => .nx e2 st2
      | r => r) else .stuck
def sfor (mi : XM (List D × Option Nat)) (gt : MG) (body : SM) : SM := fun e st => match mi e st with
  | .ok (xs, src) st1 => sloop src xs gt body xs e st1
  | .exc c p st' => .exc c p e st'
  | .stuck => .stuck
theorem js_for {tg iter : Expr} {body : List Stmt} {mi : XM (List D × Option Nat)} {gt : MG} {mb : SM} (hi : JI F tg iter mi) (hg : JG F tg gt) (hb : JSs F body mb) (hs : ∀ env x, foldedSetIterable iter env x = pure x := by intro _ _; rfl) : JS F (.For tg iter body [] pos) (sfor mi gt mb) := by
  obtain ⟨wi, pi, si⟩ := hi
  obtain ⟨tg', pg', sg'⟩ := hg
  obtain ⟨tb, pb, sb⟩ := hb
  refine ⟨fun W => tFor (wi W) (tg' W) (tb W), fun W X m => ps_for (F.pass m) (F.calm m) (pi W X m) (pg' W X m) (pb W X m) (hs _), ?_⟩
  intro W G H as st σ e E R N h
  refine si W G H as st σ e _ R N ?_
  unfold sfor at h
  cases q : mi e st with
  | stuck => rw [q] at h; exact h
  | exc c p st1 => rw [q] at h; exact fun cls d G1 H1 as1 R1 X1 x => h σ cls d G1 H1 as1 R1 (N.ext X1) X1 x
  | ok z st1 =>
    obtain ⟨xs, src⟩ := z
    simp only [q] at h
    have ok : srcOk src xs st1 = true := by
      cases hx : srcOk src xs st1 with
      | true => rfl
      | false =>
        exfalso
        cases xs with
        | nil => simp [sloop, hx] at h; exact h
        | cons x r => simp [sloop, hx] at h; exact h
    refine ⟨ok, fun J G1 H1 as1 R1 X1 Y => ?_⟩
    refine ⟨fun i m σ' H' => i ≤ xs.length ∧ m = xs.length - i ∧ ∃ G' as' st' e', Ri g.K g.mg G' H' as' st' ∧ Rn g.K g.mg G' as' σ' e' ∧ Ext G1 H1 as1 G' H' as' ∧ PS_ g.K g.mg W G' H' as' e.length (sloop src xs gt mb (xs.drop i) e' st') E,
      ⟨xs.length, Nat.zero_le _, by simp, G1, as1, st1, e, R1, N.ext X1, Ext.refl, PS_.ext (n := e.length) h X1⟩, ?_⟩
    rintro i m σ2 H2 ⟨hle, rfl, G2, as2, st2, e2, R2, N2, X2, h2⟩
    have hs0 := X2.sub
    have hp0 := X2.pre
    by_cases hi : i < xs.length
    · have hd : xs.drop i = xs[i] :: xs.drop (i + 1) := List.drop_eq_getElem_cons hi
      rw [hd] at h2
      unfold sloop at h2
      by_cases hok : srcOk src xs st2 = true
      · simp only [hok, if_true] at h2
        refine .inr ⟨Y.go i G2 H2 as2 st2 hi R2 hs0 hp0 X2.lk hok, ?_⟩
        refine ⟨fun σ' H' => i + 1 ≤ xs.length ∧ ∃ G' as' st' e', Ri g.K g.mg G' H' as' st' ∧ Rn g.K g.mg G' as' σ' e' ∧ Ext G1 H1 as1 G' H' as' ∧ PS_ g.K g.mg W G' H' as' e.length (sloop src xs gt mb (xs.drop (i + 1)) e' st') E,
          fun σ' H' ⟨a, b⟩ => ⟨xs.length - (i + 1), by omega, a, rfl, b⟩, fun v H3 y => ?_⟩
        obtain ⟨G3, R3, X3, rv⟩ := Y.yld i G2 H2 as2 st2 v H3 xs[i] R2 hs0 hp0 X2.lk hok (List.getElem?_eq_getElem hi) y
        cases q3 : gt xs[i] e2 st2 with
        | none => simp only [q3] at h2; exact h2.elim
        | some z =>
          obtain ⟨e3, st3⟩ := z
          simp only [q3] at h2
          refine sg' W G3 H3 as2 st2 σ2 e2 v xs[i] e3 st3 _ R3 (N2.ext X3) rv q3 fun σ4 G4 H4 as4 R4 N4 X4 => ?_
          refine sb W G4 H4 as4 st3 σ4 e3 _ R4 N4 ?_
          have X24 := X3.trans X4
          cases q4 : mb e3 st3 with
          | nx e5 st5 =>
            simp only [q4] at h2
            exact fun σ5 G5 H5 as5 R5 N5 X5 => ⟨hi, G5, as5, st5, e5, R5, N5, (X2.trans X24).trans X5, PS_.ext (n := e.length) h2 (X24.trans X5)⟩
          | ct e5 st5 =>
            simp only [q4] at h2
            exact fun σ5 G5 H5 as5 R5 N5 X5 => ⟨hi, G5, as5, st5, e5, R5, N5, (X2.trans X24).trans X5, PS_.ext (n := e.length) h2 (X24.trans X5)⟩
          | bk e5 st5 =>
            simp only [q4] at h2
            exact fun σ5 G5 H5 as5 R5 N5 X5 => h2 σ5 G5 H5 as5 R5 N5 (X24.trans X5)
          | rt d st5 =>
            simp only [q4] at h2
            exact fun v G5 H5 as5 R5 X5 => h2 v G5 H5 as5 R5 (X24.trans X5)
          | exc c p e5 st5 =>
            simp only [q4] at h2
            exact fun σ5 cls d G5 H5 as5 R5 N5 X5 => h2 σ5 cls d G5 H5 as5 R5 N5 (X24.trans X5)
          | stuck => simp only [q4] at h2; exact h2
      · simp only [hok] at h2; exact h2.elim
    · have ei : i = xs.length := by omega
      subst ei
      rw [List.drop_length] at h2
      unfold sloop at h2
      by_cases hok : srcOk src xs st2 = true
      · simp only [hok, if_true] at h2
        exact .inl ⟨Y.stop G2 H2 as2 st2 R2 hs0 hp0 X2.lk hok, h2 σ2 G2 H2 as2 R2 N2 Ext.refl⟩
      · simp only [hok] at h2; exact h2.elim
/-! ## while -/
def swhile (c : XM Bool) (body : SM) : Nat → SM
  | 0 => fun _ _ => .stuck
  | n + 1 => sbindB c fun b => if b = true then (fun e st => match body e st with
    | .nx e2 st2 => swhile c body n e2 st2
    | .ct e2 st2 => swhile c body n e2 st2
    | .bk e2 st2 => .nx e2 st2
    | r => r) else snext
theorem js_while (n : Nat) {c : Expr} {body : List Stmt} {mc : XM Bool} {mb : SM} (hc : JT F c mc) (hb : JSs F body mb) : JS F (.While c body [] pos) (swhile mc mb n) := by
  obtain ⟨tc, pc, sc⟩ := hc
  obtain ⟨tb, pb, sb⟩ := hb
  refine ⟨fun W => tWhile (tc W) (tb W), fun W X m => ps_while (F.pass m) (pc W X m) (pb W X m), ?_⟩
  intro W G H as st σ e E R N h
  refine ⟨fun m σ' H' => ∃ G' as' st' e', Ri g.K g.mg G' H' as' st' ∧ Rn g.K g.mg G' as' σ' e' ∧ Ext G H as G' H' as' ∧ PS_ g.K g.mg W G' H' as' e.length (swhile mc mb m e' st') E, ⟨n, G, as, st, e, R, N, Ext.refl, h⟩, ?_⟩
  rintro m σ2 H2 ⟨G2, as2, st2, e2, R2, N2, X2, h2⟩
  cases m with
  | zero => exact h2.elim
  | succ m =>
    unfold swhile at h2
    refine sc.oneS (e := e2) (E := E) R2 N2 h2 fun b st3 G3 H3 as3 R3 X3 N3 h3 => ?_
    cases b with
    | false => exact iteF (h3 σ2 G3 H3 as3 R3 N3 Ext.refl)
    | true =>
      refine iteT ⟨fun σ' H' => ∃ G' as' st' e', Ri g.K g.mg G' H' as' st' ∧ Rn g.K g.mg G' as' σ' e' ∧ Ext G H as G' H' as' ∧ PS_ g.K g.mg W G' H' as' e.length (swhile mc mb m e' st') E, fun σ' H' q => ⟨m, Nat.lt_succ_self _, q⟩, ?_⟩
      refine sb W G3 H3 as3 st3 σ2 e2 _ R3 N3 ?_
      simp only [if_true] at h3
      cases q4 : mb e2 st3 with
      | nx e5 st5 =>
        simp only [q4] at h3
        exact fun σ5 G5 H5 as5 R5 N5 X5 => ⟨G5, as5, st5, e5, R5, N5, (X2.trans X3).trans X5, PS_.ext (n := e.length) h3 X5⟩
      | ct e5 st5 =>
        simp only [q4] at h3
        exact fun σ5 G5 H5 as5 R5 N5 X5 => ⟨G5, as5, st5, e5, R5, N5, (X2.trans X3).trans X5, PS_.ext (n := e.length) h3 X5⟩
      | bk e5 st5 => simp only [q4] at h3; exact h3
      | rt d st5 => simp only [q4] at h3; exact h3
      | exc c p e5 st5 => simp only [q4] at h3; exact h3
      | stuck => simp only [q4] at h3; exact h3
end
end LS
end
section
set_option maxRecDepth 100000
set_option maxHeartbeats 2000000
namespace LS
open PySem PySem.Spec L2

/-! ## an object by the side: neither still nor moving -/
section
variable {K : PySem.W.Frag} {mg : Str → Option Value} {G H G1 H1 : Hp} {as as1 : List Addr} {st : Store} {p : Addr}
theorem Ri.none_of (R : Ri K mg G H as st) (n : H p = none) : G p = none ∧ p ∉ as := by
  constructor
  · cases q : G p with
    | none => rfl
    | some u => rw [R.sub _ _ q] at n; cases n
  · intro ha
    obtain ⟨i, hi, e⟩ := List.getElem_of_mem ha
    have hi' : i < st.length := by rw [← R.len]; exact hi
    obtain ⟨ho, q, _⟩ := R.obj i p st[i] (by rw [List.getElem?_eq_getElem hi, e]) (List.getElem?_eq_getElem hi')
    rw [n] at q; cases q
theorem Ri.touch {o : HO} (R : Ri K mg G H as st) (gn : G p = none) (na : p ∉ as) : Ri K mg G (upd H p o) as st :=
  ⟨fun a u h => by rw [upd_ne (ne_of_none h gn)]; exact R.sub _ _ h, R.len, R.nd, R.out, fun i a u ha hu => by
    obtain ⟨ho, q, r⟩ := R.obj i a u ha hu
    refine ⟨ho, ?_, r⟩
    have : a ≠ p := fun z => na (z ▸ List.mem_of_getElem? ha)
    rw [upd_ne this]; exact q⟩
theorem Ext.touch {o : HO} (X : Ext G1 H1 as1 G H as) (n : H1 p = none) : Ext G1 H1 as1 G (upd H p o) as :=
  ⟨X.sub, X.pre, fun a u h m => by rw [upd_ne (ne_of_none h n)]; exact X.keep a u h m, X.frG, X.frA, fun a h => by
    by_cases z : a = p
    · subst z; exact absurd n h
    · rw [upd_ne z]; exact X.dom a h, fun a u kvs h => by have h2 := X.lk a u kvs h; rw [upd_ne (ne_of_none h n)]; exact h2⟩
/-- it stands beside still behind what follows -/
theorem Ext.beside (X : Ext G H as G1 H1 as1) {o : HO} (h : H p = some o) (gn : G p = none) (na : p ∉ as) : G1 p = none ∧ p ∉ as1 ∧ H1 p = some o := by
  refine ⟨X.frG p gn (by rw [h]; exact fun z => nomatch z), fun m => ?_, X.keep p o h na⟩
  have := X.frA p m na
  rw [h] at this; cases this
theorem Ri.freeze {o : HO} (R : Ri K mg G H as st) (h : H p = some o) (gn : G p = none) (na : p ∉ as) : Ri K mg (upd G p o) H as st := by
  have hs : ∀ a u, G a = some u → upd G p o a = some u := fun a u e => by rw [upd_ne (ne_of_none e gn)]; exact e
  refine ⟨fun a u e => ?_, R.len, R.nd, fun a ha => ?_, fun i a u ha hu => ?_⟩
  · by_cases z : a = p
    · subst z; rw [upd_same] at e; cases e; exact h
    · rw [upd_ne z] at e; exact R.sub _ _ e
  · have : a ≠ p := fun z => na (z ▸ ha)
    rw [upd_ne this]; exact R.out a ha
  · obtain ⟨ho, q, r⟩ := R.obj i a u ha hu
    refine ⟨ho, q, ?_⟩
    cases r with
    | lst r => exact .lst (r.mono hs (List.prefix_refl _))
    | dct e r => exact .dct e (r.mono hs (List.prefix_refl _))
    | lck e r => exact .lck e (r.mono hs (List.prefix_refl _))
theorem Ext.freeze {o : HO} (X : Ext G1 H1 as1 G H as) (n : H1 p = none) (gn : G p = none) : Ext G1 H1 as1 (upd G p o) H as :=
  ⟨fun a u h => by rw [upd_ne (ne_of_none (X.sub a u h) gn)]; exact X.sub a u h, X.pre, X.keep, fun a g h => by
    have : a ≠ p := fun z => by subst z; exact h n
    rw [upd_ne this]; exact X.frG a g h, X.frA, X.dom, X.lk⟩
theorem Ri.adopt {o : HO} {m : MO} (R : Ri K mg G H as st) (h : H p = some o) (gn : G p = none) (na : p ∉ as) (r : Ro K mg G as o m) : Ri K mg G H (as ++ [p]) (st ++ [m]) := by
  have hp : as <+: as ++ [p] := List.prefix_append _ _
  have mono : ∀ {ho : HO} {mo : MO}, Ro K mg G as ho mo → Ro K mg G (as ++ [p]) ho mo := fun r => by
    cases r with
    | lst r => exact .lst (r.mono (fun _ _ h => h) hp)
    | dct e r => exact .dct e (r.mono (fun _ _ h => h) hp)
    | lck e r => exact .lck e (r.mono (fun _ _ h => h) hp)
  refine ⟨R.sub, by simp [R.len], ?_, fun a ha => ?_, fun i a u ha hu => ?_⟩
  · rw [List.nodup_append]
    refine ⟨R.nd, by simp, fun a ha b hb z => ?_⟩
    have : b = p := by simpa using hb
    subst this; subst z; exact na ha
  · rcases List.mem_append.mp ha with ha | ha
    · exact R.out a ha
    · have : a = p := by simpa using ha
      subst this; exact gn
  · by_cases hi : i < as.length
    · rw [List.getElem?_append_left hi] at ha
      rw [List.getElem?_append_left (by rw [← R.len]; exact hi)] at hu
      obtain ⟨ho, q, r⟩ := R.obj i a u ha hu
      exact ⟨ho, q, mono r⟩
    · rw [List.getElem?_append_right (by omega)] at ha
      rw [List.getElem?_append_right (by rw [← R.len]; omega)] at hu
      have h0 : i - as.length = 0 := by
        have := (List.getElem?_eq_some_iff.mp ha).1
        simp at this; omega
      have h1 : i - st.length = 0 := by rw [← R.len]; exact h0
      rw [h0] at ha; rw [h1] at hu
      simp at ha hu
      subst ha hu
      exact ⟨o, h, mono r⟩
theorem Ext.adopt (X : Ext G1 H1 as1 G H as) (n : H1 p = none) : Ext G1 H1 as1 G H (as ++ [p]) :=
  ⟨X.sub, X.pre.trans (List.prefix_append _ _), X.keep, X.frG, fun a m n' => by
    rcases List.mem_append.mp m with m | m
    · exact X.frA a m n'
    · have : a = p := by simpa using m
      subst this; exact n, X.dom, X.lk⟩
end

/-! ## the block of a comprehension -/
theorem wipe_at {σ : L2.St} {i : Nat} : ∀ (vs : List Nat), (wipe σ vs)[i]? = if i ∈ vs ∧ i < σ.length then some none else σ[i]?
  | [] => by simp [wipe]
  | v :: vs => by
    unfold wipe
    have ih := wipe_at (σ := σ) (i := i) vs
    have hl := wipe_length σ vs
    by_cases hv : v = i
    · subst hv
      by_cases hl' : v < σ.length
      · rw [List.getElem?_set_self (by rw [hl]; exact hl'), if_pos ⟨List.mem_cons_self, hl'⟩]
      · rw [if_neg (fun z => hl' z.2), List.getElem?_eq_none (by simp [hl]; omega), List.getElem?_eq_none (by omega)]
    · rw [List.getElem?_set_ne hv, ih]
      by_cases hm : i ∈ vs ∧ i < σ.length
      · rw [if_pos hm, if_pos ⟨List.mem_cons_of_mem _ hm.1, hm.2⟩]
      · rw [if_neg hm, if_neg (fun z => hm ⟨(List.mem_cons.mp z.1).resolve_left (fun q => hv q.symm), z.2⟩)]
theorem wipe_set {σ : L2.St} {i : Nat} {x : Option V} {vs : List Nat} (h : i ∈ vs) : wipe (σ.set i x) vs = wipe σ vs := by
  apply List.ext_getElem?
  intro j
  rw [wipe_at, wipe_at, List.length_set]
  by_cases hj : j ∈ vs ∧ j < σ.length
  · rw [if_pos hj, if_pos hj]
  · rw [if_neg hj, if_neg hj]
    by_cases z : i = j
    · subst z
      have : ¬ i < σ.length := fun q => hj ⟨h, q⟩
      rw [List.getElem?_eq_none (by simp; omega), List.getElem?_eq_none (by omega)]
    · rw [List.getElem?_set_ne z]
theorem wipe_wipe {σ : L2.St} {vs : List Nat} : wipe (wipe σ vs) vs = wipe σ vs := by
  apply List.ext_getElem?
  intro j
  rw [wipe_at, wipe_length, wipe_at]
  by_cases hj : j ∈ vs ∧ j < σ.length
  · rw [if_pos hj, if_pos hj]
  · rw [if_neg hj, if_neg hj]
def wipeE (e : Nv) : List Nat → Nv
  | [] => e
  | v :: vs => (wipeE e vs).set v none
section
variable {K : PySem.W.Frag} {mg : Str → Option Value} {G : Hp} {as : List Addr} {σ : L2.St} {e : Nv}
theorem Rn.unset (N : Rn K mg G as σ e) (i : Nat) : Rn K mg G as (σ.set i none) (e.set i none) := by
  refine ⟨by simp [N.len], fun j y h => ?_⟩
  by_cases hj : j = i
  · subst hj
    have hl : j < e.length := by
      have := (List.getElem?_eq_some_iff.mp h).1
      simpa using this
    rw [List.getElem?_set_self hl] at h
    cases h
  · rw [List.getElem?_set_ne (Ne.symm hj)] at h
    obtain ⟨u, e1, r1⟩ := N.at_ j y h
    exact ⟨u, by rw [List.getElem?_set_ne (Ne.symm hj)]; exact e1, r1⟩
theorem Rn.wipe (N : Rn K mg G as σ e) : ∀ vs : List Nat, Rn K mg G as (wipe σ vs) (wipeE e vs)
  | [] => N
  | v :: vs => (Rn.wipe N vs).unset v
end
section
variable {g : Gb} {F : Fam g} {pos : Pos}
abbrev W0 : WX := fun _ _ _ _ => False
def blkOwn (scope : Scope) (x : Str) : Bool := decide (scope.names.lookup x = some .cell) || decide (scope.names.lookup x = some .local)
def famC (F : Fam g) (scope : Scope) : Fam g where
  k := F.k
  N := F.N
  sc := relS scope F.sc
  nd := F.nd
  own := blkOwn scope
  mem := fun W X' => W = W0 ∧ ∃ (W1 : WX) (X : Cx) (s : Shared) (H : Hp) (C : Addr) (cl : List (Str × Addr)) (fp : List Addr), F.mem W1 X ∧ X' = X.blk s H scope (compEnvC scope cl C X.env) fp
  prog := fun {W X} ⟨_, W1, X1, s, H, C, cl, fp, h, e⟩ => by subst e; exact (F.prog (X := X1) h :)
  w := fun {W X} ⟨_, W1, X1, s, H, C, cl, fp, h, e⟩ => by subst e; exact (F.w (X := X1) h :)
  hK := fun {W X} ⟨_, W1, X1, s, H, C, cl, fp, h, e⟩ => by subst e; exact (F.hK (X := X1) h :)
  hmg := fun {W X} ⟨_, W1, X1, s, H, C, cl, fp, h, e⟩ => by subst e; exact (F.hmg (X := X1) h :)
  base := fun {W X} ⟨_, W1, X1, s, H, C, cl, fp, h, e⟩ => by subst e; exact (F.base (X := X1) h :)
  hN := fun {W X} ⟨_, W1, X1, s, H, C, cl, fp, h, e⟩ => by subst e; exact (F.hN (X := X1) h :)
  hsc := fun {W X} ⟨_, W1, X1, s, H, C, cl, fp, h, e⟩ => by
    subst e
    show relS scope X1.env.scope = _
    rw [F.hsc h]
  calm := fun {W X} ⟨_, W1, X1, s, H, C, cl, fp, h, e⟩ => by subst e; exact (F.calm (X := X1) h :)
  room := fun {W X} ⟨_, W1, X1, s, H, C, cl, fp, h, e⟩ => by subst e; exact (F.room (X := X1) h :)
  takes := fun {W X} ⟨eW, _⟩ => by subst eW; exact takes0
  pass := fun {W X} ⟨_, W1, X1, s, H, C, cl, fp, h, e⟩ => by subst e; exact PassesOwn.never
  fn := fun {W X} ⟨_, W1, X1, s, H, C, cl, fp, h, e⟩ x hx hl => by
    subst e
    unfold blkOwn at hx
    simp only [Bool.or_eq_true, decide_eq_true_eq] at hx
    rcases hx with hx | hx
    · exact .inl (by show (scope.names.lookup x == some .cell) = true; rw [hx]; rfl)
    · exact .inr (lookup_relS_keep (by decide) hx)
/-- a target that stores the block's own names alone -/
def JC (F : Fam g) (vs : List Nat) (target : Expr) (m : MG) : Prop := ∃ t : TG, (∀ W X, F.mem W X → PG X target t) ∧
  ∀ (G H : Hp) (as : List Addr) (st : Store) (σ : L2.St) (e : Nv) (v : V) (x : D) (e' : Nv) (st' : Store) (Q : L2.St → Hp → Prop), Ri g.K g.mg G H as st → Rn g.K g.mg G as σ e → Rp g.K g.mg G as v x → m x e st = some (e', st') →
    (∀ σ', wipe σ' vs = wipe σ vs → Rn g.K g.mg G as σ' e' → st' = st → Q σ' H) → t v σ H Q
def JCs (F : Fam g) (vs : List Nat) (ts : List Expr) (m : MGs) : Prop := ∃ t : TGs, (∀ W X, F.mem W X → PGs X ts t) ∧
  ∀ (G H : Hp) (as : List Addr) (st : Store) (σ : L2.St) (e : Nv) (vs' : List V) (xs : List D) (e' : Nv) (st' : Store) (Q : L2.St → Hp → Prop), Ri g.K g.mg G H as st → Rn g.K g.mg G as σ e → RpA g.K g.mg G as vs' xs → m xs e st = some (e', st') →
    (∀ σ', wipe σ' vs = wipe σ vs → Rn g.K g.mg G as σ' e' → st' = st → Q σ' H) → t vs' σ H Q
theorem jc_name (i : Nat) {x : Str} {vs : List Nat} (hi : F.N[i]? = some x) (hx : Loc F.sc x) (hv : i ∈ vs) (hw : F.own x = true := by rfl) : JC F vs (.Name x pos) (gname i) := by
  refine ⟨gName i, fun W X m => pg_name (by rw [F.hN m]; exact F.nd) (by rw [F.hN m]; exact hi) (by rw [F.hsc m]; exact hx) (F.fn m x hw hx), ?_⟩
  intro G H as st σ e v x e' st' Q R N r h k
  cases h
  exact k _ (wipe_set hv) (N.set i r) rfl
theorem jcs_nil {vs : List Nat} : JCs F vs [] gnil := by
  refine ⟨gNil, fun _ _ _ => pgs_nil, ?_⟩
  intro G H as st σ e vs xs e' st' Q R N r h k
  cases r with
  | nil => cases h; exact ⟨rfl, k σ rfl N rfl⟩
  | cons _ _ => cases h
theorem jcs_cons {ex : Expr} {es : List Expr} {m : MG} {ms : MGs} {vs : List Nat} (h : JC F vs ex m) (hs : JCs F vs es ms) (ha : ∀ env, (assignEach (ex :: es) env).map (·.2) = assign ex env :: (assignEach es env).map (·.2) := by intro _; rfl) : JCs F vs (ex :: es) (gcons m ms) := by
  obtain ⟨t, p, s⟩ := h
  obtain ⟨ts, ps, ss⟩ := hs
  refine ⟨gCons t ts, fun W X m => pgs_cons (p W X m) (ps W X m) (ha _), ?_⟩
  intro G H as st σ e vs xs e' st' Q R N r h k
  cases r with
  | nil => cases h
  | cons r rr =>
    rename_i v vr x xr
    unfold gcons at h
    cases q : m x e st with
    | none => simp [q] at h
    | some z =>
      obtain ⟨e1, st1⟩ := z
      simp only [q] at h
      refine ⟨v, vr, rfl, s G H as st σ e v x e1 st1 _ R N r q fun σ1 w1 N1 e1' => ?_⟩
      subst e1'
      exact ss G H as st1 σ1 e1 vr xr e' st' Q R N1 rr h fun σ2 w2 N2 e2 => k σ2 (w2.trans w1) N2 e2
theorem jc_tup {es : List Expr} {k n : Nat} {ms : MGs} {vs : List Nat} (hs : JCs F vs es ms) (hn : ∀ env, (assignEach es env).length = n := by intro _; rfl) (hst : ∀ env, (assignEach es env).findIdx? (·.1) = none := by intro _; rfl) : JC F vs (.Tuple es k pos) (gtup n ms) := by
  obtain ⟨ts, ps, ss⟩ := hs
  refine ⟨gTup g.K n ts, fun W X m => by have := pg_tup (k := k) (pos := pos) (F.calm m) (ps W X m) (hn _) (hst _); rw [F.hK m] at this; exact this, ?_⟩
  intro G H as st σ e v x e' st' Q R N r h k
  cases r with
  | tup s q =>
    rename_i a vs xs
    unfold gtup at h
    by_cases hl : xs.length = n
    · simp only [hl, if_true] at h
      exact ⟨a, vs, rfl, sqT_H R s, q.len.trans hl, ss G H as st σ e vs xs e' st' Q R N q h k⟩
    · simp [hl] at h
  | _ => cases h
/-- the tests of a comprehension -/
def JTs (F : Fam g) (ifs : List Expr) (m : XM Bool) : Prop := ∃ t : WX → TT, (∀ W X, F.mem W X → PTs X ifs (t W)) ∧ ST g t m
theorem jts_nil : JTs F [] (xpure true) := ⟨fun _ => tYes, fun _ _ _ => pts_nil, fun W G H as st σ e Q R N h => h G H as R Ext.refl⟩
theorem jts_one {c : Expr} {m : XM Bool} (h : JT F c m) : JTs F [c] m := let ⟨t, p, s⟩ := h; ⟨t, fun W X m => pts_one (p W X m), s⟩
def cloop (src : Option Nat) (items : List D) (gt : MG) (mt : XM Bool) (me : XM D) (e : Nv) : List D → List D → Store → RX (List D)
  | [], acc, st => if srcOk src items st = true then .ok acc st else .stuck
  | x :: r, acc, st => if srcOk src items st = true then (match gt x e st with
    | none => .stuck
    | some (e1, st1) => match mt e1 st1 with
      | .ok true st2 => (match me e1 st2 with
        | .ok d st3 => if acc.length < LIM then cloop src items gt mt me e r (acc ++ [d]) st3 else .stuck
        | _ => .stuck)
      | .ok false st2 => cloop src items gt mt me e r acc st2
      | _ => .stuck) else .stuck
def xcompL (mi : XM (List D × Option Nat)) (vs : List Nat) (gt : MG) (mt : XM Bool) (me : XM D) : XM (List D) := fun e st => match mi e st with
  | .ok (xs, src) st1 => cloop src xs gt mt me (wipeE e vs) xs [] st1
  | .exc c p st' => .exc c p st'
  | .stuck => .stuck
/-- the new list stands still | will move -/
def xcomp (mi : XM (List D × Option Nat)) (vs : List Nat) (gt : MG) (mt : XM Bool) (me : XM D) : XM D := xbind (xcompL mi vs gt mt me) fun ds => xpure (.lst ds)
def xcompM (mi : XM (List D × Option Nat)) (vs : List Nat) (gt : MG) (mt : XM Bool) (me : XM D) : XM D := xbind (xcompL mi vs gt mt me) fun ds => fun _ st => .ok (.ref st.length) (st ++ [.lst ds])
theorem comp_read {wi : WX → TI} {gt0 : TG} {tt : WX → TT} {te : WX → TE} {mi : XM (List D × Option Nat)} {vs : List Nat} {gt : MG} {mt : XM Bool} {me : XM D}
    (si : ∀ (W : WX) (G H : Hp) (as : List Addr) (st : Store) (σ : L2.St) (e : Nv) (R : It → Hp → Prop), Ri g.K g.mg G H as st → Rn g.K g.mg G as σ e → PXI g W G H as σ (mi e st) R → wi W σ H R)
    (sg : ∀ (G H : Hp) (as : List Addr) (st : Store) (σ : L2.St) (e : Nv) (v : V) (x : D) (e' : Nv) (st' : Store) (Q : L2.St → Hp → Prop), Ri g.K g.mg G H as st → Rn g.K g.mg G as σ e → Rp g.K g.mg G as v x → gt x e st = some (e', st') →
      (∀ σ', wipe σ' vs = wipe σ vs → Rn g.K g.mg G as σ' e' → st' = st → Q σ' H) → gt0 v σ H Q)
    (stt : ST g tt mt) (se : SE g te me) (W : WX) (G H : Hp) (as : List Addr) (st : Store) (σ : L2.St) (e : Nv) (Q : VK) (R : Ri g.K g.mg G H as st) (N : Rn g.K g.mg G as σ e) (f : List D → Store → RX D)
    (h : PX g.K g.mg W G H as σ (match xcompL mi vs gt mt me e st with | .ok ds st' => f ds st' | .exc c p st' => .exc c p st' | .stuck => .stuck) Q)
    (fin : ∀ (ds : List D) (st' : Store) (G1 H1 : Hp) (as1 : List Addr) (G2 H2 : Hp) (as2 : List Addr) (us : List V) (p : Addr), Ri g.K g.mg G1 H1 as1 st' → RpA g.K g.mg G1 as1 us ds → H1 p = some (.lst us) → G1 p = none → p ∉ as1 → Ext G2 H2 as2 G1 H1 as1 → H2 p = none → PX g.K g.mg W G2 H2 as2 σ (f ds st') Q → Q (.ref p) H1) :
    tLc (wi W) gt0 (tt W0) (te W0) vs σ H Q := by
  refine si W G H as st σ e _ R N ?_
  unfold xcompL at h
  cases q : mi e st with
  | stuck => rw [q] at h; exact h
  | exc c p st1 => rw [q] at h; exact h
  | ok z st1 =>
    obtain ⟨xs, src⟩ := z
    simp only [q] at h
    have ok : srcOk src xs st1 = true := by
      cases hx : srcOk src xs st1 with
      | true => rfl
      | false =>
        exfalso
        cases xs with
        | nil => simp [cloop, hx] at h; exact h
        | cons x r => simp [cloop, hx] at h; exact h
    refine ⟨ok, fun J G1 H1 as1 R1 X1 Y => ?_⟩
    intro D0 hD
    have hd0 := R1.none_of hD
    have h1 := PX.ext (K := g.K) (mg := g.mg) h X1
    refine ⟨fun i m H' => i ≤ xs.length ∧ m = xs.length - i ∧ ∃ G' as' st' us acc, Ri g.K g.mg G' H' as' st' ∧ Ext G1 H1 as1 G' H' as' ∧ H' D0 = some (.lst us) ∧ G' D0 = none ∧ D0 ∉ as' ∧ RpA g.K g.mg G' as' us acc ∧
        PX g.K g.mg W G1 H1 as1 σ (match cloop src xs gt mt me (wipeE e vs) (xs.drop i) acc st' with | .ok ds st' => f ds st' | .exc c p st' => .exc c p st' | .stuck => .stuck) Q,
      ⟨xs.length, Nat.zero_le _, by simp, G1, as1, st1, [], [], R1.touch hd0.1 hd0.2, Ext.refl.touch hD, upd_same, hd0.1, hd0.2, .nil, h1⟩, ?_⟩
    rintro i m H2 ⟨hle, rfl, G2, as2, st2, us, acc, R2, X2, hL, hg, ha, ru, h2⟩
    by_cases hi : i < xs.length
    · have hd : xs.drop i = xs[i] :: xs.drop (i + 1) := List.drop_eq_getElem_cons hi
      rw [hd] at h2
      unfold cloop at h2
      by_cases hok : srcOk src xs st2 = true
      · simp only [hok, if_true] at h2
        refine .inr ⟨Y.go i G2 H2 as2 st2 hi R2 X2.sub X2.pre X2.lk hok, ?_⟩
        refine ⟨fun H' => i + 1 ≤ xs.length ∧ ∃ G' as' st' us acc, Ri g.K g.mg G' H' as' st' ∧ Ext G1 H1 as1 G' H' as' ∧ H' D0 = some (.lst us) ∧ G' D0 = none ∧ D0 ∉ as' ∧ RpA g.K g.mg G' as' us acc ∧
            PX g.K g.mg W G1 H1 as1 σ (match cloop src xs gt mt me (wipeE e vs) (xs.drop (i + 1)) acc st' with | .ok ds st' => f ds st' | .exc c p st' => .exc c p st' | .stuck => .stuck) Q,
          fun H' ⟨a, b⟩ => ⟨xs.length - (i + 1), by omega, a, rfl, b⟩, fun v H3 y => ?_⟩
        obtain ⟨G3, R3, X3, rv⟩ := Y.yld i G2 H2 as2 st2 v H3 xs[i] R2 X2.sub X2.pre X2.lk hok (List.getElem?_eq_getElem hi) y
        have b3 := X3.beside hL hg ha
        cases q3 : gt xs[i] (wipeE e vs) st2 with
        | none => simp only [q3] at h2; exact h2.elim
        | some z =>
          obtain ⟨e3, st3⟩ := z
          simp only [q3] at h2
          have Nw : Rn g.K g.mg G3 as2 (wipe σ vs) (wipeE e vs) := (((N.ext X1).ext X2).ext X3).wipe vs
          refine sg G3 H3 as2 st2 (wipe σ vs) (wipeE e vs) v xs[i] e3 st3 _ R3 Nw rv q3 fun σ4 w4 N4 es => ?_
          subst es
          refine ⟨w4.trans wipe_wipe, ?_⟩
          refine stt W0 G3 H3 as2 st3 σ4 e3 _ R3 N4 ?_
          cases q4 : mt e3 st3 with
          | stuck => simp only [q4] at h2; exact h2
          | exc c p st4 => simp only [q4] at h2; exact h2.elim
          | ok b st4 =>
            intro G4 H4 as4 R4 X4
            have b4 := X4.beside b3.2.2 b3.1 b3.2.1
            have X14 := (X2.trans X3).trans X4
            cases b with
            | false =>
              simp only [q4] at h2
              exact iteF ⟨hi, G4, as4, st4, us, acc, R4, X14, b4.2.2, b4.1, b4.2.1, (ru.ext X3).ext X4, h2⟩
            | true =>
              refine iteT ?_
              refine se W0 G4 H4 as4 st4 σ4 e3 _ R4 (N4.ext X4) ?_
              cases q5 : me e3 st4 with
              | stuck => simp only [q4, q5] at h2; exact h2
              | exc c p st5 => simp only [q4, q5] at h2; exact h2.elim
              | ok d st5 =>
                simp only [q4, q5] at h2
                intro w G5 H5 as5 R5 X5 rw'
                have b5 := X5.beside b4.2.2 b4.1 b4.2.1
                have ru5 := ((ru.ext X3).ext X4).ext X5
                by_cases hl : acc.length < LIM
                · rw [if_pos hl] at h2
                  refine ⟨us, b5.2.2, by rw [ru5.len]; exact lim_lt hl, hi, G5, as5, st5, us ++ [w], acc ++ [d], R5.touch b5.1 b5.2.1, (X14.trans X5).touch hD, upd_same, b5.1, b5.2.1, ru5.append (.cons rw' .nil), h2⟩
                · rw [if_neg hl] at h2; exact h2.elim
      · simp only [hok] at h2; exact h2.elim
    · have ei : i = xs.length := by omega
      subst ei
      rw [List.drop_length] at h2
      unfold cloop at h2
      by_cases hok : srcOk src xs st2 = true
      · simp only [hok, if_true] at h2
        exact .inl ⟨Y.stop G2 H2 as2 st2 R2 X2.sub X2.pre X2.lk hok, fin acc st2 G2 H2 as2 G1 H1 as1 us D0 R2 ru hL hg ha X2 hD h2⟩
      · simp only [hok] at h2; exact h2.elim
theorem je_lc {elt tg iter : Expr} {ifs : List Expr} {scope : Scope} (own : List (Str × Nat)) {mi : XM (List D × Option Nat)} {gt : MG} {mt : XM Bool} {me : XM D} (hi : JI F tg iter mi) (ok : blkC F.N F.sc scope own = true) (hg : JC (famC F scope) (own.map (·.2)) tg gt)
    (ht : JTs (famC F scope) ifs mt) (he : JE (famC F scope) elt me) (hs : ∀ env x, foldedSetIterable iter env x = pure x := by intro _ _; rfl) : JE F (.ListComp elt [⟨tg, iter, ifs, 0⟩] scope pos) (xcomp mi (own.map (·.2)) gt mt me) := by
  obtain ⟨wi, pi, si⟩ := hi
  obtain ⟨tg', pg', sg'⟩ := hg
  obtain ⟨tt, pt, stt⟩ := ht
  obtain ⟨te, pe, se⟩ := he
  refine ⟨fun W => tLc (wi W) tg' (tt W0) (te W0) (own.map (·.2)), fun W X m => ?_, ?_⟩
  · have hm : ∀ (s : Shared) (H : Hp) (C : Addr) (cl : List (Str × Addr)) (fp : List Addr), (famC F scope).mem W0 (X.blk s H scope (compEnvC scope cl C X.env) fp) := fun s H C cl fp => ⟨rfl, W, X, s, H, C, cl, fp, m, rfl⟩
    exact pe_lc (F.calm m) (by rw [F.hN m]; exact F.nd) (pi W X m) (by rw [F.hN m, F.hsc m]; exact blkOk_by ok) (fun s H C cl fp => pg' _ _ (hm s H C cl fp)) (fun s H C cl fp => pt _ _ (hm s H C cl fp)) (fun s H C cl fp => pe _ _ (hm s H C cl fp)) (hs _)
  · intro W G H as st σ e Q R N h
    refine comp_read si sg' stt se W G H as st σ e Q R N (fun ds st' => .ok (.lst ds) st') ?_ ?_
    · refine Eq.mp (congrArg (fun r => PX g.K g.mg W G H as σ r Q) ?_) h
      unfold xcomp xbind xpure
      cases xcompL mi (own.map (·.2)) gt mt me e st <;> rfl
    · intro ds st' G1 H1 as1 G2 H2 as2 us p R1 ru hp gn na X1 hn hq
      refine hq _ _ H1 as1 (R1.freeze hp gn na) (X1.freeze hn gn) (.lst upd_same (ru.mono (fun a u e => ?_) (List.prefix_refl _)))
      rw [upd_ne (ne_of_none e gn)]; exact e
theorem je_lcM {elt tg iter : Expr} {ifs : List Expr} {scope : Scope} (own : List (Str × Nat)) {mi : XM (List D × Option Nat)} {gt : MG} {mt : XM Bool} {me : XM D} (hi : JI F tg iter mi) (ok : blkC F.N F.sc scope own = true) (hg : JC (famC F scope) (own.map (·.2)) tg gt)
    (ht : JTs (famC F scope) ifs mt) (he : JE (famC F scope) elt me) (hs : ∀ env x, foldedSetIterable iter env x = pure x := by intro _ _; rfl) : JE F (.ListComp elt [⟨tg, iter, ifs, 0⟩] scope pos) (xcompM mi (own.map (·.2)) gt mt me) := by
  obtain ⟨wi, pi, si⟩ := hi
  obtain ⟨tg', pg', sg'⟩ := hg
  obtain ⟨tt, pt, stt⟩ := ht
  obtain ⟨te, pe, se⟩ := he
  refine ⟨fun W => tLc (wi W) tg' (tt W0) (te W0) (own.map (·.2)), fun W X m => ?_, ?_⟩
  · have hm : ∀ (s : Shared) (H : Hp) (C : Addr) (cl : List (Str × Addr)) (fp : List Addr), (famC F scope).mem W0 (X.blk s H scope (compEnvC scope cl C X.env) fp) := fun s H C cl fp => ⟨rfl, W, X, s, H, C, cl, fp, m, rfl⟩
    exact pe_lc (F.calm m) (by rw [F.hN m]; exact F.nd) (pi W X m) (by rw [F.hN m, F.hsc m]; exact blkOk_by ok) (fun s H C cl fp => pg' _ _ (hm s H C cl fp)) (fun s H C cl fp => pt _ _ (hm s H C cl fp)) (fun s H C cl fp => pe _ _ (hm s H C cl fp)) (hs _)
  · intro W G H as st σ e Q R N h
    refine comp_read si sg' stt se W G H as st σ e Q R N (fun ds st' => .ok (.ref st'.length) (st' ++ [.lst ds])) ?_ ?_
    · refine Eq.mp (congrArg (fun r => PX g.K g.mg W G H as σ r Q) ?_) h
      unfold xcompM xbind
      cases xcompL mi (own.map (·.2)) gt mt me e st <;> rfl
    · intro ds st' G1 H1 as1 G2 H2 as2 us p R1 ru hp gn na X1 hn hq
      refine hq _ _ H1 _ (R1.adopt hp gn na (.lst ru)) (X1.adopt hn) (.ref ?_)
      rw [← R1.len, List.getElem?_append_right (Nat.le_refl _), Nat.sub_self]; rfl
/-- name = [..] on one line, the name a local -/
theorem js_setLc (i : Nat) {y : Str} {py spos : Pos} {elt tg iter : Expr} {ifs : List Expr} {scope : Scope} (own : List (Str × Nat)) {mi : XM (List D × Option Nat)} {gt : MG} {mt : XM Bool} {me : XM D} (hy : F.N[i]? = some y) (hyl : F.sc.names.lookup y = some .local) (hk : F.sc.kind = .function) (hl : (py.line == pos.line) = true)
    (hna : (scope.names.any fun (n, k) => n == y && (k == .local || k == .cell)) = false) (hi : JI F tg iter mi) (ok : blkC F.N F.sc scope own = true) (hg : JC (famC F scope) (own.map (·.2)) tg gt)
    (ht : JTs (famC F scope) ifs mt) (he : JE (famC F scope) elt me) (hs : ∀ env x, foldedSetIterable iter env x = pure x := by intro _ _; rfl) :
    JS F (.Assign [.Name y py] (.ListComp elt [⟨tg, iter, ifs, 0⟩] scope pos) spos) (sset i (xcomp mi (own.map (·.2)) gt mt me)) := by
  obtain ⟨wi, pi, si⟩ := hi
  obtain ⟨tg', pg', sg'⟩ := hg
  obtain ⟨tt, pt, stt⟩ := ht
  obtain ⟨te, pe, se⟩ := he
  refine ⟨fun W => tAsg (tLc (wi W) tg' (tt W0) (te W0) (own.map (·.2))) (gName i), fun W X m => ?_, ?_⟩
  · have hm : ∀ (s : Shared) (H : Hp) (C : Addr) (cl : List (Str × Addr)) (fp : List Addr), (famC F scope).mem W0 (X.blk s H scope (compEnvC scope cl C X.env) fp) := fun s H C cl fp => ⟨rfl, W, X, s, H, C, cl, fp, m, rfl⟩
    exact ps_setLc (F.calm m) (by rw [F.hN m]; exact F.nd) (by rw [F.hN m]; exact hy) (by rw [F.hsc m]; exact hyl) (sw_true (by rw [F.hsc m]; exact hk) (by rw [F.hsc m]; exact hyl) hl hna) (pi W X m) (by rw [F.hN m, F.hsc m]; exact blkOk_by ok)
      (fun s H C cl fp => pg' _ _ (hm s H C cl fp)) (fun s H C cl fp => pt _ _ (hm s H C cl fp)) (fun s H C cl fp => pe _ _ (hm s H C cl fp)) (hs _)
  · intro W G H as st σ e E R N h
    have h' : PX g.K g.mg W G H as σ (xcomp mi (own.map (·.2)) gt mt me e st) (fun x H1 => gName i x σ H1 E.nx) := by
      unfold sset sbind at h
      cases q : xcomp mi (own.map (·.2)) gt mt me e st with
      | stuck => rw [q] at h; exact h
      | exc c p st1 => rw [q] at h; exact fun cls d G1 H1 as1 R1 X1 x => h σ cls d G1 H1 as1 R1 (N.ext X1) X1 x
      | ok d st1 => rw [q] at h; exact fun v G1 H1 as1 R1 X1 rv => h _ G1 H1 as1 R1 ((N.ext X1).set i rv) X1
    refine comp_read si sg' stt se W G H as st σ e _ R N (fun ds st' => .ok (.lst ds) st') ?_ ?_
    · refine Eq.mp (congrArg (fun r => PX g.K g.mg W G H as σ r _) ?_) h'
      unfold xcomp xbind xpure
      cases xcompL mi (own.map (·.2)) gt mt me e st <;> rfl
    · intro ds st' G1 H1 as1 G2 H2 as2 us p R1 ru hp gn na X1 hn hq
      refine hq _ _ H1 as1 (R1.freeze hp gn na) (X1.freeze hn gn) (.lst upd_same (ru.mono (fun a u e => ?_) (List.prefix_refl _)))
      rw [upd_ne (ne_of_none e gn)]; exact e
end
end LS
end
section
set_option maxRecDepth 100000
set_option maxHeartbeats 2000000
namespace LS
open PySem PySem.Spec L2

/-! ## what leaves a def -/
mutual
def refsB (n : Nat) : D → Bool
  | .ref i => decide (i < n)
  | .tup xs => refsBs n xs
  | .lst xs => refsBs n xs
  | .sq xs => refsBs n xs
  | .tpz xs => refsBs n xs
  | _ => true
def refsBs (n : Nat) : List D → Bool
  | [] => true
  | d :: r => refsB n d && refsBs n r
end
def moB (n : Nat) : MO → Bool
  | .lst xs => refsBs n xs
  | .dct kvs => refsBs n (kvs.map (·.2))
  | .lck _ => false
def stB (n : Nat) (st : Store) : Bool := (st.take n).all (moB n)
def payB (n : Nat) : Pay → Bool
  | none => true
  | some (_, d) => refsB n d
def outD (n : Nat) (d : D) (st : Store) : RX D := if stB n st = true then (match d with
  | .ref k => if k < n then .ok (.ref k) (st.take n) else (match st[k]? with
    | some (.lst xs) => if refsBs n xs = true then .ok (.lst xs) (st.take n) else .stuck
    | _ => .stuck)
  | d => if refsB n d = true then .ok d (st.take n) else .stuck) else .stuck
/-- .. a new moving list -/
def outM (n : Nat) (d : D) (st : Store) : RX D := if stB n st = true then (match d with
  | .ref k => if k < n then .stuck else (match st[k]? with
    | some (.lst xs) => if refsBs n xs = true then .ok (.ref n) (st.take n ++ [.lst xs]) else .stuck
    | _ => .stuck)
  | _ => .stuck) else .stuck
/-- .. everything that was made -/
def outG (_ : Nat) (d : D) (st : Store) : RX D := .ok d st
def outF (out : Nat → D → Store → RX D) (n : Nat) : RS → RX D
  | .rt d st => out n d st
  | .nx _ st => out n .non st
  | .exc c p _ st => if stB n st = true then (if payB n p = true then .exc c p (st.take n) else .stuck) else .stuck
  | _ => .stuck
abbrev DF := Store → List D → RX D
def runF (nm : Nat) (body : SM) : DF := fun st ds => outF outD st.length (body (ds.map some ++ List.replicate (nm - ds.length) none) st)
def runG (nm : Nat) (body : SM) : DF := fun st ds => outF outG st.length (body (ds.map some ++ List.replicate (nm - ds.length) none) st)
def runM (nm : Nat) (body : SM) : DF := fun st ds => outF outM st.length (body (ds.map some ++ List.replicate (nm - ds.length) none) st)
section
variable {K : PySem.W.Frag} {mg : Str → Option Value} {G H G1 H1 : Hp} {as as1 : List Addr} {st st1 : Store} {n : Nat}
mutual
theorem Rp.shrink (hn : ∀ i, i < n → as[i]? = as1[i]?) : ∀ {d : D} {v : V}, refsB n d = true → Rp K mg G as v d → Rp K mg G as1 v d
  | .non, _, _, h => by cases h; exact .non
  | .bl _, _, _, h => by cases h; exact .bl _
  | .int _, _, _, h => by cases h; exact .int _
  | .str _, _, _, h => by cases h; exact .str _
  | .ty _, _, _, h => by cases h; exact .ty _
  | .glo _, _, _, h => by cases h; rename_i a q; exact .glo _ _ q
  | .tup ds, _, b, h => by cases h with | tup s r => exact .tup s (RpA.shrink hn (by simpa [refsB] using b) r)
  | .lst ds, _, b, h => by cases h with | lst s r => exact .lst s (RpA.shrink hn (by simpa [refsB] using b) r)
  | .sq ds, _, b, h => by cases h with | sq s r => exact .sq s (RpA.shrink hn (by simpa [refsB] using b) r)
  | .tpz ds, _, b, h => by cases h with | tpz s z r => exact .tpz s z (RpA.shrink hn (by simpa [refsB] using b) r)
  | .ref i, _, b, h => by cases h with | ref q => exact .ref (by rw [← hn i (by simpa [refsB] using b)]; exact q)
theorem RpA.shrink (hn : ∀ i, i < n → as[i]? = as1[i]?) : ∀ {ds : List D} {vs : List V}, refsBs n ds = true → RpA K mg G as vs ds → RpA K mg G as1 vs ds
  | [], _, _, h => by cases h; exact .nil
  | d :: ds, _, b, h => by
    cases h with
    | cons x y =>
      have b' : refsB n d = true ∧ refsBs n ds = true := by simpa [refsBs] using b
      exact .cons (Rp.shrink hn b'.1 x) (RpA.shrink hn b'.2 y)
end
theorem Ro.shrink (hn : ∀ i, i < n → as[i]? = as1[i]?) {ho : HO} {m : MO} (b : moB n m = true) (h : Ro K mg G as ho m) : Ro K mg G as1 ho m := by
  cases h with
  | lst r => exact .lst (r.shrink hn (by simpa [moB] using b))
  | dct e r => exact .dct e (r.shrink hn (by simpa [moB] using b))
  | lck e r => simp [moB] at b
/-- the store of a def's caller -/
theorem Ri.back (R : Ri K mg G1 H1 as1 st1) (X : Ext G H as G1 H1 as1) (hn : as.length = n) (b : stB n st1 = true) : Ri K mg G1 H1 as (st1.take n) ∧ Ext G H as G1 H1 as ∧ ∀ i, i < n → as1[i]? = as[i]? := by
  obtain ⟨t, e⟩ := X.pre
  have hl : n ≤ as1.length := by rw [← e, List.length_append]; omega
  have same : ∀ i, i < n → as1[i]? = as[i]? := fun i hi => by rw [← e, List.getElem?_append_left (by omega)]
  refine ⟨⟨R.sub, by rw [hn, List.length_take, ← R.len]; omega, ?_, fun a ha => R.out a (e ▸ List.mem_append_left _ ha), fun i a o ha ho => ?_⟩, ⟨X.sub, List.prefix_refl _, X.keep, X.frG, fun a h h' => absurd h h', X.dom, X.lk⟩, same⟩
  · have := R.nd
    rw [← e, List.nodup_append] at this
    exact this.1
  · have hi : i < n := by
      have := (List.getElem?_eq_some_iff.mp ha).1
      omega
    have ho' : st1[i]? = some o := by
      rw [List.getElem?_take, if_pos hi] at ho
      exact ho
    obtain ⟨u, q, r⟩ := R.obj i a o (by rw [same i hi]; exact ha) ho'
    refine ⟨u, q, r.shrink same ?_⟩
    unfold stB at b
    exact List.all_eq_true.mp b o (List.mem_of_getElem? ho)
theorem outD_ok {W : WX} {σ : L2.St} {d : D} {v : V} {Q : VK} (R : Ri K mg G1 H1 as1 st1) (X : Ext G H as G1 H1 as1) (hn : as.length = n) (r : Rp K mg G1 as1 v d) (h : PX K mg W G H as σ (outD n d st1) Q) : Q v H1 := by
  unfold outD at h
  by_cases b : stB n st1 = true
  · rw [if_pos b] at h
    obtain ⟨R', X', same⟩ := R.back X hn b
    have plain : refsB n d = true → PX K mg W G H as σ (.ok d (st1.take n)) Q → Q v H1 := fun bd q => q v G1 H1 as R' X' (r.shrink same bd)
    cases d with
    | ref k =>
      simp only at h
      by_cases hk : k < n
      · rw [if_pos hk] at h
        exact plain (by simp [refsB, hk]) h
      · rw [if_neg hk] at h
        cases q : st1[k]? with
        | none => simp [q] at h; exact h.elim
        | some m =>
          cases m with
          | lst xs =>
            simp only [q] at h
            by_cases bx : refsBs n xs = true
            · rw [if_pos bx] at h
              cases r with
              | ref qa =>
                rename_i a
                obtain ⟨ho, e1, oo⟩ := R.at_ qa q
                cases oo with
                | lst ra =>
                  rename_i vs
                  have ga : G1 a = none := R.out a (List.mem_of_getElem? qa)
                  have na : a ∉ as := fun ha => by
                    obtain ⟨j, hj, ej⟩ := List.getElem_of_mem ha
                    have h1 : as1[j]? = some a := by rw [same j (by omega), List.getElem?_eq_getElem hj, ej]
                    obtain ⟨p1, p2⟩ := List.getElem?_eq_some_iff.mp h1
                    obtain ⟨p3, p4⟩ := List.getElem?_eq_some_iff.mp qa
                    have : j = k := (List.getElem_inj R.nd).mp (p2.trans p4.symm)
                    omega
                  have hfresh : H a = none := X.frA a (List.mem_of_getElem? qa) na
                  refine h _ _ H1 as (R'.freeze e1 ga na) (X'.freeze hfresh ga) (.lst upd_same ?_)
                  exact (ra.shrink same bx).mono (fun b u eb => by rw [upd_ne (ne_of_none eb ga)]; exact eb) (List.prefix_refl _)
            · rw [if_neg bx] at h; exact h.elim
          | _ => simp [q] at h; exact h.elim
    | non => simp only at h; exact plain rfl (by simpa [refsB] using h)
    | bl _ => simp only at h; exact plain rfl (by simpa [refsB] using h)
    | int _ => simp only at h; exact plain rfl (by simpa [refsB] using h)
    | str _ => simp only at h; exact plain rfl (by simpa [refsB] using h)
    | ty _ => simp only at h; exact plain rfl (by simpa [refsB] using h)
    | glo _ => simp only at h; exact plain rfl (by simpa [refsB] using h)
    | tup xs =>
      simp only at h
      by_cases bx : refsB n (.tup xs) = true
      · rw [if_pos bx] at h; exact plain bx h
      · rw [if_neg bx] at h; exact h.elim
    | lst xs =>
      simp only at h
      by_cases bx : refsB n (.lst xs) = true
      · rw [if_pos bx] at h; exact plain bx h
      · rw [if_neg bx] at h; exact h.elim
    | tpz xs =>
      simp only at h
      by_cases bx : refsB n (.tpz xs) = true
      · rw [if_pos bx] at h; exact plain bx h
      · rw [if_neg bx] at h; exact h.elim
    | sq xs =>
      simp only at h
      by_cases bx : refsB n (.sq xs) = true
      · rw [if_pos bx] at h; exact plain bx h
      · rw [if_neg bx] at h; exact h.elim
  · rw [if_neg b] at h; exact h.elim
theorem outM_ok {W : WX} {σ : L2.St} {d : D} {v : V} {Q : VK} (R : Ri K mg G1 H1 as1 st1) (X : Ext G H as G1 H1 as1) (hn : as.length = n) (r : Rp K mg G1 as1 v d) (h : PX K mg W G H as σ (outM n d st1) Q) : Q v H1 := by
  unfold outM at h
  by_cases b : stB n st1 = true
  · rw [if_pos b] at h
    obtain ⟨R', X', same⟩ := R.back X hn b
    cases d with
    | ref k =>
      simp only at h
      by_cases hk : k < n
      · rw [if_pos hk] at h; exact h.elim
      · rw [if_neg hk] at h
        cases q : st1[k]? with
        | none => simp [q] at h; exact h.elim
        | some m =>
          cases m with
          | lst xs =>
            simp only [q] at h
            by_cases bx : refsBs n xs = true
            · rw [if_pos bx] at h
              cases r with
              | ref qa =>
                rename_i a
                obtain ⟨ho, e1, oo⟩ := R.at_ qa q
                cases oo with
                | lst ra =>
                  rename_i vs
                  have ga : G1 a = none := R.out a (List.mem_of_getElem? qa)
                  have na : a ∉ as := fun ha => by
                    obtain ⟨j, hj, ej⟩ := List.getElem_of_mem ha
                    have h1 : as1[j]? = some a := by rw [same j (by omega), List.getElem?_eq_getElem hj, ej]
                    obtain ⟨p1, p2⟩ := List.getElem?_eq_some_iff.mp h1
                    obtain ⟨p3, p4⟩ := List.getElem?_eq_some_iff.mp qa
                    have : j = k := (List.getElem_inj R.nd).mp (p2.trans p4.symm)
                    omega
                  have hfresh : H a = none := X.frA a (List.mem_of_getElem? qa) na
                  refine h _ _ H1 _ (R'.adopt e1 ga na (.lst (ra.shrink same bx))) (X'.adopt hfresh) (.ref ?_)
                  rw [← hn, List.getElem?_append_right (Nat.le_refl _), Nat.sub_self]; rfl
            · rw [if_neg bx] at h; exact h.elim
          | _ => simp [q] at h; exact h.elim
    | _ => exact h.elim
  · rw [if_neg b] at h; exact h.elim
end

theorem outG_ok {W : WX} {σ : L2.St} {d : D} {v : V} {Q : VK} {K : PySem.W.Frag} {mg : Str → Option Value} {G H G1 H1 : Hp} {as as1 : List Addr} {st1 : Store} {n : Nat} (R : Ri K mg G1 H1 as1 st1) (X : Ext G H as G1 H1 as1) (r : Rp K mg G1 as1 v d) (h : PX K mg W G H as σ (outG n d st1) Q) : Q v H1 := h v G1 H1 as1 R X r

/-! ## a def's body -/
structure Bd where
  qual : Str
  f : Addr
  cdv : Value
  A : Around
  outer : List Env
  s : Shared
  H : Hp
  E : XK
def famB (g : Gb) (k : Nat) (N : List Str) (nd : N.Nodup) (sc : Scope) (b : Bd) (hr : Room k (b.A.deeper (PyProof.Rows.envOfC b.qual sc b.s.heap.objs.size b.f b.cdv))) : Fam g where
  k := k
  N := N
  sc := sc
  nd := nd
  own := fun _ => true
  mem := fun W X => W = (fun cls d _ H' => b.E cls d H') ∧ X = cxOf (L2.CX g.P g.w) g.P g.w g.K g.mg g.base N b.qual sc b.f b.cdv b.A b.outer b.s b.H b.E
  prog := fun {W X} ⟨_, e⟩ => by subst e; rfl
  w := fun {W X} ⟨_, e⟩ => by subst e; rfl
  hK := fun {W X} ⟨_, e⟩ => by subst e; rfl
  hmg := fun {W X} ⟨_, e⟩ => by subst e; rfl
  base := fun {W X} ⟨_, e⟩ => by subst e; rfl
  hN := fun {W X} ⟨_, e⟩ => by subst e; rfl
  hsc := fun {W X} ⟨_, e⟩ => by subst e; rfl
  calm := fun {W X} ⟨_, e⟩ => by subst e; rfl
  room := fun {W X} ⟨_, e⟩ => by subst e; exact hr
  takes := fun {W X} ⟨eW, e⟩ => by subst e; subst eW; exact takes_of rfl rfl rfl rfl
  pass := fun {W X} ⟨_, e⟩ => by subst e; exact passes_of rfl
  fn := fun {W X} ⟨_, e⟩ x _ _ => by subst e; exact .inl rfl
/-- a def's promise -/
def spS (g : Gb) (n : Nat) (f : DF) : Sp := fun vs H Q E => ∃ (G : Hp) (as : List Addr) (st : Store) (ds : List D), ds.length = n ∧ Ri g.K g.mg G H as st ∧ RpA g.K g.mg G as vs ds ∧ PX g.K g.mg (fun cls d _ H' => E cls d H') G H as [] (f st ds) Q
/-- a def of the top under the name x: its promise at level k -/
structure Fn (g : Gb) (st : Stmt) (x nm : Str) (ps : List Str) (k : Nat) (F : DF) : Prop where
  ex : ∃ f fd, g.mg x = some (.ref f) ∧ FunD g.K nm nm (defArgs st) (defBody st) (defScope st) [] [] f fd ∧ Binds g.K fd ps [] ∧ FnOk g.P g.w g.K g.mg g.base (L2.CX g.P g.w) k f fd ps (spS g ps.length F)
theorem start_rn {K : PySem.W.Frag} {mg : Str → Option Value} {G : Hp} {as : List Addr} {N : List Str} {vs : List V} {ds : List D} (r : RpA K mg G as vs ds) : Rn K mg G as (L2.start N vs) (ds.map some ++ List.replicate (N.length - ds.length) none) := by
  have hl := r.len
  refine ⟨by simp [L2.start, hl], fun i x h => ?_⟩
  by_cases hi : i < ds.length
  · rw [List.getElem?_append_left (by simpa using hi), List.getElem?_map] at h
    obtain ⟨d, e1, e2⟩ := Option.map_eq_some_iff.mp h
    cases e2
    obtain ⟨v, e3, rv⟩ := r.get e1
    refine ⟨v, ?_, rv⟩
    unfold L2.start
    rw [List.getElem?_append_left (by rw [List.length_map, hl]; exact hi), List.getElem?_map, e3]; rfl
  · rw [List.getElem?_append_right (by simpa using hi)] at h
    rw [List.getElem?_replicate] at h
    split at h <;> cases h
theorem fn_ok {g : Gb} {st : Stmt} {nm : Str} {N ps : List Str} {k : Nat} {m : SM} {f : Addr} {fd : FuncData} (out : Nat → D → Store → RX D)
    (hout : ∀ (G H G1 H1 : Hp) (as as1 : List Addr) (st1 : Store) (n : Nat) (W : WX) (σ : L2.St) (d : D) (v : V) (Q : VK), Ri g.K g.mg G1 H1 as1 st1 → Ext G H as G1 H1 as1 → as.length = n → Rp g.K g.mg G1 as1 v d → PX g.K g.mg W G H as σ (out n d st1) Q → Q v H1)
    (D0 : FunD g.K nm nm (defArgs st) (defBody st) (defScope st) [] [] f fd) (S : FnScope N ps (defScope st))
    (body : ∀ (b : Bd) (hr : Room k (b.A.deeper (PyProof.Rows.envOfC b.qual (defScope st) b.s.heap.objs.size b.f b.cdv))), JSs (famB g k N S.nd (defScope st) b hr) (defBody st) m) :
    FnOk g.P g.w g.K g.mg g.base (L2.CX g.P g.w) (k + 1) f fd ps (spS g ps.length (fun s ds => outF out s.length (m (ds.map some ++ List.replicate (N.length - ds.length) none) s))) := by
  refine D0.ok S (fun vs H Q E h => ?_) (fun cdv A outer s H vs Q E hr h => ?_)
  · obtain ⟨G, as, st', ds, hl, R, r, _⟩ := h
    rw [r.len, hl]
  · obtain ⟨G, as, st', ds, hl, R, r, q⟩ := h
    dsimp only at q
    obtain ⟨t, p, ss⟩ := body ⟨nm, f, cdv, A, outer, s, H, E⟩ hr
    refine ⟨t _, p _ _ ⟨rfl, rfl⟩, ?_⟩
    refine ss (fun cls d _ H' => E cls d H') G H as st' (L2.start N vs) (ds.map some ++ List.replicate (N.length - ds.length) none) _ R (start_rn r) ?_
    cases qm : m (ds.map some ++ List.replicate (N.length - ds.length) none) st' with
    | rt d st1 =>
      rw [qm] at q
      exact fun v G1 H1 as1 R1 X1 rv => hout G H G1 H1 as as1 st1 _ _ _ d v Q R1 X1 R.len rv q
    | nx e1 st1 =>
      rw [qm] at q
      exact fun σ1 G1 H1 as1 R1 N1 X1 => hout G H G1 H1 as as1 st1 _ _ _ .non .non Q R1 X1 R.len .non q
    | bk e1 st1 => rw [qm] at q; exact q.elim
    | ct e1 st1 => rw [qm] at q; exact q.elim
    | stuck => rw [qm] at q; exact q.elim
    | exc c p e1 st1 =>
      rw [qm] at q
      intro σ1 cls d G1 H1 as1 R1 N1 X1 x1
      simp only [outF] at q
      by_cases b1 : stB st'.length st1 = true
      · rw [if_pos b1] at q
        by_cases b2 : payB st'.length p = true
        · rw [if_pos b2] at q
          obtain ⟨R', X', same⟩ := R1.back X1 R.len b1
          refine q cls d G1 H1 as R' X' ?_
          obtain ⟨x1a, x1b, x1c⟩ := x1
          refine ⟨x1a, x1b, ?_⟩
          cases p with
          | none => exact x1c
          | some fd' =>
            obtain ⟨fl, dd⟩ := fd'
            obtain ⟨dx, v, e1, e2, e3, e4⟩ := x1c
            refine ⟨dx, v, e1, e2, fun z => e3 (X1.pre.subset z), e4.shrink same (by simpa [payB] using b2)⟩
        · rw [if_neg b2] at q; exact q.elim
      · rw [if_neg b1] at q; exact q.elim
theorem fn_mk {g : Gb} {st : Stmt} {x nm : Str} {N ps : List Str} {k : Nat} {m : SM} {f : Addr} {fd : FuncData} (out : Nat → D → Store → RX D)
    (hout : ∀ (G H G1 H1 : Hp) (as as1 : List Addr) (st1 : Store) (n : Nat) (W : WX) (σ : L2.St) (d : D) (v : V) (Q : VK), Ri g.K g.mg G1 H1 as1 st1 → Ext G H as G1 H1 as1 → as.length = n → Rp g.K g.mg G1 as1 v d → PX g.K g.mg W G H as σ (out n d st1) Q → Q v H1)
    (hx : g.mg x = some (.ref f)) (D0 : FunD g.K nm nm (defArgs st) (defBody st) (defScope st) [] [] f fd) (S : FnScope N ps (defScope st))
    (hb : ∀ (kV doc pm : Value) (an : Option Addr) (cdv ct : Value) (us : List Value), us.length = ps.length → bindArgs (PySem.W.fnOf nm nm (defArgs st) (defBody st) (defScope st) .none kV doc pm an cdv ct) ⟨us, []⟩ = pure (ps.zip us))
    (body : ∀ (b : Bd) (hr : Room k (b.A.deeper (PyProof.Rows.envOfC b.qual (defScope st) b.s.heap.objs.size b.f b.cdv))), JSs (famB g k N S.nd (defScope st) b hr) (defBody st) m) :
    Fn g st x nm ps (k + 1) (fun s ds => outF out s.length (m (ds.map some ++ List.replicate (N.length - ds.length) none) s)) :=
  ⟨f, fd, hx, D0, D0.bindsN hb, fn_ok out hout D0 S body⟩
end LS
end
section
set_option maxRecDepth 100000
set_option maxHeartbeats 2000000
namespace LS
open PySem PySem.Spec L2

/-! ## calls of defs -/
section
variable {K : PySem.W.Frag} {mg : Str → Option Value} {G H G1 H1 : Hp} {as as1 : List Addr} {st st1 : Store} {n : Nat}
theorem Rp.free {d : D} {v : V} (b : refsB 0 d = true) (h : Rp K mg G as v d) : Rp K mg G as1 v d := h.shrink (n := 0) (fun i hi => absurd hi (Nat.not_lt_zero i)) b
theorem RpA.free {d : List D} {v : List V} (b : refsBs 0 d = true) (h : RpA K mg G as v d) : RpA K mg G as1 v d := h.shrink (n := 0) (fun i hi => absurd hi (Nat.not_lt_zero i)) b
theorem Ro.free {d : MO} {v : HO} (b : moB 0 d = true) (h : Ro K mg G as v d) : Ro K mg G as1 v d := h.shrink (n := 0) (fun i hi => absurd hi (Nat.not_lt_zero i)) b
end
/-- the moving objects that are handed -/
def refsIn : List D → List Nat
  | [] => []
  | .ref i :: r => i :: refsIn r
  | _ :: r => refsIn r
def locG (ix : List Nat) : D → D
  | .ref i => .ref (ix.idxOf i)
  | d => d
def argG : D → Bool
  | .ref _ => true
  | d => refsB 0 d
mutual
def mapR (ix : List Nat) (N : Nat) : D → D
  | .ref r => .ref (if r < ix.length then ix.getD r 0 else N + (r - ix.length))
  | .tup xs => .tup (mapRs ix N xs)
  | .lst xs => .lst (mapRs ix N xs)
  | .sq xs => .sq (mapRs ix N xs)
  | .tpz xs => .tpz (mapRs ix N xs)
  | d => d
def mapRs (ix : List Nat) (N : Nat) : List D → List D
  | [] => []
  | d :: r => mapR ix N d :: mapRs ix N r
end
def pickS (st : Store) (ix : List Nat) : Store := ix.map fun i => st.getD i (.lst [])
def putS (st : Store) : List Nat → Store → Store
  | i :: ix, m :: ms => (putS st ix ms).set i m
  | _, _ => st
def backD (ix : List Nat) (st : Store) : RX D → RX D
  | .ok d st1 => if (decide (ix.length ≤ st1.length) && st1.all (moB 0)) = true then .ok (mapR ix st.length d) (putS st ix (st1.take ix.length) ++ st1.drop ix.length) else .stuck
  | .exc c p st1 => if (decide (ix.length ≤ st1.length) && st1.all (moB 0) && payB 0 p) = true then .exc c p (putS st ix (st1.take ix.length) ++ st1.drop ix.length) else .stuck
  | .stuck => .stuck
def callOk (ds : List D) (st : Store) : Bool := ds.all argG && decide (refsIn ds).Nodup && (refsIn ds).all (fun i => decide (i < st.length)) && (pickS st (refsIn ds)).all (moB 0)
def callD (f : DF) (ds : List D) : XM D := fun _ st => if callOk ds st = true then backD (refsIn ds) st (f (pickS st (refsIn ds)) (ds.map (locG (refsIn ds)))) else .stuck
section
variable {K : PySem.W.Frag} {mg : Str → Option Value} {G H G1 H1 : Hp} {as as1 : List Addr} {st st1 : Store} {ix : List Nat}
theorem putS_len (st : Store) : ∀ (ix : List Nat) (ms : Store), (putS st ix ms).length = st.length
  | [], _ => rfl
  | _ :: _, [] => rfl
  | i :: ix, m :: ms => by simp [putS, putS_len st ix ms]
theorem putS_out (st : Store) : ∀ (ix : List Nat) (ms : Store) (j : Nat), j ∉ ix → (putS st ix ms)[j]? = st[j]?
  | [], _, _, _ => rfl
  | _ :: _, [], _, _ => rfl
  | i :: ix, m :: ms, j, h => by
    have h' : j ≠ i ∧ j ∉ ix := by simpa using h
    show ((putS st ix ms).set i m)[j]? = _
    rw [List.getElem?_set_ne (Ne.symm h'.1)]
    exact putS_out st ix ms j h'.2
theorem putS_in (st : Store) : ∀ (ix : List Nat) (ms : Store) (k : Nat) (j : Nat), ix.Nodup → ix.length ≤ ms.length → (∀ i ∈ ix, i < st.length) → ix[k]? = some j → (putS st ix ms)[j]? = ms[k]?
  | [], _, _, _, _, _, _, h => by simp at h
  | i :: ix, [], _, _, _, hl, _, _ => by simp at hl
  | i :: ix, m :: ms, 0, j, nd, hl, hb, h => by
    have : i = j := by simpa using h
    subst this
    show ((putS st ix ms).set i m)[i]? = _
    rw [List.getElem?_set_self (by rw [putS_len]; exact hb i (by simp))]; rfl
  | i :: ix, m :: ms, k + 1, j, nd, hl, hb, h => by
    have h' : ix[k]? = some j := by simpa using h
    have nd' : i ∉ ix ∧ ix.Nodup := by simpa using nd
    have hj : j ∈ ix := List.mem_of_getElem? h'
    have hne : i ≠ j := fun z => nd'.1 (z ▸ hj)
    show ((putS st ix ms).set i m)[j]? = _
    rw [List.getElem?_set_ne hne]
    have := putS_in st ix ms k j nd'.2 (by simpa using hl) (fun a ha => hb a (by simp [ha])) h'
    simpa using this
/-- the addresses of the handed objects -/
def adr (as : List Addr) (ix : List Nat) : List Addr := ix.map fun i => as.getD i 0
theorem adr_get {k : Nat} {j : Nat} (hb : ∀ i ∈ ix, i < as.length) (h : ix[k]? = some j) : (adr as ix)[k]? = as[j]? := by
  have hj := hb j (List.mem_of_getElem? h)
  simp [adr, h, hj]
theorem Ri.pick (R : Ri K mg G H as st) (nd : ix.Nodup) (hb : ∀ i ∈ ix, i < st.length) (hm : (pickS st ix).all (moB 0) = true) : Ri K mg G H (adr as ix) (pickS st ix) := by
  have hba : ∀ i ∈ ix, i < as.length := fun i hi => by rw [R.len]; exact hb i hi
  have key : ∀ (k : Nat) (a : Addr), (adr as ix)[k]? = some a → ∃ j, ix[k]? = some j ∧ as[j]? = some a := fun k a h => by
    cases q : ix[k]? with
    | none => simp [adr, q] at h
    | some j => exact ⟨j, rfl, by rw [← adr_get hba q]; exact h⟩
  refine ⟨R.sub, by simp [adr, pickS], ?_, fun a ha => ?_, fun k a o ha ho => ?_⟩
  · unfold adr List.Nodup
    rw [List.pairwise_map]
    refine List.Pairwise.imp_of_mem (R := fun a b => a ≠ b) (fun {i j} hi hj hij z => ?_) nd
    have b1 := hba i hi
    have b2 := hba j hj
    rw [List.getD_eq_getElem?_getD, List.getD_eq_getElem?_getD, List.getElem?_eq_getElem b1, List.getElem?_eq_getElem b2] at z
    exact hij ((List.getElem_inj R.nd).mp z)
  · obtain ⟨k, hk, e⟩ := List.getElem_of_mem ha
    obtain ⟨j, _, q⟩ := key k a (by rw [List.getElem?_eq_getElem hk, e])
    exact R.out a (List.mem_of_getElem? q)
  · obtain ⟨j, q1, q2⟩ := key k a ha
    have hj := hb j (List.mem_of_getElem? q1)
    have ho' : st[j]? = some o := by
      simp [pickS, q1, hj] at ho
      rw [List.getElem?_eq_getElem hj, ho]
    obtain ⟨u, e, r⟩ := R.obj j a o q2 ho'
    exact ⟨u, e, r.free (List.all_eq_true.mp hm o (List.mem_of_getElem? ho))⟩
theorem refsIn_mem : ∀ {ds : List D} {i : Nat}, D.ref i ∈ ds → i ∈ refsIn ds
  | [], _, h => by simp at h
  | d :: r, i, h => by
    rcases List.mem_cons.mp h with e | h
    · subst e; simp [refsIn]
    · have := refsIn_mem h
      cases d <;> simp_all [refsIn]
theorem loc_rp (hb : ∀ i ∈ ix, i < as.length) : ∀ {ds : List D} {vs : List V}, ds.all argG = true → (∀ i, D.ref i ∈ ds → i ∈ ix) → RpA K mg G as vs ds → RpA K mg G (adr as ix) vs (ds.map (locG ix))
  | [], _, _, _, h => by cases h; exact .nil
  | d :: ds, _, b, hi, h => by
    cases h with
    | cons x y =>
      have b' : argG d = true ∧ ds.all argG = true := by simpa using b
      refine .cons ?_ (loc_rp hb b'.2 (fun i m => hi i (by simp [m])) y)
      cases d with
      | ref j =>
        have hj := hi j (by simp)
        cases x with
        | ref q =>
          refine .ref ?_
          have e : ix[ix.idxOf j]? = some j := by
            have hl := List.idxOf_lt_length_iff.mpr hj
            rw [List.getElem?_eq_getElem hl]
            simp
          rw [adr_get hb e]; exact q
      | _ => exact x.free b'.1
mutual
theorem Rp.map {as2 : List Addr} {N : Nat} (hr : ∀ (r : Nat) (a : Addr), as1[r]? = some a → as2[if r < ix.length then ix.getD r 0 else N + (r - ix.length)]? = some a) : ∀ {d : D} {v : V}, Rp K mg G as1 v d → Rp K mg G as2 v (mapR ix N d)
  | .non, _, h => by cases h; exact .non
  | .bl _, _, h => by cases h; exact .bl _
  | .int _, _, h => by cases h; exact .int _
  | .str _, _, h => by cases h; exact .str _
  | .ty _, _, h => by cases h; exact .ty _
  | .glo _, _, h => by cases h; rename_i a q; exact .glo _ _ q
  | .tup ds, _, h => by cases h with | tup s r => exact .tup s (RpA.map hr r)
  | .lst ds, _, h => by cases h with | lst s r => exact .lst s (RpA.map hr r)
  | .sq ds, _, h => by cases h with | sq s r => exact .sq s (RpA.map hr r)
  | .ref i, _, h => by cases h with | ref q => exact .ref (hr _ _ q)
  | .tpz ds, _, h => by cases h with | tpz s z r => exact .tpz s z (RpA.map hr r)
theorem RpA.map {as2 : List Addr} {N : Nat} (hr : ∀ (r : Nat) (a : Addr), as1[r]? = some a → as2[if r < ix.length then ix.getD r 0 else N + (r - ix.length)]? = some a) : ∀ {ds : List D} {vs : List V}, RpA K mg G as1 vs ds → RpA K mg G as2 vs (mapRs ix N ds)
  | [], _, h => by cases h; exact .nil
  | d :: ds, _, h => by cases h with | cons x y => exact .cons (Rp.map hr x) (RpA.map hr y)
end
/-- behind the call -/
theorem Ri.back2 (R : Ri K mg G H as st) (nd : ix.Nodup) (hb : ∀ i ∈ ix, i < st.length) (R1 : Ri K mg G1 H1 as1 st1) (X : Ext G H (adr as ix) G1 H1 as1) (hl : ix.length ≤ st1.length) (hm : st1.all (moB 0) = true) :
    ∃ as2, Ri K mg G1 H1 as2 (putS st ix (st1.take ix.length) ++ st1.drop ix.length) ∧ Ext G H as G1 H1 as2 ∧ ∀ (r : Nat) (a : Addr), as1[r]? = some a → as2[if r < ix.length then ix.getD r 0 else st.length + (r - ix.length)]? = some a := by
  have hba : ∀ i ∈ ix, i < as.length := fun i hi => by rw [R.len]; exact hb i hi
  have la : (adr as ix).length = ix.length := by simp [adr]
  obtain ⟨nw, en⟩ := X.pre
  have ln : as1.length = ix.length + nw.length := by rw [← en, List.length_append, la]
  have lst : st1.length = ix.length + nw.length := by rw [← R1.len, ln]
  have hnew : ∀ a ∈ nw, H a = none := fun a ha => by
    refine X.frA a (by rw [← en]; exact List.mem_append_right _ ha) fun z => ?_
    have := R1.nd
    rw [← en, List.nodup_append] at this
    exact this.2.2 a z a ha rfl
  have hold : ∀ a ∈ as, H a ≠ none := fun a ha => by
    obtain ⟨i, hi, e⟩ := List.getElem_of_mem ha
    have hi' : i < st.length := by rw [← R.len]; exact hi
    obtain ⟨u, q, _⟩ := R.obj i a st[i] (by rw [List.getElem?_eq_getElem hi, e]) (List.getElem?_eq_getElem hi')
    rw [q]; exact fun z => nomatch z
  have sub : ∀ a ∈ adr as ix, a ∈ as := fun a ha => by
    obtain ⟨i, hi, e⟩ := List.mem_map.mp ha
    have hi' := hba i hi
    rw [← e, List.getD_eq_getElem?_getD, List.getElem?_eq_getElem hi']
    exact List.getElem_mem hi'
  have hget : ∀ r : Nat, r < ix.length → as1[r]? = as[ix.getD r 0]? := fun r hr => by
    have e : ix[r]? = some (ix.getD r 0) := by rw [List.getD_eq_getElem?_getD, List.getElem?_eq_getElem hr]; rfl
    rw [← adr_get hba e, ← en, List.getElem?_append_left (by rw [la]; exact hr)]
  have x : Ext G H as G1 H1 (as ++ nw) := by
    refine ⟨X.sub, List.prefix_append _ _, fun a o h n => X.keep a o h fun z => n (sub a z), X.frG, fun a h h' => ?_, X.dom, X.lk⟩
    rcases List.mem_append.mp h with h | h
    · exact absurd h h'
    · exact hnew a h
  refine ⟨as ++ nw, ⟨R1.sub, ?_, ?_, fun a ha => ?_, fun j a o ha ho => ?_⟩, x, fun r a h => ?_⟩
  · simp [putS_len, R.len, lst]
  · rw [List.nodup_append]
    have := R1.nd
    rw [← en, List.nodup_append] at this
    exact ⟨R.nd, this.2.1, fun a ha b hb' z => hold a ha (by rw [z]; exact hnew b hb')⟩
  · rcases List.mem_append.mp ha with ha | ha
    · by_cases hin : a ∈ adr as ix
      · exact R1.out a (by rw [← en]; exact List.mem_append_left _ hin)
      · exact X.frG a (R.out a ha) (hold a ha)
    · exact R1.out a (by rw [← en]; exact List.mem_append_right _ ha)
  · by_cases hj : j < as.length
    · have hjs : j < st.length := by rw [← R.len]; exact hj
      rw [List.getElem?_append_left hj] at ha
      rw [List.getElem?_append_left (by rw [putS_len]; exact hjs)] at ho
      by_cases hin : j ∈ ix
      · obtain ⟨k, hk, e⟩ := List.getElem_of_mem hin
        have ek : ix[k]? = some j := by rw [List.getElem?_eq_getElem hk, e]
        rw [putS_in st ix _ k j nd (by simp; omega) hb ek, List.getElem?_take, if_pos hk] at ho
        have e2 : as1[k]? = some a := by
          rw [hget k hk, List.getD_eq_getElem?_getD, ek]; exact ha
        obtain ⟨u, q, r⟩ := R1.obj k a o e2 ho
        exact ⟨u, q, r.free (List.all_eq_true.mp hm o (List.mem_of_getElem? ho))⟩
      · rw [putS_out st ix _ j hin] at ho
        obtain ⟨u, q, r⟩ := R.obj j a o ha ho
        refine ⟨u, X.keep a u q fun z => ?_, r.ext x⟩
        obtain ⟨i, hi, e⟩ := List.mem_map.mp z
        have hi' := hba i hi
        have e3 : as[i]? = some a := by rw [← e, List.getD_eq_getElem?_getD, List.getElem?_eq_getElem hi']; rfl
        obtain ⟨p1, p2⟩ := List.getElem?_eq_some_iff.mp e3
        obtain ⟨p3, p4⟩ := List.getElem?_eq_some_iff.mp ha
        have : i = j := (List.getElem_inj R.nd).mp (p2.trans p4.symm)
        exact hin (this ▸ hi)
    · rw [List.getElem?_append_right (by omega)] at ha
      rw [List.getElem?_append_right (by rw [putS_len, ← R.len]; omega), putS_len, ← R.len, List.getElem?_drop] at ho
      have e2 : as1[ix.length + (j - as.length)]? = some a := by
        rw [← en, List.getElem?_append_right (by rw [la]; omega), la]
        rw [show ix.length + (j - as.length) - ix.length = j - as.length by omega]; exact ha
      obtain ⟨u, q, r⟩ := R1.obj _ a o e2 ho
      exact ⟨u, q, r.free (List.all_eq_true.mp hm o (List.mem_of_getElem? ho))⟩
  · by_cases hr : r < ix.length
    · rw [if_pos hr, List.getElem?_append_left]
      · rw [← hget r hr]; exact h
      · have : ix.getD r 0 ∈ ix := by rw [List.getD_eq_getElem?_getD, List.getElem?_eq_getElem hr]; exact List.getElem_mem hr
        exact hba _ this
    · rw [if_neg hr, ← R.len, List.getElem?_append_right (by omega)]
      rw [← en, List.getElem?_append_right (by rw [la]; omega), la] at h
      rw [show as.length + (r - ix.length) - as.length = r - ix.length by omega]; exact h
end
section
variable {g : Gb}
theorem exR_lift {K : PySem.W.Frag} {mg : Str → Option Value} {G H : Hp} {as as' : List Addr} {c : Str} {p : Pay} {cls : Value} {d : Option Addr} (b : payB 0 p = true) (h : ExR K mg G H as c p cls d) (ne : ∀ dx o, H dx = some o → (∀ fs, o = .xd fs → dx ∉ as')) : ExR K mg G H as' c p cls d := by
  obtain ⟨h1, h2, h3⟩ := h
  refine ⟨h1, h2, ?_⟩
  cases p with
  | none => exact h3
  | some q =>
    obtain ⟨f, x⟩ := q
    obtain ⟨dx, v, e1, e2, e3, e4⟩ := h3
    exact ⟨dx, v, e1, e2, ne dx _ e2 _ rfl, e4.free (by simpa [payB] using b)⟩
theorem xd_out {K : PySem.W.Frag} {mg : Str → Option Value} {G H : Hp} {as : List Addr} {st : Store} (R : Ri K mg G H as st) : ∀ dx o, H dx = some o → (∀ fs, o = .xd fs → dx ∉ as) := fun dx o h fs e hm => by
  obtain ⟨i, hi, ei⟩ := List.getElem_of_mem hm
  have hi' : i < st.length := by rw [← R.len]; exact hi
  obtain ⟨u, q, r⟩ := R.obj i dx st[i] (by rw [List.getElem?_eq_getElem hi, ei]) (List.getElem?_eq_getElem (by rw [← R.len]; exact hi))
  rw [h] at q; cases q
  subst e
  cases r
/-- THE CALL: the arguments' values, then the def's promise -/
theorem call_ok {n : Nat} {f : DF} {W : WX} {G H : Hp} {as : List Addr} {st : Store} {σ : L2.St} {e : Nv} {ds : List D} {vs : List V} {Q : VK} (R : Ri g.K g.mg G H as st) (r : RpA g.K g.mg G as vs ds) (hn : ds.length = n) (h : PX g.K g.mg W G H as σ (callD f ds e st) Q) :
    spS g n f vs H Q (WE W σ) := by
  unfold callD at h
  by_cases ok : callOk ds st = true
  · rw [if_pos ok] at h
    unfold callOk at ok
    simp only [Bool.and_eq_true] at ok
    obtain ⟨⟨⟨b1, b2⟩, b3⟩, b4⟩ := ok
    have nd : (refsIn ds).Nodup := of_decide_eq_true b2
    have hb : ∀ i ∈ refsIn ds, i < st.length := fun i hi => of_decide_eq_true (List.all_eq_true.mp b3 i hi)
    have hba : ∀ i ∈ refsIn ds, i < as.length := fun i hi => by rw [R.len]; exact hb i hi
    refine ⟨G, adr as (refsIn ds), pickS st (refsIn ds), ds.map (locG (refsIn ds)), by simpa using hn, R.pick nd hb b4, loc_rp hba b1 (fun i m => refsIn_mem m) r, ?_⟩
    generalize f (pickS st (refsIn ds)) (ds.map (locG (refsIn ds))) = res at h ⊢
    cases res with
    | stuck => exact h.elim
    | exc c p st1 =>
      simp only [backD] at h
      by_cases c1 : (decide ((refsIn ds).length ≤ st1.length) && st1.all (moB 0) && payB 0 p) = true
      · rw [if_pos c1] at h
        simp only [Bool.and_eq_true, decide_eq_true_eq] at c1
        intro cls d G1 H1 as1 R1 X1 x
        obtain ⟨as2, R2, X2, _⟩ := R.back2 nd hb R1 X1 c1.1.1 c1.1.2
        exact h cls d G1 H1 as2 R2 X2 (exR_lift c1.2 x (xd_out R2))
      · rw [if_neg c1] at h; exact h.elim
    | ok d st1 =>
      simp only [backD] at h
      by_cases c1 : (decide ((refsIn ds).length ≤ st1.length) && st1.all (moB 0)) = true
      · rw [if_pos c1] at h
        simp only [Bool.and_eq_true, decide_eq_true_eq] at c1
        intro v G1 H1 as1 R1 X1 rv
        obtain ⟨as2, R2, X2, hr⟩ := R.back2 nd hb R1 X1 c1.1 c1.2
        exact h v G1 H1 as2 R2 X2 (rv.map hr)
      · rw [if_neg c1] at h; exact h.elim
  · rw [if_neg ok] at h; exact h.elim
/-- f(a, ..) -/
def xfn (n : Nat) (f : DF) (ms : XM (List D)) : XM D := xbind ms fun ds => if ds.length = n then callD f ds else fun _ _ => .stuck
theorem je_call {F : Fam g} {st : Stmt} {x nm : Str} {ps : List Str} {k : Nat} {f : DF} {a : Expr} {es : List Expr} {ms : XM (List D)} {p pos : Pos} {n : Nat} (H0 : Fn g st x nm ps k f) (hk : k ≤ F.k) (hg : F.sc.names.lookup x = some .globalImplicit) (ha : JA F (a :: es) ms) (hn : ps.length = n := by rfl)
    (hdb : (x == ("__debug__" : Str)) = false := by decide) (he : ∀ env, starEach (a :: es) env = (false, eval a env) :: starEach es env := by intro _; rfl) (hpl : ∀ env, (backTo pos (starEach es env)).any (·.1) = false := by intro _; rfl) :
    JE F (.Call (.Name x p) (a :: es) [] pos) (xfn n f ms) := by
  subst hn
  obtain ⟨fa, fd, hm, D0, hb, O⟩ := H0.ex
  obtain ⟨ts, pa, sa⟩ := ha
  refine ⟨fun W => tCallS (spS g ps.length f) (WE W) (ts W), fun W X m => ?_, ?_⟩
  · have O' : FnOk X.prog X.w X.K X.mg X.base (L2.CX X.prog X.w) k fa fd ps (spS g ps.length f) := by
      rw [F.prog m, F.w m, F.hK m, F.hmg m, F.base m]; exact O
    exact pe_callS O' ((F.room m).mono hk) (by show X.env.scope.names.lookup x = _; rw [F.hsc m]; exact hg) (by rw [F.hmg m]; exact hm) (by rw [F.hK m]; exact D0.kp) (by rw [F.hK m]; exact hb) (fun σ => passAt (F.takes m) σ) (pa W X m) hdb (he _) (hpl _)
  · intro W G H as st σ e Q R N h
    refine sa.one R N h fun ds st1 vs G1 H1 as1 R1 X1 N1 rv h1 => ?_
    by_cases hl : ds.length = ps.length
    · rw [if_pos hl] at h1
      exact call_ok R1 rv hl h1
    · rw [if_neg hl] at h1; exact h1.elim
end
end LS
end
section
set_option maxRecDepth 100000
set_option maxHeartbeats 2000000
namespace LS
open PySem PySem.Spec L2

/-! ## code that is never come to -/
section
variable {g : Gb} {F : Fam g} {pos : Pos}
def snever : SM := fun _ _ => .stuck
theorem js_never {s : Stmt} : JS F s snever := ⟨fun _ => tNever, fun _ _ _ => ps_never, fun W G H as st σ e E R N h => h⟩

/-! ## calls with keywords -/
def JK (F : Fam g) (kws : List Keyword) (m : XM (List D)) : Prop := ∃ t : WX → TA, (∀ W X, F.mem W X → PK X kws (t W)) ∧ SA g t m
theorem jk_nil : JK F [] (xpure []) := ⟨fun _ => tNil, fun _ _ _ => pk_nil, fun W G H as st σ e Q R N h => h [] G H as R Ext.refl .nil⟩
theorem jk_cons {ex : Expr} {ks : List Keyword} {nm : Option Str} {kpos : Pos} {m : XM D} {ms : XM (List D)} (h : JE F ex m) (hs : JK F ks ms) : JK F (⟨nm, ex, kpos⟩ :: ks) (xcons m ms) := by
  obtain ⟨t, p, s⟩ := h
  obtain ⟨ts, ps, ss⟩ := hs
  refine ⟨fun W => tCons (t W) (ts W), fun W X m => pk_cons (p W X m) (ps W X m), ?_⟩
  intro W G H as st σ e Q R N h
  refine s.oneA R N h fun x st1 v G1 H1 as1 R1 X1 N1 rv h1 => ?_
  refine ss.oneA R1 N1 h1 fun xs st2 vs G2 H2 as2 R2 X2 N2 rvs h2 => ?_
  exact h2 _ _ _ _ R2 Ext.refl (.cons (rv.ext X2) rvs)
def pick {α : Type} (d : α) (l : List α) (ix : List Nat) : List α := ix.map fun i => l.getD i d
theorem pick_vals {vs : List V} {us : List Value} (r : Vals vs us) (ix : List Nat) : Vals (pick .non vs ix) (pick .none us ix) := by
  have one : ∀ i, RelV (vs.getD i .non) (us.getD i .none) := fun i => by
    rw [List.getD_eq_getElem?_getD, List.getD_eq_getElem?_getD]
    cases q : vs[i]? with
    | none => rw [r.none_of q]; rfl
    | some v =>
      obtain ⟨u, e1, ru⟩ := r.get q
      rw [e1]; exact ru
  unfold pick
  induction ix with
  | nil => exact .nil
  | cons i r ih => exact .cons (one i) ih
theorem pick_rp {K : PySem.W.Frag} {mg : Str → Option Value} {G : Hp} {as : List Addr} {vs : List V} {ds : List D} (r : RpA K mg G as vs ds) (ix : List Nat) : RpA K mg G as (pick .non vs ix) (pick .non ds ix) := by
  have one : ∀ i, Rp K mg G as (vs.getD i .non) (ds.getD i .non) := fun i => by
    rw [List.getD_eq_getElem?_getD, List.getD_eq_getElem?_getD]
    by_cases hi : i < ds.length
    · obtain ⟨v, e1, rv⟩ := r.get (List.getElem?_eq_getElem hi)
      rw [e1, List.getElem?_eq_getElem hi]; exact rv
    · rw [List.getElem?_eq_none (by rw [r.len]; omega), List.getElem?_eq_none (by omega)]; exact .non
  unfold pick
  induction ix with
  | nil => exact .nil
  | cons i r ih => exact .cons (one i) ih
/-- f(a, .., k = b, ..): ix tells where each parameter's value stands in the row of values as they are written -/
def xfnK (n : Nat) (ix : List Nat) (l : Nat) (f : DF) (ms mk : XM (List D)) : XM D := xbind ms fun ds => xbind mk fun zs => if ds.length = n ∧ zs.length = l then callD f (pick .non (ds ++ zs) ix) else fun _ _ => .stuck
/-- how the parameters are bound -/
def KB (st : Stmt) (nm : Str) (ps : List Str) (n : Nat) (ks : List Str) (ix : List Nat) : Prop := ∀ (kV doc pm : Value) (an : Option Addr) (cdv ct : Value) (us ws : List Value), us.length = n → ws.length = ks.length →
  bindArgs (PySem.W.fnOf nm nm (defArgs st) (defBody st) (defScope st) .none kV doc pm an cdv ct) ⟨us, ks.zip ws⟩ = pure (ps.zip (pick .none (us ++ ws) ix))
theorem run_fnK {X : Cx} {W : WX} {f : Addr} {fd : FuncData} {ps : List Str} {k : Nat} {sp : Sp} {pins : List (Addr × Obj)} {σ : L2.St} {H : Hp} {s : Shared} {Q : VK} {args : Args} {us : List Value} {vs : List V} (F : FnOk X.prog X.w X.K X.mg X.base (L2.CX X.prog X.w) k f fd ps sp) (hr : Room k X.A) (tk : Takes X W)
    (hb : BindsTo s fd args (ps.zip us)) (I : Inv X pins σ H s) (r : Vals vs us) (h : sp vs H Q (WE W σ)) : wpAny (model X.prog X.w) X.A (call (.ref f) args.pos args.kw) (EP X pins σ Q) X.xe s := by
  obtain ⟨ap, ak⟩ := args
  refine wpAny_call (codeAny_mono (F.run X.A X.stack s H ⟨ap, ak⟩ us vs Q (WE W σ) hr I.env0 hb r h) fun r s' hq => ?_)
  cases r with
  | error e => exact passAt tk σ pins H s e s' I hq
  | ok fl =>
    cases fl with
    | ret u => exact I.after hq
    | next => exact False.elim hq
    | brk => exact False.elim hq
    | cont => exact False.elim hq
def tCallKS (n l : Nat) (ix : List Nat) (sp : Sp) (E : L2.St → XK) (t tk : TA) : TE := fun σ H Q => t σ H fun vs H1 => tk σ H1 fun zs H2 => vs.length = n ∧ zs.length = l ∧ sp (pick .non (vs ++ zs) ix) H2 Q (E σ)
theorem callK_SE {n l m : Nat} {ix : List Nat} {f : DF} {ts tk : WX → TA} {ms mk : XM (List D)} (hix : ix.length = m) (sa : SA g ts ms) (sk : SA g tk mk) : SE g (fun W => tCallKS n l ix (spS g m f) (WE W) (ts W) (tk W)) (xfnK n ix l f ms mk) := by
  intro W G H as st σ e Q R N h
  refine sa.one R N h fun ds st1 vs G1 H1 as1 R1 X1 N1 rv h1 => ?_
  refine sk.one R1 N1 h1 fun zs st2 us G2 H2 as2 R2 X2 N2 rz h2 => ?_
  by_cases hl : ds.length = n ∧ zs.length = l
  · rw [if_pos hl] at h2
    refine ⟨by rw [rv.len]; exact hl.1, by rw [rz.len]; exact hl.2, ?_⟩
    exact call_ok R2 (pick_rp ((rv.ext X2).append rz) ix) (by simp [pick, hix]) h2
  · rw [if_neg hl] at h2; exact h2.elim
theorem je_callK {st : Stmt} {x nm : Str} {ps ks : List Str} {k n : Nat} {ix : List Nat} {f : DF} {a : Expr} {es : List Expr} {kws : List Keyword} {ms mk : XM (List D)} {p pos : Pos} (H0 : Fn g st x nm ps k f) (hk : k ≤ F.k) (hg : F.sc.names.lookup x = some .globalImplicit) (kb : KB st nm ps n ks ix) (hix : ix.length = ps.length)
    (ha : JA F (a :: es) ms) (hkw : JK F kws mk) (hall : ∀ env, (backToKw pos (keywordEach kws env)).all (·.1.isSome) = true := by intro _; rfl) (hks : ∀ env, (backToKw pos (keywordEach kws env)).filterMap (·.1) = ks := by intro _; rfl)
    (hdb : (x == ("__debug__" : Str)) = false := by decide) (he : ∀ env, starEach (a :: es) env = (false, eval a env) :: starEach es env := by intro _; rfl)
    (hpl : ∀ env, ((backTo pos (starEach (a :: es) env)).any (·.1) || (backToKw pos (keywordEach kws env)).any (·.1.isNone)) = false := by intro _; rfl) :
    JE F (.Call (.Name x p) (a :: es) kws pos) (xfnK n ix ks.length f ms mk) := by
  obtain ⟨fa, fd, hm, D0, hb, O⟩ := H0.ex
  obtain ⟨ts, pa, sa⟩ := ha
  obtain ⟨tk, pk, sk⟩ := hkw
  refine ⟨fun W => tCallKS n ks.length ix (spS g ps.length f) (WE W) (ts W) (tk W), fun W X m => ?_, callK_SE hix sa sk⟩
  refine ⟨fun pins s σ H Q I h => ?_⟩
  have hmX : X.mg x = some (.ref fa) := by rw [F.hmg m]; exact hm
  have hkp : PySem.W.keepIn X.K (.ref fa) = true := by rw [F.hK m]; exact D0.kp
  have O' : FnOk X.prog X.w X.K X.mg X.base (L2.CX X.prog X.w) k fa fd ps (spS g ps.length f) := by
    rw [F.prog m, F.w m, F.hK m, F.hmg m, F.base m]; exact O
  refine wpAny_Call_Name_kw (ld_glob I (by show X.env.scope.names.lookup x = _; rw [F.hsc m]; exact hg) hmX ?_ hdb)
  refine PySem.W.callWith_KW (h₀ := X.base) I.ok.mod.kin hkp (hall _) (thn ((pa W X m).run pos pins s σ H _ I h) fun us s1 ⟨vs, H1, I1, r, q⟩ => ?_) (hpl _) (he _)
  refine thn ((pk W X m).run pos pins s1 σ H1 _ I1 q) fun ws s2 ⟨zs, H2, I2, rz, l1, l2, q2⟩ => ⟨I2.kIn, ?_⟩
  rw [hks]
  have lu : us.length = n := r.length.symm.trans l1
  have lw : ws.length = ks.length := rz.length.symm.trans l2
  refine run_fnK (args := ⟨us, ks.zip ws⟩) (us := pick .none (us ++ ws) ix) O' ((F.room m).mono hk) (F.takes m) ?_ I2 (pick_vals (r.append rz) ix) q2
  obtain ⟨oc, od, dV, kV, doc, pm, an, cdv, ct, osl, rfl, lk, hcd, hD, hK⟩ := D0.ex
  rcases hD with ⟨_, rfl⟩ | ⟨e, _⟩
  · exact .of_eq (kb kV doc pm an cdv ct us ws lu lw)
  · exact absurd rfl e
theorem je_callK0 {st : Stmt} {x nm : Str} {ps ks : List Str} {k : Nat} {ix : List Nat} {f : DF} {kws : List Keyword} {mk : XM (List D)} {p pos : Pos} (H0 : Fn g st x nm ps k f) (hk : k ≤ F.k) (hg : F.sc.names.lookup x = some .globalImplicit) (kb : KB st nm ps 0 ks ix) (hix : ix.length = ps.length)
    (hkw : JK F kws mk) (hall : ∀ env, (backToKw pos (keywordEach kws env)).all (·.1.isSome) = true := by intro _; rfl) (hks : ∀ env, (backToKw pos (keywordEach kws env)).filterMap (·.1) = ks := by intro _; rfl)
    (hdb : (x == ("__debug__" : Str)) = false := by decide)
    (hpl : ∀ env, ((backTo pos (starEach [] env)).any (·.1) || (backToKw pos (keywordEach kws env)).any (·.1.isNone)) = false := by intro _; rfl) :
    JE F (.Call (.Name x p) [] kws pos) (xfnK 0 ix ks.length f (xpure []) mk) := by
  obtain ⟨fa, fd, hm, D0, hb, O⟩ := H0.ex
  obtain ⟨tk, pk, sk⟩ := hkw
  have sa : SA g (fun _ => tNil) (xpure []) := fun W G H as st σ e Q R N h => h [] G H as R Ext.refl .nil
  refine ⟨fun W => tCallKS 0 ks.length ix (spS g ps.length f) (WE W) tNil (tk W), fun W X m => ?_, callK_SE hix sa sk⟩
  refine ⟨fun pins s σ H Q I h => ?_⟩
  have hmX : X.mg x = some (.ref fa) := by rw [F.hmg m]; exact hm
  have hkp : PySem.W.keepIn X.K (.ref fa) = true := by rw [F.hK m]; exact D0.kp
  have O' : FnOk X.prog X.w X.K X.mg X.base (L2.CX X.prog X.w) k fa fd ps (spS g ps.length f) := by
    rw [F.prog m, F.w m, F.hK m, F.hmg m, F.base m]; exact O
  refine wpAny_Call_Name_kw (ld_glob I (by show X.env.scope.names.lookup x = _; rw [F.hsc m]; exact hg) hmX ?_ hdb)
  refine PySem.W.callWith_KW0 (h₀ := X.base) I.ok.mod.kin hkp (hall _) ?_ (hpl _)
  refine thn ((pk W X m).run pos pins s σ H _ I h) fun ws s2 ⟨zs, H2, I2, rz, l1, l2, q2⟩ => ⟨I2.kIn, ?_⟩
  rw [hks]
  have lw : ws.length = ks.length := rz.length.symm.trans l2
  refine run_fnK (args := ⟨[], ks.zip ws⟩) (us := pick .none ([] ++ ws) ix) O' ((F.room m).mono hk) (F.takes m) ?_ I2 (pick_vals rz ix) q2
  obtain ⟨oc, od, dV, kV, doc, pm, an, cdv, ct, osl, rfl, lk, hcd, hD, hK⟩ := D0.ex
  rcases hD with ⟨_, rfl⟩ | ⟨e, _⟩
  · exact .of_eq (kb kV doc pm an cdv ct [] ws rfl lw)
  · exact absurd rfl e
end
end LS
end
section
set_option maxRecDepth 100000
set_option maxHeartbeats 2000000
namespace LS
open PySem PySem.Spec L2

/-! ## enumerate, zip -/
def enumD : Nat → List D → List D
  | _, [] => []
  | k, x :: r => .tup [.int (k : Int), x] :: enumD (k + 1) r
theorem enumD_len : ∀ (k : Nat) (xs : List D), (enumD k xs).length = xs.length
  | _, [] => rfl
  | k, x :: r => by simp [enumD, enumD_len (k + 1) r]
theorem enumD_get : ∀ (xs : List D) (k i : Nat), (enumD k xs)[i]? = xs[i]?.map fun x => .tup [.int ((k + i : Nat) : Int), x]
  | [], _, _ => by simp [enumD]
  | x :: r, k, 0 => by simp [enumD]
  | x :: r, k, i + 1 => by
    have := enumD_get r (k + 1) i
    simp only [enumD, List.getElem?_cons_succ, this]
    rw [show k + 1 + i = k + (i + 1) by omega]
def zipD (xs ys : List D) : List D := List.zipWith (fun a b => .tup [a, b]) xs ys
theorem zipD_get (xs ys : List D) (i : Nat) {x : D} (h : (zipD xs ys)[i]? = some x) : ∃ a b, xs[i]? = some a ∧ ys[i]? = some b ∧ x = .tup [a, b] := by
  unfold zipD at h
  rw [List.getElem?_zipWith] at h
  cases h1 : xs[i]? with
  | none => simp [h1] at h
  | some a =>
    cases h2 : ys[i]? with
    | none => simp [h1, h2] at h
    | some b => simp [h1, h2] at h; exact ⟨a, b, rfl, rfl, h.symm⟩

/-- the tuple at a, each item in a new pair -/
def ItE (K : PySem.W.Frag) (a : Addr) : It :=
  ⟨fun i H => ∃ (xs : List V) (x : V), SqT K H a xs ∧ xs[i]? = some x, fun i H v H' => ∃ T x, v = .ref T ∧ H T = none ∧ H' = upd H T (.tup [.int (i : Nat), x]) ∧ ∀ xs, SqT K H a xs → xs[i]? = some x, fun i H => ∃ xs : List V, SqT K H a xs ∧ xs.length = i⟩
theorem turn_enumT {P : Program} {w : World} {K : PySem.W.Frag} {elts : List Expr} {kk : Nat} {tpos : Pos} {a e it : Addr} (hai : a ≠ it) (hei : e ≠ it) (hea : e ≠ a) :
    Turn P w K (.Tuple elts kk tpos) (ItE K a) [e, it] e (fun i h => (∃ old, IsEnum h e it ((i : Nat) : Int) old) ∧ h.IsTupleIter it a i) := by
  refine ⟨by simp, ?_, ?_, ?_, ?_, ?_⟩
  · rintro i h ⟨⟨old, q⟩, ⟨o, ho, _, hd⟩⟩ b hb
    rcases List.mem_cons.mp hb with rfl | hb
    · exact ⟨_, q, fun v z => nomatch z⟩
    · cases List.mem_singleton.mp hb; exact ⟨o, ho, fun v z => by rw [hd] at z; cases z⟩
  · rintro i h h' ⟨⟨old, q⟩, q2⟩ k
    exact ⟨⟨old, k e (by simp) _ q⟩, q2.at fun o z => k it (by simp) o z⟩
  · intro X hP hw hK hc i pins s σ H E I hf st hg
    subst hP hw hK
    obtain ⟨⟨old, q⟩, q2⟩ := st
    obtain ⟨xs, x, hq, hx⟩ := hg
    obtain ⟨its, rv, p, _⟩ := I.tuple hq
    obtain ⟨u, hu, ru⟩ := rv.get hx
    have lte : e < s.heap.objs.size := Heap.lt_size q
    have lti : it < s.heap.objs.size := let ⟨_, z, _⟩ := q2; Heap.lt_size z
    have dr := Draws.tuple (prog := X.prog) (w := X.w) (A := X.A.in1) (I.ok.hd hc) it a hai its.toArray
    have lt := (List.getElem?_eq_some_iff.mp hu).1
    refine wpAny_pyNext_enum_itemC dr q ⟨q2, p⟩ (by simpa using lt) hei (by simp [hei, hea]) fun y h1 tk py o1 st1 hT _ k1 => ?_
    have ey : y = u := by
      have z : its.toArray[i]? = some y := py
      simp at z
      rw [hu] at z; cases z; rfl
    subst ey
    refine ⟨_, rfl, wpAny_letOwnedTupleGo_enum (s := { s with heap := h1, toks := tk + 1 }) o1 fun h2 o2 sb => ?_⟩
    have hT2 := (sb.2 _ (Nat.ne_of_gt lte)).trans hT
    have nw : ObjOk X.prog X.w (upd H s.heap.objs.size (.tup [.int (i : Nat), x])) h2 s.heap.objs.size (.tup [.int (i : Nat), x]) :=
      ⟨(show 2 ≤ sizeLine by decide), [.int i tk, y], .cons ⟨_, rfl⟩ (.cons ru .nil), ⟨_, hT2, rfl, _, rfl⟩⟩
    have I1 := I.turnedNew (t' := tk + 1) (h' := h2) (ch := [e, it]) (fun b o hb z => (sb.2 b (fun y => hb (by simp [y]))).trans (k1 b o (fun y => hb (by simp [y])) (fun y => hb (by simp [y])) z)) hf (Nat.le_refl _) nw
    refine ⟨_, _, I1, (show RelV (.ref s.heap.objs.size) (.ref s.heap.objs.size) from rfl), ⟨_, x, rfl, I.hok.fresh (Nat.le_refl _), rfl, fun ys hy => by rw [I.tuple_inj hy hq]; exact hx⟩, ⟨⟨y, ?_⟩, ?_⟩, fun b hb => ?_⟩
    · rw [show ((i + 1 : Nat) : Int) = (i : Int) + 1 by omega]; exact o2
    · exact st1.1.at fun o z => (sb.2 it (Ne.symm hei)).trans z
    · have : b < s.heap.objs.size := by
        rcases List.mem_cons.mp hb with rfl | hb
        · exact lte
        · cases List.mem_singleton.mp hb; exact lti
      rw [upd_ne (Nat.ne_of_lt this)]
      exact (hf b hb).1
  · intro X hP hw hK hc i pins s σ H E I hf st hg
    subst hP hw hK
    obtain ⟨⟨old, q⟩, q2⟩ := st
    obtain ⟨xs, hq, hx⟩ := hg
    obtain ⟨its, rv, p, _⟩ := I.tuple hq
    have dr := Draws.tuple (prog := X.prog) (w := X.w) (A := X.A.in1) (I.ok.hd hc) it a hai its.toArray
    have hn : i = its.toArray.size := by have := rv.length; simp; omega
    obtain ⟨f0, f1, f2, f3, f4, f5⟩ := hf it (by simp)
    exact wpAny_pyNext_enum_endD dr q ⟨by rw [← hn]; exact q2, p⟩ fun h1 eb => ⟨rfl, I.turned (t' := s.toks) (fun b o hb z => eb b o hb z) f0 f1 f3 f4 f5⟩
  · rintro A i s Q E ⟨⟨old, q⟩, _⟩ h
    exact wpAny_pyIter_enum q h
/-! enumerate(v) of anything whose iterator is known -/
theorem meets_enum1 {v : Value} {ia : Heap → Addr} {mk : Heap → Heap} {Hh : Heap → Prop} (B : ∀ (prog : Program) (w : World) (A : Around) (E : Value → Shared → Prop) (s : Shared) (Q : Value → Shared → Prop), Hh s.heap → Q (.ref (ia s.heap)) { s with heap := mk s.heap } → wpAny (model prog w) A (pyIter v) Q E s) :
    Meets (Builtin.«enumerate.__new__» ⟨[.type "enumerate", v], []⟩) (fun _ R s => Hh s.heap ∧
      R (.ok (.ret (.ref (mk s.heap).objs.size))) { s with heap := (mk s.heap).push { cls := .type "enumerate", data := .fields #[.none, .bool false, .ref (ia s.heap), rawInt 0, .none, .none] } }) := by
  refine .of_wp ?_
  rintro prog w A R ⟨hp, g, d, tk, os⟩ ⟨h1, h⟩
  have sub := sub_enumerate
  have q1 : ∀ {A' : Around} {E : Value → Shared → Prop} {Q : Value → Shared → Prop}, Q (.ref (ia hp)) ⟨mk hp, g, d, tk, os⟩ → wpAny (model prog w) A' (pyIter v) Q E ⟨hp, g, d, tk, os⟩ := fun q => B _ _ _ _ ⟨hp, g, d, tk, os⟩ _ h1 q
  wp_walk using q1
  refine wpAny_stack_any fun st => wpAny_pure ?_
  split
  · rename_i c _ _ _ _ _
    cases (c == Value.type "enumerate") <;> (wp_walk using q1; exact ⟨_, rfl, h⟩)
  · wp_walk using q1
    exact ⟨_, rfl, h⟩
theorem call_enum1 {prog : Program} {w : World} {A : Around} {E : Value → Shared → Prop} {s : Shared} {v : Value} {ia : Heap → Addr} {mk : Heap → Heap} {Hh : Heap → Prop} {Q : Value → Shared → Prop}
    (B : ∀ (prog : Program) (w : World) (A : Around) (E : Value → Shared → Prop) (s : Shared) (Q : Value → Shared → Prop), Hh s.heap → Q (.ref (ia s.heap)) { s with heap := mk s.heap } → wpAny (model prog w) A (pyIter v) Q E s)
    (h1 : Hh s.heap) (h : ∀ h', IsEnum h' (mk s.heap).objs.size (ia s.heap) 0 .none → (∀ b o, (mk s.heap).get? b = some o → h'.get? b = some o) → Q (.ref (mk s.heap).objs.size) { s with heap := h' }) :
    wpAny (model prog w) A (call (.type "enumerate") [v]) Q E s := by
  refine callType_new F.called_enumerate (by decide) (F.typeCall_enumerate_1 _) (F.newCall_enumerate_1 _) (fun obj => F.args_object_init_2 obj _) F.entry_enumerate_new (meets_enum1 B) ⟨h1, ?_⟩
  have e1 : IsEnum ((mk s.heap).push { cls := .type "enumerate", data := .fields #[.none, .bool false, .ref (ia s.heap), rawInt 0, .none, .none] }) (mk s.heap).objs.size (ia s.heap) 0 .none := Heap.get?_push_size _ rfl
  exact ⟨⟨_, e1, rfl⟩, h _ e1 fun b o x => Heap.get?_push_of_some _ x⟩
/-- enumerate(list or tuple) -/
def iEnumA (K : PySem.W.Frag) (ta : TA) : TI := fun σ H R => ta σ H fun vs H1 => ∃ a, vs = [.ref a] ∧ (((∃ xs, SqL K H1 a xs) ∧ R (Ite K a) H1) ∨ ((∃ xs, SqT K H1 a xs) ∧ R (ItE K a) H1))
theorem pi_enumA {X : Cx} {e : Expr} {ta : TA} {p pos tpos : Pos} {elts : List Expr} {kk : Nat} (hg : Gl X "enumerate") (hm : X.mg "enumerate" = none) (ha : PA X [e] ta) (hs : starEach [e] X.env = [(false, eval e X.env)]) :
    PI X (.Tuple elts kk tpos) (.Call (.Name "enumerate" p) [e] [] pos) (iEnumA X.K ta) := by
  constructor
  intro pins s σ H R I h
  refine PyProof.Rows.Call_ (ld_blt I hg hm PyProof.Rows.boot_enumerate (PyProof.Rows.callWith_type1 (thn (ha.run pos pins s σ H _ I h) fun us s1 q0 => ?_) hs rfl))
  obtain ⟨vs, H1, I1, r1, a, ex, q1⟩ := q0
  subst ex
  cases r1 with
  | cons r rr =>
    cases rr
    cases r
    have fr : ∀ b ∈ [s1.heap.objs.size + 1, s1.heap.objs.size], FpOk X pins H1 b := fun b hb => by
      have hle : s1.heap.objs.size ≤ b := by
        rcases List.mem_cons.mp hb with rfl | hb
        · omega
        · cases List.mem_singleton.mp hb; omega
      exact I1.fpOk hle (I1.hok.fresh hle)
    rcases q1 with ⟨⟨xs, hq⟩, q⟩ | ⟨⟨xs, hq⟩, q⟩
    · obtain ⟨its, rv, p', _⟩ := I1.list hq
      refine call_enumerate_list p'.isList fun h' he hit hsz hk => wpAny_pyIter_enum he ?_
      exact ⟨_, _, _, _, H1, rfl, I1.kept (t' := s1.toks) hk, turn_enum a _ _, ⟨⟨.none, he⟩, hit, Nat.succ_ne_self _⟩, fr, q⟩
    · obtain ⟨its, rv, p', _⟩ := I1.tuple hq
      have p2 : s1.heap.IsTuple a its.toArray := p'
      have la : a < s1.heap.objs.size := let ⟨_, z, _⟩ := p2; Heap.lt_size z
      have l2 : s1.heap.objs.size + 1 ≠ a := fun z => Nat.lt_irrefl a (Nat.lt_trans la (Nat.lt_of_lt_of_eq (Nat.lt_succ_self _) z))
      refine call_enum1 (ia := fun h => h.objs.size) (mk := fun h => h.push { cls := .type "tuple_iterator", data := .fields #[.ref a, .int 0 0] }) (Hh := fun h => h.IsTuple a its.toArray) (fun _ _ _ _ s _ hl h => wpAny_pyIter_tuple hl h) p2 fun h' he hk => wpAny_pyIter_enum he ?_
      have sz : (s1.heap.push { cls := .type "tuple_iterator", data := .fields #[.ref a, .int 0 0] }).objs.size = s1.heap.objs.size + 1 := Heap.size_push ..
      simp only [sz] at he
      simp only [sz]
      have hit := hk _ _ (Heap.get?_push_size s1.heap (o := { cls := .type "tuple_iterator", data := .fields #[.ref a, .int 0 0] }) rfl)
      exact ⟨_, _, _, _, H1, rfl, I1.kept (t' := s1.toks) fun b o z => hk b o (Heap.get?_push_of_some _ z), turn_enumT (a := a) (Nat.ne_of_lt la) (Nat.succ_ne_self _) l2, ⟨⟨.none, he⟩, ⟨_, hit, rfl, rfl⟩⟩, fr, q⟩
/-! ## the judgements -/
section
variable {g : Gb} {F : Fam g} {pos : Pos}
theorem yl_enumL {G0 H0 : Hp} {as0 : List Addr} {a : Addr} {vs : List V} {xs : List D} (s : SqL g.K G0 a vs) (r : RpA g.K g.mg G0 as0 vs xs) : Yl g G0 H0 as0 none (enumD 0 xs) (Ite g.K a) where
  go := fun i G H as st hi R hs hp hl _ => by
    have hv : i < vs.length := by rw [r.len, ← enumD_len 0 xs]; exact hi
    exact ⟨vs, vs[i], sqL_H R (sqL_sub hs s), List.getElem?_eq_getElem hv⟩
  stop := fun G H as st R hs hp hl _ => ⟨vs, sqL_H R (sqL_sub hs s), by rw [r.len, enumD_len]; exact Nat.le_refl _⟩
  yld := fun i G H as st v H' x R hs hp hl _ hx y => by
    obtain ⟨T, u, rfl, hT, rfl, y⟩ := y
    rw [enumD_get] at hx
    obtain ⟨x0, hx0, rfl⟩ := Option.map_eq_some_iff.mp hx
    obtain ⟨u', e1, ru⟩ := r.get hx0
    have e2 := y vs (sqL_H R (sqL_sub hs s))
    rw [e1] at e2; cases e2
    obtain ⟨R', X'⟩ := R.still (o := .tup [.int (i : Nat), u]) hT
    refine ⟨_, R', X', .tup (.of upd_same) (.cons ?_ (.cons ((ru.mono hs hp).ext X') .nil))⟩
    rw [show ((0 + i : Nat) : Int) = (i : Int) by simp]
    exact .int _
theorem yl_enumT {G0 H0 : Hp} {as0 : List Addr} {a : Addr} {vs : List V} {xs : List D} (s : SqT g.K G0 a vs) (r : RpA g.K g.mg G0 as0 vs xs) : Yl g G0 H0 as0 none (enumD 0 xs) (ItE g.K a) where
  go := fun i G H as st hi R hs hp hl _ => by
    have hv : i < vs.length := by rw [r.len, ← enumD_len 0 xs]; exact hi
    exact ⟨vs, vs[i], sqT_H R (sqT_sub hs s), List.getElem?_eq_getElem hv⟩
  stop := fun G H as st R hs hp hl _ => ⟨vs, sqT_H R (sqT_sub hs s), by rw [r.len, enumD_len]⟩
  yld := fun i G H as st v H' x R hs hp hl _ hx y => by
    obtain ⟨T, u, rfl, hT, rfl, y⟩ := y
    rw [enumD_get] at hx
    obtain ⟨x0, hx0, rfl⟩ := Option.map_eq_some_iff.mp hx
    obtain ⟨u', e1, ru⟩ := r.get hx0
    have e2 := y vs (sqT_H R (sqT_sub hs s))
    rw [e1] at e2; cases e2
    obtain ⟨R', X'⟩ := R.still (o := .tup [.int (i : Nat), u]) hT
    refine ⟨_, R', X', .tup (.of upd_same) (.cons ?_ (.cons ((ru.mono hs hp).ext X') .nil))⟩
    rw [show ((0 + i : Nat) : Int) = (i : Int) by simp]
    exact .int _
/-- a list or a tuple that stands still -/
def stillOf : D → Option (List D)
  | .tup xs => some xs
  | .lst xs => some xs
  | .sq xs => some xs
  | _ => none
theorem stillOf_ok {G H : Hp} {as : List Addr} {st : Store} {v : V} {d : D} {xs : List D} (R : Ri g.K g.mg G H as st) (r : Rp g.K g.mg G as v d) (h : stillOf d = some xs) : ∃ a vs, v = .ref a ∧ RpA g.K g.mg G as vs xs ∧ (SqL g.K G a vs ∨ SqT g.K G a vs) := by
  cases r with
  | tup s r => cases h; exact ⟨_, _, rfl, r, .inr s⟩
  | lst s r => cases h; exact ⟨_, _, rfl, r, .inl (.of s)⟩
  | sq s r => cases h; exact ⟨_, _, rfl, r, .inl s⟩
  | _ => cases h
def xenum (m : XM D) : XM (List D × Option Nat) := xbind m fun x => fun _ st => match stillOf x with
  | some xs => .ok (enumD 0 xs, none) st
  | none => .stuck
theorem ji_enum {elts : List Expr} {kk : Nat} {tpos p : Pos} {e : Expr} {m : XM D} (hg : F.sc.names.lookup ("enumerate" : Str) = some .globalImplicit) (hm : g.mg "enumerate" = none) (h : JE F e m) (hs : ∀ env, starEach [e] env = [(false, eval e env)] := by intro _; rfl) :
    JI F (.Tuple elts kk tpos) (.Call (.Name "enumerate" p) [e] [] pos) (xenum m) := by
  obtain ⟨t, p', s⟩ := h
  refine ⟨fun W => iEnumA g.K (tCons (t W) tNil), fun W X m => by have := pi_enumA (elts := elts) (kk := kk) (tpos := tpos) (p := p) (pos := pos) (X := X) (by show X.env.scope.names.lookup _ = _; rw [F.hsc m]; exact hg) (by rw [F.hmg m]; exact hm) (pa_cons (p' W X m) pa_nil (hs _)) (hs _); rw [F.hK m] at this; exact this, ?_⟩
  intro W G H as st σ e R' R N h
  refine s W G H as st σ e _ R N ?_
  unfold xenum xbind at h
  cases q : m e st with
  | stuck => rw [q] at h; exact h
  | exc c p st1 => rw [q] at h; exact h
  | ok x st1 =>
    simp only [q] at h
    intro v G1 H1 as1 R1 X1 rv
    cases q2 : stillOf x with
    | none => simp only [q2] at h; exact h.elim
    | some xs =>
      simp only [q2] at h
      obtain ⟨a, vs, rfl, rr, ss | ss⟩ := stillOf_ok R1 rv q2
      · exact ⟨a, rfl, .inl ⟨⟨vs, sqL_H R1 ss⟩, h.2 _ G1 H1 as1 R1 X1 (yl_enumL ss rr)⟩⟩
      · exact ⟨a, rfl, .inr ⟨⟨vs, sqT_H R1 ss⟩, h.2 _ G1 H1 as1 R1 X1 (yl_enumT ss rr)⟩⟩
theorem yl_zipL {G0 H0 : Hp} {as0 : List Addr} {a b : Addr} {vs ws : List V} {xs ys : List D} (s : SqL g.K G0 a vs) (s2 : SqL g.K G0 b ws) (r : RpA g.K g.mg G0 as0 vs xs) (r2 : RpA g.K g.mg G0 as0 ws ys) : Yl g G0 H0 as0 none (zipD xs ys) (Itz g.K a b) where
  go := fun i G H as st hi R hs hp hl _ => by
    have hl : i < xs.length ∧ i < ys.length := by simp [zipD] at hi; omega
    have hv : i < vs.length := by rw [r.len]; exact hl.1
    have hw : i < ws.length := by rw [r2.len]; exact hl.2
    exact ⟨vs, ws, vs[i], ws[i], sqL_H R (sqL_sub hs s), sqL_H R (sqL_sub hs s2), List.getElem?_eq_getElem hv, List.getElem?_eq_getElem hw⟩
  stop := fun G H as st R hs hp hl _ => ⟨vs, ws, sqL_H R (sqL_sub hs s), sqL_H R (sqL_sub hs s2), by rw [r.len, r2.len]; simp [zipD]; omega⟩
  yld := fun i G H as st v H' x R hs hp hl _ hx y => by
    obtain ⟨T, u, w, rfl, hT, rfl, y1, y2⟩ := y
    obtain ⟨x0, x1, h0, h1, rfl⟩ := zipD_get _ _ _ hx
    obtain ⟨u', e1, ru⟩ := r.get h0
    obtain ⟨w', e2, rw'⟩ := r2.get h1
    have e3 := y1 vs (sqL_H R (sqL_sub hs s))
    have e4 := y2 ws (sqL_H R (sqL_sub hs s2))
    rw [e1] at e3; cases e3
    rw [e2] at e4; cases e4
    obtain ⟨R', X'⟩ := R.still (o := .tup [u, w]) hT
    exact ⟨_, R', X', .tup (.of upd_same) (.cons ((ru.mono hs hp).ext X') (.cons ((rw'.mono hs hp).ext X') .nil))⟩
theorem yl_zipT {G0 H0 : Hp} {as0 : List Addr} {a b : Addr} {vs ws : List V} {xs ys : List D} (s : SqT g.K G0 a vs) (s2 : SqT g.K G0 b ws) (r : RpA g.K g.mg G0 as0 vs xs) (r2 : RpA g.K g.mg G0 as0 ws ys) : Yl g G0 H0 as0 none (zipD xs ys) (RZ.ItzT g.K a b) where
  go := fun i G H as st hi R hs hp hl _ => by
    have hl : i < xs.length ∧ i < ys.length := by simp [zipD] at hi; omega
    have hv : i < vs.length := by rw [r.len]; exact hl.1
    have hw : i < ws.length := by rw [r2.len]; exact hl.2
    exact ⟨vs, ws, vs[i], ws[i], sqT_H R (sqT_sub hs s), sqT_H R (sqT_sub hs s2), List.getElem?_eq_getElem hv, List.getElem?_eq_getElem hw⟩
  stop := fun G H as st R hs hp hl _ => ⟨vs, ws, sqT_H R (sqT_sub hs s), sqT_H R (sqT_sub hs s2), by rw [r.len, r2.len]; simp [zipD]; omega⟩
  yld := fun i G H as st v H' x R hs hp hl _ hx y => by
    obtain ⟨T, u, w, rfl, hT, rfl, y1, y2⟩ := y
    obtain ⟨x0, x1, h0, h1, rfl⟩ := zipD_get _ _ _ hx
    obtain ⟨u', e1, ru⟩ := r.get h0
    obtain ⟨w', e2, rw'⟩ := r2.get h1
    have e3 := y1 vs (sqT_H R (sqT_sub hs s))
    have e4 := y2 ws (sqT_H R (sqT_sub hs s2))
    rw [e1] at e3; cases e3
    rw [e2] at e4; cases e4
    obtain ⟨R', X'⟩ := R.still (o := .tup [u, w]) hT
    exact ⟨_, R', X', .tup (.of upd_same) (.cons ((ru.mono hs hp).ext X') (.cons ((rw'.mono hs hp).ext X') .nil))⟩
/-- both tuples | both lists -/
def zipOf : D → D → Option (List D × List D)
  | .tup xs, .tup ys => some (xs, ys)
  | .lst xs, .lst ys => some (xs, ys)
  | .sq xs, .lst ys => some (xs, ys)
  | .lst xs, .sq ys => some (xs, ys)
  | .sq xs, .sq ys => some (xs, ys)
  | _, _ => none
theorem zipOf_ok {G : Hp} {as : List Addr} {v w : V} {d f : D} {xs ys : List D} (r : Rp g.K g.mg G as v d) (r2 : Rp g.K g.mg G as w f) (h : zipOf d f = some (xs, ys)) :
    ∃ a b vs ws, v = .ref a ∧ w = .ref b ∧ RpA g.K g.mg G as vs xs ∧ RpA g.K g.mg G as ws ys ∧ ((SqL g.K G a vs ∧ SqL g.K G b ws) ∨ (SqT g.K G a vs ∧ SqT g.K G b ws)) := by
  cases r with
  | tup s r => cases r2 with
    | tup s2 r2 => cases h; exact ⟨_, _, _, _, rfl, rfl, r, r2, .inr ⟨s, s2⟩⟩
    | _ => cases h
  | lst s r => cases r2 with
    | lst s2 r2 => cases h; exact ⟨_, _, _, _, rfl, rfl, r, r2, .inl ⟨.of s, .of s2⟩⟩
    | sq s2 r2 => cases h; exact ⟨_, _, _, _, rfl, rfl, r, r2, .inl ⟨.of s, s2⟩⟩
    | _ => cases h
  | sq s r => cases r2 with
    | lst s2 r2 => cases h; exact ⟨_, _, _, _, rfl, rfl, r, r2, .inl ⟨s, .of s2⟩⟩
    | sq s2 r2 => cases h; exact ⟨_, _, _, _, rfl, rfl, r, r2, .inl ⟨s, s2⟩⟩
    | _ => cases h
  | _ => cases r2 <;> cases h
def xzip (ma mb : XM D) : XM (List D × Option Nat) := xbind ma fun x => xbind mb fun y => fun _ st => match zipOf x y with
  | some (xs, ys) => .ok (zipD xs ys, none) st
  | none => .stuck
theorem zip_read {t t2 : WX → TE} {ma mb : XM D} {W : WX} {G H : Hp} {as : List Addr} {st : Store} {σ : L2.St} {e : Nv} {fd : List D → List D → List D} {R' : It → Hp → Prop} {Q : List V → Hp → Prop} (s : SE g t ma) (s2 : SE g t2 mb) (R : Ri g.K g.mg G H as st) (N : Rn g.K g.mg G as σ e)
    (h : PXI g W G H as σ ((xbind ma fun x => xbind mb fun y => fun _ st => match zipOf x y with | some (xs, ys) => .ok (fd xs ys, none) st | none => .stuck) e st) R')
    (k : ∀ xs ys a b vs ws G1 H1 as1 st1, Ri g.K g.mg G1 H1 as1 st1 → RpA g.K g.mg G1 as1 vs xs → RpA g.K g.mg G1 as1 ws ys → ((SqL g.K G1 a vs ∧ SqL g.K G1 b ws) ∨ (SqT g.K G1 a vs ∧ SqT g.K G1 b ws)) → (∀ J, Yl g G1 H1 as1 none (fd xs ys) J → R' J H1) → Q [.ref a, .ref b] H1) : tCons (t W) (tCons (t2 W) tNil) σ H Q := by
  refine s W G H as st σ e _ R N ?_
  unfold xbind at h
  cases q : ma e st with
  | stuck => rw [q] at h; exact h
  | exc c p st1 => rw [q] at h; exact h
  | ok x st1 =>
    simp only [q] at h
    intro v G1 H1 as1 R1 X1 rv
    refine s2 W G1 H1 as1 st1 σ e _ R1 (N.ext X1) ?_
    cases q2 : mb e st1 with
    | stuck => simp only [q2] at h; exact h
    | exc c p st2 =>
      simp only [q2] at h
      exact fun cls d G2 H2 as2 R2 X2 x2 => h cls d G2 H2 as2 R2 (X1.trans X2) x2
    | ok y st2 =>
      simp only [q2] at h
      intro w G2 H2 as2 R2 X2 rw'
      cases q3 : zipOf x y with
      | none => simp only [q3] at h; exact h.elim
      | some z =>
        obtain ⟨xs, ys⟩ := z
        simp only [q3] at h
        obtain ⟨a, b, vs, ws, rfl, rfl, r1, r2, ss⟩ := zipOf_ok (rv.ext X2) rw' q3
        exact k xs ys a b vs ws G2 H2 as2 st2 R2 r1 r2 ss fun J Y => h.2 J G2 H2 as2 R2 (X1.trans X2) Y
theorem ji_zip {elts : List Expr} {kk : Nat} {tpos p : Pos} {ea eb : Expr} {ma mb : XM D} (hg : F.sc.names.lookup ("zip" : Str) = some .globalImplicit) (hm : g.mg "zip" = none) (ha : JE F ea ma) (hb : JE F eb mb)
    (hs : ∀ env, starEach [ea, eb] env = [(false, eval ea env), (false, eval eb env)] := by intro _; rfl) (hs2 : ∀ env, starEach [eb] env = [(false, eval eb env)] := by intro _; rfl) :
    JI F (.Tuple elts kk tpos) (.Call (.Name "zip" p) [ea, eb] [] pos) (xzip ma mb) := by
  obtain ⟨t, p', s⟩ := ha
  obtain ⟨t2, p2, s2⟩ := hb
  refine ⟨fun W => RZ.iZipA g.K (tCons (t W) (tCons (t2 W) tNil)), fun W X m => by
    have := RZ.pi_zipA (elts := elts) (kk := kk) (tpos := tpos) (p := p) (pos := pos) (X := X) (by show X.env.scope.names.lookup _ = _; rw [F.hsc m]; exact hg) (by rw [F.hmg m]; exact hm) (pa_cons (p' W X m) (pa_cons (p2 W X m) pa_nil (hs2 _)) (by rw [hs, hs2])) (by rw [hs, hs2]) (by rw [hs2]; rfl)
    rw [F.hK m] at this; exact this, ?_⟩
  intro W G H as st σ e R' R N h
  refine zip_read (fd := zipD) s s2 R N h ?_
  intro xs ys a b vs ws G1 H1 as1 st1 R1 r1 r2 ss k
  rcases ss with ⟨s1, s2⟩ | ⟨s1, s2⟩
  · exact ⟨a, b, vs, ws, rfl, .inl ⟨sqL_H R1 s1, sqL_H R1 s2, k _ (yl_zipL s1 s2 r1 r2)⟩⟩
  · exact ⟨a, b, vs, ws, rfl, .inr ⟨sqT_H R1 s1, sqT_H R1 s2, k _ (yl_zipT s1 s2 r1 r2)⟩⟩
end
end LS
end
section
set_option maxRecDepth 100000
set_option maxHeartbeats 2000000
namespace LS
open PySem PySem.Spec L2

/-! ## enumerate(zip(a, b)): the pair that zip gave out may live on -/
/-- a zip over two iterators; its pair is its own, or was given out -/
def ZipAt (h : Heap) (z TI TO : Addr) : Prop := ∃ (own : Value) (f : Bool), (own = .none ∨ ∃ T : Nat, own = rawInt T) ∧
  h.get? z = some { cls := .type "zip", dict := none, data := .fields #[own, .bool f, .bool false, .ref TI, .ref TO], slots := #[] }
section
variable {prog : Program} {w : World} {A : Around} {E : Value → Shared → Prop} {s : Shared} {z TI TO i1 i2 : Addr} {fp1 fp2 : List Addr} {n1 n2 i : Nat} {P1 P2 : Nat → Value → Prop} {St1 St2 : Nat → Heap → Prop}
abbrev ZRec (own : Value) (f : Bool) (TI TO : Addr) : Obj := { cls := .type "zip", dict := none, data := .fields #[own, .bool f, .bool false, .ref TI, .ref TO], slots := #[] }
theorem own_ask {own : Value} {f : Bool} {Q : Bool → Shared → Prop} (ho : own = .none ∨ ∃ T : Nat, own = rawInt T) (hz : s.heap.get? z = some (ZRec own f TI TO)) (hT : Q true s)
    (hF : ∀ h', h'.get? z = some (ZRec own true TI TO) → Heap.SameBut z s.heap h' → Q false { s with heap := h' }) : wpAny (model prog w) A (Builtin.SmallTypes.ownedTupleIsFree (.ref z)) Q E s := by
  unfold Builtin.SmallTypes.ownedTupleIsFree
  refine wpAny_bind (wpAny_field hz rfl (x := own) rfl ?_)
  rcases ho with rfl | ⟨T, rfl⟩
  · exact wpAny_pure hT
  · show wpAny _ _ (loadIfAlive ((T : Int).toNat) >>= _) _ _ _
    rw [Int.toNat_natCast]
    have la : ∀ {Q : Option Obj → Shared → Prop}, Q (s.heap.get? T) s → wpAny (model prog w) A (loadIfAlive T) Q E s := fun q _ _ _ => q
    refine wpAny_bind (la ?_)
    cases hg : s.heap.get? T with
    | none => exact wpAny_pure hT
    | some o =>
      simp only [Option.isNone_some, Bool.false_eq_true, if_false]
      refine wpAny_bind (wpAny_field hz rfl (x := .bool f) rfl ?_)
      cases f with
      | true => exact wpAny_pure (hF s.heap hz (Heap.SameBut.refl _ _))
      | false => exact wpAny_bind (wpAny_setField_rec hz (by simp) fun h1 a b => wpAny_pure (hF h1 a b))
theorem zip_any {Q : Value → Shared → Prop} (S : ZipSep2 z TI TO i1 i2 fp1 fp2) (D1 : Draws prog w A i1 fp1 n1 P1 St1) (D2 : Draws prog w A i2 fp2 n2 P2 St2)
    (hz : ZipAt s.heap z TI TO) (hTI : IsTupOf2 s.heap TI (.ref i1) (.ref i2)) (hTO : ∃ a b, IsTupOf2 s.heap TO a b) (st1 : St1 i s.heap) (st2 : St2 i s.heap) (l1 : i < n1) (l2 : i < n2)
    (hQ : ∀ x y h' tk, P1 i x → P2 i y → ZipAt h' z TI TO → (∃ a b, IsTupOf2 h' TO a b) → St1 (i + 1) h' → St2 (i + 1) h' → IsTupOf2 h' s.heap.objs.size x y → h'.objs.size = s.heap.objs.size + 1 →
      (∀ c o, c ≠ z → c ≠ TO → c ≠ i1 → c ≠ i2 → s.heap.get? c = some o → h'.get? c = some o) → Q (.ref s.heap.objs.size) { s with heap := h', toks := tk }) :
    wpAny (model prog w) A (Builtin.«zip.__next__» ⟨[.ref z], []⟩) (fun fin s' => ∃ v, fin = .done (.ret v) ∧ Q v s') E s := by
  obtain ⟨own, f, ho, hz⟩ := hz
  obtain ⟨a, b, hTO⟩ := hTO
  obtain ⟨hp, gn, dr, tk0, os⟩ := s
  have zlt : z < hp.objs.size := Heap.lt_size hz
  show wpAny _ _ (field (.ref z) 2 >>= _) _ _ _
  refine wpAny_bind (wpAny_field hz rfl (x := .bool false) rfl ?_)
  show wpAny _ _ (field (.ref z) 3 >>= _) _ _ _
  refine wpAny_bind (wpAny_field hz rfl (x := .ref TI) rfl ?_)
  refine wpAny_bind (wpAny_seqItems hTI rfl ?_)
  show wpAny _ _ (Builtin.SmallTypes.ownedTupleIsFree (.ref z) >>= _) _ _ _
  refine wpAny_bind (own_ask ho hz ?_ fun g0 hz0 hs0 => ?_)
  · -- its own pair again
    simp only [if_true]
    refine wpAny_bind (wpAny_rule ?_)
    refine wpAny_bind (wpAny_field hz rfl (x := .ref TO) rfl ?_)
    refine wpAny_bind (wpAny_setField_rec hz (by simp) fun g0 hz0 hs0 => ?_)
    replace hz0 : g0.get? z = some (ZRec .ellipsis f TI TO) := hz0
    replace hs0 : Heap.SameBut z hp g0 := hs0
    refine wpAny_bind ?_
    simp only [List.zipIdx_cons, List.zipIdx_nil, List.forIn_cons, List.forIn_nil]
    refine wpAny_bind (wpAny_bind (wpAny_onRaise ?_))
    show wpAny _ _ (Builtin.SmallTypes.nextOf (.ref i1) >>= _) _ _ ⟨g0, gn, dr, tk0, os⟩
    refine wpAny_bind (D1.item i _ _ _ l1 (D1.over st1 hs0 S.zf1) fun x q1 tk1 hx sn1 hq1 => wpAny_pure ?_)
    replace hq1 : Heap.SameBut i1 g0 q1 := hq1
    have u1 : IsTupOf2 q1 TO a b := hq1.extBut _ _ S.Ti1 (hs0.extBut _ _ S.TOz hTO)
    refine wpAny_bind (wpAny_seqItems (s := ⟨q1, gn, dr, tk1, os⟩) u1 rfl ?_)
    refine wpAny_bind (updateSeq_IsTupOf2 (s := ⟨q1, gn, dr, tk1, os⟩) u1 fun g1 t1 hs1 => ?_)
    replace t1 : IsTupOf2 g1 TO x b := t1
    replace hs1 : Heap.SameBut TO q1 g1 := hs1
    refine wpAny_bind (wpAny_letGo (wpAny_pure ?_))
    refine wpAny_bind (wpAny_bind (wpAny_onRaise ?_))
    show wpAny _ _ (Builtin.SmallTypes.nextOf (.ref i2) >>= _) _ _ ⟨g1, gn, dr, tk1, os⟩
    refine wpAny_bind (D2.item i _ _ _ l2 (D2.over (D2.over (D2.over st2 hs0 S.zf2) hq1 S.sep1_2) hs1 S.Tf2) fun y q2 tk2 hy sn2 hq2 => wpAny_pure ?_)
    replace hq2 : Heap.SameBut i2 g1 q2 := hq2
    have u2 : IsTupOf2 q2 TO x b := hq2.extBut _ _ S.Ti2 t1
    refine wpAny_bind (wpAny_seqItems (s := ⟨q2, gn, dr, tk2, os⟩) u2 rfl ?_)
    refine wpAny_bind (updateSeq_IsTupOf2 (s := ⟨q2, gn, dr, tk2, os⟩) u2 fun g2 t2 hs2 => ?_)
    replace t2 : IsTupOf2 g2 TO x y := t2
    replace hs2 : Heap.SameBut TO q2 g2 := hs2
    refine wpAny_bind (wpAny_letGo (wpAny_pure (wpAny_pure ?_)))
    refine wpAny_bind (wpAny_seqItems (s := ⟨g2, gn, dr, tk2, os⟩) t2 rfl ?_)
    refine wpAny_bind (wpAny_newTuple ?_)
    have sz : g2.objs.size = hp.objs.size := by rw [hs2.1, hq2.1, hs1.1, hq1.1, hs0.1]
    have zz : g2.get? z = some (ZRec .ellipsis f TI TO) := hs2.extBut _ _ S.TOz.symm (hq2.extBut _ _ S.zi2 (hs1.extBut _ _ S.TOz.symm (hq1.extBut _ _ S.zi1 hz0)))
    have kk : ∀ c o, c ≠ z → c ≠ TO → c ≠ i1 → c ≠ i2 → hp.get? c = some o → g2.get? c = some o := fun c o cz cT c1 c2 e => hs2.extBut _ _ cT (hq2.extBut _ _ c2 (hs1.extBut _ _ cT (hq1.extBut _ _ c1 (hs0.extBut _ _ cz e))))
    have j1 : St1 (i + 1) g2 := D1.over (D1.over (D1.over sn1 hs1 S.Tf1) hq2 S.sep2_1) hs2 S.Tf1
    have j2 : St2 (i + 1) g2 := D2.over sn2 hs2 S.Tf2
    show wpAny _ _ (Builtin.SmallTypes.ownedTupleHandOut (.ref z) (.ref g2.objs.size) >>= _) _ _ ⟨g2.push { cls := .type "tuple", data := .seq #[x, y] }, gn, dr, tk2, os⟩
    refine wpAny_bind ?_
    unfold Builtin.SmallTypes.ownedTupleHandOut
    have z6 : (g2.push { cls := .type "tuple", data := .seq #[x, y] }).get? z = some (ZRec .ellipsis f TI TO) := Heap.get?_push_of_some _ zz
    refine wpAny_bind (wpAny_setField_rec z6 (by simp) fun h7 z7 s7 => ?_)
    replace z7 : h7.get? z = some (ZRec (rawInt g2.objs.size) f TI TO) := z7
    refine wpAny_setField_rec z7 (by simp) fun h8 z8 s8 => ?_
    replace z8 : h8.get? z = some (ZRec (rawInt g2.objs.size) false TI TO) := z8
    replace s7 : Heap.SameBut z (g2.push { cls := .type "tuple", data := .seq #[x, y] }) h7 := s7
    replace s8 : Heap.SameBut z h7 h8 := s8
    have up : ∀ c o, c ≠ z → g2.get? c = some o → h8.get? c = some o := fun c o c1 e => s8.extBut _ _ c1 (s7.extBut _ _ c1 (Heap.get?_push_of_some _ e))
    have zl2 : z < g2.objs.size := by rw [sz]; exact zlt
    have t8 : IsTupOf2 h8 g2.objs.size x y := s8.extBut _ _ (Nat.ne_of_gt zl2) (s7.extBut _ _ (Nat.ne_of_gt zl2) (Heap.get?_push_size _ rfl))
    have sz8 : h8.objs.size = g2.objs.size + 1 := by rw [s8.1, s7.1, Heap.size_push]
    refine wpAny_pure ⟨_, rfl, ?_⟩
    show Q (.ref g2.objs.size) ⟨h8, gn, dr, tk2, os⟩
    rw [sz] at z8 t8 sz8 ⊢
    exact hQ x y h8 tk2 hx hy ⟨_, _, .inr ⟨_, rfl⟩, z8⟩ ⟨_, _, up _ _ S.TOz t2⟩ (D1.frame _ _ _ j1 fun c hc o e => up c o (fun q => S.zf1 (q ▸ hc)) e) (D2.frame _ _ _ j2 fun c hc o e => up c o (fun q => S.zf2 (q ▸ hc)) e) t8 sz8 fun c o cz cT c1 c2 e => up c o cz (kk c o cz cT c1 c2 e)
  · -- a new pair
    replace hs0 : Heap.SameBut z hp g0 := hs0
    simp only [Bool.false_eq_true, if_false]
    refine wpAny_bind ?_
    rw [← Array.forIn_toList]
    simp only [List.forIn_cons, List.forIn_nil]
    refine wpAny_bind (wpAny_bind (wpAny_holding ?_))
    show wpAny _ _ (Builtin.SmallTypes.nextOf (.ref i1) >>= _) _ _ ⟨g0, gn, dr, tk0, os⟩
    refine wpAny_bind (D1.item i _ _ _ l1 (D1.over st1 hs0 S.zf1) fun x q1 tk1 hx sn1 hq1 => wpAny_pure ?_)
    replace hq1 : Heap.SameBut i1 g0 q1 := hq1
    refine wpAny_pure ?_
    refine wpAny_bind (wpAny_bind (wpAny_holding ?_))
    show wpAny _ _ (Builtin.SmallTypes.nextOf (.ref i2) >>= _) _ _ ⟨q1, gn, dr, tk1, os⟩
    refine wpAny_bind (D2.item i _ _ _ l2 (D2.over (D2.over st2 hs0 S.zf2) hq1 S.sep1_2) fun y q2 tk2 hy sn2 hq2 => wpAny_pure ?_)
    replace hq2 : Heap.SameBut i2 q1 q2 := hq2
    refine wpAny_pure (wpAny_pure ?_)
    show wpAny _ _ (newTuple [x, y] >>= _) _ _ ⟨q2, gn, dr, tk2, os⟩
    refine wpAny_bind (wpAny_newTuple ?_)
    have sz : q2.objs.size = hp.objs.size := by rw [hq2.1, hq1.1, hs0.1]
    have zz : q2.get? z = some (ZRec own true TI TO) := hq2.extBut _ _ S.zi2 (hq1.extBut _ _ S.zi1 hz0)
    have kk : ∀ c o, c ≠ z → c ≠ i1 → c ≠ i2 → hp.get? c = some o → q2.get? c = some o := fun c o cz c1 c2 e => hq2.extBut _ _ c2 (hq1.extBut _ _ c1 (hs0.extBut _ _ cz e))
    have up : ∀ c o, q2.get? c = some o → (q2.push { cls := .type "tuple", data := .seq #[x, y] }).get? c = some o := fun c o e => Heap.get?_push_of_some _ e
    have t8 : IsTupOf2 (q2.push { cls := .type "tuple", data := .seq #[x, y] }) q2.objs.size x y := Heap.get?_push_size _ rfl
    have sz8 : (q2.push { cls := .type "tuple", data := .seq #[x, y] }).objs.size = q2.objs.size + 1 := Heap.size_push ..
    refine wpAny_pure ⟨_, rfl, ?_⟩
    show Q (.ref q2.objs.size) ⟨_, gn, dr, tk2, os⟩
    rw [sz] at t8 sz8 ⊢
    exact hQ x y _ tk2 hx hy ⟨_, _, ho, up _ _ zz⟩ ⟨_, _, up _ _ (kk _ _ S.TOz S.Ti1 S.Ti2 hTO)⟩ (D1.frame _ _ _ (D1.over sn1 hq2 S.sep2_1) fun c hc o e => up c o e) (D2.frame _ _ _ sn2 fun c hc o e => up c o e) t8 sz8 fun c o cz _ c1 c2 e => up c o (kk c o cz c1 c2 e)
theorem zip_any_end {Q : Fin → Shared → Prop} (S : ZipSep2 z TI TO i1 i2 fp1 fp2) (D1 : Draws prog w A i1 fp1 n1 P1 St1) (D2 : Draws prog w A i2 fp2 n2 P2 St2)
    (hz : ZipAt s.heap z TI TO) (hTI : IsTupOf2 s.heap TI (.ref i1) (.ref i2)) (hTO : ∃ a b, IsTupOf2 s.heap TO a b) (st1 : St1 i s.heap) (st2 : St2 i s.heap) (e1 : i ≤ n1) (e2 : i ≤ n2) (hend : i = n1 ∨ i = n2)
    (hE : ∀ h' tk e, (∀ c o, c ≠ z → c ≠ TO → c ≠ i1 → c ≠ i2 → s.heap.get? c = some o → h'.get? c = some o) → (∃ o, h'.get? e = some o ∧ o.cls = .type "StopIteration") → E (.ref e) { s with heap := h', toks := tk }) :
    wpAny (model prog w) A (Builtin.«zip.__next__» ⟨[.ref z], []⟩) Q E s := by
  obtain ⟨own, f, ho, hz⟩ := hz
  obtain ⟨a, b, hTO⟩ := hTO
  obtain ⟨hp, gn, dr, tk0, os⟩ := s
  show wpAny _ _ (field (.ref z) 2 >>= _) _ _ _
  refine wpAny_bind (wpAny_field hz rfl (x := .bool false) rfl ?_)
  show wpAny _ _ (field (.ref z) 3 >>= _) _ _ _
  refine wpAny_bind (wpAny_field hz rfl (x := .ref TI) rfl ?_)
  refine wpAny_bind (wpAny_seqItems hTI rfl ?_)
  show wpAny _ _ (Builtin.SmallTypes.ownedTupleIsFree (.ref z) >>= _) _ _ _
  refine wpAny_bind (own_ask ho hz ?_ fun g0 hz0 hs0 => ?_)
  · simp only [if_true]
    refine wpAny_bind (wpAny_rule ?_)
    refine wpAny_bind (wpAny_field hz rfl (x := .ref TO) rfl ?_)
    refine wpAny_bind (wpAny_setField_rec hz (by simp) fun g0 hz0 hs0 => ?_)
    replace hz0 : g0.get? z = some (ZRec .ellipsis f TI TO) := hz0
    replace hs0 : Heap.SameBut z hp g0 := hs0
    have fin : ∀ (q : Heap) (tk : Nat) (e : Addr) (it : Addr) (k : ∀ c o, c ≠ z → c ≠ TO → c ≠ i1 → c ≠ i2 → hp.get? c = some o → q.get? c = some o) (zq : q.get? z = some (ZRec .ellipsis f TI TO)) (he : ∃ o, q.get? e = some o ∧ o.cls = .type "StopIteration"),
        wpAny (model prog w) A (setField (.ref z) 0 .none) (fun _ s2 => E (.ref e) s2) E ⟨q, gn, dr, tk, os⟩ := by
      rintro q tk e it k zq ⟨oe, ge, ce⟩
      have ez : e ≠ z := fun x => by rw [x, zq] at ge; cases ge; simp at ce
      refine wpAny_setField_rec (s := ⟨q, gn, dr, tk, os⟩) zq (by simp) fun q' _ hq' => ?_
      replace hq' : Heap.SameBut z q q' := hq'
      exact hE q' tk e (fun c o cz cT c1 c2 x => hq'.extBut _ _ cz (k c o cz cT c1 c2 x)) ⟨oe, hq'.extBut _ _ ez ge, ce⟩
    refine wpAny_bind ?_
    simp only [List.zipIdx_cons, List.zipIdx_nil, List.forIn_cons, List.forIn_nil]
    refine wpAny_bind (wpAny_bind (wpAny_onRaise ?_))
    show wpAny _ _ (Builtin.SmallTypes.nextOf (.ref i1) >>= _) _ _ ⟨g0, gn, dr, tk0, os⟩
    by_cases l1 : i < n1
    · refine wpAny_bind (D1.item i _ _ _ l1 (D1.over st1 hs0 S.zf1) fun x q1 tk1 hx sn1 hq1 => wpAny_pure ?_)
      replace hq1 : Heap.SameBut i1 g0 q1 := hq1
      have u1 : IsTupOf2 q1 TO a b := hq1.extBut _ _ S.Ti1 (hs0.extBut _ _ S.TOz hTO)
      refine wpAny_bind (wpAny_seqItems (s := ⟨q1, gn, dr, tk1, os⟩) u1 rfl ?_)
      refine wpAny_bind (updateSeq_IsTupOf2 (s := ⟨q1, gn, dr, tk1, os⟩) u1 fun g1 t1 hs1 => ?_)
      replace hs1 : Heap.SameBut TO q1 g1 := hs1
      refine wpAny_bind (wpAny_letGo (wpAny_pure ?_))
      have h2 : i = n2 := by omega
      refine wpAny_bind (wpAny_bind (wpAny_onRaise ?_))
      show wpAny _ _ (Builtin.SmallTypes.nextOf (.ref i2) >>= _) _ _ ⟨g1, gn, dr, tk1, os⟩
      refine wpAny_bind (D2.done ⟨g1, gn, dr, tk1, os⟩ _ _ (by rw [← h2]; exact D2.over (D2.over (D2.over st2 hs0 S.zf2) hq1 S.sep1_2) hs1 S.Tf2) fun q e hq he => ?_)
      replace hq : Heap.ExtBut i2 g1 q := hq
      exact fin q tk1 e i2 (fun c o cz cT c1 c2 x => hq _ _ c2 (hs1.extBut _ _ cT (hq1.extBut _ _ c1 (hs0.extBut _ _ cz x)))) (hq _ _ S.zi2 (hs1.extBut _ _ S.TOz.symm (hq1.extBut _ _ S.zi1 hz0))) he
    · have h1 : i = n1 := by omega
      refine wpAny_bind (D1.done ⟨g0, gn, dr, tk0, os⟩ _ _ (by rw [← h1]; exact D1.over st1 hs0 S.zf1) fun q e hq he => ?_)
      replace hq : Heap.ExtBut i1 g0 q := hq
      exact fin q tk0 e i1 (fun c o cz cT c1 c2 x => hq _ _ c1 (hs0.extBut _ _ cz x)) (hq _ _ S.zi1 hz0) he
  · replace hs0 : Heap.SameBut z hp g0 := hs0
    simp only [Bool.false_eq_true, if_false]
    refine wpAny_bind ?_
    rw [← Array.forIn_toList]
    simp only [List.forIn_cons, List.forIn_nil]
    refine wpAny_bind (wpAny_bind (wpAny_holding ?_))
    show wpAny _ _ (Builtin.SmallTypes.nextOf (.ref i1) >>= _) _ _ ⟨g0, gn, dr, tk0, os⟩
    by_cases l1 : i < n1
    · refine wpAny_bind (D1.item i _ _ _ l1 (D1.over st1 hs0 S.zf1) fun x q1 tk1 hx sn1 hq1 => wpAny_pure ?_)
      replace hq1 : Heap.SameBut i1 g0 q1 := hq1
      refine wpAny_pure ?_
      have h2 : i = n2 := by omega
      refine wpAny_bind (wpAny_bind (wpAny_holding ?_))
      show wpAny _ _ (Builtin.SmallTypes.nextOf (.ref i2) >>= _) _ _ ⟨q1, gn, dr, tk1, os⟩
      refine wpAny_bind (D2.done ⟨q1, gn, dr, tk1, os⟩ _ _ (by rw [← h2]; exact D2.over (D2.over st2 hs0 S.zf2) hq1 S.sep1_2) fun q e hq he => ?_)
      replace hq : Heap.ExtBut i2 q1 q := hq
      exact hE q tk1 e (fun c o cz cT c1 c2 x => hq _ _ c2 (hq1.extBut _ _ c1 (hs0.extBut _ _ cz x))) he
    · have h1 : i = n1 := by omega
      refine wpAny_bind (D1.done ⟨g0, gn, dr, tk0, os⟩ _ _ (by rw [← h1]; exact D1.over st1 hs0 S.zf1) fun q e hq he => ?_)
      replace hq : Heap.ExtBut i1 g0 q := hq
      exact hE q tk0 e (fun c o cz cT c1 c2 x => hq _ _ c1 (hs0.extBut _ _ cz x)) he
end

section
variable {prog : Program} {w : World} {A : Around} {E : Value → Shared → Prop} {s : Shared} {e z TI TO i1 i2 : Addr} {fp1 fp2 : List Addr} {n1 n2 i : Nat} {k : Int} {P1 P2 : Nat → Value → Prop} {St1 St2 : Nat → Heap → Prop} {old : Value}
theorem enumZ_item {Q : Option Value → Shared → Prop} (S : ZipSep2 z TI TO i1 i2 fp1 fp2) (D1 : Draws prog w A.in1.in1 i1 fp1 n1 P1 St1) (D2 : Draws prog w A.in1.in1 i2 fp2 n2 P2 St2) (he : IsEnum s.heap e z k old) (ez : e ≠ z) (eT : e ≠ TO) (e1 : e ≠ i1) (e2 : e ≠ i2)
    (hz : ZipAt s.heap z TI TO) (hTI : IsTupOf2 s.heap TI (.ref i1) (.ref i2)) (hTO : ∃ a b, IsTupOf2 s.heap TO a b) (st1 : St1 i s.heap) (st2 : St2 i s.heap) (l1 : i < n1) (l2 : i < n2)
    (hQ : ∀ x y h1 h' tk, P1 i x → P2 i y → ZipAt h1 z TI TO → (∃ a b, IsTupOf2 h1 TO a b) → St1 (i + 1) h1 → St2 (i + 1) h1 → IsTupOf2 h1 s.heap.objs.size x y → h1.objs.size = s.heap.objs.size + 1 →
      (∀ c o, c ≠ z → c ≠ TO → c ≠ i1 → c ≠ i2 → s.heap.get? c = some o → h1.get? c = some o) →
      IsEnumOut h' e z (k + 1) (.ref s.heap.objs.size) h1.objs.size → h'.get? h1.objs.size = some { cls := .type "tuple", data := .seq #[.int k tk, .ref s.heap.objs.size] } → (∀ c o, c ≠ e → h1.get? c = some o → h'.get? c = some o) →
      Q (some (.ref h1.objs.size)) { s with heap := h', toks := tk + 1 }) : wpAny (model prog w) A (pyNext (.ref e)) Q E s := by
  have ty : s.TypeIs (.ref e) "enumerate" := ⟨_, he, rfl⟩
  obtain ⟨hp, gn, dr, tk0, os⟩ := s
  have tz : (⟨hp, gn, dr, tk0, os⟩ : Shared).TypeIs (.ref z) "zip" := let ⟨_, _, _, q⟩ := hz; ⟨_, q, rfl⟩
  unfold pyNext
  refine wpAny_bind (wpAny_attempt (wpAny_callSpecial?_slot (name := Str.ofString "__next__") ty F.slot_enumerate_next (wpAny_call_entry F.slot_enumerate_next ty F.entry_enumerate_next ?_ (F.args_enumerate_next_1 _))))
  show wpAny _ _ (field (.ref e) 2 >>= _) _ _ _
  refine wpAny_bind (wpAny_field he rfl (x := .ref z) rfl ?_)
  refine wpAny_bind ?_
  unfold Builtin.SmallTypes.nextOf
  refine wpAny_bind (wpAny_callSpecial?_slot (name := Str.ofString "__next__") tz F.slot_zip_next (wpAny_call_entry F.slot_zip_next tz F.entry_zip_next ?_ (F.args_zip_next_1 _)))
  refine zip_any S D1 D2 hz hTI hTO st1 st2 l1 l2 fun x y h1 tk hx hy z1 t1 s1 s2 p1 sz1 k1 => wpAny_pure ?_
  replace k1 : ∀ c o, c ≠ z → c ≠ TO → c ≠ i1 → c ≠ i2 → hp.get? c = some o → h1.get? c = some o := k1
  have he1 : IsEnum h1 e z k old := k1 _ _ ez eT e1 e2 he
  show wpAny _ _ (field (.ref e) 3 >>= _) _ _ ⟨h1, gn, dr, tk, os⟩
  refine wpAny_bind (wpAny_field he1 rfl (x := rawInt k) rfl ?_)
  show wpAny _ _ (field (.ref e) 4 >>= _) _ _ ⟨h1, gn, dr, tk, os⟩
  refine wpAny_bind (wpAny_field he1 rfl (x := .none) rfl ?_)
  show wpAny _ _ (mkInt k >>= _) _ _ ⟨h1, gn, dr, tk, os⟩
  refine wpAny_bind (wpAny_mkInt ?_)
  show wpAny _ _ (setField (.ref e) 3 (rawInt (k + 1)) >>= _) _ _ ⟨h1, gn, dr, tk + 1, os⟩
  refine wpAny_bind (wpAny_setField_rec he1 (by simp) fun h2 he2 b2 => ?_)
  replace b2 : Heap.SameBut e h1 h2 := b2
  replace he2 : IsEnum h2 e z (k + 1) old := he2
  show wpAny _ _ (setField (.ref e) 4 .none >>= _) _ _ ⟨h2, gn, dr, tk + 1, os⟩
  refine wpAny_bind (wpAny_setField_rec he2 (by simp) fun h3 he3 b3 => ?_)
  replace b3 : Heap.SameBut e h2 h3 := b3
  replace he3 : IsEnum h3 e z (k + 1) old := he3
  show wpAny _ _ (newTuple [.int k tk, .ref hp.objs.size] >>= _) _ _ ⟨h3, gn, dr, tk + 1, os⟩
  refine wpAny_bind (wpAny_newTuple ?_)
  have sz3 : h3.objs.size = h1.objs.size := by rw [b3.1, b2.1]
  have elt : e < h1.objs.size := Heap.lt_size he1
  have he4 : IsEnum (h3.push { cls := .type "tuple", data := .seq #[.int k tk, .ref hp.objs.size] }) e z (k + 1) old := Heap.get?_push_of_some _ he3
  have t4 : (h3.push { cls := .type "tuple", data := .seq #[.int k tk, .ref hp.objs.size] }).get? h1.objs.size = some { cls := .type "tuple", data := .seq #[.int k tk, .ref hp.objs.size] } := by rw [← sz3]; exact Heap.get?_push_size _ rfl
  have k4 : ∀ c o, c ≠ e → h1.get? c = some o → (h3.push { cls := .type "tuple", data := .seq #[.int k tk, .ref hp.objs.size] }).get? c = some o := fun c o ce q => Heap.get?_push_of_some _ (b3.extBut _ _ ce (b2.extBut _ _ ce q))
  generalize h3.push { cls := .type "tuple", data := .seq #[.int k tk, .ref hp.objs.size] } = h4 at he4 t4 k4
  show wpAny _ _ (Builtin.SmallTypes.ownedTupleIsFree (.ref e) >>= _) _ _ ⟨h4, gn, dr, tk + 1, os⟩
  rw [sz3]
  refine wpAny_bind ?_
  unfold Builtin.SmallTypes.ownedTupleIsFree
  refine wpAny_bind (wpAny_field he4 rfl (x := .none) rfl (wpAny_pure ?_))
  simp only [if_true]
  refine wpAny_bind (wpAny_rule (wpAny_bind (wpAny_field he4 rfl (x := old) rfl ?_)))
  refine wpAny_bind (wpAny_setField_rec he4 (by simp) fun h5 he5 b5 => ?_)
  replace b5 : Heap.SameBut e h4 h5 := b5
  replace he5 : IsEnum h5 e z (k + 1) (.ref hp.objs.size) := he5
  show wpAny _ _ (Builtin.SmallTypes.ownedTupleHandOut (.ref e) (.ref h1.objs.size) >>= _) _ _ ⟨h5, gn, dr, tk + 1, os⟩
  refine wpAny_bind ?_
  unfold Builtin.SmallTypes.ownedTupleHandOut
  refine wpAny_bind (wpAny_setField_rec he5 (by simp) fun h6 he6 b6 => ?_)
  replace b6 : Heap.SameBut e h5 h6 := b6
  replace he6 : IsEnumOut h6 e z (k + 1) (.ref hp.objs.size) h1.objs.size := he6
  refine wpAny_setField_rec he6 (by simp) fun h7 he7 b7 => ?_
  replace b7 : Heap.SameBut e h6 h7 := b7
  replace he7 : IsEnumOut h7 e z (k + 1) (.ref hp.objs.size) h1.objs.size := he7
  have up : ∀ c o, c ≠ e → h4.get? c = some o → h7.get? c = some o := fun c o ce q => b7.extBut _ _ ce (b6.extBut _ _ ce (b5.extBut _ _ ce q))
  exact wpAny_bind (wpAny_letGo (wpAny_pure ⟨_, rfl, wpAny_pure (hQ x y h1 h7 tk hx hy z1 t1 s1 s2 p1 sz1 k1 he7 (up _ _ (Nat.ne_of_gt elt) t4) fun c o ce q => up c o ce (k4 c o ce q))⟩))
theorem enumZ_end {Q : Option Value → Shared → Prop} (S : ZipSep2 z TI TO i1 i2 fp1 fp2) (D1 : Draws prog w A.in1.in1 i1 fp1 n1 P1 St1) (D2 : Draws prog w A.in1.in1 i2 fp2 n2 P2 St2) (he : IsEnum s.heap e z k old)
    (hz : ZipAt s.heap z TI TO) (hTI : IsTupOf2 s.heap TI (.ref i1) (.ref i2)) (hTO : ∃ a b, IsTupOf2 s.heap TO a b) (st1 : St1 i s.heap) (st2 : St2 i s.heap) (l1 : i ≤ n1) (l2 : i ≤ n2) (hend : i = n1 ∨ i = n2)
    (hQ : ∀ h' tk, (∀ c o, c ≠ z → c ≠ TO → c ≠ i1 → c ≠ i2 → s.heap.get? c = some o → h'.get? c = some o) → Q none { s with heap := h', toks := tk }) : wpAny (model prog w) A (pyNext (.ref e)) Q E s := by
  have ty : s.TypeIs (.ref e) "enumerate" := ⟨_, he, rfl⟩
  have tz : s.TypeIs (.ref z) "zip" := let ⟨_, _, _, q⟩ := hz; ⟨_, q, rfl⟩
  unfold pyNext
  refine wpAny_bind (wpAny_attempt (wpAny_callSpecial?_slot (name := Str.ofString "__next__") ty F.slot_enumerate_next (wpAny_call_entry F.slot_enumerate_next ty F.entry_enumerate_next ?_ (F.args_enumerate_next_1 _))))
  show wpAny _ _ (field (.ref e) 2 >>= _) _ _ _
  refine wpAny_bind (wpAny_field he rfl (x := .ref z) rfl ?_)
  refine wpAny_bind ?_
  unfold Builtin.SmallTypes.nextOf
  refine wpAny_bind (wpAny_callSpecial?_slot (name := Str.ofString "__next__") tz F.slot_zip_next (wpAny_call_entry F.slot_zip_next tz F.entry_zip_next ?_ (F.args_zip_next_1 _)))
  refine zip_any_end S D1 D2 hz hTI hTO st1 st2 l1 l2 hend fun h1 tk x k1 hx => ?_
  obtain ⟨o, ho, hc⟩ := hx
  refine wpAny_bind (wpAny_isInstance (T := "StopIteration") (b := true) ⟨o, ho, hc⟩ isSubtype_stop ?_)
  exact wpAny_pure (hQ _ _ k1)
end
/-- two tuples, walked side by side with their place -/
def ItEZ (K : PySem.W.Frag) (a b : Addr) : It :=
  ⟨fun i H => ∃ (xs ys : List V) (x y : V), SqT K H a xs ∧ SqT K H b ys ∧ xs[i]? = some x ∧ ys[i]? = some y,
    fun i H v H' => ∃ T U x y, v = .ref U ∧ H T = none ∧ upd H T (.tup [x, y]) U = none ∧ H' = upd (upd H T (.tup [x, y])) U (.tup [.int (i : Nat), .ref T]) ∧ (∀ xs, SqT K H a xs → xs[i]? = some x) ∧ ∀ ys, SqT K H b ys → ys[i]? = some y,
    fun i H => ∃ xs ys : List V, SqT K H a xs ∧ SqT K H b ys ∧ i = min xs.length ys.length⟩
theorem turn_enumZ {P : Program} {w : World} {K : PySem.W.Frag} {elts : List Expr} {kk : Nat} {tpos : Pos} {a b e z TI TO i1 i2 : Addr} (S : ZipSep2 z TI TO i1 i2 [i1, a] [i2, b]) (ez : e ≠ z) (eI : e ≠ TI) (eT : e ≠ TO) (e1 : e ≠ i1) (e2 : e ≠ i2) (ea : e ≠ a) (eb : e ≠ b) (h1a : a ≠ i1) (h2b : b ≠ i2) :
    Turn P w K (.Tuple elts kk tpos) (ItEZ K a b) [e, z, TI, TO, i1, i2] e (fun i h => (∃ old, IsEnum h e z ((i : Nat) : Int) old) ∧ ZipAt h z TI TO ∧ IsTupOf2 h TI (.ref i1) (.ref i2) ∧ (∃ x y, IsTupOf2 h TO x y) ∧ h.IsTupleIter i1 a i ∧ h.IsTupleIter i2 b i) := by
  have hmem : ∀ {c : Addr}, c ∈ [e, z, TI, TO, i1, i2] → c = e ∨ c = z ∨ c = TI ∨ c = TO ∨ c = i1 ∨ c = i2 := fun h => by simpa using h
  refine ⟨by simp, ?_, ?_, ?_, ?_, ?_⟩
  · rintro i h ⟨⟨old, q⟩, ⟨ow, f, _, qz⟩, qI, ⟨x, y, qO⟩, ⟨o1, g1, _, d1⟩, ⟨o2, g2, _, d2⟩⟩ c hc
    rcases hmem hc with r | r | r | r | r | r <;> rw [r]
    · exact ⟨_, q, fun v u => nomatch u⟩
    · exact ⟨_, qz, fun v u => nomatch u⟩
    · exact ⟨_, qI, fun v u => nomatch u⟩
    · exact ⟨_, qO, fun v u => nomatch u⟩
    · exact ⟨o1, g1, fun v u => by rw [d1] at u; cases u⟩
    · exact ⟨o2, g2, fun v u => by rw [d2] at u; cases u⟩
  · rintro i h h' ⟨⟨old, q⟩, ⟨ow, f, hw, qz⟩, qI, ⟨x, y, qO⟩, q1, q2⟩ k
    exact ⟨⟨old, k e (by simp) _ q⟩, ⟨ow, f, hw, k z (by simp) _ qz⟩, k TI (by simp) _ qI, ⟨x, y, k TO (by simp) _ qO⟩, q1.at fun o u => k i1 (by simp) o u, q2.at fun o u => k i2 (by simp) o u⟩
  · intro X hP hw hK hc i pins s σ H E I hf st hg
    subst hP hw hK
    obtain ⟨⟨old, q⟩, qz, qI, qO, q1, q2⟩ := st
    obtain ⟨xs, ys, x, y, hqx, hqy, hx, hy⟩ := hg
    obtain ⟨its, rv, p, _⟩ := I.tuple hqx
    obtain ⟨its2, rv2, p2, _⟩ := I.tuple hqy
    obtain ⟨u, hu, ru⟩ := rv.get hx
    obtain ⟨u2, hu2, ru2⟩ := rv2.get hy
    have lt1 := (List.getElem?_eq_some_iff.mp hu).1
    have lt2 := (List.getElem?_eq_some_iff.mp hu2).1
    have zlt : z < s.heap.objs.size := let ⟨_, _, _, r⟩ := qz; Heap.lt_size r
    have elt : e < s.heap.objs.size := Heap.lt_size q
    have d1 := Draws.tuple (prog := X.prog) (w := X.w) (A := X.A.in1.in1) (I.ok.hd hc) i1 a h1a its.toArray
    have d2 := Draws.tuple (prog := X.prog) (w := X.w) (A := X.A.in1.in1) (I.ok.hd hc) i2 b h2b its2.toArray
    refine enumZ_item S d1 d2 q ez eT e1 e2 qz qI qO ⟨q1, p⟩ ⟨q2, p2⟩ (by simpa using lt1) (by simpa using lt2) fun v v2 h1 h' tk hv hv2 z1 t1 s1 s2 pr sz1 k1 o1 pU k2 => ?_
    have ev : v = u := by
      have r : its.toArray[i]? = some v := hv
      simp at r
      rw [hu] at r; cases r; rfl
    have ev2 : v2 = u2 := by
      have r : its2.toArray[i]? = some v2 := hv2
      simp at r
      rw [hu2] at r; cases r; rfl
    subst ev ev2
    refine ⟨_, rfl, wpAny_letOwnedTupleGo_enum (s := { s with heap := h', toks := tk + 1 }) o1 fun h2 o2 sb => ?_⟩
    have nw1 : ObjOk X.prog X.w (upd H s.heap.objs.size (.tup [x, y])) h1 s.heap.objs.size (.tup [x, y]) := ⟨(show 2 ≤ sizeLine by decide), [v, v2], .cons ru (.cons ru2 .nil), ⟨_, pr, rfl, _, rfl⟩⟩
    have I1 := I.turnedNew (t' := tk) (h' := h1) (ch := [e, z, TI, TO, i1, i2]) (fun c o hb r => k1 c o (fun t => hb (by simp [t])) (fun t => hb (by simp [t])) (fun t => hb (by simp [t])) (fun t => hb (by simp [t])) r) hf (Nat.le_refl _) nw1
    have hlt : ∀ c ∈ [e, z, TI, TO, i1, i2], c < s.heap.objs.size := fun c hc => by
      rcases hmem hc with r | r | r | r | r | r <;> rw [r]
      · exact elt
      · exact zlt
      · exact Heap.lt_size qI
      · obtain ⟨_, _, qO⟩ := qO; exact Heap.lt_size qO
      · obtain ⟨_, r, _⟩ := q1; exact Heap.lt_size r
      · obtain ⟨_, r, _⟩ := q2; exact Heap.lt_size r
    have hT2 := (sb.2 _ (Nat.ne_of_gt (Nat.lt_of_lt_of_le elt (by rw [sz1]; exact Nat.le_succ _)))).trans pU
    have nw2 : ObjOk X.prog X.w (upd (upd H s.heap.objs.size (.tup [x, y])) h1.objs.size (.tup [.int (i : Nat), .ref s.heap.objs.size])) h2 h1.objs.size (.tup [.int (i : Nat), .ref s.heap.objs.size]) :=
      ⟨(show 2 ≤ sizeLine by decide), [.int i tk, .ref s.heap.objs.size], .cons ⟨_, rfl⟩ (.cons rfl .nil), ⟨_, hT2, rfl, _, rfl⟩⟩
    have hf1 : ∀ c ∈ [e], FpOk X pins (upd H s.heap.objs.size (.tup [x, y])) c := fun c hc => by
      cases List.mem_singleton.mp hc
      exact ⟨by rw [upd_ne (Nat.ne_of_lt elt)]; exact (hf e (by simp)).1, (hf e (by simp)).2⟩
    have I2 := I1.turnedNew (t' := tk + 1) (h' := h2) (ch := [e]) (fun c o hb r => (sb.2 c (fun t => hb (by simp [t]))).trans (k2 c o (fun t => hb (by simp [t])) r)) hf1 (Nat.le_refl _) nw2
    have up : ∀ c o, c ≠ e → h1.get? c = some o → h2.get? c = some o := fun c o ce r => (sb.2 c ce).trans (k2 c o ce r)
    refine ⟨.ref h1.objs.size, _, I2, (show RelV (.ref h1.objs.size) (.ref h1.objs.size) from rfl), ⟨_, _, x, y, rfl, I.hok.fresh (Nat.le_refl _), I1.hok.fresh (Nat.le_refl _), rfl, fun l hl => by rw [I.tuple_inj hl hqx]; exact hx, fun l hl => by rw [I.tuple_inj hl hqy]; exact hy⟩, ?_, fun c hc => ?_⟩
    · obtain ⟨ow, f, hw, z1⟩ := z1
      obtain ⟨r1, r2, t1⟩ := t1
      refine ⟨⟨.ref s.heap.objs.size, ?_⟩, ⟨ow, f, hw, up _ _ (Ne.symm ez) z1⟩, up _ _ (Ne.symm eI) (k1 _ _ S.TIz S.TITO S.TIi1 S.TIi2 qI), ⟨r1, r2, up _ _ (Ne.symm eT) t1⟩, s1.1.at fun o r => up _ o (Ne.symm e1) r, s2.1.at fun o r => up _ o (Ne.symm e2) r⟩
      rw [show ((i + 1 : Nat) : Int) = (i : Int) + 1 by omega]
      exact o2
    · have l := hlt c hc
      have l2 : c < h1.objs.size := by rw [sz1]; exact Nat.lt_succ_of_lt l
      rw [upd_ne (Nat.ne_of_lt l2), upd_ne (Nat.ne_of_lt l)]
      exact (hf c hc).1
  · intro X hP hw hK hc i pins s σ H E I hf st hg
    subst hP hw hK
    obtain ⟨⟨old, q⟩, qz, qI, qO, q1, q2⟩ := st
    obtain ⟨xs, ys, hqx, hqy, hi⟩ := hg
    obtain ⟨its, rv, p, _⟩ := I.tuple hqx
    obtain ⟨its2, rv2, p2, _⟩ := I.tuple hqy
    have l1 := rv.length
    have l2 := rv2.length
    have d1 := Draws.tuple (prog := X.prog) (w := X.w) (A := X.A.in1.in1) (I.ok.hd hc) i1 a h1a its.toArray
    have d2 := Draws.tuple (prog := X.prog) (w := X.w) (A := X.A.in1.in1) (I.ok.hd hc) i2 b h2b its2.toArray
    refine enumZ_end S d1 d2 q qz qI qO ⟨q1, p⟩ ⟨q2, p2⟩ (by simp; omega) (by simp; omega) (by simp; omega) fun h' tk k => ⟨rfl, I.turnedL (t' := tk) (ch := [e, z, TI, TO, i1, i2]) (fun c o hb r => k c o (fun t => hb (by simp [t])) (fun t => hb (by simp [t])) (fun t => hb (by simp [t])) (fun t => hb (by simp [t])) r) hf⟩
  · rintro A i s Q E ⟨⟨old, q⟩, _⟩ h
    exact wpAny_pyIter_enum q h
def iEnumZ (K : PySem.W.Frag) (ta : TA) : TI := fun σ H R => ta σ H fun vs H1 => ∃ a b xs ys, vs = [.ref a, .ref b] ∧ SqT K H1 a xs ∧ SqT K H1 b ys ∧ R (ItEZ K a b) H1
theorem pi_enumZ {X : Cx} {x y : Expr} {ta : TA} {p p2 pos2 pos tpos : Pos} {elts : List Expr} {kk : Nat} (hg : Gl X "enumerate") (hm : X.mg "enumerate" = none) (hg2 : Gl X "zip") (hm2 : X.mg "zip" = none) (ha : PA X [x, y] ta)
    (hs : starEach [.Call (.Name "zip" p2) [x, y] [] pos2] X.env = [(false, eval (.Call (.Name "zip" p2) [x, y] [] pos2) X.env)]) (hs2 : starEach [x, y] X.env = (false, eval x X.env) :: starEach [y] X.env) (hpl : (backTo pos2 (starEach [y] X.env)).any (·.1) = false) :
    PI X (.Tuple elts kk tpos) (.Call (.Name "enumerate" p) [.Call (.Name "zip" p2) [x, y] [] pos2] [] pos) (iEnumZ X.K ta) := by
  constructor
  intro pins s σ H R I h
  refine PyProof.Rows.Call_ (ld_blt I hg hm PyProof.Rows.boot_enumerate (PyProof.Rows.callWith_type1 ?_ hs rfl))
  rw [hs]
  show wpAny _ _ (spliced ((false, eval (.Call (.Name "zip" p2) [x, y] [] pos2) X.env) :: [])) _ _ s
  refine Calls.spliced_cons ?_
  refine PyProof.Rows.Call_ (ld_blt I hg2 hm2 PyProof.Rows.boot_zip (PyProof.Rows.callWith_type1 (thn (ha.run pos2 pins s σ H _ I h) fun us s1 q0 => ?_) hs2 hpl))
  obtain ⟨vs, H1, I1, r1, a, b, xs, ys, ex, hqx, hqy, q⟩ := q0
  subst ex
  cases r1 with
  | cons r rr =>
    cases rr with
    | cons r' rr =>
      cases rr
      cases r
      cases r'
      obtain ⟨its, rv, p1, _⟩ := I1.tuple hqx
      obtain ⟨its2, rv2, p2, _⟩ := I1.tuple hqy
      have pa : s1.heap.IsTuple a its.toArray := p1
      have pb : s1.heap.IsTuple b its2.toArray := p2
      have la : a < s1.heap.objs.size := let ⟨_, t, _⟩ := pa; Heap.lt_size t
      have lb : b < s1.heap.objs.size := let ⟨_, t, _⟩ := pb; Heap.lt_size t
      refine RZ.call_zipT pa pb fun h1 hz hTI hTO hi1 hi2 sz k1 => Calls.spliced_nil ?_
      refine call_enum1 (ia := fun _ => s1.heap.objs.size + 4) (mk := fun h => h) (Hh := fun h => h = h1) (fun _ _ _ _ t _ ht hq => wpAny_pyIter_zip (by rw [ht]; exact hz) hq) rfl fun h2 he k2 => wpAny_pyIter_enum he ?_
      generalize hN : s1.heap.objs.size = N at *
      have sz' : h1.objs.size = N + 5 := sz
      simp only [sz'] at he ⊢
      have I2 : Inv X pins σ H1 { s1 with heap := h2 } := I1.kept (t' := s1.toks) fun c o t => k2 _ _ (k1 _ _ t)
      have nn : ∀ (m : Nat) (c : Addr), c < N → N + m ≠ c := fun m c hc t => by
        have : N + m < N := by rw [t]; exact hc
        omega
      have aN : a ≠ N := Nat.ne_of_lt la
      have bN : b ≠ N + 1 := Ne.symm (nn 1 b lb)
      refine ⟨N + 5, [N + 5, N + 4, N + 2, N + 3, N, N + 1], _, _, H1, rfl, I2, turn_enumZ (a := a) (b := b) ?_ (by simp) (by simp) (by simp) (by simp) (by simp) (nn 5 a la) (nn 5 b lb) aN bN, ⟨⟨.none, he⟩, ⟨_, _, .inl rfl, k2 _ _ hz⟩, k2 _ _ hTI, ⟨_, _, k2 _ _ hTO⟩, hi1.at fun o t => k2 _ o t, hi2.at fun o t => k2 _ o t⟩, fun c hc => ?_, q⟩
      · have n1 := nn 1
        have n3 := nn 3
        have n4 := nn 4
        exact ⟨by simp, by simp, by simp, by simp, by simp, by simp [n4 a la], by simp [n3 a la], by simp, by simp, by simp [n4 b lb], by simp [n3 b lb], by simp [Ne.symm (Nat.ne_of_lt lb)], by simp [n1 a la]⟩
      · have hle : s1.heap.objs.size ≤ c := by
          rw [hN]
          have : c = N + 5 ∨ c = N + 4 ∨ c = N + 2 ∨ c = N + 3 ∨ c = N ∨ c = N + 1 := by simpa using hc
          rcases this with t | t | t | t | t | t <;> rw [t] <;> first | exact Nat.le_refl _ | exact Nat.le_add_right _ _
        exact I1.fpOk hle (I1.hok.fresh hle)

section
variable {g : Gb} {F : Fam g} {pos : Pos}
def ezD (xs ys : List D) : List D := enumD 0 (zipD xs ys)
theorem yl_enumZ {G0 H0 : Hp} {as0 : List Addr} {a b : Addr} {vs ws : List V} {xs ys : List D} (s : SqT g.K G0 a vs) (s2 : SqT g.K G0 b ws) (r : RpA g.K g.mg G0 as0 vs xs) (r2 : RpA g.K g.mg G0 as0 ws ys) : Yl g G0 H0 as0 none (ezD xs ys) (ItEZ g.K a b) where
  go := fun i G H as st hi R hs hp hl _ => by
    have hl : i < xs.length ∧ i < ys.length := by simp [ezD, enumD_len, zipD] at hi; omega
    have hv : i < vs.length := by rw [r.len]; exact hl.1
    have hw : i < ws.length := by rw [r2.len]; exact hl.2
    exact ⟨vs, ws, vs[i], ws[i], sqT_H R (sqT_sub hs s), sqT_H R (sqT_sub hs s2), List.getElem?_eq_getElem hv, List.getElem?_eq_getElem hw⟩
  stop := fun G H as st R hs hp hl _ => ⟨vs, ws, sqT_H R (sqT_sub hs s), sqT_H R (sqT_sub hs s2), by rw [r.len, r2.len]; simp [ezD, enumD_len, zipD]⟩
  yld := fun i G H as st v H' x R hs hp hl _ hx y => by
    obtain ⟨T, U, u, w, rfl, hT, hU, rfl, y1, y2⟩ := y
    unfold ezD at hx
    rw [enumD_get] at hx
    obtain ⟨d, hd, rfl⟩ := Option.map_eq_some_iff.mp hx
    obtain ⟨x0, x1, h0, h1, rfl⟩ := zipD_get _ _ _ hd
    obtain ⟨u', e1, ru⟩ := r.get h0
    obtain ⟨w', e2, rw'⟩ := r2.get h1
    have e3 := y1 vs (sqT_H R (sqT_sub hs s))
    have e4 := y2 ws (sqT_H R (sqT_sub hs s2))
    rw [e1] at e3; cases e3
    rw [e2] at e4; cases e4
    obtain ⟨R1, X1⟩ := R.still (o := .tup [u, w]) hT
    obtain ⟨R2, X2⟩ := R1.still (o := .tup [.int (i : Nat), .ref T]) hU
    have rT : Rp g.K g.mg (upd G T (.tup [u, w])) as (.ref T) (.tup [x0, x1]) := .tup (.of upd_same) (.cons ((ru.mono hs hp).ext X1) (.cons ((rw'.mono hs hp).ext X1) .nil))
    refine ⟨_, R2, X1.trans X2, .tup (.of upd_same) (.cons ?_ (.cons (rT.ext X2) .nil))⟩
    rw [show ((0 + i : Nat) : Int) = (i : Int) by simp]
    exact .int _
def zipTT : D → D → Option (List D × List D)
  | .tup xs, .tup ys => some (xs, ys)
  | _, _ => none
def xenumZ (ma mb : XM D) : XM (List D × Option Nat) := xbind ma fun x => xbind mb fun y => fun _ st => match zipTT x y with
  | some (xs, ys) => .ok (ezD xs ys, none) st
  | none => .stuck
theorem ji_enumZ {elts : List Expr} {kk : Nat} {tpos p p2 pos2 : Pos} {ea eb : Expr} {ma mb : XM D} (hg : F.sc.names.lookup ("enumerate" : Str) = some .globalImplicit) (hm : g.mg "enumerate" = none) (hg2 : F.sc.names.lookup ("zip" : Str) = some .globalImplicit) (hm2 : g.mg "zip" = none) (ha : JE F ea ma) (hb : JE F eb mb)
    (hs : ∀ env, starEach [ea, eb] env = [(false, eval ea env), (false, eval eb env)] := by intro _; rfl) (hs2 : ∀ env, starEach [eb] env = [(false, eval eb env)] := by intro _; rfl)
    (hs3 : ∀ env, starEach [.Call (.Name "zip" p2) [ea, eb] [] pos2] env = [(false, eval (.Call (.Name "zip" p2) [ea, eb] [] pos2) env)] := by intro _; rfl) :
    JI F (.Tuple elts kk tpos) (.Call (.Name "enumerate" p) [.Call (.Name "zip" p2) [ea, eb] [] pos2] [] pos) (xenumZ ma mb) := by
  obtain ⟨t, p', s⟩ := ha
  obtain ⟨t2, p2', s2⟩ := hb
  refine ⟨fun W => iEnumZ g.K (tCons (t W) (tCons (t2 W) tNil)), fun W X m => by
    have := pi_enumZ (elts := elts) (kk := kk) (tpos := tpos) (p := p) (p2 := p2) (pos2 := pos2) (pos := pos) (X := X) (by show X.env.scope.names.lookup _ = _; rw [F.hsc m]; exact hg) (by rw [F.hmg m]; exact hm) (by show X.env.scope.names.lookup _ = _; rw [F.hsc m]; exact hg2) (by rw [F.hmg m]; exact hm2) (pa_cons (p' W X m) (pa_cons (p2' W X m) pa_nil (hs2 _)) (by rw [hs, hs2])) (hs3 _) (by rw [hs, hs2]) (by rw [hs2]; rfl)
    rw [F.hK m] at this; exact this, ?_⟩
  intro W G H as st σ e R' R N h
  refine s W G H as st σ e _ R N ?_
  unfold xenumZ xbind at h
  cases q : ma e st with
  | stuck => rw [q] at h; exact h
  | exc c p st1 => rw [q] at h; exact h
  | ok x st1 =>
    simp only [q] at h
    intro v G1 H1 as1 R1 X1 rv
    refine s2 W G1 H1 as1 st1 σ e _ R1 (N.ext X1) ?_
    cases q2 : mb e st1 with
    | stuck => simp only [q2] at h; exact h
    | exc c p st2 =>
      simp only [q2] at h
      exact fun cls d G2 H2 as2 R2 X2 x2 => h cls d G2 H2 as2 R2 (X1.trans X2) x2
    | ok y st2 =>
      simp only [q2] at h
      intro w G2 H2 as2 R2 X2 rw'
      cases x with
      | tup xs =>
        cases y with
        | tup ys =>
          cases rv.ext X2 with
          | tup s1 r1 => cases rw' with
            | tup s2 r2 => exact ⟨_, _, _, _, rfl, sqT_H R2 s1, sqT_H R2 s2, h.2 _ G2 H2 as2 R2 (X1.trans X2) (yl_enumZ s1 s2 r1 r2)⟩
        | _ => exact h.elim
      | _ => exact h.elim
end
end LS
end
section
set_option maxRecDepth 100000
set_option maxHeartbeats 2000000
namespace LS
open PySem PySem.Spec L2
section
variable {g : Gb} {F : Fam g} {pos : Pos}
/-- a, b, c = x, y, z -/
def spar3 (i j l : Nat) (ma mb mc : XM D) : SM := sbind ma fun x => sbind mb fun y => sbind mc fun z => fun e st => .nx (((e.set i (some x)).set j (some y)).set l (some z)) st
theorem js_par3 (i j l : Nat) {x y z : Str} {a b c : Expr} {ma mb mc : XM D} {px py pz pt : Pos} {kt k2 pt2} (hi : F.N[i]? = some x) (hj : F.N[j]? = some y) (hl : F.N[l]? = some z) (hij : i ≠ j) (hil : i ≠ l) (hjl : j ≠ l) (hx : F.sc.names.lookup x = some .local) (hy : F.sc.names.lookup y = some .local) (hz : F.sc.names.lookup z = some .local)
    (ha : JE F a ma) (hb : JE F b mb) (hc : JE F c mc) (hw : ∀ W X, F.mem W X → swappedStores [.Tuple [.Name x px, .Name y py, .Name z pz] kt pt] (.Tuple [a, b, c] k2 pt2) X.env = pure (some [x, y, z]))
    (he : ∀ env, starEach [a, b, c] env = (false, eval a env) :: starEach [b, c] env := by intro _; rfl) (he2 : ∀ env, starEach [b, c] env = (false, eval b env) :: starEach [c] env := by intro _; rfl) (he3 : ∀ env, starEach [c] env = (false, eval c env) :: starEach [] env := by intro _; rfl)
    (hs : ∀ env, swapsWithSole [.Tuple [.Name x px, .Name y py, .Name z pz] kt pt] (.Tuple [a, b, c] k2 pt2) pos.line env = pure false := by intro _; rfl) :
    JS F (.Assign [.Tuple [.Name x px, .Name y py, .Name z pz] kt pt] (.Tuple [a, b, c] k2 pt2) pos) (spar3 i j l ma mb mc) := by
  obtain ⟨ta, pa, sa⟩ := ha
  obtain ⟨tb, pb, sb⟩ := hb
  obtain ⟨tc, pc, sc⟩ := hc
  refine ⟨fun W => tPar3 i j l (tCons (ta W) (tCons (tb W) (tCons (tc W) tNil))), fun W X m => ps_par3 (F.calm m) (by rw [F.hN m]; exact F.nd) (by rw [F.hN m]; exact hi) (by rw [F.hN m]; exact hj) (by rw [F.hN m]; exact hl) hij hil hjl (by rw [F.hsc m]; exact hx) (by rw [F.hsc m]; exact hy) (by rw [F.hsc m]; exact hz)
    (pa_cons (pa W X m) (pa_cons (pb W X m) (pa_cons (pc W X m) pa_nil (he3 _)) (he2 _)) (he _)) (hw W X m) (hs _), ?_⟩
  intro W G H as st σ e E R N h
  refine sa.oneS R N h fun x st1 v G1 H1 as1 R1 X1 N1 rv h1 => ?_
  refine sb.oneS R1 N1 h1 fun y st2 w G2 H2 as2 R2 X2 N2 rw' h2 => ?_
  refine sc.oneS R2 N2 h2 fun z st3 u G3 H3 as3 R3 X3 N3 ru h3 => ?_
  exact ⟨v, w, u, rfl, h3 _ G3 H3 as3 R3 (((N3.set i ((rv.ext X2).ext X3)).set j (rw'.ext X3)).set l ru) Ext.refl⟩
/-- a def whose promise is empty (the last turn of a recursion) -/
theorem fn_stuck {g : Gb} {st : Stmt} {x nm : Str} {N ps : List Str} {k : Nat} {f : Addr} {fd : FuncData} (hx : g.mg x = some (.ref f)) (D0 : FunD g.K nm nm (defArgs st) (defBody st) (defScope st) [] [] f fd) (S : FnScope N ps (defScope st))
    (hb : ∀ (kV doc pm : Value) (an : Option Addr) (cdv ct : Value) (us : List Value), us.length = ps.length → bindArgs (PySem.W.fnOf nm nm (defArgs st) (defBody st) (defScope st) .none kV doc pm an cdv ct) ⟨us, []⟩ = pure (ps.zip us)) : Fn g st x nm ps (k + 1) (fun _ _ => .stuck) := by
  refine ⟨f, fd, hx, D0, D0.bindsN hb, ?_⟩
  refine D0.ok S (fun vs H Q E h => ?_) (fun cdv A outer s H vs Q E hr h => ?_)
  · obtain ⟨G, as, st', ds, hl, R, r, q⟩ := h
    exact q.elim
  · obtain ⟨G, as, st', ds, hl, R, r, q⟩ := h
    exact q.elim
theorem outD_hout {g : Gb} : ∀ (G H G1 H1 : Hp) (as as1 : List Addr) (st1 : Store) (n : Nat) (W : WX) (σ : L2.St) (d : D) (v : V) (Q : VK), Ri g.K g.mg G1 H1 as1 st1 → Ext G H as G1 H1 as1 → as.length = n → Rp g.K g.mg G1 as1 v d → PX g.K g.mg W G H as σ (outD n d st1) Q → Q v H1 :=
  fun _ _ _ _ _ _ _ _ _ _ _ _ _ R X hn r h => outD_ok R X hn r h
theorem outM_hout {g : Gb} : ∀ (G H G1 H1 : Hp) (as as1 : List Addr) (st1 : Store) (n : Nat) (W : WX) (σ : L2.St) (d : D) (v : V) (Q : VK), Ri g.K g.mg G1 H1 as1 st1 → Ext G H as G1 H1 as1 → as.length = n → Rp g.K g.mg G1 as1 v d → PX g.K g.mg W G H as σ (outM n d st1) Q → Q v H1 :=
  fun _ _ _ _ _ _ _ _ _ _ _ _ _ R X hn r h => outM_ok R X hn r h
/-- the end of a law: what its def promises, world by world -/
theorem walk_w {l : PySem.W.OpenLaw} {n k : Nat} {q : Program} {loose : List Str} {XP : (Str → Option Value) → Heap → Prop} {YP : World → Heap → Prop} {d : DefRec} {x : Str}
    (hn : l.most = some n) (hn2 : n ≤ sizeLine) (hdf : d.params.defaults = []) (hr : Room k callerA)
    (F : ∀ (w : World) (mg : Str → Option Value) (fa : Addr) (h : Heap), YP w h → h.Ns mainGlobals mg → mg d.name = some (.ref fa) → ∃ (K : PySem.W.Frag) (fd : FuncData) (f : DF), K.In h ∧ (∀ (s : Shared) (u : Value), BindsTo s fd ⟨[u], []⟩ [(x, u)]) ∧
      (∀ ns : List Int, ns.length ≤ n → f [] [.sq (ns.map D.int)] = .ok (.bl true) []) ∧ ∀ base : Heap, K.In base → base.Ns mainGlobals mg → FnOk l.prog w K mg base (L2.CX l.prog w) k fa fd [x] (spS ⟨l.prog, w, K, mg, base⟩ 1 f)) :
    PySem.W.WalkO q loose XP YP l.row.toRowW d [] (fun f vs => PySem.call f vs) := by
  refine Att.attach_call hn hdf ?_
  intro w t0 t1 mg mb fa o pm cd doc a vs ns G Y ho hd hcd hmg hobj hints hlen hg
  obtain ⟨K, fd, f, KX, hb, hsp, hF⟩ := F w mg fa _ Y G.T.g hmg
  refine law_call (CX := L2.CX l.prog w) (sp := spS ⟨l.prog, w, K, mg, t1.heap⟩ 1 f) KX G.T.g G.T.b G.T.builtins G.T.nolimit hg hobj hints (Nat.le_trans hlen hn2) hr (fun base h1 h2 => hF base h1 h2) hb ?_ ?_
  · intro H hO hS
    refine ⟨H, [], [], [.sq (ns.map D.int)], rfl, ⟨fun _ _ h => h, rfl, .nil, fun _ h => (by cases h), fun i a o h => (by simp at h)⟩, .cons (.sq hS (RpA.of_ints ns)) .nil, ?_⟩
    rw [hsp ns hlen]
    intro v G' H' as' _ _ rv
    cases rv; rfl
  · rintro H e s' ⟨_, _, _, _, _, _, _, _, _, _, _, _, z⟩
    exact z
end
end LS
end
section
set_option maxRecDepth 100000
set_option maxHeartbeats 2000000
namespace LS
open PySem PySem.Spec L2

/-! # plain laws about mirrors -/
def iD (ns : List Int) : List D := ns.map D.int
@[simp] theorem iD_nil : iD [] = [] := rfl
@[simp] theorem iD_cons (n : Int) (r : List Int) : iD (n :: r) = .int n :: iD r := rfl
theorem iD_app (a b : List Int) : iD (a ++ b) = iD a ++ iD b := by simp [iD]
@[simp] theorem iD_len (ns : List Int) : (iD ns).length = ns.length := by simp [iD]
@[simp] theorem iD_get (ns : List Int) (i : Nat) : (iD ns)[i]? = ns[i]?.map D.int := by simp [iD]
theorem iD_snoc (a : List Int) (n : Int) : iD a ++ [.int n] = iD (a ++ [n]) := by simp [iD]
@[simp] theorem refsBs_iD (n : Nat) : ∀ ns : List Int, refsBs n (iD ns) = true
  | [] => rfl
  | _ :: r => by simp [refsBs, refsB, refsBs_iD n r]
@[simp] theorem pyDs_iD : ∀ ns : List Int, pyDs (iD ns) = some (ns.map PyData.int)
  | [] => rfl
  | _ :: r => by simp [pyDs, pyD, pyDs_iD r]
theorem intsOf_iD : ∀ ns : List Int, intsOf (iD ns) = some ns
  | [] => rfl
  | _ :: r => by simp [intsOf, intsOf_iD r]
theorem blsOf_bls : ∀ bs : List Bool, blsOf (bs.map D.bl) = some bs
  | [] => rfl
  | _ :: r => by simp [blsOf, blsOf_bls r]
@[simp] theorem eqvAll_int : ∀ a b : List Int, PyData.eqvAll (a.map PyData.int) (b.map PyData.int) = decide (a = b)
  | [], [] => by simp [PyData.eqvAll]
  | [], _ :: _ => by simp [PyData.eqvAll]
  | _ :: _, [] => by simp [PyData.eqvAll]
  | x :: a, y :: b => by
    simp [PyData.eqvAll, PyData.eqv, eqvAll_int a b]
    by_cases h : x = y <;> simp [h]
theorem canLayAll_int : ∀ a : List Int, PyData.canLayAll0 (a.map PyData.int) = true
  | [] => by simp [PyData.canLayAll0]
  | _ :: r => by simp [PyData.canLayAll0, PyData.canLay0, canLayAll_int r]
theorem depthAll_int : ∀ a : List Int, PyData.depthAll (a.map PyData.int) = 0
  | [] => by simp [PyData.depthAll]
  | _ :: r => by simp [PyData.depthAll, PyData.depth, depthAll_int r]
@[simp] theorem shaped_int (i : Int) : SeqAt.shaped (.int i) = true := by simp [SeqAt.shaped, PyData.canLay0, PyData.depth]
@[simp] theorem shaped_bool (i : Bool) : SeqAt.shaped (.bool i) = true := by simp [SeqAt.shaped, PyData.canLay0, PyData.depth]
@[simp] theorem shaped_none : SeqAt.shaped .none = true := by simp [SeqAt.shaped, PyData.canLay0, PyData.depth]
@[simp] theorem shaped_tint (a : List Int) : SeqAt.shaped (.tuple (a.map PyData.int)) = true := by simp [SeqAt.shaped, PyData.canLay0, PyData.depth, canLayAll_int, depthAll_int]
@[simp] theorem shaped_lint (a : List Int) : SeqAt.shaped (.list (a.map PyData.int)) = true := by simp [SeqAt.shaped, PyData.canLay0, PyData.depth, canLayAll_int, depthAll_int]
@[simp] theorem eqO_int (st : Store) (a b : Int) : eqO st (.int a) (.int b) = some (decide (a = b)) := by
  simp [eqO, pyOf, pyD, PyData.eqv]
  by_cases h : a = b <;> simp [h]
@[simp] theorem eqO_bl (st : Store) (a b : Bool) : eqO st (.bl a) (.bl b) = some (a == b) := by simp [eqO, pyOf, pyD, PyData.eqv]
@[simp] theorem eqO_tiD (st : Store) (a b : List Int) : eqO st (.tup (iD a)) (.tup (iD b)) = some (decide (a = b)) := by simp [eqO, pyOf, pyD, PyData.eqv]
@[simp] theorem eqO_lints (st : Store) (a b : List Int) : eqO st (.lst (iD a)) (.lst (iD b)) = some (decide (a = b)) := by simp [eqO, pyOf, pyD, PyData.eqv]
theorem atI_nat {α : Type} (xs : List α) (k : Nat) : atI xs (k : Int) = xs[k]? := by
  unfold atI ixN
  by_cases h : k < xs.length
  · simp [h]
  · simp [h]
theorem atI_nn {α : Type} (xs : List α) {i : Int} (h : 0 ≤ i) : atI xs i = xs[i.toNat]? := by
  have := atI_nat xs i.toNat
  rw [Int.toNat_of_nonneg h] at this
  exact this
theorem atI_last {α : Type} (xs : List α) (x : α) : atI (xs ++ [x]) (-1) = some x := by
  unfold atI ixN
  rw [if_neg (by omega), if_pos (by simp; omega)]
  simp
  have : ((-1 : Int) + ((xs.length : Int) + 1)).toNat = xs.length := by omega
  rw [this]; simp
theorem ixN_nn {n : Nat} {k : Nat} (h : k < n) : ixN n (k : Int) = some k := by
  unfold ixN
  rw [if_pos (by omega), if_pos (by omega)]; simp

mutual
theorem refsB_mono {n k : Nat} (h : n ≤ k) : ∀ {d : D}, refsB n d = true → refsB k d = true
  | .non, _ => rfl
  | .bl _, _ => rfl
  | .int _, _ => rfl
  | .str _, _ => rfl
  | .ty _, _ => rfl
  | .glo _, _ => rfl
  | .tup xs, q => by simpa [refsB] using refsBs_mono h (d := xs) (by simpa [refsB] using q)
  | .lst xs, q => by simpa [refsB] using refsBs_mono h (d := xs) (by simpa [refsB] using q)
  | .sq xs, q => by simpa [refsB] using refsBs_mono h (d := xs) (by simpa [refsB] using q)
  | .tpz xs, q => by simpa [refsB] using refsBs_mono h (d := xs) (by simpa [refsB] using q)
  | .ref i, q => by simp [refsB] at q ⊢; omega
theorem refsBs_mono {n k : Nat} (h : n ≤ k) : ∀ {d : List D}, refsBs n d = true → refsBs k d = true
  | [], _ => rfl
  | x :: r, q => by
    have q' : refsB n x = true ∧ refsBs n r = true := by simpa [refsBs] using q
    simp [refsBs, refsB_mono h q'.1, refsBs_mono h q'.2]
end
/-! ## calls -/
mutual
theorem mapR_free {ix : List Nat} {N : Nat} : ∀ {d : D}, refsB 0 d = true → mapR ix N d = d
  | .non, _ => rfl
  | .bl _, _ => rfl
  | .int _, _ => rfl
  | .str _, _ => rfl
  | .ty _, _ => rfl
  | .glo _, _ => rfl
  | .tup xs, h => by rw [mapR, mapRs_free (d := xs) (by simpa [refsB] using h)]
  | .lst xs, h => by rw [mapR, mapRs_free (d := xs) (by simpa [refsB] using h)]
  | .sq xs, h => by rw [mapR, mapRs_free (d := xs) (by simpa [refsB] using h)]
  | .tpz xs, h => by rw [mapR, mapRs_free (d := xs) (by simpa [refsB] using h)]
  | .ref i, h => by simp [refsB] at h
theorem mapRs_free {ix : List Nat} {N : Nat} : ∀ {d : List D}, refsBs 0 d = true → mapRs ix N d = d
  | [], _ => rfl
  | x :: r, h => by
    have h' : refsB 0 x = true ∧ refsBs 0 r = true := by simpa [refsBs] using h
    rw [mapRs, mapR_free h'.1, mapRs_free h'.2]
end
theorem argG_free : ∀ {ds : List D}, refsBs 0 ds = true → ds.all argG = true
  | [], _ => rfl
  | x :: r, h => by
    have h' : refsB 0 x = true ∧ refsBs 0 r = true := by simpa [refsBs] using h
    have : argG x = true := by cases x <;> first | exact h'.1 | rfl
    simp [this, argG_free h'.2]
theorem loc_free (ix : List Nat) : ∀ {ds : List D}, refsIn ds = [] → ds.map (locG ix) = ds
  | [], _ => rfl
  | x :: r, h => by
    cases x <;> simp_all [refsIn] <;> exact ⟨rfl, loc_free ix (by assumption)⟩
theorem callOk0 {ds : List D} {st : Store} (hi : refsIn ds = []) (hb : refsBs 0 ds = true) : callOk ds st = true := by
  unfold callOk
  rw [hi, argG_free hb]; rfl
theorem callD0N {f : DF} {ds : List D} {r : D} {e : Nv} {st nw : Store} (hi : refsIn ds = []) (hb : refsBs 0 ds = true) (h : f [] ds = .ok r nw) (hm : nw.all (moB 0) = true) : callD f ds e st = .ok (mapR [] st.length r) (st ++ nw) := by
  unfold callD
  rw [if_pos (callOk0 hi hb), hi, loc_free [] hi]
  show backD [] st (f [] ds) = _
  rw [h]
  simp [backD, hm, putS]
theorem callD0 {f : DF} {ds : List D} {r : D} {e : Nv} {st : Store} (hi : refsIn ds = []) (hb : refsBs 0 ds = true) (h : f [] ds = .ok r []) (hr : refsB 0 r = true) : callD f ds e st = .ok r st := by
  rw [callD0N hi hb h rfl, mapR_free hr]; simp
theorem callDM {f : DF} {ds : List D} {m : MO} {e : Nv} {st : Store} (hi : refsIn ds = []) (hb : refsBs 0 ds = true) (h : f [] ds = .ok (.ref 0) [m]) (hm : moB 0 m = true) : callD f ds e st = .ok (.ref st.length) (st ++ [m]) := by
  rw [callD0N hi hb h (by simp [hm])]; simp [mapR]
def loc1 : D → D
  | .ref _ => .ref 0
  | d => d
theorem loc_one (i : Nat) : ∀ {ds : List D}, (∀ j, D.ref j ∈ ds → j = i) → ds.map (locG [i]) = ds.map loc1
  | [], _ => rfl
  | x :: r, h => by
    have ih := loc_one i (ds := r) fun j hj => h j (by simp [hj])
    rw [List.map_cons, List.map_cons, ih]
    congr 1
    cases x with
    | ref j => rw [h j (by simp)]; simp [locG, loc1]
    | _ => rfl
/-- one moving object is handed -/
theorem callD1N {f : DF} {ds : List D} {i : Nat} {m m' : MO} {r : D} {e : Nv} {st nw : Store} (hi : refsIn ds = [i]) (hb : ds.all argG = true) (hm : st[i]? = some m) (bm : moB 0 m = true) (h : f [m] (ds.map loc1) = .ok r (m' :: nw)) (bm' : moB 0 m' = true) (bn : nw.all (moB 0) = true) : callD f ds e st = .ok (mapR [i] st.length r) (st.set i m' ++ nw) := by
  have hl : i < st.length := (List.getElem?_eq_some_iff.mp hm).1
  have hp : pickS st [i] = [m] := by simp [pickS, List.getD_eq_getElem?_getD, hm]
  have ok : callOk ds st = true := by
    unfold callOk
    rw [hi, hb, hp]
    simp [hl, bm]
  unfold callD
  rw [if_pos ok, hi, hp, loc_one i fun j hj => by have := refsIn_mem hj; rw [hi] at this; simpa using this]
  rw [h]
  simp [backD, bm', bn, putS]
theorem callD1 {f : DF} {ds : List D} {i : Nat} {m m' : MO} {r : D} {e : Nv} {st : Store} (hi : refsIn ds = [i]) (hb : ds.all argG = true) (hm : st[i]? = some m) (bm : moB 0 m = true) (h : f [m] (ds.map loc1) = .ok r [m']) (bm' : moB 0 m' = true) (hr : refsB 0 r = true) : callD f ds e st = .ok r (st.set i m') := by
  rw [callD1N hi hb hm bm h bm' rfl, mapR_free hr]; simp

/-! ## loops -/
theorem sloop_nil {src : Option Nat} {items : List D} {gt : MG} {body : SM} {e : Nv} {st : Store} (hs : srcOk src items st = true) : sloop src items gt body [] e st = .nx e st := by simp [sloop, hs]
theorem sloop_cons {src : Option Nat} {items r : List D} {gt : MG} {body : SM} {x : D} {e e1 e2 : Nv} {st st1 st2 : Store} (hs : srcOk src items st = true) (h1 : gt x e st = some (e1, st1)) (h2 : body e1 st1 = .nx e2 st2) : sloop src items gt body (x :: r) e st = sloop src items gt body r e2 st2 := by
  simp [sloop, hs, h1, h2]
theorem sloop_rt {src : Option Nat} {items r : List D} {gt : MG} {body : SM} {x : D} {e e1 : Nv} {st st1 st2 : Store} {d : D} (hs : srcOk src items st = true) (h1 : gt x e st = some (e1, st1)) (h2 : body e1 st1 = .rt d st2) : sloop src items gt body (x :: r) e st = .rt d st2 := by
  simp [sloop, hs, h1, h2]
theorem sloop_inv {src : Option Nat} {items : List D} {gt : MG} {body : SM} (Inv : Nv → Store → Prop) (hs : ∀ e st, Inv e st → srcOk src items st = true) : ∀ (l : List D) (step : ∀ x ∈ l, ∀ e st, Inv e st → ∃ e1 st1, gt x e st = some (e1, st1) ∧ ∃ e2 st2, (body e1 st1 = .nx e2 st2 ∨ body e1 st1 = .ct e2 st2) ∧ Inv e2 st2) (e : Nv) (st : Store), Inv e st → ∃ e' st', sloop src items gt body l e st = .nx e' st' ∧ Inv e' st'
  | [], _, e, st, I => ⟨e, st, by simp [sloop, hs e st I], I⟩
  | x :: r, step, e, st, I => by
    obtain ⟨e1, st1, h1, e2, st2, h2, I2⟩ := step x (by simp) e st I
    obtain ⟨e3, st3, h3, I3⟩ := sloop_inv Inv hs r (fun y hy => step y (by simp [hy])) e2 st2 I2
    refine ⟨e3, st3, ?_, I3⟩
    unfold sloop
    rw [if_pos (hs e st I), h1]
    rcases h2 with h2 | h2 <;> simp [h2, h3]
theorem cloop_pure {src : Option Nat} {items : List D} {gt : MG} {mt : XM Bool} {me : XM D} {e : Nv} {st : Store} (c : D → Bool) (f : D → D) (hs : srcOk src items st = true) : ∀ (l acc : List D), (∀ x ∈ l, ∃ e1, gt x e st = some (e1, st) ∧ mt e1 st = .ok (c x) st ∧ (c x = true → me e1 st = .ok (f x) st)) → acc.length + l.length ≤ LIM →
    cloop src items gt mt me e l acc st = .ok (acc ++ (l.filter c).map f) st
  | [], acc, _, _ => by simp [cloop, hs]
  | x :: r, acc, h, hl => by
    obtain ⟨e1, h1, h2, h3⟩ := h x (by simp)
    have hl' : acc.length + (r.length + 1) ≤ LIM := by simpa using hl
    unfold cloop
    rw [if_pos hs, h1]
    cases hc : c x with
    | false =>
      simp only [h2, hc]
      rw [cloop_pure c f hs r acc (fun y hy => h y (by simp [hy])) (by omega)]
      simp [hc]
    | true =>
      simp only [h2, hc, h3 hc]
      rw [if_pos (by omega), cloop_pure c f hs r (acc ++ [f x]) (fun y hy => h y (by simp [hy])) (by simp; omega)]
      simp [hc]
theorem cloop_inv {src : Option Nat} {items : List D} {gt : MG} {mt : XM Bool} {me : XM D} {e : Nv} (Inv : Store → Prop) (P : D → Prop) (hs : ∀ st, Inv st → srcOk src items st = true) : ∀ (l acc : List D) (st : Store), (∀ x ∈ l, ∀ st, Inv st → ∃ e1, gt x e st = some (e1, st) ∧ mt e1 st = .ok true st ∧ ∃ d st2, me e1 st = .ok d st2 ∧ P d ∧ Inv st2) → Inv st → acc.length + l.length ≤ LIM →
    ∃ ds st', cloop src items gt mt me e l acc st = .ok (acc ++ ds) st' ∧ ds.length = l.length ∧ (∀ d ∈ ds, P d) ∧ Inv st'
  | [], acc, st, _, I, _ => ⟨[], st, by simp [cloop, hs st I], rfl, by simp, I⟩
  | x :: r, acc, st, h, I, hl => by
    obtain ⟨e1, h1, h2, d, st2, h3, p, I2⟩ := h x (by simp) st I
    have hl' : acc.length + (r.length + 1) ≤ LIM := by simpa using hl
    obtain ⟨ds, st', q, hlen, hp, I'⟩ := cloop_inv Inv P hs r (acc ++ [d]) st2 (fun y hy => h y (by simp [hy])) I2 (by simp; omega)
    refine ⟨d :: ds, st', ?_, by simp [hlen], ?_, I'⟩
    · unfold cloop
      rw [if_pos (hs st I), h1]
      simp only [h2, h3]
      rw [if_pos (by omega), q]
      simp
    · intro y hy
      rcases List.mem_cons.mp hy with rfl | hy
      · exact p
      · exact hp y hy
@[simp] theorem filter_yes {α : Type} (l : List α) : l.filter (fun _ => true) = l := by induction l <;> simp_all
@[simp] theorem filter_no {α : Type} (l : List α) : l.filter (fun _ => false) = [] := by induction l <;> simp_all
theorem rangeL_len (lo : Int) (n : Nat) : (rangeL lo n).length = n := by simp [rangeL]
theorem mem_rangeL {lo : Int} {n : Nat} {x : D} (h : x ∈ rangeL lo n) : ∃ i : Nat, i < n ∧ x = .int (lo + (i : Int)) := by
  unfold rangeL at h
  obtain ⟨i, hi, e⟩ := List.mem_map.mp h
  exact ⟨i, by simpa using hi, e.symm⟩
/-- data that can be held against each other: plain, not deep, not long -/
def okD : Nat → D → Bool
  | 0, _ => false
  | n + 1, x => match x with
    | .non => true
    | .bl _ => true
    | .int _ => true
    | .str s => decide (s.cps.all (· < 0x110000) = true)
    | .tup xs => decide (xs.length ≤ LIM) && xs.all (okD n)
    | .lst xs => decide (xs.length ≤ LIM) && xs.all (okD n)
    | _ => false
theorem okD_int (n : Nat) (i : Int) : okD (n + 1) (.int i) = true := rfl
theorem okD_bl (n : Nat) (i : Bool) : okD (n + 1) (.bl i) = true := rfl
theorem okD_non (n : Nat) : okD (n + 1) .non = true := rfl
theorem okD_tup {n : Nat} {xs : List D} (h : xs.length ≤ LIM) (h2 : xs.all (okD n) = true) : okD (n + 1) (.tup xs) = true := by simp only [okD, h, h2]; rfl
theorem okD_lst {n : Nat} {xs : List D} (h : xs.length ≤ LIM) (h2 : xs.all (okD n) = true) : okD (n + 1) (.lst xs) = true := by simp only [okD, h, h2]; rfl
theorem okD_cons {n : Nat} {x : D} {xs : List D} (h : okD n x = true) (h2 : xs.all (okD n) = true) : (x :: xs).all (okD n) = true := by simp [h, h2]
theorem okD_nil {n : Nat} : ([] : List D).all (okD n) = true := rfl
theorem okD_iD (n : Nat) (ns : List Int) : (iD ns).all (okD (n + 1)) = true := by
  rw [List.all_eq_true]
  intro x hx
  unfold iD at hx
  obtain ⟨i, _, rfl⟩ := List.mem_map.mp hx
  rfl
theorem refsB_okD : ∀ (n : Nat) (x : D), okD n x = true → refsB 0 x = true
  | 0, _, h => by simp [okD] at h
  | n + 1, x, h => by
    have all : ∀ xs : List D, xs.all (okD n) = true → refsBs 0 xs = true := by
      intro xs
      induction xs with
      | nil => intro _; rfl
      | cons y r ih =>
        intro q
        have q' : okD n y = true ∧ r.all (okD n) = true := by simpa using q
        simp [refsBs, refsB_okD n y q'.1, ih q'.2]
    cases x <;> simp_all [okD, refsB]
end LS
end
section
set_option maxRecDepth 100000
set_option maxHeartbeats 2000000
namespace LS
open PySem PySem.Spec L2
section
variable {α β : Type} {e : Nv} {st : Store}
@[simp] theorem ap_pure (a : α) : xpure a e st = .ok a st := rfl
@[simp] theorem ap_bind (m : XM α) (f : α → XM β) : xbind m f e st = match m e st with | .ok a st' => f a e st' | .exc c p st' => .exc c p st' | .stuck => .stuck := rfl
@[simp] theorem ap_var (i : Nat) : xvar i e st = match e[i]? with | some (some d) => .ok d st | _ => .stuck := rfl
@[simp] theorem ap_cons (m : XM D) (ms : XM (List D)) : xcons m ms e st = xbind m (fun x => xbind ms fun xs => xpure (x :: xs)) e st := rfl
@[simp] theorem ap_tup (ms : XM (List D)) : xtup ms e st = match ms e st with | .ok xs st' => if xs.length ≤ LIM then .ok (.tup xs) st' else .stuck | .exc c p st' => .exc c p st' | .stuck => .stuck := by
  unfold xtup xbind
  cases ms e st <;> rfl
@[simp] theorem ap_lst (ms : XM (List D)) : xlst ms e st = match ms e st with | .ok xs st' => if xs.length ≤ LIM then .ok (.lst xs) st' else .stuck | .exc c p st' => .exc c p st' | .stuck => .stuck := by
  unfold xlst xbind
  cases ms e st <;> rfl
@[simp] theorem ap_lstM (ms : XM (List D)) : xlstM ms e st = match ms e st with | .ok xs st' => if xs.length ≤ LIM then .ok (.ref st'.length) (st' ++ [.lst xs]) else .stuck | .exc c p st' => .exc c p st' | .stuck => .stuck := by
  unfold xlstM xbind
  cases ms e st <;> rfl
@[simp] theorem ap_op (f : D → D → XM D) (a b : XM D) : xop f a b e st = xbind a (fun x => xbind b fun y => f x y) e st := rfl
@[simp] theorem ap_bool (m : XM D) : xbool m e st = match m e st with | .ok (.bl b) st' => .ok b st' | .ok _ _ => .stuck | .exc c p st' => .exc c p st' | .stuck => .stuck := by
  unfold xbool xbind
  cases m e st with
  | ok d st' => cases d <;> rfl
  | _ => rfl
@[simp] theorem ap_chain (f f' : D → D → XM D) (a b c : XM D) : xchain f f' a b c e st = xbind a (fun x => xbind b fun y => xbind (f x y) fun z => match z with | .bl true => xbind c fun w => f' y w | .bl false => xpure (.bl false) | _ => fun _ _ => .stuck) e st := rfl
@[simp] theorem tru_bl (b : Bool) : truD st (.bl b) = some b := rfl
@[simp] theorem tru_non : truD st .non = some false := rfl
@[simp] theorem tru_int (i : Int) : truD st (.int i) = some (i != 0) := rfl
@[simp] theorem tru_tup (xs : List D) : truD st (.tup xs) = some (!xs.isEmpty) := rfl
@[simp] theorem tru_lst (xs : List D) : truD st (.lst xs) = some (!xs.isEmpty) := rfl
@[simp] theorem ap_tru (m : XM D) : xtru m e st = match m e st with | .ok d st' => (match truD st' d with | some b => .ok b st' | none => .stuck) | .exc c p st' => .exc c p st' | .stuck => .stuck := by
  unfold xtru xbind
  cases m e st <;> rfl
@[simp] theorem ap_tnot (m : XM Bool) : tnot m e st = match m e st with | .ok b st' => .ok (!b) st' | .exc c p st' => .exc c p st' | .stuck => .stuck := by
  unfold tnot xbind
  cases m e st <;> rfl
@[simp] theorem ap_tand (m n : XM Bool) : tand m n e st = match m e st with | .ok true st' => n e st' | .ok false st' => .ok false st' | .exc c p st' => .exc c p st' | .stuck => .stuck := by
  unfold tand xbind
  cases m e st with
  | ok d st' => cases d <;> rfl
  | _ => rfl
@[simp] theorem ap_tor (m n : XM Bool) : tor m n e st = match m e st with | .ok true st' => .ok true st' | .ok false st' => n e st' | .exc c p st' => .exc c p st' | .stuck => .stuck := by
  unfold tor xbind
  cases m e st with
  | ok d st' => cases d <;> rfl
  | _ => rfl
@[simp] theorem ap_and (m n : XM D) : xand m n e st = match m e st with | .ok d st' => (match truD st' d with | some true => n e st' | some false => .ok d st' | none => .stuck) | .exc c p st' => .exc c p st' | .stuck => .stuck := by
  unfold xand xbind
  cases m e st <;> rfl
@[simp] theorem ap_or (m n : XM D) : xor' m n e st = match m e st with | .ok d st' => (match truD st' d with | some false => n e st' | some true => .ok d st' | none => .stuck) | .exc c p st' => .exc c p st' | .stuck => .stuck := by
  unfold xor' xbind
  cases m e st <;> rfl
@[simp] theorem ap_not (m : XM D) : xnot m e st = match m e st with | .ok d st' => (match truD st' d with | some b => .ok (.bl (!b)) st' | none => .stuck) | .exc c p st' => .exc c p st' | .stuck => .stuck := by
  unfold xnot xbind
  cases m e st <;> rfl
@[simp] theorem ap_if (c : XM Bool) (m n : XM D) : xif c m n e st = match c e st with | .ok true st' => m e st' | .ok false st' => n e st' | .exc c p st' => .exc c p st' | .stuck => .stuck := by
  unfold xif xbind
  cases c e st with
  | ok d st' => cases d <;> rfl
  | _ => rfl
@[simp] theorem ap_neg (m : XM D) : xneg m e st = match m e st with | .ok (.int i) st' => .ok (.int (-i)) st' | .ok _ _ => .stuck | .exc c p st' => .exc c p st' | .stuck => .stuck := by
  unfold xneg xbind
  cases m e st with
  | ok d st' => cases d <;> rfl
  | _ => rfl
@[simp] theorem add_int (i j : Int) : addD (.int i) (.int j) e st = .ok (.int (i + j)) st := rfl
@[simp] theorem add_lst (xs ys : List D) : addD (.lst xs) (.lst ys) e st = if xs.length + ys.length ≤ LIM then .ok (.lst (xs ++ ys)) st else .stuck := rfl
@[simp] theorem add_sq (xs ys : List D) : addD (.sq xs) (.lst ys) e st = .stuck := rfl
@[simp] theorem add_tup (xs ys : List D) : addD (.tup xs) (.tup ys) e st = if xs.length + ys.length ≤ LIM then .ok (.tup (xs ++ ys)) st else .stuck := rfl
@[simp] theorem i2_int (c : Int → Int → Bool) (f : Int → Int → D) (i j : Int) : i2 c f (.int i) (.int j) e st = if c i j = true then .ok (f i j) st else .stuck := rfl
@[simp] theorem eq_ap (x y : D) : eqD x y e st = match eqO st x y with | some b => .ok (.bl b) st | none => .stuck := rfl
@[simp] theorem ne_ap (x y : D) : neD x y e st = match eqO st x y with | some b => .ok (.bl (!b)) st | none => .stuck := rfl
@[simp] theorem lt_int (i j : Int) : ltD (.int i) (.int j) e st = .ok (.bl (decide (i < j))) st := rfl
@[simp] theorem is_ap (x : D) : isD x .non e st = .ok (.bl (isN x)) st := rfl
@[simp] theorem isnt_ap (x : D) : isntD x .non e st = .ok (.bl (!isN x)) st := rfl
@[simp] theorem isN_non : isN .non = true := rfl
@[simp] theorem isN_int (i : Int) : isN (.int i) = false := rfl
@[simp] theorem isN_bl (i : Bool) : isN (.bl i) = false := rfl
@[simp] theorem isN_str (i : Str) : isN (.str i) = false := rfl
@[simp] theorem isN_tup (i : List D) : isN (.tup i) = false := rfl
@[simp] theorem isN_lst (i : List D) : isN (.lst i) = false := rfl
@[simp] theorem ix_tup (xs : List D) (i : Int) : ixD (.tup xs) (.int i) e st = match atI xs i with | some d => .ok d st | none => .stuck := rfl
@[simp] theorem ix_lst (xs : List D) (i : Int) : ixD (.lst xs) (.int i) e st = match atI xs i with | some d => .ok d st | none => .stuck := rfl
@[simp] theorem ix_sq (xs : List D) (i : Int) : ixD (.sq xs) (.int i) e st = match atI xs i with | some d => .ok d st | none => .stuck := rfl
theorem ix_ref (k : Nat) (xs : List D) (i : Int) (h : st[k]? = some (.lst xs)) : ixD (.ref k) (.int i) e st = match atI xs i with | some d => .ok d st | none => .stuck := by
  unfold ixD
  simp only [seqOf, lstOf, h] <;> rfl
@[simp] theorem ix_ref0 (xs : List D) (i : Int) (r : Store) : ixD (.ref 0) (.int i) e (.lst xs :: r) = match atI xs i with | some d => .ok d (.lst xs :: r) | none => .stuck := ix_ref 0 xs i rfl
@[simp] theorem ix_ref1 (m : MO) (xs : List D) (i : Int) (r : Store) : ixD (.ref 1) (.int i) e (m :: .lst xs :: r) = match atI xs i with | some d => .ok d (m :: .lst xs :: r) | none => .stuck := ix_ref 1 xs i rfl
@[simp] theorem ap_part (m : XM D) : xpart m e st = match m e st with | .ok (.int i) st' => .ok (some i) st' | .ok _ _ => .stuck | .exc c p st' => .exc c p st' | .stuck => .stuck := by
  unfold xpart xbind
  cases m e st with
  | ok d st' => cases d <;> rfl
  | _ => rfl
@[simp] theorem ap_slice (m : XM D) (a b : XM (Option Int)) : xslice m a b e st = xbind m (fun x => xbind a fun l => xbind b fun h => slD x l h) e st := rfl
@[simp] theorem sl_tup (xs : List D) (a b : Option Int) : slD (.tup xs) a b e st = .ok (.tup (cutD xs a b)) st := rfl
@[simp] theorem sl_sq (xs : List D) (a b : Option Int) : slD (.sq xs) a b e st = .ok (.lst (cutD xs a b)) st := rfl
@[simp] theorem sl_lst (xs : List D) (a b : Option Int) : slD (.lst xs) a b e st = .ok (.lst (cutD xs a b)) st := rfl
@[simp] theorem ap_call (f : List D → XM D) (ms : XM (List D)) : xcall f ms e st = match ms e st with | .ok a st' => f a e st' | .exc c p st' => .exc c p st' | .stuck => .stuck := by
  unfold xcall xbind
  cases ms e st <;> rfl
@[simp] theorem f1_ap (f : D → XM D) (x : D) : f1 f [x] = f x := rfl
@[simp] theorem f2_ap (f : D → D → XM D) (x y : D) : f2 f [x, y] = f x y := rfl
@[simp] theorem len_tup (xs : List D) : lenD (.tup xs) e st = .ok (.int xs.length) st := rfl
@[simp] theorem len_lst (xs : List D) : lenD (.lst xs) e st = .ok (.int xs.length) st := rfl
@[simp] theorem len_sq (xs : List D) : lenD (.sq xs) e st = .ok (.int xs.length) st := rfl
@[simp] theorem abs_int (i : Int) : absD (.int i) e st = .ok (.int i.natAbs) st := rfl
@[simp] theorem int_int (i : Int) : intD (.int i) e st = .ok (.int i) st := rfl
@[simp] theorem max2_int (i j : Int) : max2D (.int i) (.int j) e st = .ok (.int (max i j)) st := rfl
@[simp] theorem min2_int (i j : Int) : min2D (.int i) (.int j) e st = .ok (.int (min i j)) st := rfl
@[simp] theorem dm_int (i j : Int) : divmodD (.int i) (.int j) e st = if 0 < j ∧ j < 1073741824 then .ok (.tup [.int (i / j), .int (i % j)]) st else .stuck := rfl
@[simp] theorem sum_tup (ns : List Int) : sumD (.tup (iD ns)) e st = .ok (.int ns.sum) st := by simp [intsD, seqOf, intsOf_iD]
@[simp] theorem sum_lst (ns : List Int) : sumD (.lst (iD ns)) e st = .ok (.int ns.sum) st := by simp [intsD, seqOf, lstOf, intsOf_iD]
theorem all_bls {e : Nv} {st : Store} (bs : List Bool) : allD (.lst (bs.map D.bl)) e st = .ok (.bl (bs.all id)) st := by simp [blsD, lstOf, blsOf_bls]
theorem any_bls {e : Nv} {st : Store} (bs : List Bool) : anyD (.lst (bs.map D.bl)) e st = .ok (.bl (bs.any id)) st := by simp [blsD, lstOf, blsOf_bls]
@[simp] theorem list_tup (xs : List D) : listD (.tup xs) e st = .ok (.lst xs) st := rfl
@[simp] theorem list_lst (xs : List D) : listD (.lst xs) e st = .ok (.lst xs) st := rfl
@[simp] theorem tuple_lst (xs : List D) : tupleD (.lst xs) e st = .ok (.tup xs) st := rfl
@[simp] theorem tuple_tup (xs : List D) : tupleD (.tup xs) e st = .ok (.tup xs) st := rfl
@[simp] theorem tuple_ref0 (xs : List D) (r : Store) : tupleD (.ref 0) e (.lst xs :: r) = .ok (.tup xs) (.lst xs :: r) := rfl
@[simp] theorem tuple_ref1 (m : MO) (xs : List D) (r : Store) : tupleD (.ref 1) e (m :: .lst xs :: r) = .ok (.tup xs) (m :: .lst xs :: r) := rfl
@[simp] theorem isi_ap (x : D) (n : String) : isiD x (.ty n) e st = match isiO x n with | some b => (if refOk st x = true then .ok (.bl b) st else .stuck) | none => .stuck := rfl
@[simp] theorem isi2_ap (x : D) (n1 n2 : String) : isi2D n1 n2 x e st = match isiO x n1, isiO x n2 with | some a, some b => (if refOk st x = true then .ok (.bl (a || b)) st else .stuck) | _, _ => .stuck := rfl
@[simp] theorem ro_int (i : Int) : refOk st (.int i) = true := rfl
@[simp] theorem ro_bl (i : Bool) : refOk st (.bl i) = true := rfl
@[simp] theorem ro_str (i : Str) : refOk st (.str i) = true := rfl
@[simp] theorem ro_non : refOk st .non = true := rfl
@[simp] theorem ro_tup (i : List D) : refOk st (.tup i) = true := rfl
@[simp] theorem ro_lst (i : List D) : refOk st (.lst i) = true := rfl
@[simp] theorem ro_sq (i : List D) : refOk st (.sq i) = true := rfl
theorem isi_of {x : D} {a n : String} (h : tyNm x = some a) (k : knownTy n = true) : isiO x n = some (isiB a n) := by unfold isiO; rw [h]; simp [k]
@[simp] theorem ii_ii (i : Int) : isiO (.int i) "int" = some true := isi_of (a := "int") rfl (by decide)
@[simp] theorem ii_ib (i : Int) : isiO (.int i) "bool" = some false := isi_of (a := "int") rfl (by decide)
@[simp] theorem ii_is (i : Int) : isiO (.int i) "str" = some false := isi_of (a := "int") rfl (by decide)
@[simp] theorem ii_it (i : Int) : isiO (.int i) "tuple" = some false := isi_of (a := "int") rfl (by decide)
@[simp] theorem ii_il (i : Int) : isiO (.int i) "list" = some false := isi_of (a := "int") rfl (by decide)
@[simp] theorem ii_id (i : Int) : isiO (.int i) "dict" = some false := isi_of (a := "int") rfl (by decide)
@[simp] theorem ii_bi (i : Bool) : isiO (.bl i) "int" = some true := by decide +revert
@[simp] theorem ii_bb (i : Bool) : isiO (.bl i) "bool" = some true := by decide +revert
@[simp] theorem ii_bs (i : Bool) : isiO (.bl i) "str" = some false := by decide +revert
@[simp] theorem ii_bt (i : Bool) : isiO (.bl i) "tuple" = some false := by decide +revert
@[simp] theorem ii_bL (i : Bool) : isiO (.bl i) "list" = some false := by decide +revert
@[simp] theorem ii_ni : isiO .non "int" = some false := by decide
@[simp] theorem ii_nb : isiO .non "bool" = some false := by decide
@[simp] theorem ii_ns : isiO .non "str" = some false := by decide
@[simp] theorem ii_nt : isiO .non "tuple" = some false := by decide
@[simp] theorem ii_nl : isiO .non "list" = some false := by decide
@[simp] theorem ii_si (i : Str) : isiO (.str i) "int" = some false := isi_of (a := "str") rfl (by decide)
@[simp] theorem ii_sb (i : Str) : isiO (.str i) "bool" = some false := isi_of (a := "str") rfl (by decide)
@[simp] theorem ii_ss (i : Str) : isiO (.str i) "str" = some true := isi_of (a := "str") rfl (by decide)
@[simp] theorem ii_st (i : Str) : isiO (.str i) "tuple" = some false := isi_of (a := "str") rfl (by decide)
@[simp] theorem ii_sl (i : Str) : isiO (.str i) "list" = some false := isi_of (a := "str") rfl (by decide)
@[simp] theorem ii_ti (i : List D) : isiO (.tup i) "int" = some false := isi_of (a := "tuple") rfl (by decide)
@[simp] theorem ii_tb (i : List D) : isiO (.tup i) "bool" = some false := isi_of (a := "tuple") rfl (by decide)
@[simp] theorem ii_ts (i : List D) : isiO (.tup i) "str" = some false := isi_of (a := "tuple") rfl (by decide)
@[simp] theorem ii_tt (i : List D) : isiO (.tup i) "tuple" = some true := isi_of (a := "tuple") rfl (by decide)
@[simp] theorem ii_tl (i : List D) : isiO (.tup i) "list" = some false := isi_of (a := "tuple") rfl (by decide)
@[simp] theorem ii_li (i : List D) : isiO (.lst i) "int" = some false := isi_of (a := "list") rfl (by decide)
@[simp] theorem ii_lb (i : List D) : isiO (.lst i) "bool" = some false := isi_of (a := "list") rfl (by decide)
@[simp] theorem ii_ls (i : List D) : isiO (.lst i) "str" = some false := isi_of (a := "list") rfl (by decide)
@[simp] theorem ii_lt (i : List D) : isiO (.lst i) "tuple" = some false := isi_of (a := "list") rfl (by decide)
@[simp] theorem ii_ll (i : List D) : isiO (.lst i) "list" = some true := isi_of (a := "list") rfl (by decide)
/-! statements -/
@[simp] theorem ap_next : snext e st = .nx e st := rfl
@[simp] theorem ap_seq (m n : SM) : sseq m n e st = match m e st with | .nx e' st' => n e' st' | r => r := rfl
theorem seq_nx {m n : SM} {e' : Nv} {st' : Store} (h : m e st = .nx e' st') : sseq m n e st = n e' st' := by rw [ap_seq, h]
theorem seq_rt {m n : SM} {d : D} {st' : Store} (h : m e st = .rt d st') : sseq m n e st = .rt d st' := by rw [ap_seq, h]
@[simp] theorem ap_sbind (m : XM D) (f : D → SM) : sbind m f e st = match m e st with | .ok d st' => f d e st' | .exc c p st' => .exc c p e st' | .stuck => .stuck := rfl
@[simp] theorem ap_drop (m : XM D) : sdrop m e st = match m e st with | .ok d st' => .nx e st' | .exc c p st' => .exc c p e st' | .stuck => .stuck := rfl
@[simp] theorem ap_ret (m : XM D) : sret m e st = match m e st with | .ok d st' => .rt d st' | .exc c p st' => .exc c p e st' | .stuck => .stuck := rfl
@[simp] theorem ap_retN : sretN e st = .rt .non st := rfl
@[simp] theorem ap_sif (c : XM Bool) (m n : SM) : sif c m n e st = match c e st with | .ok true st' => m e st' | .ok false st' => n e st' | .exc c p st' => .exc c p e st' | .stuck => .stuck := by
  unfold sif sbindB
  cases c e st with
  | ok d st' => cases d <;> rfl
  | _ => rfl
@[simp] theorem ap_set (i : Nat) (m : XM D) : sset i m e st = match m e st with | .ok d st' => .nx (e.set i (some d)) st' | .exc c p st' => .exc c p e st' | .stuck => .stuck := rfl
@[simp] theorem ap_asg (m : XM D) (g : MG) : sasg m g e st = match m e st with | .ok d st' => (match g d e st' with | some (e', st'') => .nx e' st'' | none => .stuck) | .exc c p st' => .exc c p e st' | .stuck => .stuck := by
  unfold sasg sbind
  cases m e st <;> rfl
@[simp] theorem ap_par2 (i j : Nat) (a b : XM D) : spar2 i j a b e st = sbind a (fun x => sbind b fun y => fun e st => .nx ((e.set i (some x)).set j (some y)) st) e st := rfl
@[simp] theorem ap_par3 (i j l : Nat) (a b c : XM D) : spar3 i j l a b c e st = sbind a (fun x => sbind b fun y => sbind c fun z => fun e st => .nx (((e.set i (some x)).set j (some y)).set l (some z)) st) e st := rfl
@[simp] theorem ap_gname (i : Nat) (x : D) : gname i x e st = some (e.set i (some x), st) := rfl
@[simp] theorem ap_gtup (n : Nat) (ms : MGs) (xs : List D) : gtup n ms (.tup xs) e st = if xs.length = n then ms xs e st else none := rfl
@[simp] theorem ap_gcons (m : MG) (ms : MGs) (x : D) (r : List D) : gcons m ms (x :: r) e st = match m x e st with | some (e', st') => ms r e' st' | none => none := rfl
@[simp] theorem ap_gnil : gnil [] e st = some (e, st) := rfl
@[simp] theorem ap_for (mi : XM (List D × Option Nat)) (g : MG) (b : SM) : sfor mi g b e st = match mi e st with | .ok (xs, src) st1 => sloop src xs g b xs e st1 | .exc c p st' => .exc c p e st' | .stuck => .stuck := rfl
@[simp] theorem isLst_0 (xs : List D) (r : Store) : isLst (.lst xs :: r) 0 = true := rfl
@[simp] theorem isLst_1 (m : MO) (xs : List D) (r : Store) : isLst (m :: .lst xs :: r) 1 = true := rfl
@[simp] theorem ap_append (mo me : XM D) : xappend mo me e st = match mo e st with | .ok (.ref k) st1 => (if isLst st1 k = true then (match me e st1 with | .ok x st2 => (match st2[k]? with | some (.lst xs) => if xs.length < LIM then .ok .non (st2.set k (.lst (xs ++ [x]))) else .stuck | _ => .stuck) | .exc c p st' => .exc c p st' | .stuck => .stuck) else .stuck) | .ok _ _ => .stuck | .exc c p st' => .exc c p st' | .stuck => .stuck := by
  unfold xappend xbind
  cases mo e st with
  | ok d st' =>
    cases d with
    | ref k => rfl
    | _ => rfl
  | _ => rfl
@[simp] theorem ap_gsub (mo mi : XM D) (x : D) : gsub mo mi x e st = match mo e st, mi e st with
  | .ok (.ref k) _, .ok (.int i) _ => (match st[k]? with
    | some (.lst xs) => (match ixN xs.length i with
      | some j => some (e, st.set k (.lst (xs.set j x)))
      | none => none)
    | _ => none)
  | _, _ => none := rfl
@[simp] theorem ap_walk (m : XM D) : xwalk m e st = match m e st with | .ok d st' => (match seqSrc st' d with | some r => .ok r st' | none => .stuck) | .exc c p st' => .exc c p st' | .stuck => .stuck := by
  unfold xwalk xbind
  cases m e st <;> rfl
@[simp] theorem src_tup (xs : List D) : seqSrc st (.tup xs) = some (xs, none) := rfl
@[simp] theorem src_lst (xs : List D) : seqSrc st (.lst xs) = some (xs, none) := rfl
@[simp] theorem src_sq (xs : List D) : seqSrc st (.sq xs) = some (xs, none) := rfl
def rngB (j : Int) : Bool := decide (-(2 ^ 62) ≤ j ∧ j < 2 ^ 62)
theorem rngB_of {j : Int} (h0 : -1000000 ≤ j) (h1 : j ≤ 1000000) : rngB j = true := by
  unfold rngB
  exact decide_eq_true ⟨by omega, by omega⟩
theorem rngB_nat {n : Nat} (h : n ≤ LIM) : rngB (n : Int) = true := rngB_of (by omega) (by simp [LIM] at h; omega)
@[simp] theorem ap_range1 (m : XM D) : xrange1 m e st = match m e st with | .ok (.int j) st' => (if rngB j = true then .ok (rangeL 0 j.toNat, none) st' else .stuck) | .ok _ _ => .stuck | .exc c p st' => .exc c p st' | .stuck => .stuck := by
  unfold xrange1 xbind rngB
  cases m e st with
  | ok d st' =>
    cases d with
    | int j => simp only [decide_eq_true_eq]
    | _ => rfl
  | _ => rfl
@[simp] theorem ap_enum (m : XM D) : xenum m e st = match m e st with | .ok d st' => (match stillOf d with | some xs => .ok (enumD 0 xs, none) st' | none => .stuck) | .exc c p st' => .exc c p st' | .stuck => .stuck := by
  unfold xenum xbind
  cases m e st <;> rfl
@[simp] theorem still_tup (xs : List D) : stillOf (.tup xs) = some xs := rfl
@[simp] theorem still_lst (xs : List D) : stillOf (.lst xs) = some xs := rfl
@[simp] theorem ap_enumZ (ma mb : XM D) : xenumZ ma mb e st = xbind ma (fun x => xbind mb fun y => fun _ st => match zipTT x y with | some (xs, ys) => .ok (ezD xs ys, none) st | none => .stuck) e st := rfl
@[simp] theorem zipTT_tup (xs ys : List D) : zipTT (.tup xs) (.tup ys) = some (xs, ys) := rfl
@[simp] theorem ap_comp (mi : XM (List D × Option Nat)) (vs : List Nat) (g : MG) (mt : XM Bool) (me : XM D) : xcomp mi vs g mt me e st = match mi e st with
  | .ok (xs, src) st1 => (match cloop src xs g mt me (wipeE e vs) xs [] st1 with | .ok ds st2 => .ok (.lst ds) st2 | .exc c p st' => .exc c p st' | .stuck => .stuck)
  | .exc c p st' => .exc c p st' | .stuck => .stuck := by
  unfold xcomp xbind xcompL xpure
  cases mi e st with
  | ok r st' => obtain ⟨xs, src⟩ := r; simp only []; cases cloop src xs g mt me (wipeE e vs) xs [] st' <;> rfl
  | _ => rfl
@[simp] theorem ap_fn (n : Nat) (f : DF) (ms : XM (List D)) : xfn n f ms e st = match ms e st with | .ok ds st' => (if ds.length = n then callD f ds e st' else .stuck) | .exc c p st' => .exc c p st' | .stuck => .stuck := by
  unfold xfn xbind
  cases ms e st with
  | ok ds st' => simp only; split <;> rfl
  | _ => rfl
@[simp] theorem ap_fnK (n : Nat) (ix : List Nat) (l : Nat) (f : DF) (ms mk : XM (List D)) : xfnK n ix l f ms mk e st = match ms e st with | .ok ds st' => (match mk e st' with | .ok zs st2 => (if ds.length = n ∧ zs.length = l then callD f (pick .non (ds ++ zs) ix) e st2 else .stuck) | .exc c p st' => .exc c p st' | .stuck => .stuck) | .exc c p st' => .exc c p st' | .stuck => .stuck := by
  unfold xfnK xbind
  cases ms e st with
  | ok ds st' =>
    simp only
    cases mk e st' with
    | ok zs st2 => simp only; split <;> rfl
    | _ => rfl
  | _ => rfl
@[simp] theorem ap_wipe1 (v : Nat) : wipeE e [v] = e.set v none := rfl
@[simp] theorem ap_wipe2 (v w : Nat) : wipeE e [v, w] = (e.set w none).set v none := rfl
@[simp] theorem srcOk_none (xs : List D) : srcOk none xs st = true := rfl
@[simp] theorem stB_nil : stB 0 st = true := by simp [stB]
theorem sif_t {c : XM Bool} {m n : SM} {st' : Store} (h : c e st = .ok true st') : sif c m n e st = m e st' := by rw [ap_sif, h]
theorem sif_f {c : XM Bool} {m n : SM} {st' : Store} (h : c e st = .ok false st') : sif c m n e st = n e st' := by rw [ap_sif, h]
theorem ret_ok {m : XM D} {d : D} {st' : Store} (h : m e st = .ok d st') : sret m e st = .rt d st' := by rw [ap_ret, h]
theorem set_ok {m : XM D} {i : Nat} {d : D} {st' : Store} (h : m e st = .ok d st') : sset i m e st = .nx (e.set i (some d)) st' := by rw [ap_set, h]
theorem and_t {m n : XM D} {st' : Store} (h : m e st = .ok (.bl true) st') : xand m n e st = n e st' := by rw [ap_and, h]; rfl
theorem and_f {m n : XM D} {st' : Store} (h : m e st = .ok (.bl false) st') : xand m n e st = .ok (.bl false) st' := by rw [ap_and, h]; rfl
theorem or_t {m n : XM D} {st' : Store} (h : m e st = .ok (.bl true) st') : xor' m n e st = .ok (.bl true) st' := by rw [ap_or, h]; rfl
theorem or_f {m n : XM D} {st' : Store} (h : m e st = .ok (.bl false) st') : xor' m n e st = n e st' := by rw [ap_or, h]; rfl
theorem tor_t {m n : XM Bool} {st' : Store} (h : m e st = .ok true st') : tor m n e st = .ok true st' := by rw [ap_tor, h]
theorem tor_f {m n : XM Bool} {st' : Store} (h : m e st = .ok false st') : tor m n e st = n e st' := by rw [ap_tor, h]
theorem tand_t {m n : XM Bool} {st' : Store} (h : m e st = .ok true st') : tand m n e st = n e st' := by rw [ap_tand, h]
theorem tand_f {m n : XM Bool} {st' : Store} (h : m e st = .ok false st') : tand m n e st = .ok false st' := by rw [ap_tand, h]
theorem tnot_ok {m : XM Bool} {b : Bool} {st' : Store} (h : m e st = .ok b st') : tnot m e st = .ok (!b) st' := by rw [ap_tnot, h]
theorem tru_ok {m : XM D} {b : Bool} {st' : Store} (h : m e st = .ok (.bl b) st') : xtru m e st = .ok b st' := by rw [ap_tru, h]; rfl
theorem all_ok {m : XM D} {l : List Bool} {st' : Store} (h : m e st = .ok (.lst (l.map D.bl)) st') : xcall (f1 allD) (xcons m (xpure [])) e st = .ok (.bl (l.all id)) st' := by
  have h2 : xcons m (xpure []) e st = .ok [.lst (l.map D.bl)] st' := by rw [ap_cons, ap_bind, h]; rfl
  rw [ap_call, h2]
  exact all_bls (e := e) l
theorem any_ok {m : XM D} {l : List Bool} {st' : Store} (h : m e st = .ok (.lst (l.map D.bl)) st') : xcall (f1 anyD) (xcons m (xpure [])) e st = .ok (.bl (l.any id)) st' := by
  have h2 : xcons m (xpure []) e st = .ok [.lst (l.map D.bl)] st' := by rw [ap_cons, ap_bind, h]; rfl
  rw [ap_call, h2]
  exact any_bls (e := e) l
theorem all_yes {m : XM D} {n : Nat} {st' : Store} (h : m e st = .ok (.lst (List.replicate n (.bl true))) st') : xcall (f1 allD) (xcons m (xpure [])) e st = .ok (.bl true) st' := by
  have := all_ok (l := List.replicate n true) (by simpa using h)
  simpa using this
theorem any_no {m : XM D} {n : Nat} {st' : Store} (h : m e st = .ok (.lst (List.replicate n (.bl false))) st') : xcall (f1 anyD) (xcons m (xpure [])) e st = .ok (.bl false) st' := by
  have := any_ok (l := List.replicate n false) (by simpa using h)
  simpa using this
end
end LS
end
section
set_option maxRecDepth 100000
set_option maxHeartbeats 2000000
namespace LS
open PySem PySem.Spec L2

/-! ## dicts -/
def keyD : D → Option Key
  | .int i => some (.inl i)
  | .str s => some (.inr s)
  | _ => none
def getKD (kvs : List (Key × D)) (k : Key) : Option D := (kvs.find? fun kv => decide (kv.1 = k)).map (·.2)
def putKD (kvs : List (Key × D)) (k : Key) (v : D) : List (Key × D) :=
  if (kvs.any fun kv => decide (kv.1 = k)) = true then kvs.map (fun kv => if kv.1 = k then (kv.1, v) else kv) else kvs ++ [(k, v)]
def dctOf (st : Store) : D → Option (List (Key × D))
  | .ref i => match st[i]? with
    | some (.dct kvs) => some kvs
    | some (.lck kvs) => some kvs
    | _ => none
  | _ => none
section
variable {K : PySem.W.Frag} {mg : Str → Option Value} {G H : Hp} {as : List Addr} {st : Store}
theorem keyD_ok {v : V} {d : D} {k : Key} (r : Rp K mg G as v d) (h : keyD d = some k) : v = kV k := by
  cases r <;> cases h <;> rfl
theorem getKD_ok : ∀ {kvs : List (Key × V)} {kds : List (Key × D)} (k : Key), kvs.map (·.1) = kds.map (·.1) → RpA K mg G as (kvs.map (·.2)) (kds.map (·.2)) → (getKD kds k = none ∧ valV kvs k = none) ∨ ∃ d v, getKD kds k = some d ∧ valV kvs k = some v ∧ Rp K mg G as v d
  | [], [], k, _, _ => .inl ⟨rfl, rfl⟩
  | [], _ :: _, _, e, _ => by simp at e
  | _ :: _, [], _, e, _ => by simp at e
  | (k1, v) :: r, (k2, d) :: s, k, e, q => by
    have e' : k1 = k2 ∧ r.map (·.1) = s.map (·.1) := by simpa using e
    obtain ⟨rfl, e'⟩ := e'
    cases q with
    | cons q1 q2 =>
      by_cases h : k1 = k
      · exact .inr ⟨d, v, by simp [getKD, h], by simp [valV, h], q1⟩
      · have : getKD ((k1, d) :: s) k = getKD s k := by simp [getKD, List.find?_cons, h]
        have t2 : valV ((k1, v) :: r) k = valV r k := by simp [valV, List.find?_cons, h]
        rw [this, t2]
        exact getKD_ok k e' q2
theorem anyK_eq (k : Key) : ∀ {kvs : List (Key × V)} {kds : List (Key × D)}, kvs.map (·.1) = kds.map (·.1) → (kvs.any fun kv => decide (kv.1 = k)) = (kds.any fun kv => decide (kv.1 = k))
  | [], [], _ => rfl
  | [], _ :: _, e => by simp at e
  | _ :: _, [], e => by simp at e
  | (k1, v) :: r, (k2, d) :: s, e => by
    have e' : k1 = k2 ∧ r.map (·.1) = s.map (·.1) := by simpa using e
    simp [e'.1, anyK_eq k e'.2]
theorem putKD_ok {v : V} {d : D} (k : Key) (rv : Rp K mg G as v d) {kvs : List (Key × V)} {kds : List (Key × D)} (e : kvs.map (·.1) = kds.map (·.1)) (q : RpA K mg G as (kvs.map (·.2)) (kds.map (·.2))) : (putK kvs k v).map (·.1) = (putKD kds k d).map (·.1) ∧ RpA K mg G as ((putK kvs k v).map (·.2)) ((putKD kds k d).map (·.2)) := by
  unfold putK putKD
  rw [anyK_eq k e]
  split
  · rename_i hany
    clear hany
    induction kvs generalizing kds with
    | nil => cases kds with
      | nil => exact ⟨rfl, .nil⟩
      | cons _ _ => simp at e
    | cons p r ih => cases kds with
      | nil => simp at e
      | cons p2 s =>
        obtain ⟨k1, v1⟩ := p
        obtain ⟨k2, d2⟩ := p2
        have e' : k1 = k2 ∧ r.map (·.1) = s.map (·.1) := by simpa using e
        obtain ⟨rfl, e'⟩ := e'
        cases q with
        | cons q1 q2 =>
          obtain ⟨i1, i2⟩ := ih e' q2
          by_cases h : k1 = k
          · exact ⟨by simpa [h] using i1, by simpa [h] using RpA.cons rv i2⟩
          · exact ⟨by simpa [h] using i1, by simpa [h] using RpA.cons q1 i2⟩
  · exact ⟨by simp [e], by simpa using q.append (.cons rv .nil)⟩
theorem dctOf_ok (R : Ri K mg G H as st) {v : V} {d : D} {kds : List (Key × D)} (r : Rp K mg G as v d) (h : dctOf st d = some kds) : ∃ a kvs, v = .ref a ∧ Rd H a (.dK kvs) ∧ kvs.map (·.1) = kds.map (·.1) ∧ RpA K mg G as (kvs.map (·.2)) (kds.map (·.2)) := by
  cases r with
  | ref q =>
    rename_i a i
    unfold dctOf at h
    cases hs : st[i]? with
    | none => simp [hs] at h
    | some m =>
      obtain ⟨ho, e1, oo⟩ := R.at_ q hs
      cases m with
      | lst _ => simp [hs] at h
      | dct kvs =>
        simp only [hs, Option.some.injEq] at h
        subst h
        cases oo with | dct e r => exact ⟨a, _, rfl, .inl e1, e, r⟩
      | lck kvs =>
        simp only [hs, Option.some.injEq] at h
        subst h
        cases oo with | lck e r => exact ⟨a, _, rfl, .inr ⟨_, e1⟩, e, r⟩
  | _ => cases h
end
section
variable {g : Gb} {F : Fam g} {pos : Pos}
/-- {} -/
def xdnew : XM D := fun _ st => .ok (.ref st.length) (st ++ [.dct []])
theorem je_dnew : JE F (.Dict [] [] pos) xdnew := by
  refine ⟨fun _ => tDNewK, fun _ _ _ => pe_dnewK, ?_⟩
  intro W G H as st σ e Q R N h p hp
  obtain ⟨R', X'⟩ := R.moving (o := .dK []) (m := .dct []) hp (.dct rfl .nil)
  exact h _ G _ _ R' X' (.ref (by rw [← R.len, List.getElem?_append_right (Nat.le_refl _), Nat.sub_self]; rfl))
/-- d[k] -/
def dgetD (x y : D) : XM D := fun _ st => match dctOf st x, keyD y with
  | some kvs, some k => (match getKD kvs k with
    | some d => .ok d st
    | none => .stuck)
  | _, _ => .stuck
theorem je_dget {a b : Expr} {ma mb : XM D} (ha : JE F a ma) (hb : JE F b mb) (hs : NoSl b := by intro _ _; rfl) : JE F (.Subscript a b pos) (xop dgetD ma mb) := by
  obtain ⟨ta, pa, sa⟩ := ha
  obtain ⟨tb, pb, sb⟩ := hb
  refine ⟨fun W => tDGet (ta W) (tb W), fun W X m => pe_dget (by have := (F.room m).units; omega) (pa W X m) (pb W X m) hs, ?_⟩
  intro W G H as st σ e Q R N h
  refine sa.one R N h fun x st1 v G1 H1 as1 R1 X1 N1 rv h1 => ?_
  refine sb.one R1 N1 h1 fun y st2 w G2 H2 as2 R2 X2 N2 rw' h2 => ?_
  unfold dgetD at h2
  cases q1 : dctOf st2 x with
  | none => simp [q1] at h2; exact h2.elim
  | some kds =>
    cases q2 : keyD y with
    | none => simp [q1, q2] at h2; exact h2.elim
    | some k =>
      simp only [q1, q2] at h2
      obtain ⟨a, kvs, rfl, hd, ek, rr⟩ := dctOf_ok R2 (rv.ext X2) q1
      have ew := keyD_ok rw' q2
      rcases getKD_ok k ek rr with ⟨e1, _⟩ | ⟨d, u, e1, e2, ru⟩
      · simp [e1] at h2; exact h2.elim
      · simp only [e1] at h2
        exact ⟨a, u, rfl, .inl ⟨kvs, k, hd, ew, e2.symm⟩, h2 _ G2 H2 as2 R2 Ext.refl ru⟩
/-- d.get(k, x) -/
def xdget2 (mo mk md : XM D) : XM D := xbind mo fun x => fun e st => if (dctOf st x).isSome = true then xbind mk (fun y => xbind md fun z => fun _ st => match dctOf st x, keyD y with
  | some kvs, some k => .ok ((getKD kvs k).getD z) st
  | _, _ => .stuck) e st else .stuck
theorem je_dget2 {o a b : Expr} {mo mk md : XM D} {apos : Pos} (ho : JE F o mo) (ha : JE F a mk) (hb : JE F b md) (h1 : ∀ env, attributeBase o "get" env (eval o env) = eval o env := by intro _; rfl)
    (hfew : ∀ env, ((backTo pos (starEach [a, b] env)).all (fun x => !x.1) && (backToKw pos (keywordEach [] env)).all (fun x => x.1.isSome) && decide (([a, b] : List Expr).length + ([] : List Keyword).length + (if ([] : List Keyword).isEmpty then 0 else 1) < 30)) = true := by intro _; rfl)
    (h2 : (apos.endLine == pos.line) = true := by rfl) (ht : ∀ env, backTo pos (starEach [a, b] env) = [(false, eval a env), (false, eval b env)] := by intro _; rfl) : JE F (.Call (.Attribute o "get" apos) [a, b] [] pos) (xdget2 mo mk md) := by
  obtain ⟨to, po, so⟩ := ho
  obtain ⟨ta, pa, sa⟩ := ha
  obtain ⟨tb, pb, sb⟩ := hb
  refine ⟨fun W => tDGet2 (to W) (ta W) (tb W), fun W X m => pe_dget2 (by have := (F.room m).units; omega) (po W X m) (pa W X m) (pb W X m) ⟨h1 _, hfew _, h2, ht _⟩, ?_⟩
  intro W G H as st σ e Q R N h
  refine so.one R N h fun x st1 v G1 H1 as1 R1 X1 N1 rv h1 => ?_
  by_cases hx : (dctOf st1 x).isSome = true
  · rw [if_pos hx] at h1
    obtain ⟨kd0, hk0⟩ := Option.isSome_iff_exists.mp hx
    obtain ⟨a0, kv0, rfl, hd0, _, _⟩ := dctOf_ok R1 rv hk0
    refine ⟨a0, rfl, .inl ⟨kv0, hd0⟩, ?_⟩
    refine sa.one R1 N1 h1 fun y st2 w G2 H2 as2 R2 X2 N2 rw' h2 => ?_
    refine sb.one R2 N2 h2 fun z st3 u G3 H3 as3 R3 X3 N3 ru h3 => ?_
    cases q1 : dctOf st3 x with
    | none => simp [q1] at h3; exact h3.elim
    | some kds =>
      cases q2 : keyD y with
      | none => simp [q1, q2] at h3; exact h3.elim
      | some k =>
        simp only [q1, q2] at h3
        obtain ⟨a', kvs, e', hd, ek, rr⟩ := dctOf_ok R3 ((rv.ext X2).ext X3) q1
        cases e'
        have ew := keyD_ok rw' q2
        rcases getKD_ok k ek rr with ⟨e1, e2⟩ | ⟨d, u', e1, e2, ru'⟩
        · rw [e1] at h3
          exact ⟨none, .inl ⟨kvs, k, hd, ew, e2.symm⟩, h3 _ G3 H3 as3 R3 Ext.refl ru⟩
        · rw [e1] at h3
          exact ⟨some u', .inl ⟨kvs, k, hd, ew, e2.symm⟩, h3 _ G3 H3 as3 R3 Ext.refl ru'⟩
  · rw [if_neg hx] at h1; exact h1.elim
/-- d[k] = v -/
def sdput (mo mk mv : XM D) : SM := sbind mv fun v => sbind mo fun x => sbind mk fun y => fun e st => match x, keyD y with
  | .ref i, some k => (match st[i]? with
    | some (.dct kvs) => if kvs.length < LIM then .nx e (st.set i (.dct (putKD kvs k v))) else .stuck
    | _ => .stuck)
  | _, _ => .stuck
theorem js_dput {o i value : Expr} {mo mk mv : XM D} {pos' : Pos} (ho : JE F o mo) (hi : JE F i mk) (hv : JE F value mv) (hs : ∀ env, swapsWith value (some (.Subscript o i pos')) pos.line env = pure false := by intro _; rfl) : JS F (.Assign [.Subscript o i pos'] value pos) (sdput mo mk mv) := by
  obtain ⟨to, po, so⟩ := ho
  obtain ⟨ti, pi, si⟩ := hi
  obtain ⟨tv, pv, sv⟩ := hv
  refine ⟨fun W => sDPut (to W) (ti W) (tv W), fun W X m => ps_dput (by have := (F.room m).units; omega) (po W X m) (pi W X m) (pv W X m) (hs _), ?_⟩
  intro W G H as st σ e E R N h
  refine sv.oneS R N h fun d st1 v G1 H1 as1 R1 X1 N1 rv h1 => ?_
  refine so.oneS R1 N1 h1 fun x st2 w G2 H2 as2 R2 X2 N2 rw' h2 => ?_
  refine si.oneS R2 N2 h2 fun y st3 u G3 H3 as3 R3 X3 N3 ru h3 => ?_
  cases x with
  | ref k0 =>
    cases q2 : keyD y with
    | none => simp [q2] at h3; exact h3.elim
    | some k =>
      cases q3 : st3[k0]? with
      | none => simp [q2, q3] at h3; exact h3.elim
      | some mo' =>
        cases mo' with
        | dct kds =>
          simp only [q2, q3] at h3
          by_cases hl : kds.length < LIM
          · rw [if_pos hl] at h3
            have ew := keyD_ok ru q2
            cases rw'.ext X3 with
            | ref qa =>
              rename_i a
              obtain ⟨hob, e1, oo⟩ := R3.at_ qa q3
              cases oo with
              | dct ek rr =>
                rename_i kvs
                have hlen : kvs.length = kds.length := by simpa using congrArg List.length ek
                obtain ⟨pk, pr⟩ := putKD_ok k ((rv.ext X2).ext X3) ek rr
                obtain ⟨R4, X4⟩ := R3.change (o := .dK (putK kvs k v)) (m := .dct (putKD kds k d)) qa (.dct pk pr) (fun u kvs z => by rw [e1] at z; cases z)
                exact ⟨a, _, rfl, .inl ⟨kvs, k, e1, ew, by rw [hlen]; exact lim_lt hl, rfl⟩, h3 _ _ _ _ R4 (N3.ext X4) X4⟩
          · rw [if_neg hl] at h3; exact h3.elim
        | _ => simp [q2, q3] at h3; exact h3.elim
  | _ => exact h3.elim
/-- list(d): its keys -/
def kD : Key → D
  | .inl i => .int i
  | .inr s => .str s
theorem kD_rp {K : PySem.W.Frag} {mg : Str → Option Value} {G : Hp} {as : List Addr} (k : Key) : Rp K mg G as (kV k) (kD k) := by
  cases k with
  | inl i => exact .int i
  | inr s => exact .str s
theorem keys_rp {K : PySem.W.Frag} {mg : Str → Option Value} {G : Hp} {as : List Addr} : ∀ {kvs : List (Key × V)} {kds : List (Key × D)}, kvs.map (·.1) = kds.map (·.1) → RpA K mg G as (kvs.map fun kv => kV kv.1) (kds.map fun kv => kD kv.1)
  | [], [], _ => .nil
  | [], _ :: _, e => by simp at e
  | _ :: _, [], e => by simp at e
  | (k1, v) :: r, (k2, d) :: s, e => by
    have e' : k1 = k2 ∧ r.map (·.1) = s.map (·.1) := by simpa using e
    obtain ⟨rfl, e'⟩ := e'
    exact .cons (kD_rp k1) (keys_rp e')
def dlistD (x : D) : XM D := fun _ st => match dctOf st x with
  | some kvs => .ok (.lst (kvs.map fun kv => kD kv.1)) st
  | none => .stuck
theorem cs_dlist : CallS F (.type "list") (f1 dlistD) := by
  refine cs_1 (r := fun xs H Q => ∃ (a : Addr) (kvs : List (Key × V)), xs = [.ref a] ∧ Rd H a (.dK kvs) ∧ ∀ p, H p = none → Q (.ref p) (upd H p (.lst (kvs.map fun kv => kV kv.1)))) (fun W X m => call_listD (F.calm m)) ?_
  intro W G H as st σ e x v Q R rx h
  unfold dlistD at h
  cases q : dctOf st x with
  | none => simp [q] at h; exact h.elim
  | some kds =>
    simp only [q] at h
    obtain ⟨a, kvs, rfl, hd, ek, rr⟩ := dctOf_ok R rx q
    exact ⟨a, kvs, rfl, hd, fun p hp => PX.still R hp (.lst upd_same (keys_rp ek)) h⟩
end
end LS
end
section
set_option maxRecDepth 100000
set_option maxHeartbeats 2000000
namespace LS
open PySem PySem.Spec L2

/-! ## loops over dicts: the dict is locked while it is walked -/
section
variable {g : Gb} {F : Fam g} {pos : Pos}
def unlk (i : Nat) (kvs : List (Key × D)) : RS → RS
  | .nx e st => .nx e (st.set i (.dct kvs))
  | .bk e st => .bk e (st.set i (.dct kvs))
  | .ct e st => .ct e (st.set i (.dct kvs))
  | .rt d st => .rt d (st.set i (.dct kvs))
  | _ => .stuck
/-- the dict under the name in the slot j is locked while s runs -/
def slock (j : Nat) (m : SM) : SM := fun e st => match e[j]? with
  | some (some (.ref i)) => (match st[i]? with
    | some (.dct kvs) => unlk i kvs (m e (st.set i (.lck kvs)))
    | _ => .stuck)
  | _ => .stuck
theorem unlock_ok {K : PySem.W.Frag} {mg : Str → Option Value} {G H G2 H2 : Hp} {as as2 : List Addr} {st st2 : Store} {i : Nat} {a : Addr} {od : Obj} {kv : List (Key × V)} {kds : List (Key × D)} (R : Ri K mg G H as st) (ha : as[i]? = some a) (hd : H a = some (.dK kv)) (ek : kv.map (·.1) = kds.map (·.1)) (rr : RpA K mg G as (kv.map (·.2)) (kds.map (·.2)))
    (R2 : Ri K mg G2 H2 as2 st2) (X2 : Ext G (upd H a (.frz od (.dK kv))) as G2 H2 as2) : H2 a = some (.frz od (.dK kv)) ∧ Ri K mg G2 (upd H2 a (.dK kv)) as2 (st2.set i (.dct kds)) ∧ Ext G H as G2 (upd H2 a (.dK kv)) as2 := by
  have ha2 := pre_get X2.pre ha
  have hz := X2.lk a od kv upd_same
  have rr2 := rr.ext X2
  have hmem := List.mem_of_getElem? ha
  have ne : ∀ b o, H b = some o → b ∉ as → b ≠ a := fun b o _ n z => n (z ▸ hmem)
  -- the object put back, by hand: it was locked
  have x : Ext G H as G2 (upd H2 a (.dK kv)) as2 := by
    refine ⟨X2.sub, X2.pre, fun b o h n => ?_, fun b h h' => ?_, fun b m n => ?_, fun b h => ?_, fun b o kvs h => ?_⟩
    · rw [upd_ne (ne b o h n)]
      exact X2.keep b o (by rw [upd_ne (ne b o h n)]; exact h) n
    · refine X2.frG b h ?_
      by_cases z : b = a
      · subst z; rw [upd_same]; exact fun z => nomatch z
      · rw [upd_ne z]; exact h'
    · have := X2.frA b m n
      have z : b ≠ a := fun z => n (z ▸ hmem)
      rw [upd_ne z] at this; exact this
    · by_cases z : b = a
      · subst z; rw [upd_same]; exact fun z => nomatch z
      · rw [upd_ne z]; exact X2.dom b (by rw [upd_ne z]; exact h)
    · have z : b ≠ a := fun z => by subst z; rw [hd] at h; cases h
      rw [upd_ne z]
      exact X2.lk b o kvs (by rw [upd_ne z]; exact h)
  refine ⟨hz, ⟨fun b u h => ?_, by simp [R2.len], R2.nd, R2.out, fun k b u hb hu => ?_⟩, x⟩
  · have gn := R2.out a (List.mem_of_getElem? ha2)
    rw [upd_ne (ne_of_none h gn)]; exact R2.sub _ _ h
  · by_cases z : k = i
    · subst z
      rw [ha2] at hb; cases hb
      have hk : k < st2.length := by rw [← R2.len]; exact (List.getElem?_eq_some_iff.mp ha2).1
      rw [List.getElem?_set_self hk] at hu; cases hu
      exact ⟨_, upd_same, .dct ek rr2⟩
    · rw [List.getElem?_set_ne (Ne.symm z)] at hu
      obtain ⟨ho, q, r⟩ := R2.obj k b u hb hu
      refine ⟨ho, ?_, r⟩
      have : b ≠ a := fun z' => z (by
        subst z'
        obtain ⟨p1, p2⟩ := List.getElem?_eq_some_iff.mp hb
        obtain ⟨p3, p4⟩ := List.getElem?_eq_some_iff.mp ha2
        exact (List.getElem_inj R2.nd).mp (p2.trans p4.symm))
      rw [upd_ne this]; exact q
theorem js_lock (j : Nat) {s : Stmt} {m : SM} (h : JS F s m) : JS F s (slock j m) := by
  obtain ⟨t, p, ss⟩ := h
  refine ⟨fun W => tLock (t W), fun W X m => ps_lock (p W X m), ?_⟩
  intro W G H as st σ e E R N h
  unfold slock at h
  cases q1 : e[j]? with
  | none => simp [q1] at h; exact h.elim
  | some o1 =>
    cases o1 with
    | none => simp [q1] at h; exact h.elim
    | some d =>
      cases d with
      | ref i =>
        obtain ⟨v, _, rv⟩ := N.at_ j _ q1
        obtain ⟨a, rfl, qa⟩ : ∃ a, v = .ref a ∧ as[i]? = some a := by cases rv with | ref q => exact ⟨_, rfl, q⟩
        simp only [q1] at h
        cases q2 : st[i]? with
        | none => simp [q2] at h; exact h.elim
        | some mo =>
          cases mo with
          | dct kds =>
            simp only [q2] at h
            obtain ⟨hob, e1, oo⟩ := R.at_ qa q2
            cases oo with
            | dct ek rr =>
              rename_i kv
              refine ⟨a, .dK kv, e1, trivial, fun od => ?_⟩
              obtain ⟨R1, X1⟩ := R.change (o := .frz od (.dK kv)) (m := .lck kds) qa (.lck ek rr) (fun u kvs z => by rw [e1] at z; cases z)
              refine ss W G (upd H a (.frz od (.dK kv))) as (st.set i (.lck kds)) σ e _ R1 (N.ext X1) ?_
              cases q3 : m e (st.set i (.lck kds)) with
              | stuck => rw [q3] at h; exact h.elim
              | exc c p e2 st2 => rw [q3] at h; exact h.elim
              | nx e2 st2 =>
                rw [q3] at h
                intro σ2 G2 H2 as2 R2 N2 X2
                obtain ⟨h1, R3, X3⟩ := unlock_ok R qa e1 ek rr R2 X2
                exact ⟨h1, h σ2 G2 _ as2 R3 N2 X3⟩
              | bk e2 st2 =>
                rw [q3] at h
                intro σ2 G2 H2 as2 R2 N2 X2
                obtain ⟨h1, R3, X3⟩ := unlock_ok R qa e1 ek rr R2 X2
                exact ⟨h1, h σ2 G2 _ as2 R3 N2 X3⟩
              | ct e2 st2 =>
                rw [q3] at h
                intro σ2 G2 H2 as2 R2 N2 X2
                obtain ⟨h1, R3, X3⟩ := unlock_ok R qa e1 ek rr R2 X2
                exact ⟨h1, h σ2 G2 _ as2 R3 N2 X3⟩
              | rt d2 st2 =>
                rw [q3] at h
                intro v2 G2 H2 as2 R2 X2 rv2
                obtain ⟨h1, R3, X3⟩ := unlock_ok R qa e1 ek rr R2 X2
                exact ⟨h1, h v2 G2 _ as2 R3 X3 rv2⟩
          | _ => simp [q2] at h; exact h.elim
      | _ => simp [q1] at h; exact h.elim
/-- the pairs of a dict as they are given out -/
def itemsD (kds : List (Key × D)) : List D := kds.map fun kv => .tup [kD kv.1, kv.2]
theorem itemsD_get (kds : List (Key × D)) (i : Nat) : (itemsD kds)[i]? = kds[i]?.map fun kv => .tup [kD kv.1, kv.2] := by simp [itemsD]
theorem pair_at {K : PySem.W.Frag} {mg : Str → Option Value} {G : Hp} {as : List Addr} : ∀ {kvs : List (Key × V)} {kds : List (Key × D)} {i : Nat} {k : Key} {v : V}, kvs.map (·.1) = kds.map (·.1) → RpA K mg G as (kvs.map (·.2)) (kds.map (·.2)) → kvs[i]? = some (k, v) → ∃ d, kds[i]? = some (k, d) ∧ Rp K mg G as v d
  | [], _, _, _, _, _, _, h => by simp at h
  | _ :: _, [], _, _, _, e, _, _ => by simp at e
  | (k1, v1) :: r, (k2, d2) :: s, i, k, v, e, q, h => by
    have e' : k1 = k2 ∧ r.map (·.1) = s.map (·.1) := by simpa using e
    obtain ⟨rfl, e'⟩ := e'
    cases q with
    | cons q1 q2 =>
      cases i with
      | zero =>
        have h' : k1 = k ∧ v1 = v := by simpa using h
        obtain ⟨rfl, rfl⟩ := h'
        exact ⟨d2, rfl, q1⟩
      | succ i =>
        obtain ⟨d, h1, h2⟩ := pair_at (i := i) e' q2 (by simpa using h)
        exact ⟨d, by simpa using h1, h2⟩
theorem yl_items {G0 H0 : Hp} {as0 : List Addr} {a : Addr} {o : Obj} {kvs : List (Key × V)} {kds : List (Key × D)} (hd : H0 a = some (.frz o (.dK kvs))) (ek : kvs.map (·.1) = kds.map (·.1)) (rr : RpA g.K g.mg G0 as0 (kvs.map (·.2)) (kds.map (·.2))) : Yl g G0 H0 as0 none (itemsD kds) (Iti a o kvs) where
  go := fun i G H as st hi R hs hp hl _ => ⟨hl a o kvs hd, by
    have : kvs.length = kds.length := by simpa using congrArg List.length ek
    simpa [itemsD, this] using hi⟩
  stop := fun G H as st R hs hp hl _ => ⟨hl a o kvs hd, by
    have : kvs.length = kds.length := by simpa using congrArg List.length ek
    simp [itemsD, this]⟩
  yld := fun i G H as st v H' x R hs hp hl _ hx y => by
    obtain ⟨T, k, u, e1, rfl, hT, rfl⟩ := y
    obtain ⟨d, e2, ru⟩ := pair_at ek rr e1
    rw [itemsD_get, e2] at hx
    cases hx
    obtain ⟨R', X'⟩ := R.still (o := .tup [kV k, u]) hT
    exact ⟨_, R', X', .tup (.of upd_same) (.cons (kD_rp k) (.cons ((ru.mono hs hp).ext X') .nil))⟩
def xitems (m : XM D) : XM (List D × Option Nat) := xbind m fun x => fun _ st => match x with
  | .ref i => (match st[i]? with
    | some (.lck kds) => .ok (itemsD kds, none) st
    | _ => .stuck)
  | _ => .stuck
theorem ji_items {elts : List Expr} {kk : Nat} {tpos apos : Pos} {e : Expr} {m : XM D} (h : JE F e m) (hb : ∀ env, attributeBase e "items" env (eval e env) = eval e env := by intro _; rfl) (hline : (apos.endLine == pos.line) = true := by rfl) : JI F (.Tuple elts kk tpos) (.Call (.Attribute e "items" apos) [] [] pos) (xitems m) := by
  obtain ⟨t, p, s⟩ := h
  refine ⟨fun W => iItems (t W), fun W X m => pi_items (p W X m) (hb _) hline, ?_⟩
  intro W G H as st σ e R' R N h
  refine s W G H as st σ e _ R N ?_
  unfold xitems xbind at h
  cases q : m e st with
  | stuck => rw [q] at h; exact h
  | exc c p st1 => rw [q] at h; exact h
  | ok x st1 =>
    simp only [q] at h
    intro v G1 H1 as1 R1 X1 rv
    cases x with
    | ref i =>
      cases q2 : st1[i]? with
      | none => simp only [q2] at h; exact h.elim
      | some mo =>
        cases mo with
        | lck kds =>
          simp only [q2] at h
          obtain ⟨a, rfl, qa⟩ : ∃ a, v = .ref a ∧ as1[i]? = some a := by cases rv with | ref q => exact ⟨_, rfl, q⟩
          obtain ⟨hob, e1, oo⟩ := R1.at_ qa q2
          cases oo with
          | lck ek rr => exact ⟨a, _, _, rfl, e1, h.2 _ G1 H1 as1 R1 X1 (yl_items e1 ek rr)⟩
        | _ => simp only [q2] at h; exact h.elim
    | _ => exact h.elim
end
end LS
end
section
set_option maxRecDepth 100000
set_option maxHeartbeats 2000000
namespace LS
open PySem PySem.Spec L2

/-! ## *x in a display -/
section
variable {g : Gb} {F : Fam g} {pos : Pos}
def xstar (m : XM D) (ms : XM (List D)) : XM (List D) := xbind m fun x => fun e st => match seqOf st x with
  | some xs => (xbind ms fun ys => xpure (xs ++ ys)) e st
  | none => .stuck
theorem ja_star {ex : Expr} {es : List Expr} {p : Pos} {m : XM D} {ms : XM (List D)} (h : JE F ex m) (hs : JA F es ms) (hst : ∀ env, starEach (.Starred ex p :: es) env = (true, eval ex env) :: starEach es env := by intro _; rfl) : JA F (.Starred ex p :: es) (xstar m ms) := by
  obtain ⟨t, pp, s⟩ := h
  obtain ⟨ts, ps, ss⟩ := hs
  refine ⟨fun W => StX.tStar g.K (t W) (ts W), fun W X m => by have := StX.pa_star (p := p) (pp W X m) (ps W X m) (hst _); rw [F.hK m] at this; exact this, ?_⟩
  intro W G H as st σ e Q R N h
  refine s.oneA R N h fun x st1 v G1 H1 as1 R1 X1 N1 rv h1 => ?_
  cases q : seqOf st1 x with
  | none => simp only [q] at h1; exact h1.elim
  | some xs =>
    simp only [q] at h1
    obtain ⟨a, vs, rfl, s1, r1⟩ := seqOf_ok R1 rv q
    refine ⟨a, vs, rfl, s1.symm, ?_⟩
    refine ss.oneA R1 N1 h1 fun ys st2 ws G2 H2 as2 R2 X2 N2 rws h2 => ?_
    exact h2 _ _ _ _ R2 Ext.refl ((r1.ext X2).append rws)

/-! ## two fors in a comprehension -/
def cloop2 (src : Option Nat) (items : List D) (gt : MG) (mt : XM Bool) (mi1 : XM (List D × Option Nat)) (vs1 : List Nat) (gt1 : MG) (mt1 : XM Bool) (me : XM D) (e : Nv) : List D → List D → Store → RX (List D)
  | [], acc, st => if srcOk src items st = true then .ok acc st else .stuck
  | x :: r, acc, st => if srcOk src items st = true then (match gt x e st with
    | none => .stuck
    | some (e1, st1) => match mt e1 st1 with
      | .ok true st2 => (match mi1 e1 st2 with
        | .ok (xs1, src1) st3 => (match cloop src1 xs1 gt1 mt1 me (wipeE e1 vs1) xs1 acc st3 with
          | .ok acc' st4 => cloop2 src items gt mt mi1 vs1 gt1 mt1 me e r acc' st4
          | _ => .stuck)
        | _ => .stuck)
      | .ok false st2 => cloop2 src items gt mt mi1 vs1 gt1 mt1 me e r acc st2
      | _ => .stuck) else .stuck
def xcomp2L (mi : XM (List D × Option Nat)) (vs : List Nat) (gt : MG) (mt : XM Bool) (mi1 : XM (List D × Option Nat)) (vs1 : List Nat) (gt1 : MG) (mt1 : XM Bool) (me : XM D) : XM (List D) := fun e st => match mi e st with
  | .ok (xs, src) st1 => cloop2 src xs gt mt mi1 vs1 gt1 mt1 me (wipeE e vs) xs [] st1
  | .exc c p st' => .exc c p st'
  | .stuck => .stuck
def xcomp2 (mi : XM (List D × Option Nat)) (vs : List Nat) (gt : MG) (mt : XM Bool) (mi1 : XM (List D × Option Nat)) (vs1 : List Nat) (gt1 : MG) (mt1 : XM Bool) (me : XM D) : XM D := xbind (xcomp2L mi vs gt mt mi1 vs1 gt1 mt1 me) fun ds => xpure (.lst ds)
theorem cloop_src {src : Option Nat} {items : List D} {gt : MG} {mt : XM Bool} {me : XM D} {e : Nv} {r acc : List D} {st : Store} (h : cloop src items gt mt me e r acc st ≠ .stuck) : srcOk src items st = true := by
  cases hx : srcOk src items st with
  | true => rfl
  | false => exact absurd (by cases r <;> simp [cloop, hx]) h
theorem comp2_read {wi : WX → TI} {gt0 gt10 : TG} {tt tt1 : WX → TT} {te : WX → TE} {wi1 : WX → TI} {mi mi1 : XM (List D × Option Nat)} {vs vs1 : List Nat} {gt gt1 : MG} {mt mt1 : XM Bool} {me : XM D}
    (si : ∀ (W : WX) (G H : Hp) (as : List Addr) (st : Store) (σ : L2.St) (e : Nv) (R : It → Hp → Prop), Ri g.K g.mg G H as st → Rn g.K g.mg G as σ e → PXI g W G H as σ (mi e st) R → wi W σ H R)
    (sg : ∀ (G H : Hp) (as : List Addr) (st : Store) (σ : L2.St) (e : Nv) (v : V) (x : D) (e' : Nv) (st' : Store) (Q : L2.St → Hp → Prop), Ri g.K g.mg G H as st → Rn g.K g.mg G as σ e → Rp g.K g.mg G as v x → gt x e st = some (e', st') →
      (∀ σ', wipe σ' vs = wipe σ vs → Rn g.K g.mg G as σ' e' → st' = st → Q σ' H) → gt0 v σ H Q)
    (stt : ST g tt mt)
    (si1 : ∀ (W : WX) (G H : Hp) (as : List Addr) (st : Store) (σ : L2.St) (e : Nv) (R : It → Hp → Prop), Ri g.K g.mg G H as st → Rn g.K g.mg G as σ e → PXI g W G H as σ (mi1 e st) R → wi1 W σ H R)
    (sg1 : ∀ (G H : Hp) (as : List Addr) (st : Store) (σ : L2.St) (e : Nv) (v : V) (x : D) (e' : Nv) (st' : Store) (Q : L2.St → Hp → Prop), Ri g.K g.mg G H as st → Rn g.K g.mg G as σ e → Rp g.K g.mg G as v x → gt1 x e st = some (e', st') →
      (∀ σ', wipe σ' vs1 = wipe σ vs1 → Rn g.K g.mg G as σ' e' → st' = st → Q σ' H) → gt10 v σ H Q)
    (stt1 : ST g tt1 mt1) (se : SE g te me) (W : WX) (G H : Hp) (as : List Addr) (st : Store) (σ : L2.St) (e : Nv) (Q : VK) (R : Ri g.K g.mg G H as st) (N : Rn g.K g.mg G as σ e) (f : List D → Store → RX D)
    (h : PX g.K g.mg W G H as σ (match xcomp2L mi vs gt mt mi1 vs1 gt1 mt1 me e st with | .ok ds st' => f ds st' | .exc c p st' => .exc c p st' | .stuck => .stuck) Q)
    (fin : ∀ (ds : List D) (st' : Store) (G1 H1 : Hp) (as1 : List Addr) (G2 H2 : Hp) (as2 : List Addr) (us : List V) (p : Addr), Ri g.K g.mg G1 H1 as1 st' → RpA g.K g.mg G1 as1 us ds → H1 p = some (.lst us) → G1 p = none → p ∉ as1 → Ext G2 H2 as2 G1 H1 as1 → H2 p = none → PX g.K g.mg W G2 H2 as2 σ (f ds st') Q → Q (.ref p) H1) :
    tLc2 (wi W) gt0 (tt W0) (wi1 W0) gt10 (tt1 W0) (te W0) vs vs1 σ H Q := by
  refine si W G H as st σ e _ R N ?_
  unfold xcomp2L at h
  cases q : mi e st with
  | stuck => rw [q] at h; exact h
  | exc c p st1 => rw [q] at h; exact h
  | ok z st1 =>
    obtain ⟨xs, src⟩ := z
    simp only [q] at h
    have ok : srcOk src xs st1 = true := by
      cases hx : srcOk src xs st1 with
      | true => rfl
      | false =>
        exfalso
        cases xs with
        | nil => simp [cloop2, hx] at h; exact h
        | cons x r => simp [cloop2, hx] at h; exact h
    refine ⟨ok, fun J G1 H1 as1 R1 X1 Y => ?_⟩
    intro D0 hD
    have hd0 := R1.none_of hD
    have h1 := PX.ext (K := g.K) (mg := g.mg) h X1
    refine ⟨fun i m H' => i ≤ xs.length ∧ m = xs.length - i ∧ ∃ G' as' st' us acc, Ri g.K g.mg G' H' as' st' ∧ Ext G1 H1 as1 G' H' as' ∧ H' D0 = some (.lst us) ∧ G' D0 = none ∧ D0 ∉ as' ∧ RpA g.K g.mg G' as' us acc ∧
        PX g.K g.mg W G1 H1 as1 σ (match cloop2 src xs gt mt mi1 vs1 gt1 mt1 me (wipeE e vs) (xs.drop i) acc st' with | .ok ds st' => f ds st' | .exc c p st' => .exc c p st' | .stuck => .stuck) Q,
      ⟨xs.length, Nat.zero_le _, by simp, G1, as1, st1, [], [], R1.touch hd0.1 hd0.2, Ext.refl.touch hD, upd_same, hd0.1, hd0.2, .nil, h1⟩, ?_⟩
    rintro i m H2 ⟨hle, rfl, G2, as2, st2, us, acc, R2, X2, hL, hg, ha, ru, h2⟩
    by_cases hi : i < xs.length
    · have hd : xs.drop i = xs[i] :: xs.drop (i + 1) := List.drop_eq_getElem_cons hi
      rw [hd] at h2
      unfold cloop2 at h2
      by_cases hok : srcOk src xs st2 = true
      · simp only [hok, if_true] at h2
        refine .inr ⟨Y.go i G2 H2 as2 st2 hi R2 X2.sub X2.pre X2.lk hok, ?_⟩
        refine ⟨fun H' => i + 1 ≤ xs.length ∧ ∃ G' as' st' us acc, Ri g.K g.mg G' H' as' st' ∧ Ext G1 H1 as1 G' H' as' ∧ H' D0 = some (.lst us) ∧ G' D0 = none ∧ D0 ∉ as' ∧ RpA g.K g.mg G' as' us acc ∧
            PX g.K g.mg W G1 H1 as1 σ (match cloop2 src xs gt mt mi1 vs1 gt1 mt1 me (wipeE e vs) (xs.drop (i + 1)) acc st' with | .ok ds st' => f ds st' | .exc c p st' => .exc c p st' | .stuck => .stuck) Q,
          fun H' ⟨a, b⟩ => ⟨xs.length - (i + 1), by omega, a, rfl, b⟩, fun v H3 y => ?_⟩
        obtain ⟨G3, R3, X3, rv⟩ := Y.yld i G2 H2 as2 st2 v H3 xs[i] R2 X2.sub X2.pre X2.lk hok (List.getElem?_eq_getElem hi) y
        have b3 := X3.beside hL hg ha
        cases q3 : gt xs[i] (wipeE e vs) st2 with
        | none => simp only [q3] at h2; exact h2.elim
        | some z =>
          obtain ⟨e3, st3⟩ := z
          simp only [q3] at h2
          have Nw : Rn g.K g.mg G3 as2 (wipe σ vs) (wipeE e vs) := (((N.ext X1).ext X2).ext X3).wipe vs
          refine sg G3 H3 as2 st2 (wipe σ vs) (wipeE e vs) v xs[i] e3 st3 _ R3 Nw rv q3 fun σ4 w4 N4 es => ?_
          subst es
          refine ⟨w4.trans wipe_wipe, ?_⟩
          refine stt W0 G3 H3 as2 st3 σ4 e3 _ R3 N4 ?_
          cases q4 : mt e3 st3 with
          | stuck => simp only [q4] at h2; exact h2
          | exc c p st4 => simp only [q4] at h2; exact h2.elim
          | ok b st4 =>
            intro G4 H4 as4 R4 X4
            have b4 := X4.beside b3.2.2 b3.1 b3.2.1
            have X14 := (X2.trans X3).trans X4
            cases b with
            | false =>
              simp only [q4] at h2
              exact iteF ⟨hi, G4, as4, st4, us, acc, R4, X14, b4.2.2, b4.1, b4.2.1, (ru.ext X3).ext X4, h2⟩
            | true =>
              refine iteT ?_
              refine si1 W0 G4 H4 as4 st4 σ4 e3 _ R4 (N4.ext X4) ?_
              cases q5 : mi1 e3 st4 with
              | stuck => simp only [q4, q5] at h2; exact h2
              | exc c p st5 => simp only [q4, q5] at h2; exact h2.elim
              | ok z st5 =>
                obtain ⟨ys, src1⟩ := z
                simp only [q4, q5] at h2
                have ok1 : srcOk src1 ys st5 = true := by
                  cases hx : srcOk src1 ys st5 with
                  | true => rfl
                  | false =>
                    exfalso
                    cases ys with
                    | nil => simp [cloop, hx] at h2; exact h2
                    | cons y r => simp [cloop, hx] at h2; exact h2
                refine ⟨ok1, fun J1 G5 H5 as5 R5 X5 Y1 => ?_⟩
                have b5 := X5.beside b4.2.2 b4.1 b4.2.1
                have ru5 := ((ru.ext X3).ext X4).ext X5
                have X15 := X14.trans X5
                have N5 := (N4.ext X4).ext X5
                refine ⟨fun j k H' => j ≤ ys.length ∧ k = ys.length - j ∧ ∃ G' as' st' us acc, Ri g.K g.mg G' H' as' st' ∧ Ext G1 H1 as1 G' H' as' ∧ (∀ a o, G5 a = some o → G' a = some o) ∧ as5 <+: as' ∧ (∀ a o kvs, H5 a = some (.frz o (.dK kvs)) → H' a = some (.frz o (.dK kvs))) ∧ H' D0 = some (.lst us) ∧ G' D0 = none ∧ D0 ∉ as' ∧ RpA g.K g.mg G' as' us acc ∧
                    PX g.K g.mg W G1 H1 as1 σ (match (match cloop src1 ys gt1 mt1 me (wipeE e3 vs1) (ys.drop j) acc st' with | .ok acc' st4 => cloop2 src xs gt mt mi1 vs1 gt1 mt1 me (wipeE e vs) (xs.drop (i + 1)) acc' st4 | _ => .stuck) with | .ok ds st' => f ds st' | .exc c p st' => .exc c p st' | .stuck => .stuck) Q,
                  ⟨ys.length, Nat.zero_le _, by simp, G5, as5, st5, us, acc, R5, X15, fun _ _ h => h, List.prefix_refl _, fun _ _ _ h => h, b5.2.2, b5.1, b5.2.1, ru5, h2⟩, ?_⟩
                rintro j k H6 ⟨hlj, rfl, G6, as6, st6, us6, acc6, R6, X6, S6, P6, L6, hL6, hg6, ha6, ru6, h6⟩
                by_cases hj : j < ys.length
                · have hd1 : ys.drop j = ys[j] :: ys.drop (j + 1) := List.drop_eq_getElem_cons hj
                  rw [hd1] at h6
                  unfold cloop at h6
                  by_cases hok1 : srcOk src1 ys st6 = true
                  · simp only [hok1, if_true] at h6
                    refine .inr ⟨Y1.go j G6 H6 as6 st6 hj R6 S6 P6 L6 hok1, ?_⟩
                    refine ⟨fun H' => j + 1 ≤ ys.length ∧ ∃ G' as' st' us acc, Ri g.K g.mg G' H' as' st' ∧ Ext G1 H1 as1 G' H' as' ∧ (∀ a o, G5 a = some o → G' a = some o) ∧ as5 <+: as' ∧ (∀ a o kvs, H5 a = some (.frz o (.dK kvs)) → H' a = some (.frz o (.dK kvs))) ∧ H' D0 = some (.lst us) ∧ G' D0 = none ∧ D0 ∉ as' ∧ RpA g.K g.mg G' as' us acc ∧
                        PX g.K g.mg W G1 H1 as1 σ (match (match cloop src1 ys gt1 mt1 me (wipeE e3 vs1) (ys.drop (j + 1)) acc st' with | .ok acc' st4 => cloop2 src xs gt mt mi1 vs1 gt1 mt1 me (wipeE e vs) (xs.drop (i + 1)) acc' st4 | _ => .stuck) with | .ok ds st' => f ds st' | .exc c p st' => .exc c p st' | .stuck => .stuck) Q,
                      fun H' ⟨a, b⟩ => ⟨ys.length - (j + 1), by omega, a, rfl, b⟩, fun v1 H7 y1 => ?_⟩
                    obtain ⟨G7, R7, X7, rv7⟩ := Y1.yld j G6 H6 as6 st6 v1 H7 ys[j] R6 S6 P6 L6 hok1 (List.getElem?_eq_getElem hj) y1
                    have b7 := X7.beside hL6 hg6 ha6
                    cases q7 : gt1 ys[j] (wipeE e3 vs1) st6 with
                    | none => simp only [q7] at h6; exact h6.elim
                    | some z =>
                      obtain ⟨e8, st8⟩ := z
                      simp only [q7] at h6
                      have N6 : Rn g.K g.mg G6 as6 σ4 e3 := ⟨N5.len, fun i d q => let ⟨v, a, r⟩ := N5.at_ i d q; ⟨v, a, r.mono S6 P6⟩⟩
                      have Nw1 : Rn g.K g.mg G7 as6 (wipe σ4 vs1) (wipeE e3 vs1) := (N6.ext X7).wipe vs1
                      refine sg1 G7 H7 as6 st6 (wipe σ4 vs1) (wipeE e3 vs1) v1 ys[j] e8 st8 _ R7 Nw1 rv7 q7 fun σ8 w8 N8 es => ?_
                      subst es
                      refine ⟨w8.trans wipe_wipe, ?_⟩
                      refine stt1 W0 G7 H7 as6 st8 σ8 e8 _ R7 N8 ?_
                      cases q8 : mt1 e8 st8 with
                      | stuck => simp only [q8] at h6; exact h6
                      | exc c p st9 => simp only [q8] at h6; exact h6.elim
                      | ok b1 st9 =>
                        intro G8 H8 as8 R8 X8
                        have b8 := X8.beside b7.2.2 b7.1 b7.2.1
                        have X18 := (X6.trans X7).trans X8
                        have X58 := X7.trans X8
                        have L8 : ∀ a o kvs, H5 a = some (.frz o (.dK kvs)) → H8 a = some (.frz o (.dK kvs)) := fun a o kvs h => X58.lk a o kvs (L6 a o kvs h)
                        cases b1 with
                        | false =>
                          simp only [q8] at h6
                          exact iteF ⟨hj, G8, as8, st9, us6, acc6, R8, X18, fun a o h => X58.sub a o (S6 a o h), P6.trans X58.pre, L8, b8.2.2, b8.1, b8.2.1, (ru6.ext X7).ext X8, h6⟩
                        | true =>
                          refine iteT ?_
                          refine se W0 G8 H8 as8 st9 σ8 e8 _ R8 (N8.ext X8) ?_
                          cases q9 : me e8 st9 with
                          | stuck => simp only [q8, q9] at h6; exact h6
                          | exc c p st10 => simp only [q8, q9] at h6; exact h6.elim
                          | ok d st10 =>
                            simp only [q8, q9] at h6
                            intro w G9 H9 as9 R9 X9 rw'
                            have b9 := X9.beside b8.2.2 b8.1 b8.2.1
                            have ru9 := ((ru6.ext X7).ext X8).ext X9
                            have X59 := X58.trans X9
                            by_cases hl : acc6.length < LIM
                            · rw [if_pos hl] at h6
                              refine ⟨us6, b9.2.2, by rw [ru9.len]; exact lim_lt hl, hj, G9, as9, st10, us6 ++ [w], acc6 ++ [d], R9.touch b9.1 b9.2.1, (X18.trans X9).touch hD, fun a o h => X59.sub a o (S6 a o h), P6.trans X59.pre, fun a o kvs h => ?_, upd_same, b9.1, b9.2.1, ru9.append (.cons rw' .nil), h6⟩
                              have h9 := X59.lk a o kvs (L6 a o kvs h)
                              have : a ≠ D0 := fun z => by subst z; rw [b9.2.2] at h9; cases h9
                              rw [upd_ne this]; exact h9
                            · rw [if_neg hl] at h6; exact h6.elim
                  · simp only [hok1] at h6; exact h6.elim
                · have ej : j = ys.length := by omega
                  subst ej
                  rw [List.drop_length] at h6
                  unfold cloop at h6
                  by_cases hok1 : srcOk src1 ys st6 = true
                  · simp only [hok1, if_true] at h6
                    exact .inl ⟨Y1.stop G6 H6 as6 st6 R6 S6 P6 L6 hok1, hi, G6, as6, st6, us6, acc6, R6, X6, hL6, hg6, ha6, ru6, h6⟩
                  · simp only [hok1] at h6; exact h6.elim
      · simp only [hok] at h2; exact h2.elim
    · have ei : i = xs.length := by omega
      subst ei
      rw [List.drop_length] at h2
      unfold cloop2 at h2
      by_cases hok : srcOk src xs st2 = true
      · simp only [hok, if_true] at h2
        exact .inl ⟨Y.stop G2 H2 as2 st2 R2 X2.sub X2.pre X2.lk hok, fin acc st2 G2 H2 as2 G1 H1 as1 us D0 R2 ru hL hg ha X2 hD h2⟩
      · simp only [hok] at h2; exact h2.elim
theorem je_lc2 {elt tg iter tg1 iter1 : Expr} {ifs ifs1 : List Expr} {scope : Scope} (own : List (Str × Nat)) (vs1 : List Nat) {mi mi1 : XM (List D × Option Nat)} {gt gt1 : MG} {mt mt1 : XM Bool} {me : XM D} (hi : JI F tg iter mi) (ok : blkC F.N F.sc scope own = true) (hv : ∀ i ∈ vs1, i ∈ own.map (·.2)) (hg : JC (famC F scope) (own.map (·.2)) tg gt)
    (ht : JTs (famC F scope) ifs mt) (hi1 : JI (famC F scope) tg1 iter1 mi1) (hg1 : JC (famC F scope) vs1 tg1 gt1) (ht1 : JTs (famC F scope) ifs1 mt1) (he : JE (famC F scope) elt me) (hs : ∀ env x, foldedSetIterable iter env x = pure x := by intro _ _; rfl) (hs1 : ∀ env x, foldedSetIterable iter1 env x = pure x := by intro _ _; rfl) :
    JE F (.ListComp elt [⟨tg, iter, ifs, 0⟩, ⟨tg1, iter1, ifs1, 0⟩] scope pos) (xcomp2 mi (own.map (·.2)) gt mt mi1 vs1 gt1 mt1 me) := by
  obtain ⟨wi, pi, si⟩ := hi
  obtain ⟨tg', pg', sg'⟩ := hg
  obtain ⟨tt, pt, stt⟩ := ht
  obtain ⟨wi1, pi1, si1⟩ := hi1
  obtain ⟨tg1', pg1', sg1'⟩ := hg1
  obtain ⟨tt1, pt1, stt1⟩ := ht1
  obtain ⟨te, pe, se⟩ := he
  refine ⟨fun W => tLc2 (wi W) tg' (tt W0) (wi1 W0) tg1' (tt1 W0) (te W0) (own.map (·.2)) vs1, fun W X m => ?_, ?_⟩
  · have hm : ∀ (s : Shared) (H : Hp) (C : Addr) (cl : List (Str × Addr)) (fp : List Addr), (famC F scope).mem W0 (X.blk s H scope (compEnvC scope cl C X.env) fp) := fun s H C cl fp => ⟨rfl, W, X, s, H, C, cl, fp, m, rfl⟩
    exact pe_lc2 (F.calm m) (by rw [F.hN m]; exact F.nd) (pi W X m) (by rw [F.hN m, F.hsc m]; exact blkOk_by ok) hv (fun s H C cl fp => pg' _ _ (hm s H C cl fp)) (fun s H C cl fp => pt _ _ (hm s H C cl fp)) (fun s H C cl fp => pi1 _ _ (hm s H C cl fp)) (fun s H C cl fp => pg1' _ _ (hm s H C cl fp)) (fun s H C cl fp => pt1 _ _ (hm s H C cl fp)) (fun s H C cl fp => pe _ _ (hm s H C cl fp)) (hs _) hs1
  · intro W G H as st σ e Q R N h
    refine comp2_read si sg' stt si1 sg1' stt1 se W G H as st σ e Q R N (fun ds st' => .ok (.lst ds) st') ?_ ?_
    · refine Eq.mp (congrArg (fun r => PX g.K g.mg W G H as σ r Q) ?_) h
      unfold xcomp2 xbind xpure
      cases xcomp2L mi (own.map (·.2)) gt mt mi1 vs1 gt1 mt1 me e st <;> rfl
    · intro ds st' G1 H1 as1 G2 H2 as2 us p R1 ru hp gn na X1 hn hq
      refine hq _ _ H1 as1 (R1.freeze hp gn na) (X1.freeze hn gn) (.lst upd_same (ru.mono (fun a u e => ?_) (List.prefix_refl _)))
      rw [upd_ne (ne_of_none e gn)]; exact e
theorem js_setLc2 (i : Nat) {y : Str} {py spos : Pos} {elt tg iter tg1 iter1 : Expr} {ifs ifs1 : List Expr} {scope : Scope} (own : List (Str × Nat)) (vs1 : List Nat) {mi mi1 : XM (List D × Option Nat)} {gt gt1 : MG} {mt mt1 : XM Bool} {me : XM D} (hy : F.N[i]? = some y) (hyl : F.sc.names.lookup y = some .local)
    (hsw : ∀ W X, F.mem W X → swapsWith (.ListComp elt [⟨tg, iter, ifs, 0⟩, ⟨tg1, iter1, ifs1, 0⟩] scope pos) (some (.Name y py)) spos.line X.env = pure true) (hi : JI F tg iter mi) (ok : blkC F.N F.sc scope own = true) (hv : ∀ i ∈ vs1, i ∈ own.map (·.2)) (hg : JC (famC F scope) (own.map (·.2)) tg gt)
    (ht : JTs (famC F scope) ifs mt) (hi1 : JI (famC F scope) tg1 iter1 mi1) (hg1 : JC (famC F scope) vs1 tg1 gt1) (ht1 : JTs (famC F scope) ifs1 mt1) (he : JE (famC F scope) elt me) (hs : ∀ env x, foldedSetIterable iter env x = pure x := by intro _ _; rfl) (hs1 : ∀ env x, foldedSetIterable iter1 env x = pure x := by intro _ _; rfl) :
    JS F (.Assign [.Name y py] (.ListComp elt [⟨tg, iter, ifs, 0⟩, ⟨tg1, iter1, ifs1, 0⟩] scope pos) spos) (sset i (xcomp2 mi (own.map (·.2)) gt mt mi1 vs1 gt1 mt1 me)) := by
  obtain ⟨wi, pi, si⟩ := hi
  obtain ⟨tg', pg', sg'⟩ := hg
  obtain ⟨tt, pt, stt⟩ := ht
  obtain ⟨wi1, pi1, si1⟩ := hi1
  obtain ⟨tg1', pg1', sg1'⟩ := hg1
  obtain ⟨tt1, pt1, stt1⟩ := ht1
  obtain ⟨te, pe, se⟩ := he
  refine ⟨fun W => tAsg (tLc2 (wi W) tg' (tt W0) (wi1 W0) tg1' (tt1 W0) (te W0) (own.map (·.2)) vs1) (gName i), fun W X m => ?_, ?_⟩
  · have hm : ∀ (s : Shared) (H : Hp) (C : Addr) (cl : List (Str × Addr)) (fp : List Addr), (famC F scope).mem W0 (X.blk s H scope (compEnvC scope cl C X.env) fp) := fun s H C cl fp => ⟨rfl, W, X, s, H, C, cl, fp, m, rfl⟩
    exact ps_setLc2 (F.calm m) (by rw [F.hN m]; exact F.nd) (by rw [F.hN m]; exact hy) (by rw [F.hsc m]; exact hyl) (hsw W X m) (pi W X m) (by rw [F.hN m, F.hsc m]; exact blkOk_by ok) hv (fun s H C cl fp => pg' _ _ (hm s H C cl fp)) (fun s H C cl fp => pt _ _ (hm s H C cl fp)) (fun s H C cl fp => pi1 _ _ (hm s H C cl fp)) (fun s H C cl fp => pg1' _ _ (hm s H C cl fp)) (fun s H C cl fp => pt1 _ _ (hm s H C cl fp)) (fun s H C cl fp => pe _ _ (hm s H C cl fp)) (hs _) hs1
  · intro W G H as st σ e E R N h
    have h' : PX g.K g.mg W G H as σ (xcomp2 mi (own.map (·.2)) gt mt mi1 vs1 gt1 mt1 me e st) (fun x H1 => gName i x σ H1 E.nx) := by
      unfold sset sbind at h
      cases q : xcomp2 mi (own.map (·.2)) gt mt mi1 vs1 gt1 mt1 me e st with
      | stuck => rw [q] at h; exact h
      | exc c p st1 => rw [q] at h; exact fun cls d G1 H1 as1 R1 X1 x => h σ cls d G1 H1 as1 R1 (N.ext X1) X1 x
      | ok d st1 => rw [q] at h; exact fun v G1 H1 as1 R1 X1 rv => h _ G1 H1 as1 R1 ((N.ext X1).set i rv) X1
    refine comp2_read si sg' stt si1 sg1' stt1 se W G H as st σ e _ R N (fun ds st' => .ok (.lst ds) st') ?_ ?_
    · refine Eq.mp (congrArg (fun r => PX g.K g.mg W G H as σ r _) ?_) h'
      unfold xcomp2 xbind xpure
      cases xcomp2L mi (own.map (·.2)) gt mt mi1 vs1 gt1 mt1 me e st <;> rfl
    · intro ds st' G1 H1 as1 G2 H2 as2 us p R1 ru hp gn na X1 hn hq
      refine hq _ _ H1 as1 (R1.freeze hp gn na) (X1.freeze hn gn) (.lst upd_same (ru.mono (fun a u e => ?_) (List.prefix_refl _)))
      rw [upd_ne (ne_of_none e gn)]; exact e
end
end LS
end
section
set_option maxRecDepth 100000
set_option maxHeartbeats 2000000
namespace LS
open PySem PySem.Spec L2

/-! ## more of dicts -/
section
variable {g : Gb} {F : Fam g} {pos : Pos}
/-- the dict under the name in the slot j is locked while the expression is worth -/
def elock (j : Nat) (m : XM D) : XM D := fun e st => match e[j]? with
  | some (some (.ref i)) => (match st[i]? with
    | some (.dct kvs) => (match m e (st.set i (.lck kvs)) with
      | .ok d st' => .ok d (st'.set i (.dct kvs))
      | _ => .stuck)
    | _ => .stuck)
  | _ => .stuck
theorem je_lock (j : Nat) {ex : Expr} {m : XM D} (h : JE F ex m) : JE F ex (elock j m) := by
  obtain ⟨t, p, ss⟩ := h
  refine ⟨fun W => tLockE (t W), fun W X m => pe_lock (p W X m), ?_⟩
  intro W G H as st σ e Q R N h
  unfold elock at h
  cases q1 : e[j]? with
  | none => simp [q1] at h; exact h.elim
  | some o1 =>
    cases o1 with
    | none => simp [q1] at h; exact h.elim
    | some d =>
      cases d with
      | ref i =>
        obtain ⟨v, _, rv⟩ := N.at_ j _ q1
        obtain ⟨a, rfl, qa⟩ : ∃ a, v = .ref a ∧ as[i]? = some a := by cases rv with | ref q => exact ⟨_, rfl, q⟩
        simp only [q1] at h
        cases q2 : st[i]? with
        | none => simp [q2] at h; exact h.elim
        | some mo =>
          cases mo with
          | dct kds =>
            simp only [q2] at h
            obtain ⟨hob, e1, oo⟩ := R.at_ qa q2
            cases oo with
            | dct ek rr =>
              rename_i kv
              refine ⟨a, .dK kv, e1, trivial, fun od => ?_⟩
              obtain ⟨R1, X1⟩ := R.change (o := .frz od (.dK kv)) (m := .lck kds) qa (.lck ek rr) (fun u kvs z => by rw [e1] at z; cases z)
              refine ss W G (upd H a (.frz od (.dK kv))) as (st.set i (.lck kds)) σ e _ R1 (N.ext X1) ?_
              cases q3 : m e (st.set i (.lck kds)) with
              | stuck => rw [q3] at h; exact h.elim
              | exc c p st2 => rw [q3] at h; exact h.elim
              | ok d2 st2 =>
                rw [q3] at h
                intro v2 G2 H2 as2 R2 X2 rv2
                obtain ⟨h1, R3, X3⟩ := unlock_ok R qa e1 ek rr R2 X2
                exact ⟨h1, h v2 G2 _ as2 R3 X3 rv2⟩
          | _ => simp [q2] at h; exact h.elim
      | _ => simp [q1] at h; exact h.elim
/-- the keys of a locked dict -/
def keysD (kds : List (Key × D)) : List D := kds.map fun kv => kD kv.1
theorem yl_keys {G0 H0 : Hp} {as0 : List Addr} {a : Addr} {o : Obj} {kvs : List (Key × V)} {kds : List (Key × D)} (hd : H0 a = some (.frz o (.dK kvs))) (ek : kvs.map (·.1) = kds.map (·.1)) : Yl g G0 H0 as0 none (keysD kds) (Itk a o kvs) where
  go := fun i G H as st hi R hs hp hl _ => ⟨hl a o kvs hd, by
    have : kvs.length = kds.length := by simpa using congrArg List.length ek
    simpa [keysD, this] using hi⟩
  stop := fun G H as st R hs hp hl _ => ⟨hl a o kvs hd, by
    have : kvs.length = kds.length := by simpa using congrArg List.length ek
    simp [keysD, this]⟩
  yld := fun i G H as st v H' x R hs hp hl _ hx y => by
    obtain ⟨e0, k, u, e1, rfl⟩ := y
    subst e0
    refine ⟨G, R, Ext.refl, ?_⟩
    have e2 : (kds.map (·.1))[i]? = some k := by rw [← ek, List.getElem?_map, e1]; rfl
    rw [List.getElem?_map] at e2
    obtain ⟨kd, e3, e4⟩ := Option.map_eq_some_iff.mp e2
    unfold keysD at hx
    rw [List.getElem?_map, e3] at hx
    cases hx
    rw [← e4]
    exact kD_rp kd.1
def xkeysI (m : XM D) : XM (List D × Option Nat) := xbind m fun x => fun _ st => match x with
  | .ref i => (match st[i]? with
    | some (.lck kds) => .ok (keysD kds, none) st
    | _ => .stuck)
  | _ => .stuck
theorem ji_keys {tg e : Expr} {m : XM D} (h : JE F e m) : JI F tg e (xkeysI m) := by
  obtain ⟨t, p, s⟩ := h
  refine ⟨fun W => iKeys (t W), fun W X m => pi_keys (p W X m), ?_⟩
  intro W G H as st σ e R' R N h
  refine s W G H as st σ e _ R N ?_
  unfold xkeysI xbind at h
  cases q : m e st with
  | stuck => rw [q] at h; exact h
  | exc c p st1 => rw [q] at h; exact h
  | ok x st1 =>
    simp only [q] at h
    intro v G1 H1 as1 R1 X1 rv
    cases x with
    | ref i =>
      cases q2 : st1[i]? with
      | none => simp only [q2] at h; exact h.elim
      | some mo =>
        cases mo with
        | lck kds =>
          simp only [q2] at h
          obtain ⟨a, rfl, qa⟩ : ∃ a, v = .ref a ∧ as1[i]? = some a := by cases rv with | ref q => exact ⟨_, rfl, q⟩
          obtain ⟨hob, e1, oo⟩ := R1.at_ qa q2
          cases oo with
          | lck ek rr => exact ⟨a, _, rfl, .inl ⟨_, e1, h.2 _ G1 H1 as1 R1 X1 (yl_keys e1 ek)⟩⟩
        | _ => simp only [q2] at h; exact h.elim
    | _ => exact h.elim
/-- the values of a locked dict -/
def valsD (kds : List (Key × D)) : List D := kds.map (·.2)
theorem yl_vals {G0 H0 : Hp} {as0 : List Addr} {a : Addr} {o : Obj} {kvs : List (Key × V)} {kds : List (Key × D)} (hd : H0 a = some (.frz o (.dK kvs))) (ek : kvs.map (·.1) = kds.map (·.1)) (rr : RpA g.K g.mg G0 as0 (kvs.map (·.2)) (kds.map (·.2))) : Yl g G0 H0 as0 none (valsD kds) (Itd a o kvs) where
  go := fun i G H as st hi R hs hp hl _ => ⟨hl a o kvs hd, by
    have : kvs.length = kds.length := by simpa using congrArg List.length ek
    simpa [valsD, this] using hi⟩
  stop := fun G H as st R hs hp hl _ => ⟨hl a o kvs hd, by
    have : kvs.length = kds.length := by simpa using congrArg List.length ek
    simp [valsD, this]⟩
  yld := fun i G H as st v H' x R hs hp hl _ hx y => by
    obtain ⟨e0, k, e1⟩ := y
    subst e0
    obtain ⟨d, e2, ru⟩ := pair_at ek rr e1
    unfold valsD at hx
    rw [List.getElem?_map, e2] at hx
    cases hx
    exact ⟨G, R, Ext.refl, ru.mono hs hp⟩
def xvalsI (m : XM D) : XM (List D × Option Nat) := xbind m fun x => fun _ st => match x with
  | .ref i => (match st[i]? with
    | some (.lck kds) => .ok (valsD kds, none) st
    | _ => .stuck)
  | _ => .stuck
theorem ji_vals {tg e : Expr} {apos : Pos} {m : XM D} (h : JE F e m) (hb : ∀ env, attributeBase e "values" env (eval e env) = eval e env := by intro _; rfl) (hline : (apos.endLine == pos.line) = true := by rfl) : JI F tg (.Call (.Attribute e "values" apos) [] [] pos) (xvalsI m) := by
  obtain ⟨t, p, s⟩ := h
  refine ⟨fun W => iVals (t W), fun W X m => pi_values (p W X m) (hb _) hline, ?_⟩
  intro W G H as st σ e R' R N h
  refine s W G H as st σ e _ R N ?_
  unfold xvalsI xbind at h
  cases q : m e st with
  | stuck => rw [q] at h; exact h
  | exc c p st1 => rw [q] at h; exact h
  | ok x st1 =>
    simp only [q] at h
    intro v G1 H1 as1 R1 X1 rv
    cases x with
    | ref i =>
      cases q2 : st1[i]? with
      | none => simp only [q2] at h; exact h.elim
      | some mo =>
        cases mo with
        | lck kds =>
          simp only [q2] at h
          obtain ⟨a, rfl, qa⟩ : ∃ a, v = .ref a ∧ as1[i]? = some a := by cases rv with | ref q => exact ⟨_, rfl, q⟩
          obtain ⟨hob, e1, oo⟩ := R1.at_ qa q2
          cases oo with
          | lck ek rr => exact ⟨a, _, _, rfl, e1, h.2 _ G1 H1 as1 R1 X1 (yl_vals e1 ek rr)⟩
        | _ => simp only [q2] at h; exact h.elim
    | _ => exact h.elim
/-- one pair behind the other -/
def mergeKD (kds more : List (Key × D)) : List (Key × D) := more.foldl (fun acc kv => putKD acc kv.1 kv.2) kds
theorem mergeKD_ok {K : PySem.W.Frag} {mg : Str → Option Value} {G : Hp} {as : List Addr} : ∀ {more : List (Key × V)} {moreD : List (Key × D)} {kvs : List (Key × V)} {kds : List (Key × D)}, more.map (·.1) = moreD.map (·.1) → RpA K mg G as (more.map (·.2)) (moreD.map (·.2)) → kvs.map (·.1) = kds.map (·.1) → RpA K mg G as (kvs.map (·.2)) (kds.map (·.2)) →
    (mergeK kvs more).map (·.1) = (mergeKD kds moreD).map (·.1) ∧ RpA K mg G as ((mergeK kvs more).map (·.2)) ((mergeKD kds moreD).map (·.2))
  | [], [], _, _, _, _, e, q => ⟨e, q⟩
  | [], _ :: _, _, _, e, _, _, _ => by simp at e
  | _ :: _, [], _, _, e, _, _, _ => by simp at e
  | (k1, v) :: r, (k2, d) :: s, kvs, kds, e, q, e0, q0 => by
    have e' : k1 = k2 ∧ r.map (·.1) = s.map (·.1) := by simpa using e
    obtain ⟨rfl, e'⟩ := e'
    cases q with
    | cons q1 q2 =>
      obtain ⟨p1, p2⟩ := putKD_ok k1 q1 e0 q0
      have := mergeKD_ok (kvs := putK kvs k1 v) (kds := putKD kds k1 d) e' q2 p1 p2
      exact this
/-- keys and values -/
def prsD : List (D × D) → Option (List (Key × D))
  | [] => some []
  | (a, b) :: r => match keyD a, prsD r with
    | some k, some s => some ((k, b) :: s)
    | _, _ => none
theorem prsD_ok {K : PySem.W.Frag} {mg : Str → Option Value} {G : Hp} {as : List Addr} : ∀ {ps : List (V × V)} {xs : List (D × D)} {kds : List (Key × D)}, RpA K mg G as (ps.map (·.1)) (xs.map (·.1)) → RpA K mg G as (ps.map (·.2)) (xs.map (·.2)) → prsD xs = some kds →
    ∃ kvs : List (Key × V), ps = kvs.map (fun kv => (kV kv.1, kv.2)) ∧ kvs.map (·.1) = kds.map (·.1) ∧ RpA K mg G as (kvs.map (·.2)) (kds.map (·.2)) ∧ kvs.length = xs.length
  | [], [], _, _, _, h => by cases h; exact ⟨[], rfl, rfl, .nil, rfl⟩
  | [], _ :: _, _, r, _, _ => by cases r
  | _ :: _, [], _, r, _, _ => by cases r
  | (v, w) :: r, (a, b) :: s, kds, r1, r2, h => by
    unfold prsD at h
    cases q1 : keyD a with
    | none => simp [q1] at h
    | some k =>
      cases q2 : prsD s with
      | none => simp [q1, q2] at h
      | some kd2 =>
        simp only [q1, q2, Option.some.injEq] at h
        subst h
        cases r1 with
        | cons a1 a2 =>
          cases r2 with
          | cons b1 b2 =>
            obtain ⟨kvs, e1, e2, e3, e4⟩ := prsD_ok a2 b2 q2
            refine ⟨(k, w) :: kvs, ?_, by simp [e2], .cons b1 e3, by simp [e4]⟩
            have : v = kV k := keyD_ok a1 q1
            simp [e1, this]
/-- the pairs of a display -/
def JPs (F : Fam g) (pos : Pos) (keys : List (Option Expr)) (values : List Expr) (m : XM (List (D × D))) : Prop := ∃ trs : WX → List (TE × TE), (∀ W X, F.mem W X → PPs X pos keys values (trs W)) ∧
  ∀ (W : WX) (G H : Hp) (as : List Addr) (st : Store) (σ : L2.St) (e : Nv) (Q : List (V × V) → Hp → Prop) (xs : List (D × D)) (st' : Store), Ri g.K g.mg G H as st → Rn g.K g.mg G as σ e → m e st = .ok xs st' →
    (∀ ps G' H' as', Ri g.K g.mg G' H' as' st' → Ext G H as G' H' as' → RpA g.K g.mg G' as' (ps.map (·.1)) (xs.map (·.1)) → RpA g.K g.mg G' as' (ps.map (·.2)) (xs.map (·.2)) → Q ps H') → tPairs (trs W) σ H Q
theorem jps_nil : JPs F pos [] [] (xpure []) := by
  refine ⟨fun _ => [], fun _ _ _ => pps_nil, ?_⟩
  intro W G H as st σ e Q xs st' R N h k
  cases h
  exact k [] G H as R Ext.refl .nil .nil
def xpair (mk mv : XM D) (ms : XM (List (D × D))) : XM (List (D × D)) := xbind mk fun x => xbind mv fun y => xbind ms fun r => xpure ((x, y) :: r)
theorem jps_cons {k v : Expr} {ks : List (Option Expr)} {vs : List Expr} {mk mv : XM D} {ms : XM (List (D × D))} (hk : JE F k mk) (hv : JE F v mv) (hr : JPs F pos ks vs ms) : JPs F pos (some k :: ks) (v :: vs) (xpair mk mv ms) := by
  obtain ⟨tk, pk, sk⟩ := hk
  obtain ⟨tv, pv, sv⟩ := hv
  obtain ⟨ts, ps, ss⟩ := hr
  refine ⟨fun W => (tk W, tv W) :: ts W, fun W X m => pps_cons (pk W X m) (pv W X m) (ps W X m), ?_⟩
  intro W G H as st σ e Q xs st' R N h kk
  unfold xpair xbind at h
  refine sk W G H as st σ e _ R N ?_
  cases q1 : mk e st with
  | stuck => simp [q1] at h
  | exc c p st1 => simp [q1] at h
  | ok x st1 =>
    simp only [q1] at h
    intro u G1 H1 as1 R1 X1 ru
    refine sv W G1 H1 as1 st1 σ e _ R1 (N.ext X1) ?_
    cases q2 : mv e st1 with
    | stuck => simp [q2] at h
    | exc c p st2 => simp [q2] at h
    | ok y st2 =>
      simp only [q2] at h
      intro w G2 H2 as2 R2 X2 rw'
      cases q3 : ms e st2 with
      | stuck => simp [q3] at h
      | exc c p st3 => simp [q3] at h
      | ok r st3 =>
        simp only [q3, xpure] at h
        cases h
        refine ss W G2 H2 as2 st2 σ e _ r st' R2 ((N.ext X1).ext X2) q3 fun ps3 G3 H3 as3 R3 X3 r1 r2 => ?_
        exact kk _ G3 H3 as3 R3 ((X1.trans X2).trans X3) (.cons ((ru.ext X2).ext X3) r1) (.cons (rw'.ext X3) r2)
/-- {k: v, ..} -/
def xdisp (m : XM (List (D × D))) : XM D := fun e st => match m e st with
  | .ok xs st' => (match prsD xs with
    | some kds => if xs.length ≤ 15 then .ok (.ref st'.length) (st' ++ [.dct (mergeKD [] kds)]) else .stuck
    | none => .stuck)
  | _ => .stuck
theorem je_disp {keys : List (Option Expr)} {values : List Expr} {m : XM (List (D × D))} (h : JPs F pos keys values m) (hall : keys.all (·.isSome) = true) (hl : keys.length = values.length) (h0 : keys ≠ []) (h15 : keys.length ≤ 15) : JE F (.Dict keys values pos) (xdisp m) := by
  obtain ⟨ts, ps, ss⟩ := h
  refine ⟨fun W => tDisp (ts W), fun W X m => pe_disp (ps W X m) hall hl h0 h15, ?_⟩
  intro W G H as st σ e Q R N h p hp
  unfold xdisp at h
  cases q1 : m e st with
  | stuck => simp [q1] at h; exact h.elim
  | exc c p st1 => simp [q1] at h; exact h.elim
  | ok xs st1 =>
    simp only [q1] at h
    cases q2 : prsD xs with
    | none => simp [q2] at h; exact h.elim
    | some kds =>
      simp only [q2] at h
      by_cases hl2 : xs.length ≤ 15
      · rw [if_pos hl2] at h
        have hd0 := R.none_of hp
        have X0 : Ext G H as G (upd H p (.dK [])) as := Ext.refl.touch hp
        refine ss W G (upd H p (.dK [])) as st σ e _ xs st1 (R.touch hd0.1 hd0.2) (N.ext X0) q1 fun ps1 G1 H1 as1 R1 X1 r1 r2 => ?_
        obtain ⟨b1, b2, b3⟩ := X1.beside upd_same hd0.1 hd0.2
        obtain ⟨kvs, e1, e2, e3, e4⟩ := prsD_ok r1 r2 q2
        refine ⟨b3, kvs, e1, by rw [e4]; exact hl2, ?_⟩
        obtain ⟨m1, m2⟩ := mergeKD_ok (kvs := []) (kds := []) e2 e3 rfl .nil
        have R2 := (R1.touch (o := .dK (mergeK [] kvs)) b1 b2).adopt (m := .dct (mergeKD [] kds)) upd_same b1 b2 (.dct m1 m2)
        refine h _ _ _ _ R2 (((X0.trans X1).touch hp).adopt hp) (.ref ?_)
        rw [← R1.len, List.getElem?_append_right (Nat.le_refl _), Nat.sub_self]; rfl
      · rw [if_neg hl2] at h; exact h.elim
/-- dict([(k, v), ..]) -/
def tupsD : List D → Option (List (D × D))
  | [] => some []
  | .tup [a, b] :: r => (tupsD r).map fun s => (a, b) :: s
  | _ => none
def dictPD (x : D) : XM D := fun _ st => match lstOf st x with
  | some xs => (match tupsD xs with
    | some ps => (match prsD ps with
      | some kds => .ok (.ref st.length) (st ++ [.dct (mergeKD [] kds)])
      | none => .stuck)
    | none => .stuck)
  | none => .stuck
theorem tupsD_ok {K : PySem.W.Frag} {mg : Str → Option Value} {G H : Hp} {as : List Addr} {st : Store} (R : Ri K mg G H as st) : ∀ {vs : List V} {xs : List D} {ps : List (D × D)} {kds : List (Key × D)}, RpA K mg G as vs xs → tupsD xs = some ps → prsD ps = some kds →
    ∃ (qs : List Addr) (kvs : List (Key × V)), vs = qs.map V.ref ∧ Paired (fun p kv => SqT K H p [kV kv.1, kv.2]) qs kvs ∧ kvs.map (·.1) = kds.map (·.1) ∧ RpA K mg G as (kvs.map (·.2)) (kds.map (·.2))
  | _, [], _, _, r, h, h2 => by cases r; cases h; cases h2; exact ⟨[], [], rfl, .nil, rfl, .nil⟩
  | _, x :: xs, ps, kds, r, h, h2 => by
    cases r with
    | cons r1 r2 =>
      match x, r1, h with
      | .tup [a, b], r1, h =>
        obtain ⟨s, e1, rfl⟩ := Option.map_eq_some_iff.mp (show (tupsD xs).map (fun s => (a, b) :: s) = some ps from h)
        unfold prsD at h2
        cases q1 : keyD a with
        | none => simp [q1] at h2
        | some k =>
          cases q2 : prsD s with
          | none => simp [q1, q2] at h2
          | some kd2 =>
            simp only [q1, q2, Option.some.injEq] at h2
            subst h2
            obtain ⟨qs, kvs, f1, f2, f3, f4⟩ := tupsD_ok R r2 e1 q2
            cases r1 with
            | tup sq rr =>
              rename_i ad us
              obtain ⟨u, w, rfl, ra, rb⟩ := rp2 rr
              have eu : u = kV k := keyD_ok ra q1
              subst eu
              exact ⟨ad :: qs, (k, w) :: kvs, by simp [f1], .cons (sqT_H R sq) f2, by simp [f3], .cons rb f4⟩
theorem cs_dictP : CallS F (.type "dict") (f1 dictPD) := by
  refine cs_1 (fun W X m => by have := call_dictP (X := X) (F.calm m); rw [F.hK m] at this; exact this) ?_
  intro W G H as st σ e x v Q R rx h
  unfold dictPD at h
  cases q1 : lstOf st x with
  | none => simp [q1] at h; exact h.elim
  | some xs =>
    cases q2 : tupsD xs with
    | none => simp [q1, q2] at h; exact h.elim
    | some ps =>
      cases q3 : prsD ps with
      | none => simp [q1, q2, q3] at h; exact h.elim
      | some kds =>
        simp only [q1, q2, q3] at h
        obtain ⟨a, vs, rfl, hs, rr⟩ := lstOf_ok R rx q1
        obtain ⟨qs, kvs, rfl, f2, f3, f4⟩ := tupsD_ok R rr q2 q3
        refine ⟨a, qs, kvs, rfl, .of hs, f2, fun p hp => ?_⟩
        obtain ⟨m1, m2⟩ := mergeKD_ok (kvs := []) (kds := []) f3 f4 rfl .nil
        obtain ⟨R', X'⟩ := R.moving (o := .dK (mergeK [] kvs)) (m := .dct (mergeKD [] kds)) hp (.dct m1 m2)
        exact h _ G _ _ R' X' (.ref (by rw [← R.len, List.getElem?_append_right (Nat.le_refl _), Nat.sub_self]; rfl))
end
end LS
end
section
set_option maxRecDepth 100000
set_option maxHeartbeats 2000000
namespace LS
open PySem PySem.Spec L2

/-! ## sorted -/
section raw
open PySem.W PyProof.Rows PySem.Calls
variable {prog : Program} {w : World} {A : Around} {E : Value → Shared → Prop} {s : Shared}
theorem sorted_seqA {l : Addr} {T : String} {o : Obj} {items : Array Value} {n : Nat} {β : Type} {bs : List β} {enc : β → PyData} {R : Value → β → Prop} {Q : Value → Shared → Prop} (hT : T = "list" ∨ T = "tuple") (ho : s.heap.get? l = some o) (hc : o.cls = .type T) (hd : o.data = .seq items n) (hsz : items.size ≤ sizeLine)
    (e : EachIs R items.toList bs) (er : EachIs (fun v b => ∃ as, Reads s.heap v (enc b) as) items.toList bs) (hal : AllAlike (bs.map enc)) (hk : Sortable (bs.map enc)) (hu : ∀ b, b ∈ bs → A.units + 2 + (enc b).depth < cLine)
    (h : ∀ (h' : Heap) (out : List Value) (ep : Nat) (hf : Heap), (∀ b o, s.heap.get? b = some o → h'.get? b = some o) → (∀ b o, h'.get? b = some o → hf.get? b = some o) → hf.get? h'.objs.size = some (seqObj "list" (List.toArray out) ep) → EachIs R out (bs.mergeSort (dataLe false enc)) → Q (.ref h'.objs.size) { s with heap := hf }) :
    wpAny (model prog w) A (call (.builtin "sorted") [.ref l]) Q E s := by
  refine call_function_entry_kw kind_sorted plain_sorted entry_sorted (args_sorted1 _) ?_
  unfold Builtin.«sorted»
  refine wpAny_bind (m := checkCount "sorted" 1 1 _) (wpAny_pure ?_)
  refine wpAny_bind (wpAny_collect_seq l hT ho hc hd (fun h' k => ?_) hsz)
  have hL : items.toList.length ≤ sizeLine := by simpa using hsz
  refine wpAny_bind (wpAny_newList ?_ hL)
  have hoL : (h'.push (seqObj "list" items.toList.toArray 0)).get? h'.objs.size = some (seqObj "list" items.toList.toArray 0) := Heap.get?_push_size _ rfl
  have er' : EachIs (fun v b => ∃ as, Reads (sortingHeap (h'.push (seqObj "list" items.toList.toArray 0)) h'.objs.size items.toList) v (enc b) as) items.toList bs := er.mono fun _ _ ⟨as, r⟩ => ⟨as, PyProof.Rows.Reads.keeps (fun b o q => by
    have hlt := Heap.lt_size (k b o q)
    exact sortingHeap_old (Nat.ne_of_lt hlt) (Heap.get?_push_of_some _ (k b o q))) r⟩
  refine wpAny_bind (wpAny_holding (wpAny_call_entry_kw slot_list_sort ⟨_, hoL, rfl⟩ entry_list_sort ?body (args_list_sort _)))
  case body =>
    show wpAny (model prog w) A.in1.in1 (Builtin.«list.sort» ⟨[.ref h'.objs.size], []⟩) _ _ { s with heap := h'.push (seqObj "list" items.toList.toArray 0) }
    have S := SortsAt.data (prog := prog) (w := w) (A := A.in1.in1) (s := { s with heap := sortingHeap (h'.push (seqObj "list" items.toList.toArray 0)) h'.objs.size items.toList }) (each_map (R := fun v d => ∃ as, Reads (sortingHeap (h'.push (seqObj "list" items.toList.toArray 0)) h'.objs.size items.toList) v d as) enc er') hal hk (bound_map hu)
    refine list_sort_vals (s := { s with heap := h'.push (seqObj "list" items.toList.toArray 0) }) hoL S hL ?_
    refine ⟨_, rfl, wpAny_pure ⟨_, rfl, ?_⟩⟩
    obtain ⟨ep, he⟩ := sortedHeap_at (vs := items.toList) (out := (sortVals (dataKind (sortingHeap (h'.push (seqObj "list" items.toList.toArray 0)) h'.objs.size items.toList) (bs.map enc)) false items.toList items.toList).toArray) hoL
    refine h h' _ ep _ k (fun b o q => ?_) he (sortVals_data false e er' hal)
    have hlt := Heap.lt_size q
    show (sortedHeap _ _ _ _).get? b = some o
    rw [sortedHeap_old (Nat.ne_of_lt hlt) (by rw [Heap.size_push]; exact Nat.lt_succ_of_lt hlt)]
    exact Heap.get?_push_of_some _ q
end raw
section
open PySem.W
theorem each_of_vals : ∀ {bs : List (V × PyData)} {its : List Value}, Vals (bs.map (·.1)) its → EachIs (fun v b => RelV b.1 v) its bs
  | [], _, r => by cases r; exact .nil
  | b :: bs, _, r => by
    cases r with
    | cons h t => exact .cons h (each_of_vals t)
theorem vals_of_each : ∀ {bs : List (V × PyData)} {its : List Value}, EachIs (fun v b => RelV b.1 v) its bs → Vals (bs.map (·.1)) its
  | [], _, r => by cases r; exact .nil
  | b :: bs, _, r => by
    cases r with
    | cons h t => exact .cons h (vals_of_each t)
def rSortA (K : PySem.W.Frag) : List V → Hp → VK → Prop := fun vs H Q => ∃ (a : Addr) (bs : List (V × PyData)), vs = [V.ref a] ∧ (SqL K H a (bs.map (·.1)) ∨ SqT K H a (bs.map (·.1))) ∧ (∀ b ∈ bs, Dp K H b.1 b.2) ∧ AllAlike (bs.map (·.2)) ∧ Sortable (bs.map (·.2)) ∧ (∀ b ∈ bs, b.2.depth ≤ 60) ∧
  ∀ p, H p = none → Q (.ref p) (upd H p (.lst ((bs.mergeSort (dataLe false (·.2))).map (·.1))))
theorem each_reads {X : Cx} {pins : List (Addr × Obj)} {σ : L2.St} {H : Hp} {s : Shared} (I : Inv X pins σ H s) : ∀ {bs : List (V × PyData)} {its : List Value}, (∀ b ∈ bs, Dp X.K H b.1 b.2) → EachIs (fun v b => RelV b.1 v) its bs → EachIs (fun v b => ∃ as, Reads s.heap v b.2 as) its bs
  | [], _, _, r => by cases r; exact .nil
  | b :: bs, _, hd, r => by
    cases r with
    | cons h t => exact .cons (Dp.reads I _ _ _ (hd b (by simp)) h) (each_reads I (fun c hc => hd c (by simp [hc])) t)
theorem cr_sortA {X : Cx} (hu : X.A.units + 65 < cLine) : CallR X (.builtin "sorted") (rSortA X.K) := by
  intro pins s σ H vs us Q I r h
  obtain ⟨a, bs, rfl, hs, hdp, hal, hk, hdep, q⟩ := h
  rw [Vals.ref1 r]
  have main : ∀ (T : String) (o : Obj) (its : List Value) (n : Nat), T = "list" ∨ T = "tuple" → s.heap.get? a = some o → o.cls = .type T → o.data = .seq its.toArray n → (bs.map (·.1)).length ≤ sizeLine → Vals (bs.map (·.1)) its → wpAny (model X.prog X.w) X.A (PySem.call (.builtin "sorted") [.ref a]) (EP X pins σ Q) X.xe s := by
    intro T o its n hT ho hc hd hz rv
    have e0 : EachIs (fun v b => RelV b.1 v) its.toArray.toList bs := by simpa using each_of_vals rv
    refine sorted_seqA (enc := fun b : V × PyData => b.2) hT ho hc hd (by simp; rw [← rv.length]; exact hz) e0 (each_reads I hdp e0) hal hk (fun b hb => by have := hdep b hb; omega) fun h' out ep hf k1 k2 he e1 => ?_
    have rv2 := vals_of_each e1
    have I' : Inv X pins σ H { s with heap := h' } := I.kept (t' := s.toks) k1
    have hlen : ((bs.mergeSort (dataLe false (·.2))).map (·.1)).length ≤ sizeLine := by
      rw [List.length_map, (List.mergeSort_perm _ _).length_eq]
      rw [List.length_map] at hz; exact hz
    exact ⟨.ref _, upd H h'.objs.size (.lst ((bs.mergeSort (dataLe false (·.2))).map (·.1))), I'.laid (t' := s.toks) k2 (Nat.le_refl _) ⟨hlen, out, ep, rv2, he⟩, rfl, q _ (I'.hok.fresh (Nat.le_refl _))⟩
  rcases hs with hs | hs
  · obtain ⟨its, rv, p, hz⟩ := I.list hs
    obtain ⟨o, ho, hc, n, hd⟩ := p.isList
    exact main "list" o its n (.inl rfl) ho hc hd hz rv
  · obtain ⟨its, rv, p, hz⟩ := I.tuple hs
    have p' : s.heap.IsTuple a its.toArray := p
    obtain ⟨o, ho, hc, n, hd⟩ := p'
    exact main "tuple" o its n (.inr rfl) ho hc hd hz rv
/-- of one thing, or none -/
def rSort1 (K : PySem.W.Frag) : List V → Hp → VK → Prop := fun vs H Q => ∃ (a : Addr) (xs : List V), vs = [V.ref a] ∧ SqL K H a xs ∧ xs.length ≤ 1 ∧ ∀ p, H p = none → Q (.ref p) (upd H p (.lst xs))
theorem cr_sort1 {X : Cx} : CallR X (.builtin "sorted") (rSort1 X.K) := by
  intro pins s σ H vs us Q I r h
  obtain ⟨a, xs, rfl, hs, h1, q⟩ := h
  obtain ⟨its, rv, hl, hz⟩ := I.list hs
  rw [Vals.ref1 r]
  have hli := rv.length
  refine SrtO.sorted_ord (ltv := fun _ _ => false) ⟨fun _ _ h => (by cases h), fun _ _ _ _ _ => rfl⟩ hl.isList (by rw [← rv.length]; exact hz) (fun h2 => by omega) fun out h1 h2 => ?_
  have eo : out = its := by
    have hp := h2.perm
    match its, hli with
    | [], _ => exact hp.eq_nil
    | [v], _ => exact List.perm_singleton.mp hp
    | _ :: _ :: _, hli => simp at hli; omega
  subst eo
  obtain ⟨ep, he'⟩ := PyProof.Rows.sortedAll_at s.heap out out.toArray
  exact ⟨.ref _, upd H (s.heap.objs.size + 1) (.lst xs), I.laid (t' := s.toks) (fun _ _ => PyProof.Rows.sortedAll_old) (Nat.le_succ _) ⟨hz, out, ep, rv, he'⟩, rfl, q _ (I.hok.fresh (Nat.le_succ _))⟩
end
section
variable {g : Gb} {F : Fam g} {pos : Pos}
open PySem.W (AllAlike Sortable alike dataLe dataLt sort_maps)
def encD (x : D) : PyData := (pyD x).getD .none
def sleD (x y : D) : Bool := !dataLt (encD y) (encD x)
def sortD (xs : List D) : List D := xs.mergeSort sleD
def isT1 : PyData → Bool
  | .tuple (_ :: _) => true
  | _ => false
def noT : PyData → Bool
  | .tuple _ => false
  | .none => false
  | _ => true
def srtOk (ps : List PyData) : Bool := (ps.all fun p => ps.all fun q => alike p q) && (ps.all isT1 || ps.all noT) && ps.all fun p => decide (p.depth ≤ 60)
def sortedD (x : D) : XM D := fun _ st => match seqOf st x with
  | some xs => (match pyDs xs with
    | some ps => if srtOk ps = true then .ok (.lst (sortD xs)) st else (match lstOf st x with
      | some ys => if ys.length ≤ 1 then .ok (.lst ys) st else .stuck
      | none => .stuck)
    | none => .stuck)
  | none => .stuck
theorem pyDs_get : ∀ {xs : List D} {ps : List PyData}, pyDs xs = some ps → (∀ x ∈ xs, ∃ p, pyD x = some p) ∧ ps = xs.map encD
  | [], ps, h => by cases h; exact ⟨by simp, rfl⟩
  | x :: r, ps, h => by
    unfold pyDs at h
    cases q1 : pyD x with
    | none => simp [q1] at h
    | some p =>
      cases q2 : pyDs r with
      | none => simp [q1, q2] at h
      | some ps2 =>
        simp only [q1, q2, Option.some.injEq] at h
        obtain ⟨a, b⟩ := pyDs_get q2
        refine ⟨fun y hy => ?_, ?_⟩
        · rcases List.mem_cons.mp hy with rfl | hy
          · exact ⟨p, q1⟩
          · exact a y hy
        · rw [← h, b]; simp [encD, q1]
theorem zip_rp {K : PySem.W.Frag} {mg : Str → Option Value} {G : Hp} {as : List Addr} : ∀ {vs : List V} {xs : List D}, RpA K mg G as vs xs → ∀ t ∈ vs.zip xs, Rp K mg G as t.1 t.2
  | _, _, .nil, t, h => by simp at h
  | _, _, .cons a b, t, h => by
    simp only [List.zip_cons_cons, List.mem_cons] at h
    rcases h with rfl | h
    · exact a
    · exact zip_rp b t h
theorem rp_zip {K : PySem.W.Frag} {mg : Str → Option Value} {G : Hp} {as : List Addr} : ∀ {ts : List (V × D)}, (∀ t ∈ ts, Rp K mg G as t.1 t.2) → RpA K mg G as (ts.map (·.1)) (ts.map (·.2))
  | [], _ => .nil
  | t :: r, h => .cons (h t (by simp)) (rp_zip fun u hu => h u (by simp [hu]))
theorem cs_sorted : CallS F (.builtin "sorted") (f1 sortedD) := by
  refine cs_1 (r := fun vs H Q => rSortA g.K vs H Q ∨ rSort1 g.K vs H Q) (fun W X m => by have := (cr_sortA (X := X) (units65 (F.room m))).or cr_sort1; rw [F.hK m] at this; exact this) ?_
  intro W G H as st σ e x v Q R rx h
  unfold sortedD at h
  cases q1 : seqOf st x with
  | none => simp only [q1] at h; exact h.elim
  | some xs =>
    simp only [q1] at h
    cases q2 : pyDs xs with
    | none => simp only [q2] at h; exact h.elim
    | some ps =>
      simp only [q2] at h
      obtain ⟨a, vs, rfl, hs, rr⟩ := seqOf_ok R rx q1
      by_cases hok : srtOk ps = true
      · rw [if_pos hok] at h
        obtain ⟨hall, eps⟩ := pyDs_get q2
        unfold srtOk at hok
        simp only [Bool.and_eq_true, Bool.or_eq_true, List.all_eq_true, decide_eq_true_eq] at hok
        obtain ⟨⟨k1, k2⟩, k3⟩ := hok
        have hlen := rr.len
        have efst : (vs.zip xs).map (·.1) = vs := List.map_fst_zip (by omega)
        have esnd : (vs.zip xs).map (·.2) = xs := List.map_snd_zip (by omega)
        have ebs : ((vs.zip xs).map fun t => (t.1, encD t.2)).map (·.1) = vs := by rw [List.map_map]; exact efst
        have ebs2 : ((vs.zip xs).map fun t => (t.1, encD t.2)).map (·.2) = ps := by
          rw [List.map_map, eps]
          have : ((fun x : V × PyData => x.2) ∘ fun t : V × D => (t.1, encD t.2)) = encD ∘ (·.2) := rfl
          rw [this, ← List.map_map, esnd]
        refine .inl ⟨a, (vs.zip xs).map fun t => (t.1, encD t.2), rfl, by rw [ebs]; exact hs, fun b hb => ?_, ?_, ?_, fun b hb => ?_, fun p hp => ?_⟩
        · obtain ⟨t, ht, rfl⟩ := List.mem_map.mp hb
          have rt := zip_rp rr t ht
          have hx : t.2 ∈ xs := by rw [← esnd]; exact List.mem_map.mpr ⟨t, ht, rfl⟩
          obtain ⟨p, hp⟩ := hall _ hx
          have := pyD_ok R rt hp
          show Dp g.K H t.1 (encD t.2)
          unfold encD; rw [hp]; exact this
        · rw [ebs2]; exact fun d hd d' hd' => k1 d hd d' hd'
        · rw [ebs2]
          rcases k2 with k2 | k2
          · refine .inl fun d hd => ?_
            have := k2 d hd
            match d, this with
            | .tuple (x :: r), _ => exact ⟨x, r, rfl⟩
          · refine .inr fun d hd => ?_
            have := k2 d hd
            exact ⟨fun z => (by subst z; cases this), fun ys z => (by subst z; cases this)⟩
        · have : b.2 ∈ ps := by rw [← ebs2]; exact List.mem_map.mpr ⟨b, hb, rfl⟩
          exact k3 _ this
        · have s1 := sort_maps (r := fun s t : V × D => sleD s.2 t.2) (s := dataLe false (fun b : V × PyData => b.2)) (fun t : V × D => (t.1, encD t.2)) (l := vs.zip xs) (fun _ _ _ _ => rfl)
          have s2 := sort_maps (r := fun s t : V × D => sleD s.2 t.2) (s := sleD) (fun t : V × D => t.2) (l := vs.zip xs) (fun _ _ _ _ => rfl)
          rw [← s1, List.map_map]
          rw [esnd] at s2
          refine PX.still R hp ?_ h
          refine .lst upd_same ?_
          show RpA g.K g.mg _ as (((vs.zip xs).mergeSort fun s t => sleD s.2 t.2).map (·.1)) (sortD xs)
          unfold sortD
          rw [← s2]
          refine (rp_zip fun t ht => ?_).ext (R.still (o := .lst _) hp).2
          exact zip_rp rr t ((List.mergeSort_perm _ _).mem_iff.mp ht)
      · rw [if_neg hok] at h
        split at h
        · rename_i ys hy
          by_cases hl : ys.length ≤ 1
          · rw [if_pos hl] at h
            obtain ⟨a', us, e', hs', rr'⟩ := lstOf_ok R rx hy
            cases e'
            refine .inr ⟨a, us, rfl, .of hs', by rw [rr'.len]; exact hl, fun p hp => ?_⟩
            exact PX.still R hp (.lst upd_same (rr'.ext (R.still (o := .lst us) hp).2)) h
          · rw [if_neg hl] at h; exact h.elim
        · exact h.elim

/-! ## methods of lists with one argument -/
def listy (st : Store) : D → Bool
  | .lst _ => true
  | .sq _ => true
  | .ref i => isLst st i
  | _ => false
theorem listy_ok {K : PySem.W.Frag} {mg : Str → Option Value} {G H : Hp} {as : List Addr} {st : Store} {v : V} {d : D} (R : Ri K mg G H as st) (r : Rp K mg G as v d) (h : listy st d = true) : tyV K "list" v H := by
  cases r with
  | lst s q => exact .inl ⟨rfl, _, .of (R.sub _ _ s)⟩
  | sq s q => exact .inl ⟨rfl, _, sqL_H R s⟩
  | ref q => exact ty_ref R (.ref q) h
  | _ => cases h
def xm1 (fop : D → D → XM D) (mo me : XM D) : XM D := xbind mo fun x => fun e st => if listy st x = true then (xbind me fun y => fop x y) e st else .stuck
theorem je_lm1 {o ex : Expr} {mo me : XM D} {apos : Pos} {name : Str} {id : String} {r : V → List V → Hp → VK → Prop} {fop : D → D → XM D} (slot : Slot "list" name id) (hty : typeOf (.builtin id) = pure (.type "method_descriptor")) (hm : ∀ W X, F.mem W X → MtR X id r)
    (hv : ∀ (W : WX) (G H : Hp) (as : List Addr) (st : Store) (σ : L2.St) (e : Nv) (x y : D) (v w : V) (Q : VK), Ri g.K g.mg G H as st → Rp g.K g.mg G as v x → Rp g.K g.mg G as w y → PX g.K g.mg W G H as σ (fop x y e st) Q → r v [w] H Q)
    (ho : JE F o mo) (he : JE F ex me) (h1 : ∀ env, attributeBase o name env (eval o env) = eval o env := by intro _; rfl) (h2 : (apos.endLine == pos.line) = true := by rfl)
    (hst : ∀ env, starEach [ex] env = (false, eval ex env) :: starEach [] env := by intro _; rfl)
    (hfew : ∀ env, ((backTo pos (starEach [ex] env)).all (fun x => !x.1) && (backToKw pos (keywordEach [] env)).all (fun x => x.1.isSome)
      && decide ([ex].length + ([] : List Keyword).length + (if ([] : List Keyword).isEmpty then 0 else 1) < 30)) = true := by intro _; rfl) : JE F (.Call (.Attribute o name apos) [ex] [] pos) (xm1 fop mo me) := by
  obtain ⟨t, p, s⟩ := ho
  obtain ⟨te, pe, se⟩ := he
  refine ⟨fun W => tBM g.K "list" r (t W) (tCons (te W) tNil), fun W X m => ?_, ?_⟩
  · have := pe_bm (cpos := pos) (apos := apos) PySem.F.plainAttrs_list slot hty (hm W X m) (p W X m) (pa_cons (pe W X m) pa_nil (hst _)) (h1 _) (hfew _) h2 (hst _) rfl
    rw [F.hK m] at this
    exact this
  · intro W G H as st σ e Q R N h
    refine s.one R N h fun x st1 v G1 H1 as1 R1 X1 N1 rv h1 => ?_
    by_cases hx : listy st1 x = true
    · rw [if_pos hx] at h1
      refine ⟨listy_ok R1 rv hx, ?_⟩
      refine se.one R1 N1 h1 fun y st2 w G2 H2 as2 R2 X2 N2 rw' h2 => ?_
      exact hv W G2 H2 as2 st2 σ e x y v w Q R2 (rv.ext X2) rw' h2
    · rw [if_neg hx] at h1; exact h1.elim
def pyListOf (st : Store) (x : D) : Option (List PyData) := match pyOf st x with
  | some (.list ps) => some ps
  | _ => none
theorem pyListOf_ok {K : PySem.W.Frag} {mg : Str → Option Value} {G H : Hp} {as : List Addr} {st : Store} {v : V} {x : D} {ps : List PyData} (R : Ri K mg G H as st) (r : Rp K mg G as v x) (h : pyListOf st x = some ps) : ∃ a, v = .ref a ∧ Dp K H v (.list ps) := by
  unfold pyListOf at h
  split at h
  · rename_i q e
    cases h
    have d := pyOf_ok R r e
    cases d with
    | lst s q => exact ⟨_, rfl, .lst s q⟩
  · cases h
def indexD (x y : D) : XM D := fun _ st => match pyListOf st x, pyOf st y with
  | some ps, some p => if (SeqAt.shaped (.list ps) && SeqAt.shaped p) = true then (match ps.findIdx? (fun z => PyData.eqv z p) with
    | some j => .ok (.int (j : Int)) st
    | none => .stuck) else .stuck
  | _, _ => .stuck
theorem je_index {o ex : Expr} {mo me : XM D} {apos : Pos} (ho : JE F o mo) (he : JE F ex me) (h1 : ∀ env, attributeBase o "index" env (eval o env) = eval o env := by intro _; rfl) (h2 : (apos.endLine == pos.line) = true := by rfl)
    (hst : ∀ env, starEach [ex] env = (false, eval ex env) :: starEach [] env := by intro _; rfl)
    (hfew : ∀ env, ((backTo pos (starEach [ex] env)).all (fun x => !x.1) && (backToKw pos (keywordEach [] env)).all (fun x => x.1.isSome)
      && decide ([ex].length + ([] : List Keyword).length + (if ([] : List Keyword).isEmpty then 0 else 1) < 30)) = true := by intro _; rfl) : JE F (.Call (.Attribute o "index" apos) [ex] [] pos) (xm1 indexD mo me) := by
  refine je_lm1 (r := rIndexD g.K) PySem.F.slot_list_index PySem.F.type_list_index (fun W X m => by have := mt_indexD (X := X) (units65 (F.room m)); rw [F.hK m] at this; exact this) ?_ ho he h1 h2 hst hfew
  intro W G H as st σ e x y v w Q R rx ry h
  unfold indexD at h
  cases q1 : pyListOf st x with
  | none => simp only [q1] at h; exact h.elim
  | some ps =>
    cases q2 : pyOf st y with
    | none => simp only [q1, q2] at h; exact h.elim
    | some p =>
      simp only [q1, q2] at h
      by_cases hs : (SeqAt.shaped (.list ps) && SeqAt.shaped p) = true
      · rw [if_pos hs] at h
        have hs' := Bool.and_eq_true_iff.mp hs
        cases q3 : ps.findIdx? (fun z => PyData.eqv z p) with
        | none => simp only [q3] at h; exact h.elim
        | some j =>
          simp only [q3] at h
          obtain ⟨a, rfl, d1⟩ := pyListOf_ok R rx q1
          obtain ⟨hj, e1, e2⟩ := List.findIdx?_eq_some_iff_getElem.mp q3
          refine ⟨a, w, p, ps, j, ps[j], rfl, rfl, d1, pyOf_ok R ry q2, hs'.1, hs'.2, List.getElem?_eq_getElem hj, e1, fun m z hm hz => ?_, h.pure R (.int _)⟩
          obtain ⟨hml, ez⟩ := List.getElem?_eq_some_iff.mp hz
          have := e2 m hm
          rw [ez] at this
          simpa using this
      · rw [if_neg hs] at h; exact h.elim
def rCntD (K : PySem.W.Frag) : V → List V → Hp → VK → Prop := fun x xs H Q => ∃ (a : Addr) (y : V) (d : PyData) (ds : List PyData), x = V.ref a ∧ xs = [y] ∧ Dp K H (V.ref a) (.list ds) ∧ Dp K H y d ∧
  PyData.plainAll ds = true ∧ d.plain = true ∧ d.depth ≤ 60 ∧ Q (.int ((ds.countP fun z => PyData.eqv z d : Nat) : Int)) H
theorem mt_countD {X : Cx} (hu : X.A.units + 65 < cLine) : MtR X "list.count" (rCntD X.K) := by
  intro pins s σ H x xs v us Q I rx rxs h
  obtain ⟨a, y, d, ds, rfl, rfl, hl, hy, sl, sd, hdep, q⟩ := h
  cases rx
  cases rxs with
  | cons ry rt =>
    rename_i uy ut
    cases rt
    obtain ⟨bs, r1⟩ := Dp.reads I d y uy hy ry
    cases hl with
    | lst hs ha =>
      obtain ⟨its, rv, pl, hlen⟩ := I.list hs
      obtain ⟨as, h4⟩ := Dp.readsAll I ds _ its ha rv
      have h2 : min (PyData.depthAll ds) d.depth ≤ d.depth := Nat.min_le_right _ _
      refine PySem.SeqAt.count_list_data (vs := its.toArray) pl.isList (by simpa using h4) r1 sl sd (by omega) ?_
      exact ⟨.int _, H, I.tok _, ⟨s.toks, rfl⟩, q⟩
def countD (x y : D) : XM D := fun _ st => match pyListOf st x, pyOf st y with
  | some ps, some p => if (PyData.plainAll ps && p.plain && decide (p.depth ≤ 60)) = true then .ok (.int ((ps.countP fun z => PyData.eqv z p : Nat) : Int)) st else .stuck
  | _, _ => .stuck
theorem je_count {o ex : Expr} {mo me : XM D} {apos : Pos} (ho : JE F o mo) (he : JE F ex me) (h1 : ∀ env, attributeBase o "count" env (eval o env) = eval o env := by intro _; rfl) (h2 : (apos.endLine == pos.line) = true := by rfl)
    (hst : ∀ env, starEach [ex] env = (false, eval ex env) :: starEach [] env := by intro _; rfl)
    (hfew : ∀ env, ((backTo pos (starEach [ex] env)).all (fun x => !x.1) && (backToKw pos (keywordEach [] env)).all (fun x => x.1.isSome)
      && decide ([ex].length + ([] : List Keyword).length + (if ([] : List Keyword).isEmpty then 0 else 1) < 30)) = true := by intro _; rfl) : JE F (.Call (.Attribute o "count" apos) [ex] [] pos) (xm1 countD mo me) := by
  refine je_lm1 (r := rCntD g.K) PySem.F.slot_list_count PySem.F.type_list_count (fun W X m => by have := mt_countD (X := X) (units65 (F.room m)); rw [F.hK m] at this; exact this) ?_ ho he h1 h2 hst hfew
  intro W G H as st σ e x y v w Q R rx ry h
  unfold countD at h
  cases q1 : pyListOf st x with
  | none => simp only [q1] at h; exact h.elim
  | some ps =>
    cases q2 : pyOf st y with
    | none => simp only [q1, q2] at h; exact h.elim
    | some p =>
      simp only [q1, q2] at h
      by_cases hs : (PyData.plainAll ps && p.plain && decide (p.depth ≤ 60)) = true
      · rw [if_pos hs] at h
        simp only [Bool.and_eq_true, decide_eq_true_eq] at hs
        obtain ⟨a, rfl, d1⟩ := pyListOf_ok R rx q1
        exact ⟨a, w, p, ps, rfl, rfl, d1, pyOf_ok R ry q2, hs.1.1, hs.1.2, hs.2, h.pure R (.int _)⟩
      · rw [if_neg hs] at h; exact h.elim

/-! ## comb, gcd, lcm of math: names of the module that are built-ins -/
theorem je_callMB {x : Str} {id : String} {p : Pos} {a : Expr} {es : List Expr} {ms : XM (List D)} {fop : List D → XM D} (hc : CallS F (.builtin id) fop) (hg : F.sc.names.lookup x = some .globalImplicit) (hm : g.mg x = some (.builtin id)) (ha : JA F (a :: es) ms)
    (hdb : (x == ("__debug__" : Str)) = false := by decide) (he : ∀ env, starEach (a :: es) env = (false, eval a env) :: starEach es env := by intro _; rfl) (hpl : ∀ env, (backTo pos (starEach es env)).any (·.1) = false := by intro _; rfl) :
    JE F (.Call (.Name x p) (a :: es) [] pos) (xcall fop ms) := by
  obtain ⟨r, hr, hv'⟩ := hc
  obtain ⟨ts, ps, ss⟩ := ha
  exact ⟨fun W => tCB r (ts W), fun W X m => pe_callMB (hr W X m) (by show X.env.scope.names.lookup x = _; rw [F.hsc m]; exact hg) (by rw [F.hmg m]; exact hm) (ps W X m) hdb (he _) (hpl _), callS_SE ss hv'⟩
theorem cr_comb {X : Cx} : CallR X (.builtin "math.comb") (fun xs H Q => ∃ a b : Int, xs = [.int a, .int b] ∧ (0 ≤ a ∧ 0 ≤ b ∧ a ≤ 18000) ∧ Q (.int (PySem.W.mcComb a b)) H) := by
  intro pins s σ H vs us Q I r h
  obtain ⟨a, b, rfl, ⟨h1, h2, h3⟩, q⟩ := h
  cases r with
  | cons r1 r2 =>
    cases r2 with
    | cons r2 r3 =>
      cases r3
      obtain ⟨t, rfl⟩ := r1
      obtain ⟨u, rfl⟩ := r2
      exact PySem.W.mc_comb_v h1 h2 (by omega) (.inr h3) rfl ⟨.int _, H, I.tok _, ⟨s.toks, rfl⟩, q⟩
def combD (x y : D) : XM D := fun _ st => match x, y with
  | .int a, .int b => if 0 ≤ a ∧ 0 ≤ b ∧ a ≤ 18000 then .ok (.int (PySem.W.mcComb a b)) st else .stuck
  | _, _ => .stuck
theorem cs_comb : CallS F (.builtin "math.comb") (f2 combD) := by
  refine cs_2 (fun W X m => cr_comb) ?_
  intro W G H as st σ e x y v w Q R rx ry h
  unfold combD at h
  split at h
  · rename_i a b
    cases rx; cases ry
    by_cases hc : 0 ≤ a ∧ 0 ≤ b ∧ a ≤ 18000
    · rw [if_pos hc] at h
      exact ⟨a, b, rfl, hc, h.pure R (.int _)⟩
    · rw [if_neg hc] at h; exact h.elim
  · exact h.elim
theorem cr_gcd {X : Cx} : CallR X (.builtin "math.gcd") (fun xs H Q => ∃ a b : Int, xs = [.int a, .int b] ∧ Q (.int ((a.natAbs.gcd b.natAbs : Nat) : Int)) H) := by
  intro pins s σ H vs us Q I r h
  obtain ⟨a, b, rfl, q⟩ := h
  cases r with
  | cons r1 r2 =>
    cases r2 with
    | cons r2 r3 =>
      cases r3
      obtain ⟨t, rfl⟩ := r1
      obtain ⟨u, rfl⟩ := r2
      exact PySem.W.mg_gcd_v rfl ⟨.int _, H, I.tok _, ⟨s.toks, rfl⟩, q⟩
def gcdD (x y : D) : XM D := fun _ st => match x, y with
  | .int a, .int b => .ok (.int ((a.natAbs.gcd b.natAbs : Nat) : Int)) st
  | _, _ => .stuck
theorem cs_gcd : CallS F (.builtin "math.gcd") (f2 gcdD) := by
  refine cs_2 (fun W X m => cr_gcd) ?_
  intro W G H as st σ e x y v w Q R rx ry h
  unfold gcdD at h
  split at h
  · rename_i a b
    cases rx; cases ry
    exact ⟨a, b, rfl, h.pure R (.int _)⟩
  · exact h.elim
theorem cr_lcm {X : Cx} : CallR X (.builtin "math.lcm") (fun xs H Q => ∃ a b : Int, xs = [.int a, .int b] ∧ (a.natAbs < 2 ^ 64 ∧ b.natAbs < 2 ^ 64) ∧ Q (.int ((a.natAbs.lcm b.natAbs : Nat) : Int)) H) := by
  intro pins s σ H vs us Q I r h
  obtain ⟨a, b, rfl, ⟨h1, h2⟩, q⟩ := h
  cases r with
  | cons r1 r2 =>
    cases r2 with
    | cons r2 r3 =>
      cases r3
      obtain ⟨t, rfl⟩ := r1
      obtain ⟨u, rfl⟩ := r2
      exact PySem.W.mc_lcm h1 h2 fun _ => ⟨.int _, H, I.tok _, ⟨s.toks, rfl⟩, q⟩
def lcmD (x y : D) : XM D := fun _ st => match x, y with
  | .int a, .int b => if a.natAbs < 2 ^ 64 ∧ b.natAbs < 2 ^ 64 then .ok (.int ((a.natAbs.lcm b.natAbs : Nat) : Int)) st else .stuck
  | _, _ => .stuck
theorem cs_lcm : CallS F (.builtin "math.lcm") (f2 lcmD) := by
  refine cs_2 (fun W X m => cr_lcm) ?_
  intro W G H as st σ e x y v w Q R rx ry h
  unfold lcmD at h
  split at h
  · rename_i a b
    cases rx; cases ry
    by_cases hc : a.natAbs < 2 ^ 64 ∧ b.natAbs < 2 ^ 64
    · rw [if_pos hc] at h
      exact ⟨a, b, rfl, hc, h.pure R (.int _)⟩
    · rw [if_neg hc] at h; exact h.elim
  · exact h.elim
end
end LS
end
section
set_option maxRecDepth 100000
set_option maxHeartbeats 2000000
namespace LS
open PySem PySem.Spec L2
theorem outG_hout {g : Gb} : ∀ (G H G1 H1 : Hp) (as as1 : List Addr) (st1 : Store) (n : Nat) (W : WX) (σ : L2.St) (d : D) (v : V) (Q : VK), Ri g.K g.mg G1 H1 as1 st1 → Ext G H as G1 H1 as1 → as.length = n → Rp g.K g.mg G1 as1 v d → PX g.K g.mg W G H as σ (outG n d st1) Q → Q v H1 :=
  fun _ _ _ _ _ _ _ _ _ _ _ _ _ R X _ r h => outG_ok R X r h
end LS
end
section
set_option maxRecDepth 100000
set_option maxHeartbeats 2000000
namespace LS
open PySem PySem.Spec L2
variable {e : Nv} {st : Store}
/-! ## plain laws that hang on no program -/
theorem outD_pl {d : D} {st : Store} (h : refsB 0 d = true) : outD 0 d st = .ok d [] := by
  have hs : stB 0 st = true := by simp [stB]
  unfold outD
  rw [if_pos hs]
  cases d <;> simp_all [refsB]
theorem runF_rt {n : Nat} {m : SM} {ds : List D} {d : D} {st' : Store} (h : m (ds.map some ++ List.replicate (n - ds.length) none) [] = .rt d st') (hd : refsB 0 d = true) : runF n m [] ds = .ok d [] := by
  unfold runF
  rw [h]
  exact outD_pl hd
theorem runF_nx {n : Nat} {m : SM} {ds : List D} {e' : Nv} {st' : Store} (h : m (ds.map some ++ List.replicate (n - ds.length) none) [] = .nx e' st') : runF n m [] ds = .ok .non [] := by
  unfold runF
  rw [h]
  exact outD_pl (d := .non) rfl
/-- a list that is made and given back still -/
theorem runF_ref {n : Nat} {m : SM} {ds xs : List D} {k : Nat} {st' : Store} (h : m (ds.map some ++ List.replicate (n - ds.length) none) [] = .rt (.ref k) st') (hk : st'[k]? = some (.lst xs)) (hx : refsBs 0 xs = true) : runF n m [] ds = .ok (.lst xs) [] := by
  unfold runF
  rw [h]
  have hs : stB 0 st' = true := by simp [stB]
  simp [outF, outD, hs, hk, hx]
theorem mem_enumD : ∀ {xs : List D} {k : Nat} {x : D}, x ∈ enumD k xs → ∃ (i : Nat) (y : D), y ∈ xs ∧ xs[i]? = some y ∧ x = .tup [.int ((k + i : Nat) : Int), y]
  | [], _, _, h => by simp [enumD] at h
  | y :: r, k, x, h => by
    simp only [enumD, List.mem_cons] at h
    rcases h with rfl | h
    · exact ⟨0, y, by simp, by simp, by simp⟩
    · obtain ⟨i, z, h1, h2, h3⟩ := mem_enumD h
      exact ⟨i + 1, z, by simp [h1], by simpa using h2, by rw [h3, show k + 1 + i = k + (i + 1) by omega]⟩
theorem mem_iD {ns : List Int} {x : D} (h : x ∈ iD ns) : ∃ n, n ∈ ns ∧ x = .int n := by
  unfold iD at h
  obtain ⟨n, h1, h2⟩ := List.mem_map.mp h
  exact ⟨n, h1, h2.symm⟩
theorem getD_at {a : List Int} {k : Nat} (h : k < a.length) : atI (iD a) (k : Int) = some (.int (a.getD k 0)) := by
  rw [atI_nat, iD_get, List.getD_eq_getElem?_getD, List.getElem?_eq_getElem h]; rfl
theorem getD_at1 {a : List Int} {k : Nat} (h : k + 1 < a.length) : atI (iD a) ((k : Int) + 1) = some (.int (a.getD (k + 1) 0)) := by
  rw [show (k : Int) + 1 = ((k + 1 : Nat) : Int) by omega]; exact getD_at h
@[simp] theorem atI_0 {α : Type} (x : α) (r : List α) : atI (x :: r) 0 = some x := by have := atI_nat (x :: r) 0; simpa using this
@[simp] theorem atI_1 {α : Type} (x y : α) (r : List α) : atI (x :: y :: r) 1 = some y := by have := atI_nat (x :: y :: r) 1; simpa using this
@[simp] theorem atI_2 {α : Type} (x y z : α) (r : List α) : atI (x :: y :: z :: r) 2 = some z := by have := atI_nat (x :: y :: z :: r) 2; simpa using this
theorem cut_to (xs : List D) (k : Nat) : cutD xs none (some (k : Int)) = xs.take k := by
  unfold cutD
  rw [HT.sIx_nat]
  simp [HT.sIx]
theorem cut_from (xs : List D) (k : Nat) : cutD xs (some (k : Int)) none = xs.drop k := by
  unfold cutD
  rw [HT.sIx_nat]
  simp [HT.sIx]
  by_cases h : k ≤ xs.length
  · rw [Nat.min_eq_left h]
    exact List.take_of_length_le (by simp)
  · rw [Nat.min_eq_right (by omega)]
    simp
    omega
@[simp] theorem eqO_l0 (st : Store) : eqO st (.lst []) (.lst []) = some true := by simpa using eqO_lints st [] []
@[simp] theorem eqO_lc0 (st : Store) (i : Int) (r : List Int) : eqO st (.lst (.int i :: iD r)) (.lst []) = some false := by simpa using eqO_lints st (i :: r) []
/-! ## the well -/
def Wl (m : MO) : Prop := ∃ a s c : Int, 0 ≤ a ∧ 0 ≤ s ∧ 0 ≤ c ∧ m = .lst [.int a, .int s, .int c]
theorem Wl.mo {m : MO} (h : Wl m) : moB 0 m = true := by obtain ⟨a, s, c, _, _, _, rfl⟩ := h; rfl
/-- what a def that is handed the well gives -/
theorem runF_w {n : Nat} {f : SM} {ds : List D} {d : D} {m m' : MO} {st : Store} (h : f (ds.map some ++ List.replicate (n - ds.length) none) [m] = .rt d (m' :: st)) (w : Wl m') (hd : refsB 0 d = true) : runF n f [m] ds = .ok d [m'] := by
  unfold runF
  rw [h]
  have w' := w
  obtain ⟨a, s, c, _, _, _, rfl⟩ := w'
  have hs : stB 1 (MO.lst [.int a, .int s, .int c] :: st) = true := by simp [stB, moB, refsBs, refsB]
  have hd1 : refsB 1 d = true := refsB_mono (by decide) hd
  simp only [outF, outD, List.length_singleton, hs, if_true]
  cases d <;> simp_all [refsB]
theorem refsIn_ok {n : Nat} {x y : D} (h : okD n x = true) (h2 : okD n y = true) : refsIn [x, y] = [] := by
  cases n with
  | zero => simp [okD] at h
  | succ n => cases x <;> cases y <;> simp_all [okD, refsIn]
/-! ## the new words -/
section
@[simp] theorem ap_star (m : XM D) (ms : XM (List D)) : xstar m ms e st = match m e st with | .ok x st1 => (match seqOf st1 x with | some xs => xbind ms (fun ys => xpure (xs ++ ys)) e st1 | none => .stuck) | .exc c p st' => .exc c p st' | .stuck => .stuck := by
  unfold xstar xbind
  cases m e st <;> rfl
@[simp] theorem seqOf_tup (xs : List D) : seqOf st (.tup xs) = some xs := rfl
@[simp] theorem seqOf_lst (xs : List D) : seqOf st (.lst xs) = some xs := rfl
@[simp] theorem seqOf_sq (xs : List D) : seqOf st (.sq xs) = some xs := rfl
@[simp] theorem lstOf_lst (xs : List D) : lstOf st (.lst xs) = some xs := rfl
@[simp] theorem lstOf_tup (xs : List D) : lstOf st (.tup xs) = none := rfl
@[simp] theorem sorted_ap (x : D) : sortedD x e st = match seqOf st x with
  | some xs => (match pyDs xs with
    | some ps => if srtOk ps = true then .ok (.lst (sortD xs)) st else (match lstOf st x with
      | some ys => if ys.length ≤ 1 then .ok (.lst ys) st else .stuck
      | none => .stuck)
    | none => .stuck)
  | none => .stuck := rfl
@[simp] theorem in_ap (x y : D) : inD x y e st = match inO st x y with | some b => .ok (.bl b) st | none => .stuck := rfl
@[simp] theorem notin_ap (x y : D) : notInD x y e st = match inO st x y with | some b => .ok (.bl (!b)) st | none => .stuck := rfl
theorem any_int (k : Int) : ∀ ns : List Int, (ns.any ((fun z => PyData.eqv z (.int k)) ∘ PyData.int)) = decide (k ∈ ns)
  | [] => by simp
  | n :: r => by
    rw [List.any_cons, any_int k r]
    simp only [Function.comp, PyData.eqv]
    by_cases h : n = k
    · simp [h]
    · have : ¬ k = n := fun z => h z.symm
      simp [h, this]
@[simp] theorem inO_int_lst (k : Int) (ns : List Int) : inO st (.int k) (.lst (iD ns)) = some (decide (k ∈ ns)) := by
  simp [inO, pyOf, pyD, any_int]
@[simp] theorem inO_int_tup (k : Int) (ns : List Int) : inO st (.int k) (.tup (iD ns)) = some (decide (k ∈ ns)) := by
  simp [inO, pyOf, pyD, any_int]
@[simp] theorem comb_ap (a b : Int) : combD (.int a) (.int b) e st = if 0 ≤ a ∧ 0 ≤ b ∧ a ≤ 18000 then .ok (.int (PySem.W.mcComb a b)) st else .stuck := rfl
@[simp] theorem gcd_ap (a b : Int) : gcdD (.int a) (.int b) e st = .ok (.int ((a.natAbs.gcd b.natAbs : Nat) : Int)) st := rfl
@[simp] theorem lcm_ap (a b : Int) : lcmD (.int a) (.int b) e st = if a.natAbs < 2 ^ 64 ∧ b.natAbs < 2 ^ 64 then .ok (.int ((a.natAbs.lcm b.natAbs : Nat) : Int)) st else .stuck := rfl
end
/-! ## sorted ints -/
theorem srtOk_int (ns : List Int) : srtOk (ns.map PyData.int) = true := by
  unfold srtOk
  simp [noT, PySem.W.alike, PyData.depth]
theorem sortD_int (ns : List Int) : sortD (iD ns) = iD (ns.mergeSort fun a b => decide (a ≤ b)) := by
  unfold sortD iD
  refine (PySem.W.sort_maps (r := fun a b : Int => decide (a ≤ b)) (s := sleD) D.int (l := ns) fun a _ b _ => ?_).symm
  show _ = !PySem.W.dataLt (.int b) (.int a)
  rw [PySem.W.dataLt_int, PySem.W.not_lt_int]
theorem sorted_int_lst (ns : List Int) : sortedD (.lst (iD ns)) e st = .ok (.lst (iD (ns.mergeSort fun a b => decide (a ≤ b)))) st := by
  simp [srtOk_int, sortD_int]
theorem sorted_int_tup (ns : List Int) : sortedD (.tup (iD ns)) e st = .ok (.lst (iD (ns.mergeSort fun a b => decide (a ≤ b)))) st := by
  simp [srtOk_int, sortD_int]
/-! ## dicts of ints to ints, as rows -/
abbrev Rw := List (Int × Int)
def dD (rows : Rw) : List (Key × D) := rows.map fun p => (.inl p.1, .int p.2)
def addR : Rw → Int → Int → Rw
  | [], k, c => [(k, c)]
  | (k', c') :: r, k, c => if k' = k then (k', c' + c) :: r else (k', c') :: addR r k c
def getR : Rw → Int → Option Int
  | [], _ => none
  | (k', c') :: r, k => if k' = k then some c' else getR r k
def keysR (rows : Rw) : List Int := rows.map (·.1)
@[simp] theorem dD_len (rows : Rw) : (dD rows).length = rows.length := by simp [dD]
theorem getKD_dD : ∀ (rows : Rw) (k : Int), getKD (dD rows) (.inl k) = (getR rows k).map D.int
  | [], _ => rfl
  | (k', c') :: r, k => by
    by_cases h : k' = k
    · simp [getKD, dD, getR, h]
    · have ih := getKD_dD r k
      simp [getKD, dD] at ih
      simp [getKD, dD, getR, h, List.find?_cons]
      exact ih
theorem getR_none {rows : Rw} {k : Int} (h : k ∉ keysR rows) : getR rows k = none := by
  induction rows with
  | nil => rfl
  | cons p r ih =>
    obtain ⟨k', c'⟩ := p
    have h' : ¬ k = k' ∧ k ∉ keysR r := by simpa [keysR] using h
    simp [getR, show ¬ k' = k from fun z => h'.1 z.symm, ih h'.2]
theorem anyK_dD (rows : Rw) (k : Int) : ((dD rows).any fun kv => decide (kv.1 = .inl k)) = decide (k ∈ keysR rows) := by
  induction rows with
  | nil => rfl
  | cons p r ih =>
    obtain ⟨k', c'⟩ := p
    have e1 : keysR ((k', c') :: r) = k' :: keysR r := rfl
    have e2 : dD ((k', c') :: r) = (.inl k', .int c') :: dD r := rfl
    rw [e1, e2, List.any_cons, ih]
    by_cases h : k' = k
    · simp [h]
    · have : ¬ k = k' := fun z => h z.symm
      simp [h, this]
theorem map_same {rows : Rw} {k v : Int} (h : k ∉ keysR rows) : (dD rows).map (fun kv => if kv.1 = .inl k then (kv.1, D.int v) else kv) = dD rows := by
  induction rows with
  | nil => rfl
  | cons p r ih =>
    obtain ⟨k', c'⟩ := p
    have h' : ¬ k = k' ∧ k ∉ keysR r := by simpa [keysR] using h
    have ih' := ih h'.2
    simp only [dD] at ih'
    simp [dD, show ¬ k' = k from fun z => h'.1 z.symm, ih']
theorem put_add {rows : Rw} {k c : Int} (nd : (keysR rows).Nodup) : putKD (dD rows) (.inl k) (.int ((getR rows k).getD 0 + c)) = dD (addR rows k c) := by
  unfold putKD
  rw [anyK_dD]
  by_cases hk : k ∈ keysR rows
  · simp only [hk, decide_true, if_true]
    induction rows with
    | nil => simp [keysR] at hk
    | cons p r ih =>
      obtain ⟨k', c'⟩ := p
      have nd' : k' ∉ keysR r ∧ (keysR r).Nodup := by simpa [keysR] using nd
      by_cases h : k' = k
      · subst h
        have := map_same (v := c' + c) nd'.1
        simp only [dD] at this
        simp [dD, getR, addR, this]
      · have hk' : k ∈ keysR r := by
          have : k = k' ∨ k ∈ keysR r := by simpa [keysR] using hk
          exact this.resolve_left fun z => h z.symm
        have ih' := ih nd'.2 hk'
        simp only [dD] at ih'
        simp [dD, getR, addR, h, ih']
  · simp only [hk, decide_false, Bool.false_eq_true, if_false]
    rw [getR_none hk]
    have : addR rows k c = rows ++ [(k, c)] := by
      clear nd
      induction rows with
      | nil => rfl
      | cons p r ih =>
        obtain ⟨k', c'⟩ := p
        have h' : ¬ k = k' ∧ k ∉ keysR r := by simpa [keysR] using hk
        simp [addR, show ¬ k' = k from fun z => h'.1 z.symm, ih h'.2]
    rw [this]
    simp [dD]
theorem mem_addR {rows : Rw} {k c x : Int} : x ∈ keysR (addR rows k c) ↔ x = k ∨ x ∈ keysR rows := by
  induction rows with
  | nil => simp [addR, keysR]
  | cons p r ih =>
    obtain ⟨k', c'⟩ := p
    unfold addR
    by_cases h : k' = k
    · rw [if_pos h]; simp [keysR, h]
    · rw [if_neg h]
      have e1 : keysR ((k', c') :: addR r k c) = k' :: keysR (addR r k c) := rfl
      have e2 : keysR ((k', c') :: r) = k' :: keysR r := rfl
      rw [e1, e2, List.mem_cons, List.mem_cons, ih]
      constructor
      · rintro (h | h | h)
        · exact .inr (.inl h)
        · exact .inl h
        · exact .inr (.inr h)
      · rintro (h | h | h)
        · exact .inr (.inl h)
        · exact .inl h
        · exact .inr (.inr h)
theorem nd_addR {rows : Rw} {k c : Int} (nd : (keysR rows).Nodup) : (keysR (addR rows k c)).Nodup := by
  induction rows with
  | nil => simp [addR, keysR]
  | cons p r ih =>
    obtain ⟨k', c'⟩ := p
    have nd' : k' ∉ keysR r ∧ (keysR r).Nodup := by simpa [keysR] using nd
    unfold addR
    by_cases h : k' = k
    · rw [if_pos h]; simpa [keysR] using nd
    · rw [if_neg h]
      have e1 : keysR ((k', c') :: addR r k c) = k' :: keysR (addR r k c) := rfl
      rw [e1, List.nodup_cons]
      refine ⟨fun z => ?_, ih nd'.2⟩
      rcases mem_addR.mp z with z | z
      · exact h z
      · exact nd'.1 z
/-- what a row is worth -/
def wR (φ : Int → Int) : Rw → Int
  | [] => 0
  | (k, c) :: r => c * φ k + wR φ r
theorem wR_add (φ : Int → Int) : ∀ (rows : Rw) (k c : Int), wR φ (addR rows k c) = wR φ rows + c * φ k
  | [], k, c => by simp [addR, wR]
  | (k', c') :: r, k, c => by
    unfold addR
    by_cases h : k' = k
    · rw [if_pos h]; subst h
      simp only [wR, Int.add_mul]; omega
    · rw [if_neg h]
      simp only [wR, wR_add φ r k c]; omega
def dl (k : Int) (x : Int) : Int := if x = k then 1 else 0
theorem wR_zero {φ : Int → Int} : ∀ {rows : Rw}, (∀ x ∈ keysR rows, φ x = 0) → wR φ rows = 0
  | [], _ => rfl
  | (k, c) :: r, h => by
    have h1 := h k (by simp [keysR])
    have h2 := wR_zero (rows := r) fun x hx => h x (by
      show x ∈ k :: keysR r
      exact List.mem_cons_of_mem _ hx)
    simp [wR, h1, h2]
theorem getR_w (k : Int) : ∀ {rows : Rw}, (keysR rows).Nodup → (getR rows k).getD 0 = wR (dl k) rows
  | [], _ => rfl
  | (k', c') :: r, nd => by
    have nd' : k' ∉ keysR r ∧ (keysR r).Nodup := by simpa [keysR] using nd
    unfold getR wR
    by_cases h : k' = k
    · subst h
      rw [if_pos rfl, wR_zero (rows := r) fun x hx => by
        unfold dl
        rw [if_neg fun z => nd'.1 (by rw [← z]; exact hx)]]
      simp [dl]
    · rw [if_neg h, getR_w k nd'.2]
      simp [dl, h]
theorem wR_congr {φ ψ : Int → Int} : ∀ {rows : Rw}, (∀ x ∈ keysR rows, φ x = ψ x) → wR φ rows = wR ψ rows
  | [], _ => rfl
  | (k, c) :: r, h => by
    have h1 := h k (by simp [keysR])
    have h2 := wR_congr (rows := r) fun x hx => h x (by
      show x ∈ k :: keysR r
      exact List.mem_cons_of_mem _ hx)
    simp [wR, h1, h2]
/-- keys within a stretch: not many -/
theorem keys_few {rows : Rw} {lo : Int} {n : Nat} (nd : (keysR rows).Nodup) (h : ∀ x ∈ keysR rows, lo ≤ x ∧ x < lo + n) : rows.length ≤ n := by
  have h1 : keysR rows ⊆ (List.range n).map fun (i : Nat) => lo + (i : Int) := fun x hx => by
    obtain ⟨a, b⟩ := h x hx
    exact List.mem_map.mpr ⟨(x - lo).toNat, by simp; omega, by omega⟩
  have := nd.length_le_of_subset h1
  simpa [keysR] using this
end LS
end
section
set_option maxRecDepth 100000
set_option maxHeartbeats 2000000
namespace LS
open PySem PySem.Spec L2

/-! ## tuples as displays make them: no dict of their own -/
section
def tTupZ (t : TA) : TE := fun σ H Q => t σ H fun xs H1 => xs.length ≤ sizeLine ∧ ∀ p (ob : Obj), H1 p = none → ob.dict = none → Q (.ref p) (upd H1 p (.frz ob (.tup xs)))
theorem pe_tupZ {X : Cx} {es : List Expr} {t : TA} {x1 : Nat} {pos : Pos} (h : PA X es t) : PE X (.Tuple es x1 pos) (tTupZ t) := by
  refine ⟨fun pins s σ H Q I hq => ?_⟩
  refine wpAny_Tuple_spliced (thn (h.run pos pins s σ H _ I hq) fun us s1 ⟨xs, H1, I1, r, z, q⟩ => ⟨by rw [← r.length]; exact z, ?_⟩)
  have hf : H1 s1.heap.objs.size = none := I1.hok.fresh (Nat.le_refl _)
  refine ⟨.ref s1.heap.objs.size, upd H1 s1.heap.objs.size (.frz { cls := .type "tuple", data := .seq us.toArray } (.tup xs)), I1.laid (t' := s1.toks) (fun b u e => Heap.get?_push_of_some _ e) (Nat.le_refl _) ?_, rfl, q _ _ hf rfl⟩
  exact ⟨Heap.get?_push_size _ rfl, z, us, r, ⟨_, Heap.get?_push_size _ rfl, rfl, _, rfl⟩⟩
/-- t.m(x), t such a tuple -/
def tBMZ (r : V → List V → Hp → VK → Prop) (to : TE) (t : TA) : TE := fun σ H Q => to σ H fun x H1 => (∃ a ob vs, x = .ref a ∧ H1 a = some (.frz ob (.tup vs)) ∧ ob.dict = none) ∧ t σ H1 fun xs H2 => r x xs H2 Q
theorem pe_bmZ {X : Cx} {o e : Expr} {es : List Expr} {to : TE} {t : TA} {name : Str} {apos cpos : Pos} {id : String} {r : V → List V → Hp → VK → Prop} (slot : Slot "tuple" name id) (hty : typeOf (.builtin id) = pure (.type "method_descriptor")) (hm : MtR X id r) (ho : PE X o to) (ha : PA X (e :: es) t)
    (hbase : attributeBase o name X.env (eval o X.env) = eval o X.env)
    (hfew : ((backTo cpos (starEach (e :: es) X.env)).all (fun x => !x.1) && (backToKw cpos (keywordEach [] X.env)).all (fun x => x.1.isSome)
      && decide ((e :: es).length + ([] : List Keyword).length + (if ([] : List Keyword).isEmpty then 0 else 1) < 30)) = true)
    (hline : (apos.endLine == cpos.line) = true) (hs : starEach (e :: es) X.env = (false, eval e X.env) :: starEach es X.env) (hplain : (backTo cpos (starEach es X.env)).any (·.1) = false) :
    PE X (.Call (.Attribute o name apos) (e :: es) [] cpos) (tBMZ r to t) := by
  refine ⟨fun pins s σ H Q I h => ?_⟩
  refine wpAny_Call_method_late hbase hfew hline rfl (thn (ho.run pins s σ H _ I h) fun v s1 ⟨x, H1, I1, r1, ty, q1⟩ => ?_)
  obtain ⟨a, ob, vs, rfl, hz, hd⟩ := ty
  cases r1
  obtain ⟨hob, _, its, _, o2, ho2, hc, _⟩ := I1.hok a _ hz
  have eo : o2 = ob := by rw [hob] at ho2; cases ho2; rfl
  subst eo
  refine ⟨"tuple", id, PySem.F.plainAttrs_tuple, slot, hty, ⟨_, hob, hc⟩, fun b hb => ?_, ?_⟩
  · cases hb; exact ⟨_, hob, hd⟩
  have hA := ha.run cpos pins s1 σ H1 _ I1 q1
  rw [hs] at hA ⊢
  refine Calls.callWith_builtin (by show (false || (backTo cpos (starEach es X.env)).any (·.1)) = false; rw [hplain] <;> rfl) (Calls.evalArgs_plain ?_)
  exact thn hA fun us s2 ⟨vs, H2, I2, r2, q2⟩ => hm pins s2 σ H2 (.ref a) vs (.ref a) us Q I2 rfl r2 q2
def rCntZ (K : PySem.W.Frag) : V → List V → Hp → VK → Prop := fun x xs H Q => ∃ (a : Addr) (y : V) (d : PyData) (ds : List PyData), x = V.ref a ∧ xs = [y] ∧ Dp K H (V.ref a) (.tuple ds) ∧ Dp K H y d ∧
  PyData.plainAll ds = true ∧ d.plain = true ∧ d.depth ≤ 60 ∧ Q (.int ((ds.countP fun z => PyData.eqv z d : Nat) : Int)) H
theorem mt_countZ {X : Cx} (hu : X.A.units + 65 < cLine) : MtR X "tuple.count" (rCntZ X.K) := by
  intro pins s σ H x xs v us Q I rx rxs h
  obtain ⟨a, y, d, ds, rfl, rfl, hl, hy, sl, sd, hdep, q⟩ := h
  cases rx
  cases rxs with
  | cons ry rt =>
    rename_i uy ut
    cases rt
    obtain ⟨bs, r1⟩ := Dp.reads I d y uy hy ry
    cases hl with
    | tup hs ha =>
      obtain ⟨its, rv, pl, hlen⟩ := I.tuple hs
      obtain ⟨as, h4⟩ := Dp.readsAll I ds _ its ha rv
      have h2 : min (PyData.depthAll ds) d.depth ≤ d.depth := Nat.min_le_right _ _
      refine PySem.SeqAt.count_tuple_data (vs := its.toArray) (show s.heap.IsTuple a its.toArray from pl) (by simpa using h4) r1 sl sd (by omega) ?_
      exact ⟨.int _, H, I.tok _, ⟨s.toks, rfl⟩, q⟩
end
section
variable {g : Gb} {F : Fam g} {pos : Pos}
def xtupZ (ms : XM (List D)) : XM D := xbind ms fun xs => fun _ st => if xs.length ≤ LIM then .ok (.tpz xs) st else .stuck
theorem je_tupZ {es : List Expr} {k : Nat} {ms : XM (List D)} (hs : JA F es ms) : JE F (.Tuple es k pos) (xtupZ ms) := by
  obtain ⟨ts, ps, ss⟩ := hs
  refine ⟨fun W => tTupZ (ts W), fun W X m => pe_tupZ (ps W X m), ?_⟩
  intro W G H as st σ e Q R N h
  refine ss.one R N h fun xs st1 vs G1 H1 as1 R1 X1 N1 rv h1 => ?_
  by_cases hl : xs.length ≤ LIM
  · rw [if_pos hl] at h1
    refine ⟨by rw [rv.len]; exact lim_le hl, fun p ob hp hd => ?_⟩
    exact PX.still R1 hp (.tpz upd_same hd (rv.ext (R1.still (o := .frz ob (.tup vs)) hp).2)) h1
  · rw [if_neg hl] at h1; exact h1.elim
def isZ : D → Bool
  | .tpz _ => true
  | _ => false
def countZD (x y : D) : XM D := fun _ st => match x with
  | .tpz xs => (match pyDs xs, pyOf st y with
    | some ps, some p => if (PyData.plainAll ps && p.plain && decide (p.depth ≤ 60)) = true then .ok (.int ((ps.countP fun z => PyData.eqv z p : Nat) : Int)) st else .stuck
    | _, _ => .stuck)
  | _ => .stuck
def xmZ (fop : D → D → XM D) (mo me : XM D) : XM D := xbind mo fun x => fun e st => if isZ x = true then (xbind me fun y => fop x y) e st else .stuck
theorem je_countZ {o ex : Expr} {mo me : XM D} {apos : Pos} (ho : JE F o mo) (he : JE F ex me) (h1 : ∀ env, attributeBase o "count" env (eval o env) = eval o env := by intro _; rfl) (h2 : (apos.endLine == pos.line) = true := by rfl)
    (hst : ∀ env, starEach [ex] env = (false, eval ex env) :: starEach [] env := by intro _; rfl)
    (hfew : ∀ env, ((backTo pos (starEach [ex] env)).all (fun x => !x.1) && (backToKw pos (keywordEach [] env)).all (fun x => x.1.isSome)
      && decide ([ex].length + ([] : List Keyword).length + (if ([] : List Keyword).isEmpty then 0 else 1) < 30)) = true := by intro _; rfl) : JE F (.Call (.Attribute o "count" apos) [ex] [] pos) (xmZ countZD mo me) := by
  obtain ⟨t, p, s⟩ := ho
  obtain ⟨te, pe, se⟩ := he
  refine ⟨fun W => tBMZ (rCntZ g.K) (t W) (tCons (te W) tNil), fun W X m => ?_, ?_⟩
  · have hm := mt_countZ (X := X) (units65 (F.room m))
    rw [F.hK m] at hm
    exact pe_bmZ PySem.F.slot_tuple_count PySem.F.type_tuple_count hm (p W X m) (pa_cons (pe W X m) pa_nil (hst _)) (h1 _) (hfew _) h2 (hst _) rfl
  · intro W G H as st σ e Q R N h
    refine s.one R N h fun x st1 v G1 H1 as1 R1 X1 N1 rv h1 => ?_
    by_cases hx : isZ x = true
    · rw [if_pos hx] at h1
      cases x with
      | tpz xs =>
        cases rv with
        | tpz s0 z0 r0 =>
          refine ⟨⟨_, _, _, rfl, R1.sub _ _ s0, z0⟩, ?_⟩
          refine se.one R1 N1 h1 fun y st2 w G2 H2 as2 R2 X2 N2 rw' h2 => ?_
          unfold countZD at h2
          cases q1 : pyDs xs with
          | none => simp only [q1] at h2; exact h2.elim
          | some ps =>
            cases q2 : pyOf st2 y with
            | none => simp only [q1, q2] at h2; exact h2.elim
            | some pd =>
              simp only [q1, q2] at h2
              by_cases hs : (PyData.plainAll ps && pd.plain && decide (pd.depth ≤ 60)) = true
              · rw [if_pos hs] at h2
                simp only [Bool.and_eq_true, decide_eq_true_eq] at hs
                exact ⟨_, w, pd, ps, rfl, rfl, .tup (.inl (.inr ⟨_, R2.sub _ _ (X2.sub _ _ s0)⟩)) (pyDs_ok R2 (r0.ext X2) q1), pyOf_ok R2 rw' q2, hs.1.1, hs.1.2, hs.2, h2.pure R2 (.int _)⟩
              · rw [if_neg hs] at h2; exact h2.elim
      | _ => cases hx
    · rw [if_neg hx] at h1; exact h1.elim
/-! what is known of a tuple's dict, forgotten -/
mutual
def weakD : D → D
  | .tup xs => .tup (weakDs xs)
  | .tpz xs => .tup (weakDs xs)
  | .lst xs => .lst (weakDs xs)
  | .sq xs => .sq (weakDs xs)
  | d => d
def weakDs : List D → List D
  | [] => []
  | d :: r => weakD d :: weakDs r
end
mutual
theorem Rp.weak {K : PySem.W.Frag} {mg : Str → Option Value} {G : Hp} {as : List Addr} : ∀ {d : D} {v : V}, Rp K mg G as v d → Rp K mg G as v (weakD d)
  | .non, _, h => h
  | .bl _, _, h => h
  | .int _, _, h => h
  | .str _, _, h => h
  | .ty _, _, h => h
  | .glo _, _, h => h
  | .ref _, _, h => h
  | .tup ds, _, h => by cases h with | tup s r => exact .tup s (RpA.weak r)
  | .lst ds, _, h => by cases h with | lst s r => exact .lst s (RpA.weak r)
  | .sq ds, _, h => by cases h with | sq s r => exact .sq s (RpA.weak r)
  | .tpz ds, _, h => by cases h with | tpz s z r => exact .tup (.inl (.inr ⟨_, s⟩)) (RpA.weak r)
theorem RpA.weak {K : PySem.W.Frag} {mg : Str → Option Value} {G : Hp} {as : List Addr} : ∀ {ds : List D} {vs : List V}, RpA K mg G as vs ds → RpA K mg G as vs (weakDs ds)
  | [], _, h => by cases h; exact .nil
  | d :: ds, _, h => by cases h with | cons a b => exact .cons (Rp.weak a) (RpA.weak b)
end
def xweak (m : XM D) : XM D := xbind m fun x => xpure (weakD x)
theorem je_weak {ex : Expr} {m : XM D} (h : JE F ex m) : JE F ex (xweak m) := by
  obtain ⟨t, p, s⟩ := h
  refine ⟨t, p, ?_⟩
  intro W G H as st σ e Q R N h
  exact s.one R N h fun x st1 v G1 H1 as1 R1 X1 N1 rv h1 => h1 v G1 H1 as1 R1 Ext.refl rv.weak

/-! ## enumerate with a start -/
def ItS (K : PySem.W.Frag) (k0 : Int) (a : Addr) : It :=
  ⟨fun i H => ∃ (xs : List V) (x : V), SqT K H a xs ∧ xs[i]? = some x, fun i H v H' => ∃ T x, v = .ref T ∧ H T = none ∧ H' = upd H T (.tup [.int (k0 + (i : Nat)), x]) ∧ ∀ xs, SqT K H a xs → xs[i]? = some x, fun i H => ∃ xs : List V, SqT K H a xs ∧ xs.length = i⟩
theorem turn_enumS {P : Program} {w : World} {K : PySem.W.Frag} {elts : List Expr} {kk : Nat} {tpos : Pos} {k0 : Int} {a e it : Addr} (hai : a ≠ it) (hei : e ≠ it) (hea : e ≠ a) :
    Turn P w K (.Tuple elts kk tpos) (ItS K k0 a) [e, it] e (fun i h => (∃ old, IsEnum h e it (k0 + ((i : Nat) : Int)) old) ∧ h.IsTupleIter it a i) := by
  refine ⟨by simp, ?_, ?_, ?_, ?_, ?_⟩
  · rintro i h ⟨⟨old, q⟩, ⟨o, ho, _, hd⟩⟩ b hb
    rcases List.mem_cons.mp hb with rfl | hb
    · exact ⟨_, q, fun v z => nomatch z⟩
    · cases List.mem_singleton.mp hb; exact ⟨o, ho, fun v z => by rw [hd] at z; cases z⟩
  · rintro i h h' ⟨⟨old, q⟩, q2⟩ k
    exact ⟨⟨old, k e (by simp) _ q⟩, q2.at fun o z => k it (by simp) o z⟩
  · intro X hP hw hK hc i pins s σ H E I hf st hg
    subst hP hw hK
    obtain ⟨⟨old, q⟩, q2⟩ := st
    obtain ⟨xs, x, hq, hx⟩ := hg
    obtain ⟨its, rv, p, _⟩ := I.tuple hq
    obtain ⟨u, hu, ru⟩ := rv.get hx
    have lte : e < s.heap.objs.size := Heap.lt_size q
    have lti : it < s.heap.objs.size := let ⟨_, z, _⟩ := q2; Heap.lt_size z
    have dr := Draws.tuple (prog := X.prog) (w := X.w) (A := X.A.in1) (I.ok.hd hc) it a hai its.toArray
    have lt := (List.getElem?_eq_some_iff.mp hu).1
    refine wpAny_pyNext_enum_itemC dr q ⟨q2, p⟩ (by simpa using lt) hei (by simp [hei, hea]) fun y h1 tk py o1 st1 hT _ k1 => ?_
    have ey : y = u := by
      have z : its.toArray[i]? = some y := py
      simp at z
      rw [hu] at z; cases z; rfl
    subst ey
    refine ⟨_, rfl, wpAny_letOwnedTupleGo_enum (s := { s with heap := h1, toks := tk + 1 }) o1 fun h2 o2 sb => ?_⟩
    have hT2 := (sb.2 _ (Nat.ne_of_gt lte)).trans hT
    have nw : ObjOk X.prog X.w (upd H s.heap.objs.size (.tup [.int (k0 + (i : Nat)), x])) h2 s.heap.objs.size (.tup [.int (k0 + (i : Nat)), x]) :=
      ⟨(show 2 ≤ sizeLine by decide), [.int (k0 + (i : Nat)) tk, y], .cons ⟨_, rfl⟩ (.cons ru .nil), ⟨_, hT2, rfl, _, rfl⟩⟩
    have I1 := I.turnedNew (t' := tk + 1) (h' := h2) (ch := [e, it]) (fun b o hb z => (sb.2 b (fun y => hb (by simp [y]))).trans (k1 b o (fun y => hb (by simp [y])) (fun y => hb (by simp [y])) z)) hf (Nat.le_refl _) nw
    refine ⟨_, _, I1, (show RelV (.ref s.heap.objs.size) (.ref s.heap.objs.size) from rfl), ⟨_, x, rfl, I.hok.fresh (Nat.le_refl _), rfl, fun ys hy => by rw [I.tuple_inj hy hq]; exact hx⟩, ⟨⟨y, ?_⟩, ?_⟩, fun b hb => ?_⟩
    · rw [show k0 + ((i + 1 : Nat) : Int) = k0 + (i : Int) + 1 by omega]; exact o2
    · exact st1.1.at fun o z => (sb.2 it (Ne.symm hei)).trans z
    · have : b < s.heap.objs.size := by
        rcases List.mem_cons.mp hb with rfl | hb
        · exact lte
        · cases List.mem_singleton.mp hb; exact lti
      rw [upd_ne (Nat.ne_of_lt this)]
      exact (hf b hb).1
  · intro X hP hw hK hc i pins s σ H E I hf st hg
    subst hP hw hK
    obtain ⟨⟨old, q⟩, q2⟩ := st
    obtain ⟨xs, hq, hx⟩ := hg
    obtain ⟨its, rv, p, _⟩ := I.tuple hq
    have dr := Draws.tuple (prog := X.prog) (w := X.w) (A := X.A.in1) (I.ok.hd hc) it a hai its.toArray
    have hn : i = its.toArray.size := by have := rv.length; simp; omega
    obtain ⟨f0, f1, f2, f3, f4, f5⟩ := hf it (by simp)
    exact wpAny_pyNext_enum_endD dr q ⟨by rw [← hn]; exact q2, p⟩ fun h1 eb => ⟨rfl, I.turned (t' := s.toks) (fun b o hb z => eb b o hb z) f0 f1 f3 f4 f5⟩
  · rintro A i s Q E ⟨⟨old, q⟩, _⟩ h
    exact wpAny_pyIter_enum q h
end
end LS
end
section
set_option maxRecDepth 100000
set_option maxHeartbeats 2000000
namespace LS
open PySem PySem.Spec L2

def iEnumS (K : PySem.W.Frag) (ta : TA) : TI := fun σ H R => ta σ H fun vs H1 => ∃ (a : Addr) (k0 : Int), vs = [.ref a, .int k0] ∧ -1000000 ≤ k0 ∧ k0 ≤ 1000000 ∧ (∃ xs, SqT K H1 a xs) ∧ R (ItS K k0 a) H1
theorem pi_enumS {X : Cx} {e c : Expr} {ta : TA} {p pos tpos : Pos} {elts : List Expr} {kk : Nat} (hg : Gl X "enumerate") (hm : X.mg "enumerate" = none) (ha : PA X [e, c] ta) (hs : starEach [e, c] X.env = (false, eval e X.env) :: starEach [c] X.env) (hpl : (backTo pos (starEach [c] X.env)).any (·.1) = false) :
    PI X (.Tuple elts kk tpos) (.Call (.Name "enumerate" p) [e, c] [] pos) (iEnumS X.K ta) := by
  constructor
  intro pins s σ H R I h
  refine PyProof.Rows.Call_ (ld_blt I hg hm PyProof.Rows.boot_enumerate (PyProof.Rows.callWith_type1 (thn (ha.run pos pins s σ H _ I h) fun us s1 q0 => ?_) hs hpl))
  obtain ⟨vs, H1, I1, r1, a, k0, ex, hk0, hk1, ⟨xs, hq⟩, q⟩ := q0
  subst ex
  cases r1 with
  | cons r rr =>
    cases rr with
    | cons r' rr =>
      cases rr
      cases r
      obtain ⟨t, rfl⟩ := r'
      obtain ⟨its, rv, p', _⟩ := I1.tuple hq
      have p2 : s1.heap.IsTuple a its.toArray := p'
      have la : a < s1.heap.objs.size := let ⟨_, z, _⟩ := p2; Heap.lt_size z
      have l2 : s1.heap.objs.size + 1 ≠ a := fun z => Nat.lt_irrefl a (Nat.lt_trans la (Nat.lt_of_lt_of_eq (Nat.lt_succ_self _) z))
      have fr : ∀ b ∈ [s1.heap.objs.size + 1, s1.heap.objs.size], FpOk X pins H1 b := fun b hb => by
        have hle : s1.heap.objs.size ≤ b := by
          rcases List.mem_cons.mp hb with rfl | hb
          · omega
          · cases List.mem_singleton.mp hb; omega
        exact I1.fpOk hle (I1.hok.fresh hle)
      refine enum_begins (begins_tuple a its.toArray) p2 (by omega) (by omega) fun h' he hit hsz hk => wpAny_pyIter_enum he ?_
      have he' : IsEnum h' (s1.heap.objs.size + 1) s1.heap.objs.size (k0 + ((0 : Nat) : Int)) .none := by rw [show k0 + ((0 : Nat) : Int) = k0 by omega]; exact he
      exact ⟨_, _, _, _, H1, rfl, I1.kept (t' := s1.toks) hk, turn_enumS (k0 := k0) (a := a) (Nat.ne_of_lt la) (Nat.succ_ne_self _) l2, ⟨⟨.none, he'⟩, ⟨_, hit, rfl, rfl⟩⟩, fr, q⟩
section
variable {g : Gb} {F : Fam g} {pos : Pos}
def enumI : Int → List D → List D
  | _, [] => []
  | k, x :: r => .tup [.int k, x] :: enumI (k + 1) r
theorem enumI_len : ∀ (k : Int) (xs : List D), (enumI k xs).length = xs.length
  | _, [] => rfl
  | k, x :: r => by simp [enumI, enumI_len (k + 1) r]
theorem enumI_get : ∀ (xs : List D) (k : Int) (i : Nat), (enumI k xs)[i]? = xs[i]?.map fun x => .tup [.int (k + (i : Int)), x]
  | [], _, _ => by simp [enumI]
  | x :: r, k, 0 => by simp [enumI]
  | x :: r, k, i + 1 => by
    have := enumI_get r (k + 1) i
    simp only [enumI, List.getElem?_cons_succ, this]
    rw [show k + 1 + (i : Int) = k + ((i + 1 : Nat) : Int) by omega]
theorem yl_enumS {G0 H0 : Hp} {as0 : List Addr} {a : Addr} {k0 : Int} {vs : List V} {xs : List D} (s : SqT g.K G0 a vs) (r : RpA g.K g.mg G0 as0 vs xs) : Yl g G0 H0 as0 none (enumI k0 xs) (ItS g.K k0 a) where
  go := fun i G H as st hi R hs hp hl _ => by
    have hv : i < vs.length := by rw [r.len, ← enumI_len k0 xs]; exact hi
    exact ⟨vs, vs[i], sqT_H R (sqT_sub hs s), List.getElem?_eq_getElem hv⟩
  stop := fun G H as st R hs hp hl _ => ⟨vs, sqT_H R (sqT_sub hs s), by rw [r.len, enumI_len]⟩
  yld := fun i G H as st v H' x R hs hp hl _ hx y => by
    obtain ⟨T, u, rfl, hT, rfl, y⟩ := y
    rw [enumI_get] at hx
    obtain ⟨x0, hx0, rfl⟩ := Option.map_eq_some_iff.mp hx
    obtain ⟨u', e1, ru⟩ := r.get hx0
    have e2 := y vs (sqT_H R (sqT_sub hs s))
    rw [e1] at e2; cases e2
    obtain ⟨R', X'⟩ := R.still (o := .tup [.int (k0 + (i : Nat)), u]) hT
    exact ⟨_, R', X', .tup (.of upd_same) (.cons (.int _) (.cons ((ru.mono hs hp).ext X') .nil))⟩
def xenumS (m mk : XM D) : XM (List D × Option Nat) := xbind m fun x => xbind mk fun y => fun _ st => match x, y with
  | .tup xs, .int k => if -1000000 ≤ k ∧ k ≤ 1000000 then .ok (enumI k xs, none) st else .stuck
  | _, _ => .stuck
theorem ji_enumS {elts : List Expr} {kk : Nat} {tpos p : Pos} {ea eb : Expr} {ma mb : XM D} (hg : F.sc.names.lookup ("enumerate" : Str) = some .globalImplicit) (hm : g.mg "enumerate" = none) (ha : JE F ea ma) (hb : JE F eb mb)
    (hs : ∀ env, starEach [ea, eb] env = (false, eval ea env) :: starEach [eb] env := by intro _; rfl) (hs2 : ∀ env, starEach [eb] env = (false, eval eb env) :: starEach [] env := by intro _; rfl) (hpl : ∀ env, (backTo pos (starEach [eb] env)).any (·.1) = false := by intro _; rfl) :
    JI F (.Tuple elts kk tpos) (.Call (.Name "enumerate" p) [ea, eb] [] pos) (xenumS ma mb) := by
  obtain ⟨t, p', s⟩ := ha
  obtain ⟨t2, p2, s2⟩ := hb
  refine ⟨fun W => iEnumS g.K (tCons (t W) (tCons (t2 W) tNil)), fun W X m => by
    have := pi_enumS (elts := elts) (kk := kk) (tpos := tpos) (p := p) (pos := pos) (X := X) (by show X.env.scope.names.lookup _ = _; rw [F.hsc m]; exact hg) (by rw [F.hmg m]; exact hm) (pa_cons (p' W X m) (pa_cons (p2 W X m) pa_nil (hs2 _)) (hs _)) (hs _) (hpl _)
    rw [F.hK m] at this; exact this, ?_⟩
  intro W G H as st σ e R' R N h
  refine s W G H as st σ e _ R N ?_
  unfold xenumS xbind at h
  cases q : ma e st with
  | stuck => rw [q] at h; exact h
  | exc c p st1 => rw [q] at h; exact h
  | ok x st1 =>
    simp only [q] at h
    intro v G1 H1 as1 R1 X1 rv
    refine s2 W G1 H1 as1 st1 σ e _ R1 (N.ext X1) ?_
    cases q2 : mb e st1 with
    | stuck => simp only [q2] at h; exact h
    | exc c p st2 =>
      simp only [q2] at h
      exact fun cls d G2 H2 as2 R2 X2 x2 => h cls d G2 H2 as2 R2 (X1.trans X2) x2
    | ok y st2 =>
      simp only [q2] at h
      intro w G2 H2 as2 R2 X2 rw'
      cases x with
      | tup xs =>
        cases y with
        | int k =>
          simp only at h
          by_cases hc : -1000000 ≤ k ∧ k ≤ 1000000
          · rw [if_pos hc] at h
            cases rw'
            have rv2 := rv.ext X2
            cases rv2 with
            | tup s0 r0 => exact ⟨_, k, rfl, hc.1, hc.2, ⟨_, sqT_H R2 s0⟩, h.2 _ G2 H2 as2 R2 (X1.trans X2) (yl_enumS s0 r0)⟩
          · rw [if_neg hc] at h; exact h.elim
        | _ => exact h.elim
      | _ => exact h.elim
end

/-! ## zip as a value, walked once by a comprehension -/
section
theorem HOk.add {P : Program} {w : World} {H : Hp} {h : Heap} {a : Addr} {o : HO} (x : HOk P w H h) (hn : H a = none) (new : ObjOk P w (upd H a o) h a o) : HOk P w (upd H a o) h := fun b u e => by
  by_cases hb : b = a
  · subst hb; rw [upd_same] at e; cases e; exact new
  · rw [upd_ne hb] at e
    exact (x b u e).stay (fun c v _ q => q) (fun c q => by rw [upd_ne (ne_of_none q hn)]; exact q) fun c xs q => by rw [upd_ne (ne_of_none q hn)]; exact q
/-- one object of the heap, told by what is true of it -/
def fixO (φ : Heap → Prop) : HO := .ext φ
def upZ (H : Hp) (N a b : Addr) : Hp := upd (upd (upd (upd (upd H N (.ext fun h => h.IsTupleIter N a 0)) (N + 1) (.ext fun h => h.IsTupleIter (N + 1) b 0)) (N + 2) (.ext fun h => IsPair h (N + 2) (.ref N) (.ref (N + 1)))) (N + 3) (.ext fun h => IsPair h (N + 3) .none .none)) (N + 4) (.ext fun h => IsZip h (N + 4) (N + 2) (N + 3) .none)
def rZipT (K : PySem.W.Frag) (n : Nat) : List V → Hp → VK → Prop := fun vs H Q => ∃ (a b : Addr) (xs ys : List V), vs = [.ref a, .ref b] ∧ SqT K H a xs ∧ SqT K H b ys ∧ ∀ N, (∀ c, N ≤ c → H c = none) → n ≤ N → a < N → b < N → Q (.ref (N + 4)) (upZ H N a b)
theorem cr_zipT {X : Cx} : CallR X (.type "zip") (rZipT X.K X.s_0.heap.objs.size) := by
  intro pins s σ H vs us Q I r h
  obtain ⟨a, b, xs, ys, rfl, hqx, hqy, q⟩ := h
  cases r with
  | cons r rr =>
    cases rr with
    | cons r' rr =>
      cases rr
      cases r
      cases r'
      obtain ⟨its, rv, p1, _⟩ := I.tuple hqx
      obtain ⟨its2, rv2, p2, _⟩ := I.tuple hqy
      have pa : s.heap.IsTuple a its.toArray := p1
      have pb : s.heap.IsTuple b its2.toArray := p2
      have la : a < s.heap.objs.size := let ⟨_, t, _⟩ := pa; Heap.lt_size t
      have lb : b < s.heap.objs.size := let ⟨_, t, _⟩ := pb; Heap.lt_size t
      refine RZ.call_zipT pa pb fun h1 hz hTI hTO hi1 hi2 sz k1 => ?_
      have fr : ∀ c, s.heap.objs.size ≤ c → H c = none := fun c hc => I.hok.fresh hc
      generalize hN : s.heap.objs.size = N at *
      have I1 : Inv X pins σ H { s with heap := h1 } := I.kept (t' := s.toks) k1
      have ne : ∀ i j : Nat, i ≠ j → N + i ≠ N + j := fun i j h z => h (by omega)
      have n0 : ∀ i : Nat, i ≠ 0 → N + i ≠ N := fun i h z => h (by omega)
      have o1 : ObjOk X.prog X.w (upd H N (.ext fun h => h.IsTupleIter N a 0)) h1 N (.ext fun h => h.IsTupleIter N a 0) := ⟨hi1, (let ⟨o, e, _⟩ := hi1; ⟨o, e⟩), fun ha hb q k => q.at fun o e => k o e⟩
      have H1 := HOk.add I1.hok (fr N (Nat.le_refl _)) o1
      have f1 : (upd H N (.ext fun h => h.IsTupleIter N a 0)) (N + 1) = none := by rw [upd_ne (n0 1 (by simp))]; exact fr _ (by omega)
      have H2 := HOk.add H1 f1 (o := .ext fun h => h.IsTupleIter (N + 1) b 0) ⟨hi2, (let ⟨o, e, _⟩ := hi2; ⟨o, e⟩), fun ha hb q k => q.at fun o e => k o e⟩
      have f2 : (upd (upd H N (.ext fun h => h.IsTupleIter N a 0)) (N + 1) (.ext fun h => h.IsTupleIter (N + 1) b 0)) (N + 2) = none := by rw [upd_ne (ne 2 1 (by simp)), upd_ne (n0 2 (by simp))]; exact fr _ (by omega)
      have H3 := HOk.add H2 f2 (o := .ext fun h => IsPair h (N + 2) (.ref N) (.ref (N + 1))) ⟨hTI, ⟨_, hTI⟩, fun ha hb q k => k _ q⟩
      have f3 : (upd (upd (upd H N (.ext fun h => h.IsTupleIter N a 0)) (N + 1) (.ext fun h => h.IsTupleIter (N + 1) b 0)) (N + 2) (.ext fun h => IsPair h (N + 2) (.ref N) (.ref (N + 1)))) (N + 3) = none := by rw [upd_ne (ne 3 2 (by simp)), upd_ne (ne 3 1 (by simp)), upd_ne (n0 3 (by simp))]; exact fr _ (by omega)
      have H4 := HOk.add H3 f3 (o := .ext fun h => IsPair h (N + 3) .none .none) ⟨hTO, ⟨_, hTO⟩, fun ha hb q k => k _ q⟩
      have f4 : (upd (upd (upd (upd H N (.ext fun h => h.IsTupleIter N a 0)) (N + 1) (.ext fun h => h.IsTupleIter (N + 1) b 0)) (N + 2) (.ext fun h => IsPair h (N + 2) (.ref N) (.ref (N + 1)))) (N + 3) (.ext fun h => IsPair h (N + 3) .none .none)) (N + 4) = none := by rw [upd_ne (ne 4 3 (by simp)), upd_ne (ne 4 2 (by simp)), upd_ne (ne 4 1 (by simp)), upd_ne (n0 4 (by simp))]; exact fr _ (by omega)
      have H5 := HOk.add H4 f4 (o := .ext fun h => IsZip h (N + 4) (N + 2) (N + 3) .none) ⟨hz, ⟨_, hz⟩, fun ha hb q k => k _ q⟩
      have old : ∀ c, c < N → upZ H N a b c = H c := fun c hc => by
        have m : ∀ i : Nat, c ≠ N + i := fun i z => by omega
        unfold upZ
        rw [upd_ne (m 4), upd_ne (m 3), upd_ne (m 2), upd_ne (m 1), upd_ne (show c ≠ N from fun z => by omega)]
      have som : ∀ {c : Addr} {u : HO}, H c = some u → c < N := fun {c u} e => Nat.lt_of_not_le fun z => by rw [fr c z] at e; cases e
      have U : Un X.fs [] H (upZ H N a b) s.heap h1 := ⟨fun c o e _ _ _ => k1 c o e, fun c o e _ _ _ => ⟨o.slots, k1 c o e⟩, fun c o e n _ => by rw [old c (by rw [← hN]; exact Heap.lt_size e)]; exact n, fun c o e _ => ⟨o, k1 c o e⟩,
        fun c xs e => by rw [old c (som e)]; exact e, fun c o u e => by rw [old c (som e)]; exact e, fun c ps e => ⟨#[], by rw [old c (som e)]; simpa using e⟩⟩
      have I5 : Inv X pins σ (upZ H N a b) { s with heap := h1 } := I.un (t' := s.toks) U H5
      exact ⟨.ref (N + 4), upZ H N a b, I5, rfl, q N fr (by rw [← hN]; exact I.sz) la lb⟩
def iZipV (K : PySem.W.Frag) (n k : Nat) : TI := fun σ H R => ∃ (N a b : Addr) (H0 : Hp), σ[k]? = some (some (.ref (N + 4))) ∧ H = upZ H0 N a b ∧ (∀ c, N ≤ c → H0 c = none) ∧ n ≤ N ∧ a < N ∧ b < N ∧ R (RZ.ItzT K a b) H0
theorem pi_zipv {X : Cx} {elts : List Expr} {kk : Nat} {tpos p : Pos} {k : Nat} {x : Str} (hN : X.N[k]? = some x) (hv : Vis X.env.scope x) (hd : (x == ("__debug__" : Str)) = false := by decide) (hcd : (x == ("__classdict__" : Str)) = false := by decide) : PI X (.Tuple elts kk tpos) (.Name x p) (iZipV X.K X.s_0.heap.objs.size k) := by
  refine ⟨fun pins s σ H R I h => ?_⟩
  obtain ⟨N, a, b, H0, hs, eH0, fr, hn, la, lb, q⟩ := h
  subst eH0
  refine thn ((pe_var (pos := p) (i := k) hN hv hd hcd).run pins s σ _ (fun v H1 => v = .ref (N + 4) ∧ H1 = upZ H0 N a b) I ⟨.ref (N + 4), hs, rfl, rfl⟩) fun u s1 ⟨v, H1, I1, r1, ev, eH⟩ => ?_
  subst ev
  rw [eH] at I1
  cases r1
  have ne : ∀ i j : Nat, i ≠ j → N + i ≠ N + j := fun i j h z => h (Nat.add_left_cancel z)
  have n0 : ∀ i : Nat, i ≠ 0 → N + i ≠ N := fun i h z => h (Nat.add_left_cancel (z.trans (Nat.add_zero N).symm))
  have J4 := I1
  unfold upZ at J4
  have f0 : H0 N = none := fr N (Nat.le_refl _)
  have f1 : (upd H0 N (.ext fun h => h.IsTupleIter N a 0)) (N + 1) = none := by rw [upd_ne (n0 1 (by simp))]; exact fr _ (Nat.le_add_right _ _)
  have f2 : (upd (upd H0 N (.ext fun h => h.IsTupleIter N a 0)) (N + 1) (.ext fun h => h.IsTupleIter (N + 1) b 0)) (N + 2) = none := by rw [upd_ne (ne 2 1 (by simp)), upd_ne (n0 2 (by simp))]; exact fr _ (Nat.le_add_right _ _)
  have f3 : (upd (upd (upd H0 N (.ext fun h => h.IsTupleIter N a 0)) (N + 1) (.ext fun h => h.IsTupleIter (N + 1) b 0)) (N + 2) (.ext fun h => IsPair h (N + 2) (.ref N) (.ref (N + 1)))) (N + 3) = none := by rw [upd_ne (ne 3 2 (by simp)), upd_ne (ne 3 1 (by simp)), upd_ne (n0 3 (by simp))]; exact fr _ (Nat.le_add_right _ _)
  have f4 : (upd (upd (upd (upd H0 N (.ext fun h => h.IsTupleIter N a 0)) (N + 1) (.ext fun h => h.IsTupleIter (N + 1) b 0)) (N + 2) (.ext fun h => IsPair h (N + 2) (.ref N) (.ref (N + 1)))) (N + 3) (.ext fun h => IsPair h (N + 3) .none .none)) (N + 4) = none := by rw [upd_ne (ne 4 3 (by simp)), upd_ne (ne 4 2 (by simp)), upd_ne (ne 4 1 (by simp)), upd_ne (n0 4 (by simp))]; exact fr _ (Nat.le_add_right _ _)
  have gz := (J4.hok (N + 4) _ upd_same).1
  have p4 := (ItX.inv_fp J4 upd_same (Nat.le_trans hn (Nat.le_add_right _ 4))).2
  have J3 := ItX.inv_drop J4 upd_same
  rw [ItX.dropH_upd f4] at J3
  have gO := (J3.hok (N + 3) _ upd_same).1
  have p3 := (ItX.inv_fp J3 upd_same (Nat.le_trans hn (Nat.le_add_right _ 3))).2
  have J2 := ItX.inv_drop J3 upd_same
  rw [ItX.dropH_upd f3] at J2
  have gI := (J2.hok (N + 2) _ upd_same).1
  have p2 := (ItX.inv_fp J2 upd_same (Nat.le_trans hn (Nat.le_add_right _ 2))).2
  have J1 := ItX.inv_drop J2 upd_same
  rw [ItX.dropH_upd f2] at J1
  have g2 := (J1.hok (N + 1) _ upd_same).1
  have p1 := (ItX.inv_fp J1 upd_same (Nat.le_trans hn (Nat.le_add_right _ 1))).2
  have J0 := ItX.inv_drop J1 upd_same
  rw [ItX.dropH_upd f1] at J0
  have g1 := (J0.hok N _ upd_same).1
  have p0 := (ItX.inv_fp J0 upd_same hn).2
  have JJ := ItX.inv_drop J0 upd_same
  rw [ItX.dropH_upd f0] at JJ
  refine wpAny_pyIter_zip gz ?_
  refine ⟨N + 4, [N + 4, N + 2, N + 3, N, N + 1], _, _, H0, rfl, JJ, RZ.turn_zipT (PySem.W.ktu_apart N a b la lb), ⟨gz, gI, ⟨_, _, gO⟩, g1, g2⟩, fun c hc => ?_, q⟩
  have e' : c = N + 4 ∨ c = N + 2 ∨ c = N + 3 ∨ c = N ∨ c = N + 1 := by simpa using hc
  rcases e' with z | z | z | z | z <;> subst z
  · exact ⟨fr _ (by first | exact Nat.le_refl _ | exact Nat.le_add_right _ _), p4⟩
  · exact ⟨fr _ (by first | exact Nat.le_refl _ | exact Nat.le_add_right _ _), p2⟩
  · exact ⟨fr _ (by first | exact Nat.le_refl _ | exact Nat.le_add_right _ _), p3⟩
  · exact ⟨fr _ (by first | exact Nat.le_refl _ | exact Nat.le_add_right _ _), p0⟩
  · exact ⟨fr _ (by first | exact Nat.le_refl _ | exact Nat.le_add_right _ _), p1⟩
end
end LS
end
section
set_option maxRecDepth 100000
set_option maxHeartbeats 2000000
namespace LS
open PySem PySem.Spec L2
section
variable {g : Gb} {F : Fam g} {pos : Pos}
/-- a comprehension behind its iterator -/
theorem comp_read0 {gt0 : TG} {tt : WX → TT} {te : WX → TE} {vs : List Nat} {gt : MG} {mt : XM Bool} {me : XM D}
    (sg : ∀ (G H : Hp) (as : List Addr) (st : Store) (σ : L2.St) (e : Nv) (v : V) (x : D) (e' : Nv) (st' : Store) (Q : L2.St → Hp → Prop), Ri g.K g.mg G H as st → Rn g.K g.mg G as σ e → Rp g.K g.mg G as v x → gt x e st = some (e', st') →
      (∀ σ', wipe σ' vs = wipe σ vs → Rn g.K g.mg G as σ' e' → st' = st → Q σ' H) → gt0 v σ H Q)
    (stt : ST g tt mt) (se : SE g te me) (W : WX) {G1 H1 : Hp} {as1 : List Addr} {st1 : Store} {xs : List D} {src : Option Nat} {J : It} (Y : Yl g G1 H1 as1 src xs J) (σ σ0 : L2.St) (e : Nv) (Q Q0 : VK) (R1 : Ri g.K g.mg G1 H1 as1 st1) (N : Rn g.K g.mg G1 as1 σ e) (f : List D → Store → RX D)
    (h1 : PX g.K g.mg W G1 H1 as1 σ0 (match cloop src xs gt mt me (wipeE e vs) xs [] st1 with | .ok ds st' => f ds st' | .exc c p st' => .exc c p st' | .stuck => .stuck) Q0)
    (fin : ∀ (ds : List D) (st' : Store) (G1 H1 : Hp) (as1 : List Addr) (G2 H2 : Hp) (as2 : List Addr) (us : List V) (p : Addr), Ri g.K g.mg G1 H1 as1 st' → RpA g.K g.mg G1 as1 us ds → H1 p = some (.lst us) → G1 p = none → p ∉ as1 → Ext G2 H2 as2 G1 H1 as1 → H2 p = none → PX g.K g.mg W G2 H2 as2 σ0 (f ds st') Q0 → Q (.ref p) H1) :
    ∀ D, H1 D = none → ∃ W : Nat → Nat → Hp → Prop, (∃ m, W 0 m (upd H1 D (.lst []))) ∧ ∀ i m H, W i m H →
  (J.stop i H ∧ Q (.ref D) H) ∨ (J.go i H ∧ ∃ Nx : Hp → Prop, (∀ H', Nx H' → ∃ m', m' < m ∧ W (i + 1) m' H') ∧ ∀ x H', J.yld i H x H' → gt0 x (wipe σ vs) H' fun σ2 H2 => wipe σ2 vs = wipe σ vs ∧ tt W0 σ2 H2 fun b H3 =>
    if b = true then te W0 σ2 H3 fun y H4 => ∃ acc, H4 D = some (.lst acc) ∧ acc.length < sizeLine ∧ Nx (upd H4 D (.lst (acc ++ [y]))) else Nx H3) := by
  intro D0 hD
  have hd0 := R1.none_of hD
  refine ⟨fun i m H' => i ≤ xs.length ∧ m = xs.length - i ∧ ∃ G' as' st' us acc, Ri g.K g.mg G' H' as' st' ∧ Ext G1 H1 as1 G' H' as' ∧ H' D0 = some (.lst us) ∧ G' D0 = none ∧ D0 ∉ as' ∧ RpA g.K g.mg G' as' us acc ∧
      PX g.K g.mg W G1 H1 as1 σ0 (match cloop src xs gt mt me (wipeE e vs) (xs.drop i) acc st' with | .ok ds st' => f ds st' | .exc c p st' => .exc c p st' | .stuck => .stuck) Q0,
    ⟨xs.length, Nat.zero_le _, by simp, G1, as1, st1, [], [], R1.touch hd0.1 hd0.2, Ext.refl.touch hD, upd_same, hd0.1, hd0.2, .nil, h1⟩, ?_⟩
  rintro i m H2 ⟨hle, rfl, G2, as2, st2, us, acc, R2, X2, hL, hg, ha, ru, h2⟩
  by_cases hi : i < xs.length
  · have hd : xs.drop i = xs[i] :: xs.drop (i + 1) := List.drop_eq_getElem_cons hi
    rw [hd] at h2
    unfold cloop at h2
    by_cases hok : srcOk src xs st2 = true
    · simp only [hok, if_true] at h2
      refine .inr ⟨Y.go i G2 H2 as2 st2 hi R2 X2.sub X2.pre X2.lk hok, ?_⟩
      refine ⟨fun H' => i + 1 ≤ xs.length ∧ ∃ G' as' st' us acc, Ri g.K g.mg G' H' as' st' ∧ Ext G1 H1 as1 G' H' as' ∧ H' D0 = some (.lst us) ∧ G' D0 = none ∧ D0 ∉ as' ∧ RpA g.K g.mg G' as' us acc ∧
          PX g.K g.mg W G1 H1 as1 σ0 (match cloop src xs gt mt me (wipeE e vs) (xs.drop (i + 1)) acc st' with | .ok ds st' => f ds st' | .exc c p st' => .exc c p st' | .stuck => .stuck) Q0,
        fun H' ⟨a, b⟩ => ⟨xs.length - (i + 1), by omega, a, rfl, b⟩, fun v H3 y => ?_⟩
      obtain ⟨G3, R3, X3, rv⟩ := Y.yld i G2 H2 as2 st2 v H3 xs[i] R2 X2.sub X2.pre X2.lk hok (List.getElem?_eq_getElem hi) y
      have b3 := X3.beside hL hg ha
      cases q3 : gt xs[i] (wipeE e vs) st2 with
      | none => simp only [q3] at h2; exact h2.elim
      | some z =>
        obtain ⟨e3, st3⟩ := z
        simp only [q3] at h2
        have Nw : Rn g.K g.mg G3 as2 (wipe σ vs) (wipeE e vs) := ((N.ext X2).ext X3).wipe vs
        refine sg G3 H3 as2 st2 (wipe σ vs) (wipeE e vs) v xs[i] e3 st3 _ R3 Nw rv q3 fun σ4 w4 N4 es => ?_
        subst es
        refine ⟨w4.trans wipe_wipe, ?_⟩
        refine stt W0 G3 H3 as2 st3 σ4 e3 _ R3 N4 ?_
        cases q4 : mt e3 st3 with
        | stuck => simp only [q4] at h2; exact h2
        | exc c p st4 => simp only [q4] at h2; exact h2.elim
        | ok b st4 =>
          intro G4 H4 as4 R4 X4
          have b4 := X4.beside b3.2.2 b3.1 b3.2.1
          have X14 := (X2.trans X3).trans X4
          cases b with
          | false =>
            simp only [q4] at h2
            exact iteF ⟨hi, G4, as4, st4, us, acc, R4, X14, b4.2.2, b4.1, b4.2.1, (ru.ext X3).ext X4, h2⟩
          | true =>
            refine iteT ?_
            refine se W0 G4 H4 as4 st4 σ4 e3 _ R4 (N4.ext X4) ?_
            cases q5 : me e3 st4 with
            | stuck => simp only [q4, q5] at h2; exact h2
            | exc c p st5 => simp only [q4, q5] at h2; exact h2.elim
            | ok d st5 =>
              simp only [q4, q5] at h2
              intro w G5 H5 as5 R5 X5 rw'
              have b5 := X5.beside b4.2.2 b4.1 b4.2.1
              have ru5 := ((ru.ext X3).ext X4).ext X5
              by_cases hl : acc.length < LIM
              · rw [if_pos hl] at h2
                refine ⟨us, b5.2.2, by rw [ru5.len]; exact lim_lt hl, hi, G5, as5, st5, us ++ [w], acc ++ [d], R5.touch b5.1 b5.2.1, (X14.trans X5).touch hD, upd_same, b5.1, b5.2.1, ru5.append (.cons rw' .nil), h2⟩
              · rw [if_neg hl] at h2; exact h2.elim
    · simp only [hok] at h2; exact h2.elim
  · have ei : i = xs.length := by omega
    subst ei
    rw [List.drop_length] at h2
    unfold cloop at h2
    by_cases hok : srcOk src xs st2 = true
    · simp only [hok, if_true] at h2
      exact .inl ⟨Y.stop G2 H2 as2 st2 R2 X2.sub X2.pre X2.lk hok, fin acc st2 G2 H2 as2 G1 H1 as1 us D0 R2 ru hL hg ha X2 hD h2⟩
    · simp only [hok] at h2; exact h2.elim

/-! ### p = zip(a, b); return len([.. for .. in p ..]) -/
def xzipT (ma mb : XM D) : XM (List D × Option Nat) := xbind ma fun x => xbind mb fun y => fun _ st => match x, y with
  | .tup xs, .tup ys => .ok (zipD xs ys, none) st
  | _, _ => .stuck
def xzipLen (k : Nat) (ma mb : XM D) (vs : List Nat) (gt : MG) (mt : XM Bool) (me : XM D) : XM D := fun e st => match e[k]? with
  | some none => (xbind (xcompL (xzipT ma mb) vs gt mt me) fun ds => xpure (.int ds.length)) e st
  | _ => .stuck
theorem Rn.side {K : PySem.W.Frag} {mg : Str → Option Value} {G : Hp} {as : List Addr} {σ : L2.St} {e : Nv} (N : Rn K mg G as σ e) {k : Nat} (hk : e[k]? = some none) (v : Option V) : Rn K mg G as (σ.set k v) e := by
  refine ⟨by simp [N.len], fun j y h => ?_⟩
  by_cases hj : j = k
  · subst hj; rw [hk] at h; cases h
  · obtain ⟨u, e1, r1⟩ := N.at_ j y h
    exact ⟨u, by rw [List.getElem?_set_ne (Ne.symm hj)]; exact e1, r1⟩
theorem jss_zipLen (k : Nat) {y : Str} {py pz pl pn pos1 pos2 pos3 pos4 : Pos} {ea eb elt : Expr} {elts : List Expr} {kk : Nat} {tpos : Pos} {ifs : List Expr} {scope : Scope} (own : List (Str × Nat)) {ma mb : XM D} {gt : MG} {mt : XM Bool} {me : XM D}
    (hy : F.N[k]? = some y) (hyl : F.sc.names.lookup y = some .local) (hz : F.sc.names.lookup ("zip" : Str) = some .globalImplicit) (hzm : g.mg "zip" = none) (hl : F.sc.names.lookup ("len" : Str) = some .globalImplicit) (hlm : g.mg "len" = none)
    (ha : JE F ea ma) (hb : JE F eb mb) (ok : blkC F.N F.sc scope own = true) (hg : JC (famC F scope) (own.map (·.2)) (.Tuple elts kk tpos) gt) (ht : JTs (famC F scope) ifs mt) (he : JE (famC F scope) elt me)
    (hy0 : F.own y = true := by rfl) (hd : (y == ("__debug__" : Str)) = false := by decide) (hcd : (y == ("__classdict__" : Str)) = false := by decide)
    (hs : ∀ env, starEach [ea, eb] env = (false, eval ea env) :: starEach [eb] env := by intro _; rfl) (hs2 : ∀ env, starEach [eb] env = [(false, eval eb env)] := by intro _; rfl) (hpl : ∀ env, (backTo pos1 (starEach [eb] env)).any (·.1) = false := by intro _; rfl)
    (hw : ∀ env, swapsWith (.Call (.Name "zip" pz) [ea, eb] [] pos1) (some (.Name y py)) pos2.line env = pure false := by intro _; rfl) (hf : ∀ env x, foldedSetIterable (.Name y pn) env x = pure x := by intro _ _; rfl) :
    JSs F [.Assign [.Name y py] (.Call (.Name "zip" pz) [ea, eb] [] pos1) pos2, .Return (some (.Call (.Name "len" pl) [.ListComp elt [⟨.Tuple elts kk tpos, .Name y pn, ifs, 0⟩] scope pos] [] pos3)) pos4]
      (sret (xzipLen k ma mb (own.map (·.2)) gt mt me)) := by
  obtain ⟨ta, pa, sa⟩ := ha
  obtain ⟨tb, pb, sb⟩ := hb
  obtain ⟨tg', pg', sg'⟩ := hg
  obtain ⟨tt, pt, stt⟩ := ht
  obtain ⟨te, pe, se⟩ := he
  refine ⟨fun W E σ H => ∀ n : Nat, tSeq (tAsg (tCB (rZipT g.K n) (tCons (ta W) (tCons (tb W) tNil))) (gName k)) (tRet (tCB (fun xs H Q => ∃ p ys, xs = [.ref p] ∧ (SqL g.K H p ys ∨ SqT g.K H p ys) ∧ Q (.int ys.length) H) (tCons (tLc (iZipV g.K n k) tg' (tt W0) (te W0) (own.map (·.2))) tNil))) E σ H, fun W X m => ?_, ?_⟩
  · have hm : ∀ (s : Shared) (H : Hp) (C : Addr) (cl : List (Str × Addr)) (fp : List Addr), (famC F scope).mem W0 (X.blk s H scope (compEnvC scope cl C X.env) fp) := fun s H C cl fp => ⟨rfl, W, X, s, H, C, cl, fp, m, rfl⟩
    have hN : X.N.Nodup := by rw [F.hN m]; exact F.nd
    have hyX : X.N[k]? = some y := by rw [F.hN m]; exact hy
    have hloc : Loc X.env.scope y := by rw [F.hsc m]; exact Or.inl hyl
    have cz : CallR X (.type "zip") (rZipT g.K X.s_0.heap.objs.size) := by have := cr_zipT (X := X); rw [F.hK m] at this; exact this
    have cl : CallR X (.builtin "len") (fun xs H Q => ∃ p ys, xs = [.ref p] ∧ (SqL g.K H p ys ∨ SqT g.K H p ys) ∧ Q (.int ys.length) H) := by have := call_len_seq (X := X); rw [F.hK m] at this; exact this
    have p1 := pe_callTy (pos := pos1) (p := pz) cz (x := ("zip" : Str)) (by show X.env.scope.names.lookup _ = _; rw [F.hsc m]; exact hz) (by rw [F.hmg m]; exact hzm) (by rfl) (pa_cons (pa W X m) (pa_cons (pb W X m) pa_nil (hs2 _)) (hs _)) (by decide) (by decide) (hs _) (hpl _)
    have pi : PI X (.Tuple elts kk tpos) (.Name y pn) (iZipV g.K X.s_0.heap.objs.size k) := by have := pi_zipv (elts := elts) (kk := kk) (tpos := tpos) (p := pn) (X := X) hyX (by rw [F.hsc m]; exact Or.inl hyl) hd hcd; rw [F.hK m] at this; exact this
    have plc := pe_lc (F.calm m) hN pi (by rw [F.hN m, F.hsc m]; exact blkOk_by ok) (fun s H C cl fp => pg' _ _ (hm s H C cl fp)) (fun s H C cl fp => pt _ _ (hm s H C cl fp)) (fun s H C cl fp => pe _ _ (hm s H C cl fp)) (hf _) (pos := pos)
    have p2 := pe_callB (pos := pos3) (p := pl) cl (x := ("len" : Str)) (by show X.env.scope.names.lookup _ = _; rw [F.hsc m]; exact hl) (by rw [F.hmg m]; exact hlm) (by rfl) (pa_cons plc pa_nil)
    have q := pss_cons (ps_set (pos := pos2) (pos' := py) hN hyX hloc p1 (hw _) (F.fn m y hy0 (Or.inl hyl))) (pss_one (ps_ret (pos := pos4) p2))
    exact ⟨fun pins s σ H D I h => q.run pins s σ H D I (h _)⟩
  · intro W G H as st σ e E R N h n
    unfold sret sbind xzipLen at h
    cases hk : e[k]? with
    | none => simp only [hk] at h; exact h.elim
    | some z => cases z with
      | some z => simp only [hk] at h; exact h.elim
      | none =>
        simp only [hk] at h
        refine sa W G H as st σ e _ R N ?_
        unfold xbind xcompL xzipT xbind at h
        cases q : ma e st with
        | stuck => simp only [q] at h; exact h
        | exc c p st1 => simp only [q] at h; exact fun cls d G1 H1 as1 R1 X1 x => h σ cls d G1 H1 as1 R1 (N.ext X1) X1 x
        | ok x st1 =>
          simp only [q] at h
          intro v G1 H1 as1 R1 X1 rv
          refine sb W G1 H1 as1 st1 σ e _ R1 (N.ext X1) ?_
          cases q2 : mb e st1 with
          | stuck => simp only [q2] at h; exact h
          | exc c p st2 =>
            simp only [q2] at h
            exact fun cls d G2 H2 as2 R2 X2 x2 => h σ cls d G2 H2 as2 R2 ((N.ext X1).ext X2) (X1.trans X2) x2
          | ok y2 st2 =>
            simp only [q2] at h
            intro w G2 H2 as2 R2 X2 rw'
            have rv2 := rv.ext X2
            cases x with
            | tup xs =>
              cases y2 with
              | tup ys =>
                simp only at h
                cases rv2 with
                | tup s1 r1 =>
                  cases rw' with
                  | tup s2 r2 =>
                    have X12 := X1.trans X2
                    refine ⟨_, _, _, _, rfl, sqT_H R2 s1, sqT_H R2 s2, fun M fr hn la lb => ?_⟩
                    have hkl : k < σ.length := by rw [N.len]; exact (List.getElem?_eq_some_iff.mp hk).1
                    refine ⟨M, _, _, H2, by rw [List.getElem?_set_self hkl], rfl, fr, hn, la, lb, ?_⟩
                    have N2 : Rn g.K g.mg G2 as2 (σ.set k (some (.ref (M + 4)))) e := (N.ext X12).side hk _
                    refine comp_read0 sg' stt se W (yl_zipT s1 s2 r1 r2) _ (e := e) (R1 := R2) (N := N2) (f := fun ds st' => RX.ok (D.int ds.length) st') (Q := fun v H' => ∃ (p : Addr) (ys : List V), [v] = [V.ref p] ∧ (SqL g.K H' p ys ∨ SqT g.K H' p ys) ∧ E.rt (.int ys.length) H') (σ0 := σ) (Q0 := fun v H' => E.rt v H') ?_ ?_
                    · cases q3 : cloop none (zipD xs ys) gt mt me (wipeE e (own.map (·.2))) (zipD xs ys) [] st2 with
                      | stuck => rw [q3] at h; exact h
                      | exc c p st3 => rw [q3] at h; exact fun cls d G3 H3 as3 R3 X3 x3 => h σ cls d G3 H3 as3 R3 ((N.ext X12).ext X3) (X12.trans X3) x3
                      | ok ds st3 =>
                        rw [q3] at h
                        exact fun v G3 H3 as3 R3 X3 r3 => h v G3 H3 as3 R3 (X12.trans X3) r3
                    · intro ds st' G3 H3 as3 G4 H4 as4 us p R3 ru hp gn na X3 hn hq
                      refine ⟨p, us, rfl, .inl (.of hp), ?_⟩
                      have := hq (.int us.length) G3 H3 as3 R3 X3 (by rw [ru.len]; exact .int _)
                      exact this
              | _ => exact h.elim
            | _ => exact h.elim
end
end LS
end
section
set_option maxRecDepth 100000
set_option maxHeartbeats 2000000
namespace LS
open PySem PySem.Spec L2
variable {e : Nv} {st : Store}
/-! ## more plain laws -/
@[simp] theorem max_iD (ns : List Int) : maxD (.lst (iD ns)) e st = if ns = [] then .stuck else .ok (.int (maxL ns)) st := by simp [maxD, intsD, seqOf, lstOf, intsOf_iD]
@[simp] theorem min_iD (ns : List Int) : minD (.lst (iD ns)) e st = if ns = [] then .stuck else .ok (.int (minL ns)) st := by simp [minD, intsD, seqOf, lstOf, intsOf_iD]
theorem cloop_rows {α : Type} {src : Option Nat} {items : List D} {gt : MG} {mt : XM Bool} {me : XM D} (g : α → D) (c : α → Bool) (f : α → D) (hs : srcOk src items st = true) : ∀ (l : List α) (acc : List D), (∀ x ∈ l, ∃ e1, gt (g x) e st = some (e1, st) ∧ mt e1 st = .ok (c x) st ∧ (c x = true → me e1 st = .ok (f x) st)) → acc.length + l.length ≤ LIM →
    cloop src items gt mt me e (l.map g) acc st = .ok (acc ++ (l.filter c).map f) st
  | [], acc, _, _ => by simp [cloop, hs]
  | x :: r, acc, h, hl => by
    obtain ⟨e1, h1, h2, h3⟩ := h x (by simp)
    have hl' : acc.length + (r.length + 1) ≤ LIM := by simpa using hl
    rw [List.map_cons]
    unfold cloop
    rw [if_pos hs, h1]
    cases hc : c x with
    | false =>
      simp only [h2, hc]
      rw [cloop_rows g c f hs r acc (fun y hy => h y (by simp [hy])) (by omega)]
      simp [hc]
    | true =>
      simp only [h2, hc, h3 hc]
      rw [if_pos (by omega), cloop_rows g c f hs r (acc ++ [f x]) (fun y hy => h y (by simp [hy])) (by simp; omega)]
      simp [hc]
theorem perm_sorted {α : Type} {le : α → α → Bool} : ∀ {a b : List α}, (∀ x ∈ a, ∀ y ∈ a, le x y = true → le y x = true → x = y) → a.Perm b → a.Pairwise (fun x y => le x y = true) → b.Pairwise (fun x y => le x y = true) → a = b
  | [], b, _, p, _, _ => by rw [List.nil_perm.mp p]
  | x :: a, [], _, p, _, _ => by simp at p
  | x :: a, y :: b, anti, p, ha, hb => by
    have ha' := List.pairwise_cons.mp ha
    have hb' := List.pairwise_cons.mp hb
    have e : x = y := by
      have hx : x ∈ y :: b := p.subset (by simp)
      have hy : y ∈ x :: a := p.symm.subset (by simp)
      rcases List.mem_cons.mp hx with h | h
      · exact h
      · rcases List.mem_cons.mp hy with h2 | h2
        · exact h2.symm
        · exact anti x (by simp) y hy (ha'.1 y h2) (hb'.1 x h)
    subst e
    rw [perm_sorted (fun u hu v hv => anti u (by simp [hu]) v (by simp [hv])) (List.perm_cons x |>.mp p) ha'.2 hb'.2]
end LS
end
section
set_option maxRecDepth 100000
set_option maxHeartbeats 2000000
namespace LS
open PySem PySem.Spec L2
section
variable {g : Gb} {F : Fam g} {pos : Pos}
/-! ## xs[::-1] of a list: a new list, still | moving -/
def listOf (st : Store) : D → Option (List D)
  | .sq xs => some xs
  | x => lstOf st x
theorem listOf_ok {K : PySem.W.Frag} {mg : Str → Option Value} {G H : Hp} {as : List Addr} {st : Store} {v : V} {x : D} {xs : List D} (R : Ri K mg G H as st) (rv : Rp K mg G as v x) (h : listOf st x = some xs) : ∃ a vs, v = .ref a ∧ SqL K H a vs ∧ RpA K mg G as vs xs := by
  have low : lstOf st x = some xs → ∃ a vs, v = .ref a ∧ SqL K H a vs ∧ RpA K mg G as vs xs := fun q =>
    let ⟨a, vs, e, s, r⟩ := lstOf_ok R rv q
    ⟨a, vs, e, .of s, r⟩
  cases rv with
  | sq s1 r1 =>
    have e := Option.some.inj h
    rw [← e]
    exact ⟨_, _, rfl, sqL_H R s1, r1⟩
  | _ => exact low h
def xrevL (m : XM D) : XM (List D) := xbind m fun x => fun _ st => match listOf st x with
  | some xs => .ok xs.reverse st
  | none => .stuck
def xrev (m : XM D) : XM D := xbind (xrevL m) fun xs => xpure (.lst xs)
def xrevM (m : XM D) : XM D := xbind (xrevL m) fun xs => fun _ st => .ok (.ref st.length) (st ++ [.lst xs])
theorem rev_read {t : WX → TE} {m : XM D} (s : SE g t m) {W : WX} {G H : Hp} {as : List Addr} {st : Store} {σ : L2.St} {e : Nv} {Q : VK} (R : Ri g.K g.mg G H as st) (N : Rn g.K g.mg G as σ e) (f : List D → XM D) (h : PX g.K g.mg W G H as σ (xbind (xrevL m) f e st) Q)
    (k : ∀ (xs : List D) (vs : List V) (st1 : Store) (G1 H1 : Hp) (as1 : List Addr) (p : Addr), Ri g.K g.mg G1 H1 as1 st1 → Ext G H as G1 H1 as1 → RpA g.K g.mg G1 as1 vs.reverse xs → PX g.K g.mg W G1 H1 as1 σ (f xs e st1) Q → H1 p = none → Q (.ref p) (upd H1 p (.lst vs.reverse))) : tRevL g.K (t W) σ H Q := by
  refine s W G H as st σ e _ R N ?_
  unfold xrevL xbind at h
  cases q : m e st with
  | stuck => simp only [q] at h; exact h
  | exc c p st1 => simp only [q] at h; exact h
  | ok x st1 =>
    simp only [q] at h
    intro v G1 H1 as1 R1 X1 rv
    cases q2 : listOf st1 x with
    | none => simp only [q2] at h; exact h.elim
    | some xs =>
      simp only [q2] at h
      obtain ⟨a, vs, e1, s1, r1⟩ := listOf_ok R1 rv q2
      exact ⟨a, vs, e1, s1, fun p hp => k xs.reverse vs st1 G1 H1 as1 p R1 X1 r1.reverse (PX.ext (r := f xs.reverse e st1) h X1) hp⟩
theorem je_rev {ex : Expr} {m : XM D} {k : Nat} {p1 p2 p3 : Pos} (h : JE F ex m) : JE F (.Subscript ex (.Slice none none (some (.UnaryOp .USub (.Constant (.int 1) k p1) p2)) p3) pos) (xrev m) := by
  obtain ⟨t, p, s⟩ := h
  refine ⟨fun W => tRevL g.K (t W), fun W X mm => by have := pe_revL (pos := pos) (k := k) (p1 := p1) (p2 := p2) (p3 := p3) (p W X mm); rw [F.hK mm] at this; exact this, ?_⟩
  intro W G H as st σ e Q R N h
  refine rev_read s R N _ h fun xs vs st1 G1 H1 as1 p R1 X1 r hq hp => ?_
  obtain ⟨R', x'⟩ := R1.still (o := .lst vs.reverse) hp
  exact hq _ _ _ _ R' x' (.lst upd_same (r.ext x'))
theorem je_revM {ex : Expr} {m : XM D} {k : Nat} {p1 p2 p3 : Pos} (h : JE F ex m) : JE F (.Subscript ex (.Slice none none (some (.UnaryOp .USub (.Constant (.int 1) k p1) p2)) p3) pos) (xrevM m) := by
  obtain ⟨t, p, s⟩ := h
  refine ⟨fun W => tRevL g.K (t W), fun W X mm => by have := pe_revL (pos := pos) (k := k) (p1 := p1) (p2 := p2) (p3 := p3) (p W X mm); rw [F.hK mm] at this; exact this, ?_⟩
  intro W G H as st σ e Q R N h
  refine rev_read s R N _ h fun xs vs st1 G1 H1 as1 p R1 X1 r hq hp => ?_
  obtain ⟨R', x'⟩ := R1.moving (o := .lst vs.reverse) (m := .lst xs) hp (.lst r)
  refine hq _ _ _ _ R' x' (.ref ?_)
  rw [← R1.len, List.getElem?_append_right (Nat.le_refl _), Nat.sub_self]; rfl

/-! ## xs.pop() -/
def xpop (mo : XM D) : XM D := xbind mo fun o => fun _ st => match o with
  | .ref k => (match st[k]? with
    | some (.lst xs) => (match xs[xs.length - 1]? with
      | some y => .ok y (st.set k (.lst xs.dropLast))
      | none => .stuck)
    | _ => .stuck)
  | _ => .stuck
theorem je_pop {o : Expr} {mo : XM D} {apos : Pos} (ho : JE F o mo) (h1 : ∀ env, attributeBase o "pop" env (eval o env) = eval o env := by intro _; rfl) (h2 : (apos.endLine == pos.line) = true := by rfl) : JE F (.Call (.Attribute o "pop" apos) [] [] pos) (xpop mo) := by
  obtain ⟨t, p, s⟩ := ho
  refine ⟨fun W => tBM0 g.K "list" rPop (t W), fun W X m => ?_, ?_⟩
  · have := pe_bm0 (cpos := pos) (apos := apos) PySem.F.plainAttrs_list PySem.F.slot_list_pop PySem.F.type_list_pop (mt_pop (X := X)) (p W X m) (h1 _) h2
    rw [F.hK m] at this
    exact this
  · intro W G H as st σ e Q R N h
    refine s.one R N h fun x st1 v G1 H1 as1 R1 X1 N1 rv h1 => ?_
    cases x with
    | ref kk =>
      simp only at h1
      cases q3 : st1[kk]? with
      | none => simp only [q3] at h1; exact h1.elim
      | some mo' =>
        cases mo' with
        | lst xs =>
          simp only [q3] at h1
          cases q4 : xs[xs.length - 1]? with
          | none => simp only [q4] at h1; exact h1.elim
          | some y =>
            simp only [q4] at h1
            have hk : isLst st1 kk = true := by unfold isLst; rw [q3]
            refine ⟨ty_ref R1 rv hk, ?_⟩
            cases rv with
            | ref qa =>
              rename_i a
              obtain ⟨ho', e1, oo⟩ := R1.at_ qa q3
              cases oo with
              | lst rr =>
                rename_i vs
                obtain ⟨u, hu, ru⟩ := rr.get q4
                have hd : RpA g.K g.mg G1 as1 vs.dropLast xs.dropLast := by
                  rw [List.dropLast_eq_take, List.dropLast_eq_take, rr.len]
                  exact rr.take _
                obtain ⟨R3, X3⟩ := R1.change (o := .lst vs.dropLast) (m := .lst xs.dropLast) qa (.lst hd) (fun u kvs z => by rw [e1] at z; cases z)
                exact ⟨a, vs, u, rfl, rfl, e1, by rw [rr.len]; exact hu, h1 _ _ _ _ R3 X3 (ru.ext X3)⟩
        | _ => simp only [q3] at h1; exact h1.elim
    | _ => exact h1.elim

/-! ## list(range(n)) -/
def xlistRg1 (m : XM D) : XM D := xbind m fun x => fun _ st => match x with
  | .int n => if -(2 ^ 62) ≤ n ∧ n ≤ 16777216 then .ok (.lst (rangeL 0 n.toNat)) st else .stuck
  | _ => .stuck
theorem rgV_rp {K : PySem.W.Frag} {mg : Str → Option Value} {G : Hp} {as : List Addr} (n : Int) : RpA K mg G as (rgV 0 n) (rangeL 0 n.toNat) := by
  have := RpA.of_ints (K := K) (mg := mg) (G := G) (as := as) ((List.range n.toNat).map fun (i : Nat) => (0 + (i : Int)))
  rw [List.map_map, List.map_map] at this
  unfold rgV rangeL
  rw [show n - 0 = n by omega]
  exact this
theorem je_listRg1 {ex : Expr} {m : XM D} {p q : Pos} {pos' : Pos} (hl : F.sc.names.lookup ("list" : Str) = some .globalImplicit) (hlm : g.mg "list" = none) (hg : F.sc.names.lookup ("range" : Str) = some .globalImplicit) (hm : g.mg "range" = none) (h : JE F ex m)
    (na : ∀ env, starEach [Expr.Call (.Name "range" q) [ex] [] pos'] env = (false, eval (.Call (.Name "range" q) [ex] [] pos') env) :: starEach [] env := by intro _; rfl) (na2 : ∀ env, starEach [ex] env = (false, eval ex env) :: starEach [] env := by intro _; rfl) :
    JE F (.Call (.Name "list" p) [.Call (.Name "range" q) [ex] [] pos'] [] pos) (xlistRg1 m) := by
  obtain ⟨t, p', s⟩ := h
  refine ⟨fun W => tLstRg (tRg1 (t W)), fun W X mm => ?_, ?_⟩
  · exact pe_listRg (F.calm mm) (by show X.env.scope.names.lookup _ = _; rw [F.hsc mm]; exact hl) (by rw [F.hmg mm]; exact hlm) (prg_1 (by show X.env.scope.names.lookup _ = _; rw [F.hsc mm]; exact hg) (by rw [F.hmg mm]; exact hm) (p' W X mm) (na2 _)) (na _)
  · intro W G H as st σ e Q R N h
    refine s.one R N h fun x st1 v G1 H1 as1 R1 X1 N1 rv h1 => ?_
    cases rv with
    | int n =>
      simp only at h1
      by_cases hc : -(2 ^ 62) ≤ n ∧ n ≤ 16777216
      · rw [if_pos hc] at h1
        refine ⟨n, rfl, ⟨by decide, by decide, hc.1, by omega, by omega⟩, fun q hq => ?_⟩
        obtain ⟨R', x'⟩ := R1.still (o := .lst (rgV 0 n)) hq
        exact h1 _ _ _ _ R' x' (.lst upd_same (rgV_rp n))
      · rw [if_neg hc] at h1; exact h1.elim
    | _ => exact h1.elim

/-! ## for .. in range(a, b, -1) -/
def rangeDn (lo : Int) (n : Nat) : List D := (List.range n).map fun (i : Nat) => .int (lo + (i : Int) * (-1))
theorem yl_rangeDn {G0 H0 : Hp} {as0 : List Addr} {lo : Int} {n : Nat} : Yl g G0 H0 as0 none (rangeDn lo n) (Itc lo (-1) n) where
  go := fun i G H as st hi R hs hp hl _ => by
    have : i < n := by simpa [rangeDn] using hi
    exact this
  stop := fun G H as st R hs hp hl _ => by show n ≤ (rangeDn lo n).length; simp [rangeDn]
  yld := fun i G H as st v H' x R hs hp hl _ hx y => by
    obtain ⟨rfl, rfl⟩ := y
    unfold rangeDn at hx
    rw [List.getElem?_map] at hx
    obtain ⟨j, hj, rfl⟩ := Option.map_eq_some_iff.mp hx
    obtain ⟨hj1, hj2⟩ := List.getElem?_eq_some_iff.mp hj
    have : j = i := by rw [← hj2]; simp
    subst this
    exact ⟨G, R, Ext.refl, .int _⟩
def xrangeDn (ma mb : XM D) : XM (List D × Option Nat) := xbind ma fun x => xbind mb fun y => fun _ st => match x, y with
  | .int i, .int j => if -(2 ^ 62) ≤ i ∧ i < 2 ^ 62 ∧ -(2 ^ 62) ≤ j ∧ j < 2 ^ 62 then .ok (rangeDn i (i - j).toNat, none) st else .stuck
  | _, _ => .stuck
theorem ji_rangeDn {tg a b : Expr} {ma mb : XM D} {p p1 p2 : Pos} {k : Nat} (hg : F.sc.names.lookup ("range" : Str) = some .globalImplicit) (hm : g.mg "range" = none) (ha : JE F a ma) (hb : JE F b mb)
    (hs : ∀ env, starEach [a, b, .UnaryOp .USub (.Constant (.int 1) k p1) p2] env = (false, eval a env) :: starEach [b, .UnaryOp .USub (.Constant (.int 1) k p1) p2] env := by intro _; rfl)
    (hs2 : ∀ env, starEach [b, .UnaryOp .USub (.Constant (.int 1) k p1) p2] env = (false, eval b env) :: starEach [.UnaryOp .USub (.Constant (.int 1) k p1) p2] env := by intro _; rfl)
    (hpl : ∀ env, (backTo pos (starEach [b, .UnaryOp .USub (.Constant (.int 1) k p1) p2] env)).any (·.1) = false := by intro _; rfl) : JI F tg (.Call (.Name "range" p) [a, b, .UnaryOp .USub (.Constant (.int 1) k p1) p2] [] pos) (xrangeDn ma mb) := by
  obtain ⟨t, p', s⟩ := ha
  obtain ⟨t2, p2', s2⟩ := hb
  refine ⟨fun W => iRng3 (tCons (t W) (tCons (t2 W) (tCons (tUn (rU fun i => .int (-i)) (tC (.int 1))) tNil))), fun W X m => pi_range3 (by show X.env.scope.names.lookup _ = _; rw [F.hsc m]; exact hg) (by rw [F.hmg m]; exact hm) (pa_cons (p' W X m) (pa_cons (p2' W X m) (pa_cons (pe_un un_neg pe_int) pa_nil rfl) (hs2 _)) (hs _)) (hs _) (hpl _), ?_⟩
  intro W G H as st σ e R' R N h
  refine s W G H as st σ e _ R N ?_
  unfold xrangeDn xbind at h
  cases q : ma e st with
  | stuck => rw [q] at h; exact h
  | exc c p st1 => rw [q] at h; exact h
  | ok x st1 =>
    simp only [q] at h
    intro v G1 H1 as1 R1 X1 rv
    refine s2 W G1 H1 as1 st1 σ e _ R1 (N.ext X1) ?_
    cases q2 : mb e st1 with
    | stuck => simp only [q2] at h; exact h
    | exc c p st2 =>
      simp only [q2] at h
      exact fun cls d G2 H2 as2 R2 X2 x2 => h cls d G2 H2 as2 R2 (X1.trans X2) x2
    | ok y st2 =>
      simp only [q2] at h
      intro w G2 H2 as2 R2 X2 rw'
      cases rv with
      | int i =>
        cases rw' with
        | int j =>
          by_cases hc : -(2 ^ 62) ≤ i ∧ i < 2 ^ 62 ∧ -(2 ^ 62) ≤ j ∧ j < 2 ^ 62
          · simp only [hc, and_self, if_true] at h
            exact ⟨1, rfl, i, j, -1, (i - j).toNat, rfl, RgC.neg hc.1 hc.2.1 hc.2.2.1 hc.2.2.2, h.2 _ G2 H2 as2 R2 (X1.trans X2) yl_rangeDn⟩
          · simp only [hc, if_false] at h; exact h.elim
        | _ => exact h.elim
      | _ => cases rw' <;> exact h.elim
end
end LS
end
section
set_option maxRecDepth 100000
set_option maxHeartbeats 2000000
/-! itertools.permutations of a list, at the library's level -/
namespace Pm
open PySem PySem.Spec
open Sem (wp)
abbrev PT : String := "itertools.permutations"
theorem mro_pm : mroOf (.type "itertools.permutations") = pure [.type "itertools.permutations", .type "object"] := by rw [mroOf_type]; kernel_rfl
theorem lookup_new : typeLookup (.type "itertools.permutations") "__new__" = pure (some (.builtin "itertools.permutations.__new__")) := by rw [typeLookup_type, builtinLookup_eq_fast]; kernel_rfl
theorem slot_init : Slot "itertools.permutations" "__init__" "object.__init__" :=
  .of (owner := "object") (n := "__init__") (by rw [typeLookup_type, builtinLookup_eq_fast]; kernel_rfl) (by decide +kernel) (by decide +kernel) (by decide +kernel)
    (by first | exact .inl (by decide +kernel) | exact .inr (by decide +kernel)) (by rw [isSubtype_type]; kernel_rfl)
theorem sub_pm : isSubtype (.type "itertools.permutations") (.type "itertools.permutations") = pure true := by rw [isSubtype_type]; kernel_rfl
theorem called_pm : TypeCalled "itertools.permutations" "itertools.permutations.__new__" "object.__init__" :=
  ⟨by decide +kernel, by decide +kernel, ⟨_, _, mro_pm⟩, madeBy_type mro_pm lookup_new (by decide +kernel), by decide +kernel, sub_pm, slot_init⟩
theorem typeCall_1 (a : Value) : checkTypeCall "itertools.permutations" ⟨[a], []⟩ = pure () := by kernel_rfl
theorem newCall_1 (a : Value) : checkBuiltinCall "itertools.permutations.__new__" ⟨[.type "itertools.permutations", a], []⟩ = pure () := by kernel_rfl
theorem entry_new : entryFor table "itertools.permutations.__new__" = some Builtin.«itertools.permutations.__new__» := entryFor_of_tree (by kernel_rfl)
theorem slot_iter : Slot "itertools.permutations" "__iter__" "itertools.permutations.__iter__" :=
  .of (owner := "itertools.permutations") (n := "__iter__") (by rw [typeLookup_type, builtinLookup_eq_fast]; kernel_rfl) (by decide +kernel) (by decide +kernel) (by decide +kernel)
    (by first | exact .inl (by decide +kernel) | exact .inr (by decide +kernel)) sub_pm
theorem slot_next : Slot "itertools.permutations" "__next__" "itertools.permutations.__next__" :=
  .of (owner := "itertools.permutations") (n := "__next__") (by rw [typeLookup_type, builtinLookup_eq_fast]; kernel_rfl) (by decide +kernel) (by decide +kernel) (by decide +kernel)
    (by first | exact .inl (by decide +kernel) | exact .inr (by decide +kernel)) sub_pm
theorem entry_iter : entryFor table "itertools.permutations.__iter__" = some Builtin.«dict_keyiterator.__iter__» :=
  entryFor_alias (id' := "dict_keyiterator.__iter__") (by kernel_rfl) (by first | rfl | decide +kernel | (unfold String.splitOn; simp +decide [String.splitOnAux])) (by decide +kernel) (by kernel_rfl)
theorem entry_next : entryFor table "itertools.permutations.__next__" = some Builtin.«itertools.permutations.__next__» := entryFor_of_tree (by kernel_rfl)
theorem owner_pm : Manifest.owners.lookup (String.ofList ['s', 'n', 'o', 'i', 't', 'a', 't', 'u', 'm', 'r', 'e', 'p', '.', 's', 'l', 'o', 'o', 't', 'r', 'e', 't', 'i'].reverse) = some Manifest.sig_itertools_permutations := by kernel_rfl
theorem args_iter (a : Value) : argsOk "itertools.permutations.__iter__" ⟨[a], []⟩ := by
  unfold argsOk; rw [signature?_of (id := "itertools.permutations.__iter__") (n := ['_', '_', 'r', 'e', 't', 'i', '_', '_']) (o := ['s', 'n', 'o', 'i', 't', 'a', 't', 'u', 'm', 'r', 'e', 'p', '.', 's', 'l', 'o', 'o', 't', 'r', 'e', 't', 'i']) (by kernel_rfl) owner_pm]; kernel_rfl
theorem args_next (a : Value) : argsOk "itertools.permutations.__next__" ⟨[a], []⟩ := by
  unfold argsOk; rw [signature?_of (id := "itertools.permutations.__next__") (n := ['_', '_', 't', 'x', 'e', 'n', '_', '_']) (o := ['s', 'n', 'o', 'i', 't', 'a', 't', 'u', 'm', 'r', 'e', 'p', '.', 's', 'l', 'o', 'o', 't', 'r', 'e', 't', 'i']) (by kernel_rfl) owner_pm]; kernel_rfl
theorem noDict : typeHasDict (.type "itertools.permutations") = false := by decide +kernel
theorem noClose : typeLookup (.type "itertools.permutations") "close" = pure none := by rw [typeLookup_type, builtinLookup_eq_fast]; kernel_rfl
end Pm
end
section
set_option maxRecDepth 100000
set_option maxHeartbeats 2000000
namespace Pm
open PySem PySem.Spec
open Sem (wp)
/-- what the iterator keeps: the pool, how far, how many, what was handed out last, places, cycles -/
def flds (tp : Addr) (fl n : Nat) (last : Value) (a b : List Nat) : List Value := [.ref tp, .int (fl : Nat) 0, .int (n : Nat) 0, last] ++ a.map (fun (i : Nat) => Value.int (i : Int) 0) ++ b.map fun (i : Nat) => Value.int (i : Int) 0
theorem meets_new (l : Addr) (items : Array Value) (hn : items.size ≤ 8) : Meets (Builtin.«itertools.permutations.__new__» ⟨[.type "itertools.permutations", .ref l], []⟩)
    (fun _ R s => s.heap.IsList l items ∧ ∀ h' : Heap, (∀ b o, s.heap.get? b = some o → h'.get? b = some o) → R (.ok (.ret (.ref (h'.objs.size + 1)))) { s with heap := (h'.push { cls := .type "tuple", data := .seq items }).push { cls := .type "itertools.permutations", data := .fields (flds h'.objs.size 0 items.size .none (List.range items.size) ((List.range items.size).map fun i => items.size - i)).toArray } }) :=
  .of_wp fun prog w A R s h => by
    obtain ⟨⟨o, ho, hc, ne, hd⟩, h⟩ := h
    have hsub := sub_pm
    have hD := noDict
    have sz : items.size ≤ sizeLine := by rw [sizeLine_eq]; omega
    repeat (first
      | (refine wpAny_bind (wpAny_collect_seq l (.inl rfl) ho hc hd (fun h' hk => ?_) sz))
      | wp_step
      | simp only [List.head?_cons, Option.some_or, List.getElem?_cons_succ, List.getElem?_cons_zero, List.length_cons, List.length_nil, List.forIn_nil])
    rw [show ("itertools." ++ "permutations" : String) = "itertools.permutations" from by decide +kernel]
    refine wpAny_of_eq hsub ?_
    repeat (first
      | (refine wpAny_bind (wpAny_collect_seq l (.inl rfl) ho hc hd (fun h' hk => ?_) sz))
      | wp_step
      | simp only [List.head?_cons, Option.some_or, List.getElem?_cons_succ, List.getElem?_cons_zero, List.length_cons, List.length_nil, List.forIn_nil])
    have e1 : Builtin.Itertools.itTooMany ((items.toList.length : Nat) : Int) = false := by
      have : items.toList.length ≤ 8 := by simpa using hn
      unfold Builtin.Itertools.itTooMany
      exact decide_eq_false (by omega)
    rw [e1]
    show wpAny _ _ (newTuple items.toList >>= _) _ _ _
    unfold newTuple
    refine wpAny_bind (wpAny_newObj_type ?_ (by show items.toList.toArray.size ≤ sizeLine; simpa using sz))
    unfold Builtin.Itertools.itNewRecord
    rw [hD]
    rw [if_pos (show (!false) = true from rfl)]
    have ef : ([Value.ref h'.objs.size, rawInt (if ((items.toList.length : Nat) : Int).toNat > items.toList.length then 2 else 0), rawInt (((items.toList.length : Nat) : Int).toNat : Nat), Value.none] ++ (List.range items.toList.length).map (fun (i : Nat) => rawInt (i : Int)) ++ (List.range ((items.toList.length : Nat) : Int).toNat).map fun (i : Nat) => rawInt (((items.toList.length : Nat) : Int) - (i : Int))) = flds h'.objs.size 0 items.size .none (List.range items.size) ((List.range items.size).map fun i => items.size - i) := by
      unfold flds rawInt
      simp only [Int.toNat_natCast, Array.length_toList, gt_iff_lt, Nat.lt_irrefl, if_false, List.map_map]
      congr 1
      refine List.map_congr_left fun i hi => ?_
      have : i < items.size := List.mem_range.mp hi
      show Value.int ((items.size : Int) - (i : Int)) 0 = Value.int ((items.size - i : Nat) : Int) 0
      rw [show (items.size : Int) - (i : Int) = ((items.size - i : Nat) : Int) by omega]
    refine wpAny_bind (wpAny_newObj_type ?_ ?_)
    · refine wpAny_pure ⟨_, rfl, ?_⟩
      have := h h' hk
      rw [← ef] at this
      simpa using this
    · first
        | trivial
        | (show _ ≤ sizeLine + 2
           have z : sizeLine = 2 ^ 24 := sizeLine_eq
           simp
           omega)
section
variable {prog : Program} {w : World} {A : Around} {E : Value → Shared → Prop} {s : Shared}
/-- the iterator: pool, how far, how many, handed out last, places, cycles -/
def IsPm (h : Heap) (it tp : Addr) (fl n : Nat) (last : Value) (a b : List Nat) : Prop := h.get? it = some { cls := .type "itertools.permutations", dict := none, data := .fields (flds tp fl n last a b).toArray, slots := #[] }
/-- the heap behind the call -/
def pmHeap (h' : Heap) (items : Array Value) : Heap := (h'.push { cls := .type "tuple", data := .seq items }).push { cls := .type "itertools.permutations", data := .fields (flds h'.objs.size 0 items.size .none (List.range items.size) ((List.range items.size).map fun i => items.size - i)).toArray }
theorem pmHeap_it (h' : Heap) (items : Array Value) : IsPm (pmHeap h' items) (h'.objs.size + 1) h'.objs.size 0 items.size .none (List.range items.size) ((List.range items.size).map fun i => items.size - i) := by
  have e : (h'.push { cls := .type "tuple", data := .seq items }).objs.size = h'.objs.size + 1 := by simp [Heap.push]
  unfold IsPm pmHeap
  rw [← e]
  exact Heap.get?_push_size _ rfl
theorem pmHeap_tp (h' : Heap) (items : Array Value) : (pmHeap h' items).get? h'.objs.size = some { cls := .type "tuple", data := .seq items } := Heap.get?_push_of_some _ (Heap.get?_push_size _ rfl)
theorem pmHeap_keep (h' : Heap) (items : Array Value) {b : Addr} {o : Obj} (q : h'.get? b = some o) : (pmHeap h' items).get? b = some o := Heap.get?_push_of_some _ (Heap.get?_push_of_some _ q)
theorem call_pm {l : Addr} {items : Array Value} (hn : items.size ≤ 8) (hl : s.heap.IsList l items) {Q : Value → Shared → Prop}
    (h : ∀ h' : Heap, (∀ b o, s.heap.get? b = some o → h'.get? b = some o) → Q (.ref (h'.objs.size + 1)) { s with heap := pmHeap h' items }) :
    wpAny (model prog w) A (call (.type "itertools.permutations") [.ref l]) Q E s := by
  refine callType_new called_pm (by decide +kernel) (typeCall_1 _) (newCall_1 _) (fun obj => F.args_object_init_2 obj _) entry_new (meets_new l items hn) ?_
  exact ⟨hl, fun h' hk => ⟨⟨_, pmHeap_it h' items, rfl⟩, h h' hk⟩⟩
theorem iter_pm {it tp : Addr} {fl n : Nat} {last : Value} {a b : List Nat} {Q : Value → Shared → Prop} (hit : IsPm s.heap it tp fl n last a b) (h : Q (.ref it) s) : wpAny (model prog w) A (pyIter (.ref it)) Q E s := by
  have hT : s.TypeIs (.ref it) "itertools.permutations" := ⟨_, hit, rfl⟩
  refine wpAny_pyIter_slot hT slot_iter (wpAny_call_entry slot_iter hT entry_iter ?_ (args_iter _))
  show wpAny _ _ (ret (.ref it)) _ _ s
  exact wpAny_pure ⟨_, rfl, "itertools.permutations", _, hT, slot_next.lookup, h⟩
end
end Pm
end
section
set_option maxRecDepth 100000
set_option maxHeartbeats 2000000
namespace Pm
open PySem PySem.Spec
open Sem (wp)
section
variable {prog : Program} {w : World} {A : Around} {E : Value → Shared → Prop} {s : Shared}
theorem nums_back : ∀ a : List Nat, (a.map (fun (i : Nat) => Value.int (i : Int) 0)).map (fun | .int n _ => n.toNat | _ => 0) = a
  | [] => rfl
  | x :: r => by simp [nums_back r]
/-- a field set -/
theorem set_fl {h : Heap} {it tp : Addr} {fl fl' n : Nat} {last : Value} {a b : List Nat} (hit : IsPm h it tp fl n last a b) : IsPm (h.update it (Obj.mapFields fun x => x.setIfInBounds 1 (.int (fl' : Nat) 0))) it tp fl' n last a b := by
  have := Heap.get?_update_self (Obj.mapFields fun x => x.setIfInBounds 1 (.int (fl' : Nat) 0)) hit rfl
  unfold IsPm
  rw [this]
  simp [Obj.mapFields, flds]
theorem set_last {h : Heap} {it tp : Addr} {fl n : Nat} {last x : Value} {a b : List Nat} (hit : IsPm h it tp fl n last a b) : IsPm (h.update it (Obj.mapFields fun y => y.setIfInBounds 3 x)) it tp fl n x a b := by
  have := Heap.get?_update_self (Obj.mapFields fun y => y.setIfInBounds 3 x) hit rfl
  unfold IsPm
  rw [this]
  simp [Obj.mapFields, flds]
theorem nums_pm {it tp : Addr} {fl n : Nat} {last : Value} {a b : List Nat} {Q : List Nat → Shared → Prop} (hit : IsPm s.heap it tp fl n last a b) (h : Q (a ++ b) s) : wpAny (model prog w) A (Builtin.Itertools.itNumbersFrom (.ref it) 4) Q E s := by
  unfold Builtin.Itertools.itNumbersFrom
  refine wpAny_bind (wpAny_load hit ?_)
  refine wpAny_pure ?_
  refine Eq.mp (congrArg (fun z => Q z s) ?_) h
  show a ++ b = List.map (fun | .int n _ => n.toNat | _ => 0) (List.drop 4 (flds tp fl n last a b).toArray.toList)
  have e : List.drop 4 (flds tp fl n last a b).toArray.toList = a.map (fun (i : Nat) => Value.int (i : Int) 0) ++ b.map fun (i : Nat) => Value.int (i : Int) 0 := by simp [flds]
  rw [e, List.map_append, nums_back, nums_back]
theorem first_pm {it tp : Addr} {items : Array Value} {m : Nat} {last : Value} {a b : List Nat} {Q : Option Value → Shared → Prop} (hit : IsPm s.heap it tp 0 items.size last a b) (hp : s.heap.get? tp = some { cls := .type "tuple", data := .seq items m }) (hl : a.length = items.size) (hn : items.size ≤ 8)
    (hQ : ∀ h', IsPm h' it tp 1 items.size (.ref s.heap.objs.size) a b → h'.get? s.heap.objs.size = some { cls := .type "tuple", data := .seq (a.map fun i => items.getD i .none).toArray } → (∀ c o, c ≠ it → s.heap.get? c = some o → h'.get? c = some o) → Q (some (.ref s.heap.objs.size)) { s with heap := h' }) :
    wpAny (model prog w) A (callSpecial? (.ref it) "__next__") Q E s := by
  have hT : s.TypeIs (.ref it) "itertools.permutations" := ⟨_, hit, rfl⟩
  refine wpAny_callSpecial?_slot (name := Str.ofString "__next__") hT slot_next (wpAny_call_entry slot_next hT entry_next ?_ (args_next _))
  unfold Builtin.«itertools.permutations.__next__»
  refine wpAny_bind (wpAny_of_eq (a := (Value.ref it, [])) (by rfl) ?_)
  refine wpAny_bind (wpAny_field hit rfl (x := .ref tp) (by simp [flds]) ?_)
  unfold Builtin.Itertools.itPoolItems
  refine wpAny_bind (wpAny_bind (wpAny_seqItems hp rfl ?_))
  refine wpAny_pure ?_
  unfold Builtin.Itertools.itIntField
  refine wpAny_bind (wpAny_bind (wpAny_field hit rfl (x := .int (items.size : Nat) 0) (by simp [flds]) ?_))
  refine wpAny_pure ?_
  refine wpAny_bind (nums_pm hit ?_)
  have t1 : (a ++ b).take items.size = a := by rw [← hl]; exact List.take_left
  have t2 : (a ++ b).drop items.size = b := by rw [← hl]; exact List.drop_left
  refine wpAny_bind (wpAny_bind (wpAny_field hit rfl (x := .int ((0 : Nat) : Int) 0) (by simp [flds]) ?_))
  refine wpAny_pure ?_
  show wpAny _ _ (setField (.ref it) 1 (rawInt 1) >>= _) _ _ _
  refine wpAny_bind (wpAny_setField hit rfl (by simp [flds]) ?_)
  have hit1 := set_fl (fl' := 1) hit
  rw [Int.toNat_natCast]
  show wpAny _ _ (newTuple ((List.take items.size (a ++ b)).map fun i => items.getD i Value.none) >>= _) _ _ _
  rw [t1]
  unfold newTuple
  have lt : it < s.heap.objs.size := Heap.lt_size (h := s.heap) (a := it) hit
  have nt : s.heap.objs.size ≠ it := fun z => Nat.lt_irrefl _ (Nat.lt_of_lt_of_eq lt z)
  refine wpAny_bind (wpAny_newObj_type ?_ (by show (List.map _ _).toArray.size ≤ sizeLine; rw [sizeLine_eq]; simp; omega))
  refine wpAny_bind (wpAny_field (Heap.get?_push_of_some _ hit1) rfl (x := last) (by simp [flds]) ?_)
  refine wpAny_bind (wpAny_setField (Heap.get?_push_of_some _ hit1) rfl (by simp [flds]) ?_)
  refine wpAny_bind (wpAny_letGo ?_)
  refine wpAny_pure ⟨_, rfl, ?_⟩
  have es : (s.heap.update it (Obj.mapFields fun x => x.setIfInBounds 1 (.int ((1 : Nat) : Int) 0))).objs.size = s.heap.objs.size := Heap.size_update _ _ _
  have hit2 := set_last (x := .ref s.heap.objs.size) (Heap.get?_push_of_some { cls := .type "tuple", data := .seq (a.map fun i => items.getD i .none).toArray } hit1)
  refine Eq.mp (congrArg (fun z => Q (some (.ref z)) _) es.symm) ?_
  have h2 := hQ _ hit2 ?_ ?_
  · rw [show (rawInt 1 : Value) = .int ((1 : Nat) : Int) 0 from rfl]
    rw [es]
    exact h2
  · rw [Heap.get?_update_other _ _ (Ne.symm nt)]
    have := Heap.get?_push_size (s.heap.update it (Obj.mapFields fun x => x.setIfInBounds 1 (.int ((1 : Nat) : Int) 0))) (o := { cls := .type "tuple", data := .seq (a.map fun i => items.getD i .none).toArray }) rfl
    rw [es] at this
    exact this
  · intro c o hc q
    rw [Heap.get?_update_other _ _ (Ne.symm hc)]
    refine Heap.get?_push_of_some _ ?_
    rw [Heap.get?_update_other _ _ (Ne.symm hc)]
    exact q
end
end Pm
end
section
set_option maxRecDepth 100000
set_option maxHeartbeats 2000000
namespace Pm
open PySem PySem.Spec
open Sem (wp)
/-- factorials, the digits of a number over them, the places in order -/
def fac : Nat → Nat
  | 0 => 1
  | n + 1 => (n + 1) * fac n
/-- the k-th order of some things -/
def nthO : Nat → List Nat → Nat → List Nat
  | 0, _, _ => []
  | m + 1, l, k => l.getD (k / fac m) 0 :: nthO m (l.eraseIdx (k / fac m)) (k % fac m)
def plc (n k : Nat) : List Nat := nthO n (List.range n) k
/-- what the iterator counts down beside -/
def cyc (n k : Nat) : List Nat := (List.range n).map fun j => (n - j) - k / fac (n - 1 - j) % (n - j)
def TabOk (nx : Nat → Nat → List Nat → List Nat → Option (List Nat × List Nat)) (n : Nat) : Prop :=
  ((List.range (fac n)).map fun k => nx n n (plc n k) (cyc n k)) = (List.range (fac n)).map fun k => if k + 1 < fac n then some (plc n (k + 1), cyc n (k + 1)) else none
theorem set_nums {h : Heap} {it tp : Addr} {fl n : Nat} {last : Value} {a b a' b' : List Nat} (hit : IsPm h it tp fl n last a b) : IsPm (h.update it (Obj.mapFields fun fs => fs.extract 0 4 ++ ((a' ++ b').map fun (n : Nat) => rawInt n).toArray)) it tp fl n last a' b' := by
  have := Heap.get?_update_self (Obj.mapFields fun fs => fs.extract 0 4 ++ ((a' ++ b').map fun (n : Nat) => rawInt n).toArray) hit rfl
  unfold IsPm
  rw [this]
  have e : (flds tp fl n last a b).toArray.extract 0 4 = #[.ref tp, .int (fl : Nat) 0, .int (n : Nat) 0, last] := by
    unfold flds
    simp
  simp [Obj.mapFields, e, flds, rawInt]
theorem next_pm : ∃ nx : Nat → Nat → List Nat → List Nat → Option (List Nat × List Nat),
    (∀ (prog : Program) (w : World) (A : Around) (E : Value → Shared → Prop) (s : Shared) (it tp : Addr) (items : Array Value) (m : Nat) (last : Value) (a b a' b' : List Nat) (Q : Option Value → Shared → Prop), IsPm s.heap it tp 1 items.size last a b → s.heap.get? tp = some { cls := .type "tuple", data := .seq items m } → a.length = items.size → a'.length = items.size → b'.length = items.size → items.size ≤ 8 →
      nx items.size items.size a b = some (a', b') →
      (∀ h', IsPm h' it tp 1 items.size (.ref s.heap.objs.size) a' b' → h'.get? s.heap.objs.size = some { cls := .type "tuple", data := .seq (a'.map fun i => items.getD i .none).toArray } → (∀ c o, c ≠ it → s.heap.get? c = some o → h'.get? c = some o) → Q (some (.ref s.heap.objs.size)) { s with heap := h' }) →
      wpAny (model prog w) A (callSpecial? (.ref it) "__next__") Q E s) ∧
    (∀ (prog : Program) (w : World) (A : Around) (E : Value → Shared → Prop) (s : Shared) (it tp : Addr) (items : Array Value) (m : Nat) (last : Value) (a b : List Nat) (Q : Option Value → Shared → Prop), A.handled = none → IsPm s.heap it tp 1 items.size last a b → s.heap.get? tp = some { cls := .type "tuple", data := .seq items m } → a.length = items.size →
      nx items.size items.size a b = none →
      (∀ h', Heap.ExtBut it s.heap h' → Q none { s with heap := h' }) →
      wpAny (model prog w) A (pyNext (.ref it)) Q E s) ∧
    ∀ n ≤ 5, TabOk nx n := by
  apply Exists.intro
  apply And.intro
  · intro prog w A E s it tp items m last a b a' b' Q hit hp hl hl' hb' hn hx hQ
    have hT : s.TypeIs (.ref it) "itertools.permutations" := ⟨_, hit, rfl⟩
    refine wpAny_callSpecial?_slot (name := Str.ofString "__next__") hT slot_next (wpAny_call_entry slot_next hT entry_next ?_ (args_next _))
    unfold Builtin.«itertools.permutations.__next__»
    refine wpAny_bind (wpAny_of_eq (a := (Value.ref it, [])) (by rfl) ?_)
    refine wpAny_bind (wpAny_field hit rfl (x := .ref tp) (by simp [flds]) ?_)
    unfold Builtin.Itertools.itPoolItems
    refine wpAny_bind (wpAny_bind (wpAny_seqItems hp rfl ?_))
    refine wpAny_pure ?_
    unfold Builtin.Itertools.itIntField
    refine wpAny_bind (wpAny_bind (wpAny_field hit rfl (x := .int (items.size : Nat) 0) (by simp [flds]) ?_))
    refine wpAny_pure ?_
    refine wpAny_bind (nums_pm hit ?_)
    have t1 : (a ++ b).take items.size = a := by rw [← hl]; exact List.take_left
    have t2 : (a ++ b).drop items.size = b := by rw [← hl]; exact List.drop_left
    refine wpAny_bind (wpAny_bind (wpAny_field hit rfl (x := .int ((1 : Nat) : Int) 0) (by simp [flds]) ?_))
    refine wpAny_pure ?_
    rw [Int.toNat_natCast, t1, t2]
    dsimp only
    split
    · rename_i h0
      exact absurd h0 (by decide)
    · split
      · rename_i a1 b1 he
        have q : some (a1, b1) = some (a', b') := he.symm.trans hx
        obtain ⟨rfl, rfl⟩ := Prod.mk.inj (Option.some.inj q)
        unfold Builtin.Itertools.itSetNumbersFrom
        refine wpAny_bind (wpAny_updateFields hit rfl ?_ (by simp [flds, sizeLine_eq]; omega))
        have hit1 := set_nums (a' := a1) (b' := b1) hit
        have lt : it < s.heap.objs.size := Heap.lt_size (h := s.heap) (a := it) hit
        have nt : s.heap.objs.size ≠ it := fun z => Nat.lt_irrefl _ (Nat.lt_of_lt_of_eq lt z)
        have t3 : List.take items.size a1 = a1 := by rw [← hl']; exact List.take_length
        rw [t3]
        unfold newTuple
        refine wpAny_bind (wpAny_newObj_type ?_ (by show (List.map _ _).toArray.size ≤ sizeLine; rw [sizeLine_eq]; simp; omega))
        refine wpAny_bind (wpAny_field (Heap.get?_push_of_some _ hit1) rfl (x := last) (by simp [flds]) ?_)
        refine wpAny_bind (wpAny_setField (Heap.get?_push_of_some _ hit1) rfl (by simp [flds]) ?_)
        refine wpAny_bind (wpAny_letGo ?_)
        refine wpAny_pure ⟨_, rfl, ?_⟩
        have es : (s.heap.update it (Obj.mapFields fun fs => fs.extract 0 4 ++ ((a1 ++ b1).map fun (n : Nat) => rawInt n).toArray)).objs.size = s.heap.objs.size := Heap.size_update _ _ _
        have hit2 := set_last (x := .ref s.heap.objs.size) (Heap.get?_push_of_some { cls := .type "tuple", data := .seq (a1.map fun i => items.getD i .none).toArray } hit1)
        refine Eq.mp (congrArg (fun z => Q (some (.ref z)) _) es.symm) ?_
        have h2 := hQ _ hit2 ?_ ?_
        · rw [es]
          exact h2
        · rw [Heap.get?_update_other _ _ (Ne.symm nt)]
          have := Heap.get?_push_size (s.heap.update it (Obj.mapFields fun fs => fs.extract 0 4 ++ ((a1 ++ b1).map fun (n : Nat) => rawInt n).toArray)) (o := { cls := .type "tuple", data := .seq (a1.map fun i => items.getD i .none).toArray }) rfl
          rw [es] at this
          exact this
        · intro c o hc q
          rw [Heap.get?_update_other _ _ (Ne.symm hc)]
          refine Heap.get?_push_of_some _ ?_
          rw [Heap.get?_update_other _ _ (Ne.symm hc)]
          exact q
      · rename_i he
        have q : none = some (a', b') := he.symm.trans hx
        cases q
    · rename_i h0
      exact absurd rfl h0
  apply And.intro
  · intro prog w A E s it tp items m last a b Q hh hit hp hl hx hQ
    have hT : s.TypeIs (.ref it) "itertools.permutations" := ⟨_, hit, rfl⟩
    unfold pyNext
    refine wpAny_bind (wpAny_attempt (wpAny_callSpecial?_slot (name := Str.ofString "__next__") hT slot_next (wpAny_call_entry slot_next hT entry_next ?_ (args_next _))))
    unfold Builtin.«itertools.permutations.__next__»
    refine wpAny_bind (wpAny_of_eq (a := (Value.ref it, [])) (by rfl) ?_)
    refine wpAny_bind (wpAny_field hit rfl (x := .ref tp) (by simp [flds]) ?_)
    unfold Builtin.Itertools.itPoolItems
    refine wpAny_bind (wpAny_bind (wpAny_seqItems hp rfl ?_))
    refine wpAny_pure ?_
    unfold Builtin.Itertools.itIntField
    refine wpAny_bind (wpAny_bind (wpAny_field hit rfl (x := .int (items.size : Nat) 0) (by simp [flds]) ?_))
    refine wpAny_pure ?_
    refine wpAny_bind (nums_pm hit ?_)
    have t1 : (a ++ b).take items.size = a := by rw [← hl]; exact List.take_left
    have t2 : (a ++ b).drop items.size = b := by rw [← hl]; exact List.drop_left
    refine wpAny_bind (wpAny_bind (wpAny_field hit rfl (x := .int ((1 : Nat) : Int) 0) (by simp [flds]) ?_))
    refine wpAny_pure ?_
    rw [Int.toNat_natCast, t1, t2]
    dsimp only
    split
    · rename_i h0
      exact absurd h0 (by decide)
    · split
      · rename_i a1 b1 he
        have q : some (a1, b1) = none := he.symm.trans hx
        cases q
      · refine wpAny_bind (wpAny_setField hit rfl (by simp [flds]) ?_)
        unfold Builtin.Itertools.itStop
        refine wpAny_bind ?_
        simp only [newExc, newTuple]
        refine wpAny_bind (wpAny_newObj_type ?_ (by size_fits))
        refine wpAny_bind (m := firstArgMember _ _) (wpAny_of_eq (a := Value.none) (by first | rfl | (simp only [firstArgMember]; rfl)) ?_)
        refine wpAny_newObj_type ?_ (by size_fits)
        simp only [raiseNew]
        refine wpAny_bind (wpAny_handled ?_)
        first | rw [show A.in1.handled = none from hh] | rw [hh]
        refine wpAny_bind (wpAny_pure (wpAny_throw ?_))
        refine wpAny_bind (wpAny_isInstance (T := "StopIteration") (b := true) ⟨_, Heap.get?_push_size _ rfl, rfl⟩ isSubtype_stop ?_)
        refine wpAny_pure (hQ _ ?_)
        have base : Heap.ExtBut it s.heap (s.heap.update it (Obj.mapFields fun x => x.setIfInBounds 1 (rawInt 2))) := fun c o hc q => by
          rw [Heap.get?_update_other _ _ (Ne.symm hc)]
          exact q
        exact (base.push _).push _
    · rename_i h0
      exact absurd rfl h0
  · intro n hn
    unfold TabOk
    match n, hn with
    | 0, _ => kernel_rfl
    | 1, _ => kernel_rfl
    | 2, _ => kernel_rfl
    | 3, _ => kernel_rfl
    | 4, _ => kernel_rfl
    | 5, _ => kernel_rfl
end Pm
end
section
set_option maxRecDepth 100000
set_option maxHeartbeats 2000000
namespace LS
open PySem PySem.Spec L2 Pm
theorem nthO_len : ∀ (m : Nat) (l : List Nat) (k : Nat), (nthO m l k).length = m
  | 0, _, _ => rfl
  | m + 1, l, k => by simp [nthO, nthO_len m]
theorem plc_len (n k : Nat) : (plc n k).length = n := nthO_len n _ k
theorem cyc_len (n k : Nat) : (cyc n k).length = n := by simp [cyc]
theorem plc0 : ∀ n ≤ 5, plc n 0 = List.range n ∧ cyc n 0 = (List.range n).map fun i => n - i := by decide +kernel
/-- the orders of some things, in order -/
def ItP (n : Nat) (xs : List V) : It := ⟨fun i _ => i < fac n, fun i H v H' => ∃ T, v = .ref T ∧ H T = none ∧ H' = upd H T (.tup (pick .non xs (plc n i))), fun i _ => fac n ≤ i⟩
def tnP (it tp : Addr) (items : Array Value) (i : Nat) (h : Heap) : Prop := (∃ m, h.get? tp = some { cls := .type "tuple", data := .seq items m }) ∧ ∃ (fl : Nat) (last : Value) (a b : List Nat), IsPm h it tp fl items.size last a b ∧ ((i = 0 ∧ fl = 0 ∧ a = plc items.size 0 ∧ b = cyc items.size 0) ∨ ∃ j, i = j + 1 ∧ j < fac items.size ∧ fl = 1 ∧ a = plc items.size j ∧ b = cyc items.size j)
theorem vals_pick {xs : List V} {items : Array Value} (rv : Vals xs items.toList) (ix : List Nat) : Vals (pick .non xs ix) (ix.map fun i => items.getD i .none) := by
  have := pick_vals rv ix
  have e : pick Value.none items.toList ix = ix.map fun i => items.getD i .none := by
    unfold pick
    refine List.map_congr_left fun i _ => ?_
    rw [List.getD_eq_getElem?_getD]
    simp
  rw [e] at this
  exact this
theorem turn_pm {P : Program} {w : World} {K : PySem.W.Frag} {tg : Expr} {it tp : Addr} {items : Array Value} {xs : List V} (ht : tp ≠ it) (rv : Vals xs items.toList) (hn : items.size ≤ 5) : Turn P w K tg (ItP items.size xs) [it, tp] it (tnP it tp items) := by
  obtain ⟨nx, NEXT, END, TAB⟩ := next_pm
  have tab : ∀ k, k < fac items.size → nx items.size items.size (plc items.size k) (cyc items.size k) = if k + 1 < fac items.size then some (plc items.size (k + 1), cyc items.size (k + 1)) else none := fun k hk => List.map_inj_left.mp (TAB items.size hn) k (List.mem_range.mpr hk)
  have hn8 : items.size ≤ 8 := by omega
  have fin : ∀ (X : Cx), X.prog = P → X.w = w → X.K = K → ∀ (i : Nat) (pins : List (Addr × Obj)) (s : Shared) (σ : L2.St) (H : Hp) (E : Value → Shared → Prop), Inv X pins σ H s → (∀ b ∈ [it, tp], FpOk X pins H b) → tnP it tp items i s.heap → i < fac items.size →
      ∀ h', IsPm h' it tp 1 items.size (.ref s.heap.objs.size) (plc items.size i) (cyc items.size i) → h'.get? s.heap.objs.size = some { cls := .type "tuple", data := .seq ((plc items.size i).map fun i => items.getD i .none).toArray } → (∀ c o, c ≠ it → s.heap.get? c = some o → h'.get? c = some o) →
      ∃ u, some (Value.ref s.heap.objs.size) = some u ∧ wpAny (model P w) X.A (letOwnedTupleGo tg (.ref it) u) (fun _ s2 => ∃ x H', Inv X pins σ H' s2 ∧ RelV x u ∧ (ItP items.size xs).yld i H x H' ∧ tnP it tp items (i + 1) s2.heap ∧ ∀ b ∈ [it, tp], H' b = none) E { s with heap := h' } := by
    intro X hP hw hK i pins s σ H E I hf st hi h' q1 q2 q3
    subst hP hw hK
    obtain ⟨⟨m, hp⟩, fl, last, a, b, hit, _⟩ := st
    have lti : it < s.heap.objs.size := Heap.lt_size (h := s.heap) (a := it) hit
    have ltt : tp < s.heap.objs.size := Heap.lt_size hp
    have vp := vals_pick rv (plc items.size i)
    have nw : ObjOk X.prog X.w (upd H s.heap.objs.size (.tup (pick .non xs (plc items.size i)))) h' s.heap.objs.size (.tup (pick .non xs (plc items.size i))) :=
      ⟨by rw [sizeLine_eq]; simp [pick, plc_len]; omega, _, vp, ⟨_, q2, rfl, _, rfl⟩⟩
    have I1 := I.turnedNew (t' := s.toks) (h' := h') (ch := [it, tp]) (fun b o hb z => q3 b o (fun y => hb (by simp [y])) z) hf (Nat.le_refl _) nw
    refine ⟨_, rfl, go_of (s := { s with heap := h' }) (n := "itertools.permutations") q1 rfl rfl (by decide) ⟨_, _, I1, (show RelV (.ref s.heap.objs.size) (.ref s.heap.objs.size) from rfl), ⟨_, rfl, I.hok.fresh (Nat.le_refl _), rfl⟩, ⟨⟨m, q3 tp _ ht hp⟩, 1, _, _, _, q1, .inr ⟨i, rfl, hi, rfl, rfl, rfl⟩⟩, fun b hb => ?_⟩⟩
    have : b < s.heap.objs.size := by
      rcases List.mem_cons.mp hb with rfl | hb
      · exact lti
      · cases List.mem_singleton.mp hb; exact ltt
    rw [upd_ne (Nat.ne_of_lt this)]
    exact (hf b hb).1
  refine ⟨by simp, ?_, ?_, ?_, ?_, ?_⟩
  · rintro i h ⟨⟨m, hp⟩, fl, last, a, b, hit, _⟩ c hc
    rcases List.mem_cons.mp hc with rfl | hc
    · exact ⟨_, hit, fun v z => nomatch z⟩
    · cases List.mem_singleton.mp hc; exact ⟨_, hp, fun v z => nomatch z⟩
  · rintro i h h' ⟨⟨m, hp⟩, fl, last, a, b, hit, z⟩ k
    exact ⟨⟨m, k tp (by simp) _ hp⟩, fl, last, a, b, k it (by simp) _ hit, z⟩
  · intro X hP hw hK hc i pins s σ H E I hf st hg
    have st0 := st
    obtain ⟨⟨m, hp⟩, fl, last, a, b, hit, z⟩ := st
    unfold pyNext
    rcases z with ⟨rfl, rfl, rfl, rfl⟩ | ⟨j, rfl, hjf, rfl, rfl, rfl⟩
    · refine wpAny_bind (wpAny_attempt (first_pm hit hp (plc_len _ _) hn8 fun h' q1 q2 q3 => ?_))
      exact wpAny_pure (fin X hP hw hK 0 pins s σ H E I hf st0 hg h' q1 q2 q3)
    · have hj : j + 1 < fac items.size := hg
      have t := tab j (by omega)
      rw [if_pos hj] at t
      refine wpAny_bind (wpAny_attempt (NEXT P w X.A _ s it tp items m last _ _ _ _ _ hit hp (plc_len _ _) (plc_len _ _) (cyc_len _ _) hn8 t fun h' q1 q2 q3 => ?_))
      exact wpAny_pure (fin X hP hw hK (j + 1) pins s σ H E I hf st0 hg h' q1 q2 q3)
  · intro X hP hw hK hc i pins s σ H E I hf st hg
    subst hP hw hK
    obtain ⟨⟨m, hp⟩, fl, last, a, b, hit, z⟩ := st
    have fp : 0 < fac items.size := by
      have : ∀ n, 0 < fac n := fun n => by
        induction n with
        | zero => decide
        | succ n ih => exact Nat.mul_pos (Nat.succ_pos n) ih
      exact this _
    have hg' : fac items.size ≤ i := hg
    rcases z with ⟨rfl, rfl, rfl, rfl⟩ | ⟨j, rfl, hjf, rfl, rfl, rfl⟩
    · omega
    · have t := tab j hjf
      rw [if_neg (by omega)] at t
      obtain ⟨f0, f1, f2, f3, f4, f5⟩ := hf it (by simp)
      exact END X.prog X.w X.A _ s it tp items m last _ _ _ (I.ok.hd hc) hit hp (plc_len _ _) t fun h' eb => ⟨rfl, I.turned (t' := s.toks) (fun b o hb z => eb b o hb z) f0 f1 f3 f4 f5⟩
  · rintro A i s Q E ⟨⟨m, hp⟩, fl, last, a, b, hit, z⟩ h
    exact iter_pm hit h
/-! ## for .. in permutations(xs) -/
def iPerm (K : PySem.W.Frag) (ta : TA) : TI := fun σ H R => ta σ H fun vs H1 => ∃ (l : Addr) (xs : List V), vs = [.ref l] ∧ SqL K H1 l xs ∧ xs.length ≤ 5 ∧ R (ItP xs.length xs) H1
theorem pi_perm {X : Cx} {tg e : Expr} {ta : TA} {p pos : Pos} (hg : Gl X "permutations") (hm : X.mg "permutations" = some (.type "itertools.permutations")) (ha : PA X [e] ta)
    (hs : starEach [e] X.env = (false, eval e X.env) :: starEach [] X.env) (hpl : (backTo pos (starEach [] X.env)).any (·.1) = false) : PI X tg (.Call (.Name "permutations" p) [e] [] pos) (iPerm X.K ta) := by
  refine ⟨fun pins s σ H R I h => ?_⟩
  refine PyProof.Rows.Call_ (ld_glob I hg hm (PyProof.Rows.callWith_type1 (thn (ha.run pos pins s σ H _ I h) fun us s1 q0 => ?_) hs hpl) (by decide))
  obtain ⟨vs, H1, I1, r1, l, xs, ex, hq, hn, q⟩ := q0
  subst ex
  cases r1 with
  | cons r rr =>
    cases rr
    cases r
    obtain ⟨its, rv, pl, hz⟩ := I1.list hq
    have hsz : its.toArray.size = xs.length := by rw [List.size_toArray]; exact rv.length.symm
    have rv' : Vals xs its.toArray.toList := by simpa using rv
    have h5 : its.toArray.size ≤ 5 := by omega
    refine call_pm (items := its.toArray) (by omega) pl.isList fun h' hk => ?_
    have I2 : Inv X pins σ H1 { s1 with heap := h' } := I1.kept (t' := s1.toks) hk
    have I3 : Inv X pins σ H1 { s1 with heap := pmHeap h' its.toArray } := I1.kept (t' := s1.toks) fun b o q => pmHeap_keep h' _ (hk b o q)
    have fp : ∀ b ∈ [h'.objs.size + 1, h'.objs.size], FpOk X pins H1 b := fun b hb => by
      have hle : h'.objs.size ≤ b := by
        rcases List.mem_cons.mp hb with rfl | hb
        · omega
        · cases List.mem_singleton.mp hb; omega
      exact I2.fpOk hle (I2.hok.fresh hle)
    have p0 := plc0 its.toArray.size h5
    have t0 : tnP (h'.objs.size + 1) h'.objs.size its.toArray 0 (pmHeap h' its.toArray) := ⟨⟨_, pmHeap_tp h' _⟩, 0, .none, _, _, pmHeap_it h' _, .inl ⟨rfl, rfl, p0.1.symm, p0.2.symm⟩⟩
    refine iter_pm (pmHeap_it h' its.toArray) ⟨_, _, _, _, H1, rfl, I3, turn_pm (Nat.ne_of_lt (Nat.lt_succ_self _)) rv' h5, t0, fp, ?_⟩
    rw [hsz]
    exact q
section
variable {g : Gb} {F : Fam g} {pos : Pos}
def permD (xs : List D) : List D := (List.range (fac xs.length)).map fun k => .tup (pick .non xs (plc xs.length k))
theorem yl_perm {G0 H0 : Hp} {as0 : List Addr} {vs : List V} {xs : List D} (r : RpA g.K g.mg G0 as0 vs xs) : Yl g G0 H0 as0 none (permD xs) (ItP vs.length vs) where
  go := fun i G H as st hi R hs hp hl _ => by
    have : i < fac xs.length := by simpa [permD] using hi
    show i < fac vs.length
    rw [r.len]; exact this
  stop := fun G H as st R hs hp hl _ => by show fac vs.length ≤ (permD xs).length; rw [r.len]; simp [permD]
  yld := fun i G H as st v H' x R hs hp hl _ hx y => by
    obtain ⟨T, rfl, hT, rfl⟩ := y
    unfold permD at hx
    rw [List.getElem?_map] at hx
    obtain ⟨j, hj, rfl⟩ := Option.map_eq_some_iff.mp hx
    obtain ⟨hj1, hj2⟩ := List.getElem?_eq_some_iff.mp hj
    have ej : j = i := by rw [← hj2]; simp
    subst ej
    obtain ⟨R', X'⟩ := R.still (o := .tup (pick .non vs (plc vs.length j))) hT
    rw [← r.len]
    exact ⟨_, R', X', .tup (.of upd_same) ((pick_rp (r.mono hs hp) _).ext X')⟩
def xperm (m : XM D) : XM (List D × Option Nat) := xbind m fun x => fun _ st => match listOf st x with
  | some xs => if xs.length ≤ 5 then .ok (permD xs, none) st else .stuck
  | none => .stuck
theorem ji_perm {tg e : Expr} {m : XM D} {p : Pos} (hg : F.sc.names.lookup ("permutations" : Str) = some .globalImplicit) (hm : g.mg "permutations" = some (.type "itertools.permutations")) (h : JE F e m)
    (hs : ∀ env, starEach [e] env = (false, eval e env) :: starEach [] env := by intro _; rfl) (hpl : ∀ env, (backTo pos (starEach [] env)).any (·.1) = false := by intro _; rfl) :
    JI F tg (.Call (.Name "permutations" p) [e] [] pos) (xperm m) := by
  obtain ⟨t, p', s⟩ := h
  refine ⟨fun W => iPerm g.K (tCons (t W) tNil), fun W X mm => by
    have := pi_perm (tg := tg) (p := p) (pos := pos) (X := X) (by show X.env.scope.names.lookup _ = _; rw [F.hsc mm]; exact hg) (by rw [F.hmg mm]; exact hm) (pa_cons (p' W X mm) pa_nil (hs _)) (hs _) (hpl _)
    rw [F.hK mm] at this; exact this, ?_⟩
  intro W G H as st σ e R' R N h
  refine s W G H as st σ e _ R N ?_
  unfold xperm xbind at h
  cases q : m e st with
  | stuck => rw [q] at h; exact h
  | exc c p st1 => rw [q] at h; exact h
  | ok x st1 =>
    simp only [q] at h
    intro v G1 H1 as1 R1 X1 rv
    cases q2 : listOf st1 x with
    | none => simp only [q2] at h; exact h.elim
    | some xs =>
      simp only [q2] at h
      by_cases hl : xs.length ≤ 5
      · rw [if_pos hl] at h
        obtain ⟨a, vs, rfl, s1, r1⟩ := listOf_ok R1 rv q2
        exact ⟨a, vs, rfl, s1, by rw [r1.len]; exact hl, h.2 _ G1 H1 as1 R1 X1 (yl_perm r1)⟩
      · rw [if_neg hl] at h; exact h.elim
end
end LS
end
section
set_option maxRecDepth 100000
set_option maxHeartbeats 2000000
namespace LS
open PySem PySem.Spec L2

/-! ## zip of any number of lists and tuples, of one length -/
/-- what is drawn from: a list, or a tuple, and its items -/
structure Sr where
  isL : Bool
  l : Nat
  its : List Value
def SrAt (r : Sr) (it : Nat) (i : Nat) (h : Heap) : Prop := if r.isL = true then h.IsListIter it r.l i ∧ h.IsList r.l r.its.toArray else h.IsTupleIter it r.l i ∧ h.IsTuple r.l r.its.toArray
theorem SrAt.frame {r : Sr} {it : Nat} {i : Nat} {h h' : Heap} (st : SrAt r it i h) (k1 : ∀ o, h.get? it = some o → h'.get? it = some o) (k2 : ∀ o, h.get? r.l = some o → h'.get? r.l = some o) : SrAt r it i h' := by
  obtain ⟨b, l, its⟩ := r
  cases b with
  | true => exact ⟨st.1.at k1, st.2.at k2⟩
  | false => exact ⟨st.1.at k1, st.2.at k2⟩
theorem SrAt.live {r : Sr} {it : Nat} {i : Nat} {h : Heap} (st : SrAt r it i h) : it < h.objs.size := by
  obtain ⟨b, l, its⟩ := r
  cases b with
  | true => obtain ⟨⟨o, e, _⟩, _⟩ := st; exact Heap.lt_size e
  | false => obtain ⟨⟨o, e, _⟩, _⟩ := st; exact Heap.lt_size e
theorem SrAt.obj {r : Sr} {it : Nat} {i : Nat} {h : Heap} (st : SrAt r it i h) : ∃ o, h.get? it = some o := by
  obtain ⟨b, l, its⟩ := r
  cases b with
  | true => obtain ⟨⟨o, e, _⟩, _⟩ := st; exact ⟨o, e⟩
  | false => obtain ⟨⟨o, e, _⟩, _⟩ := st; exact ⟨o, e⟩
section
variable {prog : Program} {w : World} {A : Around} {E : Value → Shared → Prop} {s : Shared}
theorem sr_item {r : Sr} {it : Nat} {i : Nat} {Q : Value → Shared → Prop} (hh : A.handled = none) (hne : r.l ≠ it) (hi : i < r.its.length) (st : SrAt r it i s.heap)
    (hQ : ∀ h' tk, SrAt r it (i + 1) h' → Heap.SameBut it s.heap h' → Q (r.its.getD i .none) { s with heap := h', toks := tk }) : wpAny (model prog w) A (Builtin.SmallTypes.nextOf (.ref it)) Q E s := by
  obtain ⟨b, l, its⟩ := r
  have ev : ∀ v, its.toArray[i]? = some v → v = its.getD i .none := fun v h => by
    rw [List.getElem?_toArray] at h
    rw [List.getD_eq_getElem?_getD, h]; rfl
  have fin : ∀ v h' tk, its.toArray[i]? = some v → SrAt ⟨b, l, its⟩ it (i + 1) h' → Heap.SameBut it s.heap h' → Q v { s with heap := h', toks := tk } := fun v h' tk p st' sb => by
    rw [ev v p]
    exact hQ h' tk st' sb
  cases b with
  | true => exact (Draws.list (prog := prog) (w := w) hh it l hne its.toArray).item i s Q E (by simpa using hi) st fun v h' tk p st' sb => fin v h' tk p st' sb
  | false => exact (Draws.tuple (prog := prog) (w := w) hh it l hne its.toArray).item i s Q E (by simpa using hi) st fun v h' tk p st' sb => fin v h' tk p st' sb
theorem sr_end {r : Sr} {it : Nat} {Q : Value → Shared → Prop} (hh : A.handled = none) (hne : r.l ≠ it) (st : SrAt r it r.its.length s.heap)
    (hE : ∀ h' e, Heap.ExtBut it s.heap h' → (∃ o, h'.get? e = some o ∧ o.cls = .type "StopIteration") → E (.ref e) { s with heap := h' }) : wpAny (model prog w) A (Builtin.SmallTypes.nextOf (.ref it)) Q E s := by
  obtain ⟨b, l, its⟩ := r
  cases b with
  | true => exact (Draws.list (prog := prog) (w := w) hh it l hne its.toArray).done s Q E (by simpa [SrAt] using st) hE
  | false => exact (Draws.tuple (prog := prog) (w := w) hh it l hne its.toArray).done s Q E (by simpa [SrAt] using st) hE
end
/-- a tuple as it is made -/
abbrev IsTupN (h : Heap) (T : Addr) (vs : List Value) : Prop := h.get? T = some { cls := .type "tuple", data := .seq vs.toArray }
theorem ane {x y : Nat} (h : ¬ x = y) : @Ne Addr x y := h
def itsN (n : Nat) (b : Nat) : List Value := (List.range n).map fun j => Value.ref (b + j)
/-- amid a turn: the iterators ahead of ki are drawn from, the zip's own tuple is filled up to kt -/
structure ZM (src : List Sr) (b : Nat) (i kt ki : Nat) (own : Value) (f : Bool) (h0 h : Heap) : Prop where
  z : h.get? (b + src.length + 2) = some (ZRec own f (b + src.length) (b + src.length + 1))
  ti : IsTupN h (b + src.length) (itsN src.length b)
  to : ∃ os : List Value, os.length = src.length ∧ (∀ j r, j < kt → src[j]? = some r → os[j]? = some (r.its.getD i .none)) ∧ IsTupN h (b + src.length + 1) os
  it : ∀ j r, src[j]? = some r → SrAt r (b + j) (if j < ki then i + 1 else i) h
  sz : h.objs.size = h0.objs.size
  keep : ∀ (c : Nat) o, (c < b ∨ b + src.length + 3 ≤ c) → h0.get? c = some o → h.get? c = some o
/-- ahead of turn i -/
structure ZN (src : List Sr) (b : Nat) (i : Nat) (h : Heap) : Prop where
  ex : ∃ own f, (own = .none ∨ ∃ T : Nat, own = rawInt T) ∧ ZM src b i 0 0 own f h h
section
variable {src : List Sr} {b : Nat} {i kt ki : Nat} {own : Value} {f : Bool} {h0 h h' : Heap}
theorem ix_lt {α : Type} {l : List α} {j : Nat} {x : α} (h : l[j]? = some x) : j < l.length := (List.getElem?_eq_some_iff.mp h).1
theorem ZM.draw (hb : ∀ r ∈ src, r.l < b) (M : ZM src b i kt ki own f h0 h) {r : Sr} (hr : src[ki]? = some r) (sb : Heap.SameBut (b + ki) h h') (st : SrAt r (b + ki) (i + 1) h') : ZM src b i kt (ki + 1) own f h0 h' := by
  have hk := ix_lt hr
  obtain ⟨os, lo, eo, to⟩ := M.to
  refine ⟨sb.extBut _ _ (ane (by omega)) M.z, sb.extBut _ _ (ane (by omega)) M.ti, ⟨os, lo, eo, sb.extBut _ _ (ane (by omega)) to⟩, fun j r' hj => ?_, sb.1.trans M.sz, fun c o hc e => sb.extBut _ _ (ane (by omega)) (M.keep c o hc e)⟩
  have hjl := ix_lt hj
  by_cases e : j = ki
  · subst e
    rw [hr] at hj; cases hj
    rw [if_pos (Nat.lt_succ_self _)]; exact st
  · have hlb := hb r' (List.mem_of_getElem? hj)
    have := (M.it j r' hj).frame (h' := h') (fun o q => sb.extBut _ _ (ane (by omega)) q) (fun o q => sb.extBut _ _ (ane (by omega)) q)
    by_cases l : j < ki
    · rw [if_pos (by omega)]; rw [if_pos l] at this; exact this
    · rw [if_neg (by omega)]; rw [if_neg l] at this; exact this
theorem ZM.wz (hb : ∀ r ∈ src, r.l < b) (M : ZM src b i kt ki own f h0 h) {own' : Value} {f' : Bool} (hz : h'.get? (b + src.length + 2) = some (ZRec own' f' (b + src.length) (b + src.length + 1))) (sb : Heap.SameBut (b + src.length + 2) h h') : ZM src b i kt ki own' f' h0 h' := by
  obtain ⟨os, lo, eo, to⟩ := M.to
  refine ⟨hz, sb.extBut _ _ (ane (by omega)) M.ti, ⟨os, lo, eo, sb.extBut _ _ (ane (by omega)) to⟩, fun j r' hj => ?_, sb.1.trans M.sz, fun c o hc e => sb.extBut _ _ (ane (by omega)) (M.keep c o hc e)⟩
  have hjl := ix_lt hj
  have hlb := hb r' (List.mem_of_getElem? hj)
  exact (M.it j r' hj).frame (h' := h') (fun o q => sb.extBut _ _ (ane (by omega)) q) (fun o q => sb.extBut _ _ (ane (by omega)) q)
theorem ZM.wt (hb : ∀ r ∈ src, r.l < b) (M : ZM src b i kt ki own f h0 h) {r : Sr} (hr : src[kt]? = some r) {os : List Value} (lo : os.length = src.length) (eo : ∀ j r, j < kt → src[j]? = some r → os[j]? = some (r.its.getD i .none))
    (to : IsTupN h' (b + src.length + 1) (os.set kt (r.its.getD i .none))) (sb : Heap.SameBut (b + src.length + 1) h h') : ZM src b i (kt + 1) ki own f h0 h' := by
  have hk := ix_lt hr
  refine ⟨sb.extBut _ _ (ane (by omega)) M.z, sb.extBut _ _ (ane (by omega)) M.ti, ⟨os.set kt (r.its.getD i .none), by rw [List.length_set]; exact lo, fun j r' hj h2 => ?_, to⟩, fun j r' hj => ?_, sb.1.trans M.sz, fun c o hc e => sb.extBut _ _ (ane (by omega)) (M.keep c o hc e)⟩
  · by_cases e : kt = j
    · subst e
      rw [hr] at h2; cases h2
      rw [List.getElem?_set_self (by omega)]
    · rw [List.getElem?_set_ne e]; exact eo j r' (by omega) h2
  · have hjl := ix_lt hj
    have hlb := hb r' (List.mem_of_getElem? hj)
    exact (M.it j r' hj).frame (h' := h') (fun o q => sb.extBut _ _ (ane (by omega)) q) (fun o q => sb.extBut _ _ (ane (by omega)) q)
/-- the next turn, behind a new object -/
theorem ZM.next (hb : ∀ r ∈ src, r.l < b) (M : ZM src b i kt src.length own f h0 h) (ho : own = .none ∨ ∃ T : Nat, own = rawInt T) (k : ∀ c o, h.get? c = some o → h'.get? c = some o) : ZN src b (i + 1) h' := by
  obtain ⟨os, lo, eo, to⟩ := M.to
  refine ⟨own, f, ho, k _ _ M.z, k _ _ M.ti, ⟨os, lo, fun j r hj => absurd hj (by omega), k _ _ to⟩, fun j r' hj => ?_, rfl, fun _ _ _ e => e⟩
  have hjl := ix_lt hj
  have := (M.it j r' hj).frame (h' := h') (fun o q => k _ _ q) (fun o q => k _ _ q)
  rw [if_pos hjl] at this
  rw [if_neg (by omega)]; exact this
theorem ZN.keep (hb : ∀ r ∈ src, r.l < b) {q : Nat} (hq : b + src.length + 3 ≤ q) (M : ZN src b i h) (k : ∀ (c : Nat) o, c ≠ q → h.get? c = some o → h'.get? c = some o) : ZN src b i h' := by
  obtain ⟨own, f, ho, M⟩ := M.ex
  obtain ⟨os, lo, eo, to⟩ := M.to
  refine ⟨own, f, ho, k _ _ (by omega) M.z, k _ _ (by omega) M.ti, ⟨os, lo, eo, k _ _ (by omega) to⟩, fun j r' hj => ?_, rfl, fun _ _ _ e => e⟩
  have hjl := ix_lt hj
  have hlb := hb r' (List.mem_of_getElem? hj)
  exact (M.it j r' hj).frame (h' := h') (fun o q => k _ _ (by omega) q) (fun o q => k _ _ (by omega) q)
end
/-! ### loops of the library -/
section
variable {M : Model} {A : Around} {E : Value → Shared → Prop}
theorem forIn_st {α β : Type} {fb : α → β → Sem (ForInStep β)} (J : Nat → Shared → Prop) (g : Nat → β) {Q : β → Shared → Prop} : ∀ (l : List α) (k : Nat) (s : Shared), J k s → (∀ j a s, l[j]? = some a → J (k + j) s → wpAny M A (fb a (g (k + j))) (fun r s' => r = .yield (g (k + j + 1)) ∧ J (k + j + 1) s') E s) →
    (∀ s, J (k + l.length) s → Q (g (k + l.length)) s) → wpAny M A (forIn l (g k) fb) Q E s
  | [], k, s, h, _, fin => by
    rw [List.forIn_nil]
    exact wpAny_pure (fin s h)
  | a :: l, k, s, h, step, fin => by
    rw [List.forIn_cons]
    refine wpAny_bind (wpAny_mono (step 0 a s rfl h) (fun r s' hr => ?_) fun _ _ e => e)
    obtain ⟨rfl, h'⟩ := hr
    refine forIn_st J g l (k + 1) s' h' (fun j x s hj hJ => ?_) fun s hJ => ?_
    · have := step (j + 1) x s (by simpa using hj) (by rw [show k + (j + 1) = k + 1 + j by omega]; exact hJ)
      rw [show k + (j + 1) = k + 1 + j by omega] at this
      exact this
    · have := fin s (by rw [List.length_cons, show k + (l.length + 1) = k + 1 + l.length by omega]; exact hJ)
      rw [List.length_cons, show k + (l.length + 1) = k + 1 + l.length by omega] at this
      exact this
end
end LS
end
section
set_option maxRecDepth 100000
set_option maxHeartbeats 2000000
namespace LS
open PySem PySem.Spec L2

/-! ## list(x): a new moving list -/
section
variable {g : Gb} {F : Fam g} {pos : Pos}
def listMD (x : D) : XM D := fun _ st => match seqOf st x with
  | some xs => .ok (.ref st.length) (st ++ [.lst xs])
  | none => .stuck
theorem cs_listM : CallS F (.type "list") (f1 listMD) := by
  refine cs_1 (r := fun xs H Q => ∃ p ys, xs = [.ref p] ∧ (SqL g.K H p ys ∨ SqT g.K H p ys) ∧ ∀ l, H l = none → Q (.ref l) (upd H l (.lst ys))) (fun W X m => by have := call_list_of (X := X); rw [F.hK m] at this; exact this) ?_
  intro W G H as st σ e x v Q R rx h
  obtain ⟨xs, a, vs, rfl, s, r, h'⟩ := seq_px (f := fun xs => .ok (.ref st.length) (st ++ [.lst xs])) R rx h
  refine ⟨a, vs, rfl, s, fun p hp => ?_⟩
  obtain ⟨R', x'⟩ := R.moving (o := .lst vs) (m := .lst xs) hp (.lst r)
  refine h' _ _ _ _ R' x' (.ref ?_)
  rw [← R.len, List.getElem?_append_right (Nat.le_refl _), Nat.sub_self]; rfl
end

/-! ## len(set(xs)), xs a list of tuples of ints -/
/-- how many different rows there are -/
def ndist : List (List Int) → Nat
  | [] => 0
  | x :: r => if x ∈ r then ndist r else ndist r + 1
theorem ndist_eq : ∀ {l L : List (List Int)}, L.Nodup → (∀ x, x ∈ L ↔ x ∈ l) → L.length = ndist l
  | [], L, _, h => by
    cases L with
    | nil => rfl
    | cons x r => exact absurd ((h x).mp (by simp)) (by simp)
  | x :: r, L, nd, h => by
    unfold ndist
    by_cases hx : x ∈ r
    · rw [if_pos hx]
      refine ndist_eq nd fun y => (h y).trans ?_
      constructor
      · intro hy
        rcases List.mem_cons.mp hy with e | e
        · rw [e]; exact hx
        · exact e
      · intro hy; exact List.mem_cons_of_mem _ hy
    · rw [if_neg hx]
      have hm : x ∈ L := (h x).mpr (by simp)
      have ih := ndist_eq (l := r) (L := L.erase x) (nd.erase x) fun y => by
        rw [nd.mem_erase_iff]
        constructor
        · rintro ⟨ne, hy⟩
          rcases List.mem_cons.mp ((h y).mp hy) with e | e
          · exact absurd e ne
          · exact e
        · intro hy
          exact ⟨fun e => hx (e ▸ hy), (h y).mpr (List.mem_cons_of_mem _ hy)⟩
      rw [List.length_erase_of_mem hm] at ih
      have := List.length_pos_of_mem hm
      omega
def tLenSetT (K : PySem.W.Frag) (ta : TE) : TE := fun σ H Q => ta σ H fun x H1 => ∃ (l : Addr) (ks : List (Addr × List Int)), x = V.ref l ∧ SqL K H1 l (ks.map fun p => V.ref p.1) ∧ (∀ p ∈ ks, SqT K H1 p.1 (p.2.map V.int)) ∧ ks.length < 64 ∧ Q (.int (ndist (ks.map (·.2)))) H1
theorem pe_lenSetT {X : Cx} {a : Expr} {ta : TE} {p p2 q pos : Pos} (hc : X.calm = true) (hu : X.A.units + 64 < cLine) (hg : Gl X "len") (hm : X.mg "len" = none) (hg2 : Gl X "set") (hm2 : X.mg "set" = none) (ha : PE X a ta)
    (na : starEach [a] X.env = (false, eval a X.env) :: starEach [] X.env := by rfl) : PE X (.Call (.Name "len" p) [.Call (.Name "set" p2) [a] [] q] [] pos) (tLenSetT X.K ta) := by
  refine ⟨fun pins s σ H Q I h => ?_⟩
  refine PyProof.Rows.Call_ (ld_blt I hg hm PySem.boot_len ?_)
  refine PyProof.Rows.callWith_builtin1 (PyProof.Rows.args_cons ?_ rfl) rfl rfl
  refine PyProof.Rows.Call_ (ld_blt I hg2 hm2 PyProof.Rows.boot_set ?_)
  refine PyProof.Rows.callWith_type1 (PyProof.Rows.args_cons (thn (ha.run pins s σ H _ I h) fun v s1 ⟨x, H1, I1, r1, q1⟩ => PyProof.Rows.args_nil ?_) na) na rfl
  obtain ⟨l, ks, rfl, hl, hk, hf, q1⟩ := q1
  cases r1
  obtain ⟨its, rv, pl, hz⟩ := I1.list hl
  refine call_set_tups (P := X.prog) (w := X.w) ks (I1.ok.hd hc) pl.isList (by simpa using refs_of_vals rv) (fun p hp => I1.isT (hk p hp)) hf (by omega) fun h' tk L es ep t R gt k => ?_
  refine PyProof.Rows.args_nil ?_
  have I2 : Inv X pins σ H1 { s1 with heap := h', toks := tk } := I1.kept k
  obtain ⟨o, ho, hex, hd⟩ := R.ob
  have esz : es.size = L.length := R.size (s := { s1 with heap := h', toks := tk })
  have fit : t.fits es.size = true := R.fits (s := { s1 with heap := h', toks := tk })
  have eL : L.length = ndist (ks.map (·.2)) := by
    have := ndist_eq (l := ks.map (·.2)) R.nd fun y => by
      constructor
      · intro hy
        obtain ⟨p, hp, e⟩ := List.mem_map.mp hy
        exact List.mem_map.mpr ⟨p, List.mem_of_mem_take (gt.sub p hp), e⟩
      · intro hy
        obtain ⟨p, hp, e⟩ := List.mem_map.mp hy
        rw [← e]
        exact gt.all p (by rw [List.take_length]; exact hp)
    rw [← this, List.length_map]
  have few := R.few
  refine call_len_set (s := { s1 with heap := h', toks := tk }) ho hex hd fit (by rw [esz]; omega) ⟨.int (ndist (ks.map (·.2))), H1, I2.tok _, ⟨_, by rw [esz, eL]⟩, q1⟩
def ptsOf : List D → Option (List (List Int))
  | [] => some []
  | .tup xs :: r => (match intsOf xs, ptsOf r with
    | some ns, some rs => some (ns :: rs)
    | _, _ => none)
  | _ => none
theorem ptsOf_ok {K : PySem.W.Frag} {mg : Str → Option Value} {G : Hp} {as : List Addr} : ∀ {ds : List D} {vs : List V} {rs : List (List Int)}, RpA K mg G as vs ds → ptsOf ds = some rs → ∃ ks : List (Addr × List Int), vs = (ks.map fun p => V.ref p.1) ∧ ks.map (·.2) = rs ∧ ∀ p ∈ ks, SqT K G p.1 (p.2.map V.int)
  | [], _, _, r, h => by cases r; cases h; exact ⟨[], rfl, rfl, fun _ z => nomatch z⟩
  | d :: ds, _, rs, r, h => by
    cases r with
    | cons a b =>
      cases d with
      | tup xs =>
        unfold ptsOf at h
        split at h
        · rename_i ns qs e1 e2
          cases h
          obtain ⟨ks, rfl, e3, e4⟩ := ptsOf_ok b e2
          cases a with
          | tup s r =>
            rename_i p us
            cases intsOf_eq e1
            cases RpA.ints _ r
            refine ⟨(p, ns) :: ks, rfl, by rw [← e3]; rfl, fun q hq => ?_⟩
            rcases List.mem_cons.mp hq with e | e
            · rw [e]; exact s
            · exact e4 q e
        · cases h
      | _ => cases h
section
variable {g : Gb} {F : Fam g} {pos : Pos}
def xlenSet (m : XM D) : XM D := xbind m fun x => fun _ st => match listOf st x with
  | some xs => (match ptsOf xs with
    | some rs => if rs.length < 64 then .ok (.int (ndist rs)) st else .stuck
    | none => .stuck)
  | none => .stuck
theorem je_lenSet {a : Expr} {m : XM D} {p p2 q : Pos} (hg : F.sc.names.lookup ("len" : Str) = some .globalImplicit) (hm : g.mg "len" = none) (hg2 : F.sc.names.lookup ("set" : Str) = some .globalImplicit) (hm2 : g.mg "set" = none) (h : JE F a m)
    (na : ∀ env, starEach [a] env = (false, eval a env) :: starEach [] env := by intro _; rfl) : JE F (.Call (.Name "len" p) [.Call (.Name "set" p2) [a] [] q] [] pos) (xlenSet m) := by
  obtain ⟨t, p', s⟩ := h
  refine ⟨fun W => tLenSetT g.K (t W), fun W X mm => ?_, ?_⟩
  · have := pe_lenSetT (p := p) (p2 := p2) (q := q) (pos := pos) (F.calm mm) (by have := units65 (F.room mm); omega) (by show X.env.scope.names.lookup _ = _; rw [F.hsc mm]; exact hg) (by rw [F.hmg mm]; exact hm) (by show X.env.scope.names.lookup _ = _; rw [F.hsc mm]; exact hg2) (by rw [F.hmg mm]; exact hm2) (p' W X mm) (na _)
    rw [F.hK mm] at this; exact this
  · intro W G H as st σ e Q R N h
    refine s.one R N h fun x st1 v G1 H1 as1 R1 X1 N1 rv h1 => ?_
    cases q0 : listOf st1 x with
    | none => simp only [q0] at h1; exact h1.elim
    | some xs =>
      simp only [q0] at h1
      obtain ⟨a, vs, rfl, sl, r1⟩ := listOf_ok R1 rv q0
      cases q1 : ptsOf xs with
      | none => simp only [q1] at h1; exact h1.elim
      | some rs =>
        simp only [q1] at h1
        by_cases hl : rs.length < 64
        · rw [if_pos hl] at h1
          obtain ⟨ks, rfl, e2, e3⟩ := ptsOf_ok r1 q1
          refine ⟨a, ks, rfl, sl, fun q hq => sqT_H R1 (e3 q hq), by rw [← List.length_map (f := (·.2)), e2]; exact hl, ?_⟩
          rw [e2]
          exact h1.pure R1 (.int _)
        · rw [if_neg hl] at h1; exact h1.elim
end
end LS
end
section
set_option maxRecDepth 100000
set_option maxHeartbeats 2000000
namespace LS
open PySem PySem.Spec L2
/-! ## a turn of zip -/
theorem itsN_get {n j : Nat} {b : Nat} {a : Value} (h : (itsN n b)[j]? = some a) : j < n ∧ a = .ref (b + j) := by
  unfold itsN at h
  rw [List.getElem?_map] at h
  obtain ⟨k, e1, e2⟩ := Option.map_eq_some_iff.mp h
  obtain ⟨h1, h2⟩ := List.getElem?_eq_some_iff.mp e1
  have : k = j := by rw [← h2]; simp
  subst this
  exact ⟨by simpa using h1, e2.symm⟩
theorem itsN_len (n : Nat) (b : Nat) : (itsN n b).length = n := by simp [itsN]
section
variable {prog : Program} {w : World} {A : Around} {E : Value → Shared → Prop} {s : Shared} {src : List Sr} {b : Nat} {i : Nat}
def rowU (src : List Sr) (i : Nat) : List Value := src.map fun r => r.its.getD i .none
theorem os_full {os : List Value} (lo : os.length = src.length) (eo : ∀ j r, j < src.length → src[j]? = some r → os[j]? = some (r.its.getD i .none)) : os = rowU src i := by
  refine List.ext_getElem? fun j => ?_
  unfold rowU
  by_cases h : j < src.length
  · rw [eo j _ h (List.getElem?_eq_getElem h), List.getElem?_map, List.getElem?_eq_getElem h]; rfl
  · rw [List.getElem?_eq_none (by omega), List.getElem?_eq_none (by simp; omega)]
theorem zn_item {Q : Value → Shared → Prop} (hh : A.handled = none) (hb : ∀ r ∈ src, r.l < b) (h0 : 0 < src.length) (hs : src.length ≤ 64) (hl : ∀ r ∈ src, i < r.its.length) (Z : ZN src b i s.heap)
    (hQ : ∀ h' tk, ZN src b (i + 1) h' → IsTupN h' s.heap.objs.size (rowU src i) → h'.objs.size = s.heap.objs.size + 1 → (∀ (c : Nat) o, (c < b ∨ b + src.length + 3 ≤ c) → s.heap.get? c = some o → h'.get? c = some o) → Q (.ref s.heap.objs.size) { s with heap := h', toks := tk }) :
    wpAny (model prog w) A (Builtin.«zip.__next__» ⟨[.ref (b + src.length + 2)], []⟩) (fun fin s' => ∃ v, fin = .done (.ret v) ∧ Q v s') E s := by
  obtain ⟨own, f, ho, M⟩ := Z.ex
  have hz := M.z
  have hTI := M.ti
  obtain ⟨os0, lo0, _, hTO⟩ := M.to
  obtain ⟨hp, gn, dr, tk0, os⟩ := s
  have hsL : sizeLine = 16777216 := sizeLine_eq
  have zlt : b + src.length + 2 < hp.objs.size := Heap.lt_size hz
  show wpAny _ _ (field (.ref (b + src.length + 2)) 2 >>= _) _ _ _
  refine wpAny_bind (wpAny_field hz rfl (x := .bool false) rfl ?_)
  show wpAny _ _ (field (.ref (b + src.length + 2)) 3 >>= _) _ _ _
  refine wpAny_bind (wpAny_field hz rfl (x := .ref (b + src.length)) rfl ?_)
  refine wpAny_bind (wpAny_seqItems hTI rfl ?_)
  have ne : (itsN src.length b).toArray.isEmpty = false := by
    cases q : (itsN src.length b).toArray.isEmpty with
    | false => rfl
    | true =>
      have := itsN_len src.length b
      rw [List.isEmpty_toArray, List.isEmpty_iff] at q
      rw [q] at this
      simp at this
      omega
  simp only [ne, Bool.false_eq_true, if_false]
  refine wpAny_bind (own_ask ho hz ?_ fun g0 hz0 hs0 => ?_)
  · -- its own tuple again
    simp only [if_true]
    refine wpAny_bind (wpAny_rule ?_)
    refine wpAny_bind (wpAny_field hz rfl (x := .ref (b + src.length + 1)) rfl ?_)
    refine wpAny_bind (wpAny_setField_rec hz (by simp) fun g0 hz0 hs0 => ?_)
    have M0 : ZM src b i 0 0 .ellipsis f hp g0 := M.wz hb hz0 hs0
    refine wpAny_bind ?_
    refine forIn_st (fun k t => ∃ h tk, t = ⟨h, gn, dr, tk, os⟩ ∧ ZM src b i k k .ellipsis f hp h) (fun _ => _) _ 0 ⟨g0, gn, dr, tk0, os⟩ ⟨g0, tk0, rfl, M0⟩ (fun j a t hj hJ => ?_) (fun t hJ => ?_)
    · obtain ⟨h, tk, rfl, Mj⟩ := hJ
      rw [Nat.zero_add] at Mj ⊢
      rw [List.getElem?_zipIdx] at hj
      simp only [Nat.zero_add] at hj
      obtain ⟨a', ha, rfl⟩ := Option.map_eq_some_iff.mp hj
      obtain ⟨hjn, rfl⟩ := itsN_get ha
      have hr : src[j]? = some src[j] := List.getElem?_eq_getElem hjn
      have hm : src[j] ∈ src := List.getElem_mem hjn
      have hlb := hb _ hm
      have st := Mj.it j _ hr
      rw [if_neg (Nat.lt_irrefl j)] at st
      refine wpAny_bind (wpAny_onRaise ?_)
      show wpAny _ _ (Builtin.SmallTypes.nextOf (.ref (b + j)) >>= _) _ _ ⟨h, gn, dr, tk, os⟩
      refine wpAny_bind (sr_item (s := ⟨h, gn, dr, tk, os⟩) hh (by omega) (hl _ hm) st fun h1 tk1 st1 sb => wpAny_pure ?_)
      have M1 := Mj.draw hb hr sb st1
      obtain ⟨os1, lo1, eo1, to1⟩ := M1.to
      refine wpAny_bind (wpAny_seqItems (s := ⟨h1, gn, dr, tk1, os⟩) to1 rfl ?_)
      refine wpAny_bind (wpAny_updateSeq (s := ⟨h1, gn, dr, tk1, os⟩) to1 rfl ?_ (by rw [List.size_toArray, lo1]; omega) (by rw [List.setIfInBounds_toArray, List.size_toArray, List.length_set, lo1]; omega))
      refine wpAny_bind (wpAny_letGo (wpAny_pure ⟨rfl, _, tk1, rfl, ?_⟩))
      refine M1.wt hb hr lo1 eo1 ?_ (Heap.SameBut.update ..)
      have := Heap.get?_update_self (Obj.mapSeq (·.setIfInBounds j (src[j].its.getD i .none))) to1 rfl
      refine this.trans ?_
      simp [Obj.mapSeq]
    · obtain ⟨h, tk, rfl, Mj⟩ := hJ
      have e0 : 0 + (itsN src.length b).zipIdx.length = src.length := by simp [itsN_len]
      rw [e0] at Mj
      obtain ⟨os1, lo1, eo1, to1⟩ := Mj.to
      have hfull := os_full lo1 eo1
      subst hfull
      refine wpAny_bind (wpAny_seqItems (s := ⟨h, gn, dr, tk, os⟩) to1 rfl ?_)
      show wpAny _ _ (newTuple (rowU src i) >>= _) _ _ ⟨h, gn, dr, tk, os⟩
      refine wpAny_bind (wpAny_newTuple ?_ (by rw [lo1]; omega))
      show wpAny _ _ (Builtin.SmallTypes.ownedTupleHandOut (.ref (b + src.length + 2)) (.ref h.objs.size) >>= _) _ _ ⟨h.push { cls := .type "tuple", data := .seq (rowU src i).toArray }, gn, dr, tk, os⟩
      refine wpAny_bind ?_
      unfold Builtin.SmallTypes.ownedTupleHandOut
      have z6 : (h.push { cls := .type "tuple", data := .seq (rowU src i).toArray }).get? (b + src.length + 2) = some (ZRec .ellipsis f (b + src.length) (b + src.length + 1)) := Heap.get?_push_of_some _ Mj.z
      refine wpAny_bind (wpAny_setField_rec z6 (by simp) fun h7 z7 s7 => ?_)
      replace z7 : h7.get? (b + src.length + 2) = some (ZRec (rawInt h.objs.size) f (b + src.length) (b + src.length + 1)) := z7
      refine wpAny_setField_rec z7 (by simp) fun h8 z8 s8 => ?_
      replace z8 : h8.get? (b + src.length + 2) = some (ZRec (rawInt h.objs.size) false (b + src.length) (b + src.length + 1)) := z8
      replace s7 : Heap.SameBut (b + src.length + 2) (h.push { cls := .type "tuple", data := .seq (rowU src i).toArray }) h7 := s7
      replace s8 : Heap.SameBut (b + src.length + 2) h7 h8 := s8
      have up : ∀ (c : Nat) o, c ≠ b + src.length + 2 → h.get? c = some o → h8.get? c = some o := fun c o c1 e => s8.extBut _ _ c1 (s7.extBut _ _ c1 (Heap.get?_push_of_some _ e))
      have szh : h.objs.size = hp.objs.size := Mj.sz
      have t8 : IsTupN h8 h.objs.size (rowU src i) := s8.extBut _ _ (ane (by omega)) (s7.extBut _ _ (ane (by omega)) (Heap.get?_push_size _ rfl))
      have sz8 : h8.objs.size = h.objs.size + 1 := by rw [s8.1, s7.1, Heap.size_push]
      refine wpAny_pure ⟨_, rfl, ?_⟩
      show Q (.ref h.objs.size) ⟨h8, gn, dr, tk, os⟩
      have fin : ZN src b (i + 1) h8 := by
        refine ⟨rawInt h.objs.size, false, .inr ⟨_, rfl⟩, z8, up _ _ (by omega) Mj.ti, ⟨_, lo1, fun j r hj => absurd hj (by omega), up _ _ (by omega) to1⟩, fun j r' hj => ?_, rfl, fun _ _ _ e => e⟩
        have hjl := ix_lt hj
        have hlb := hb r' (List.mem_of_getElem? hj)
        have := (Mj.it j r' hj).frame (h' := h8) (fun o q => up _ _ (by omega) q) (fun o q => up _ _ (by omega) q)
        rw [if_pos hjl] at this
        rw [if_neg (by omega)]; exact this
      have kp : ∀ (c : Nat) o, (c < b ∨ b + src.length + 3 ≤ c) → hp.get? c = some o → h8.get? c = some o := fun c o hc e => up c o (by omega) (Mj.keep c o hc e)
      rw [szh] at t8 sz8 ⊢
      exact hQ h8 tk fin t8 sz8 kp
  · have M0 : ZM src b i 0 0 own true hp g0 := M.wz hb hz0 hs0
    simp only [Bool.false_eq_true, if_false]
    refine wpAny_bind ?_
    rw [← Array.forIn_toList]
    refine forIn_st (fun k t => ∃ h tk, t = ⟨h, gn, dr, tk, os⟩ ∧ ZM src b i 0 k own true hp h) (fun k => (none, ((rowU src i).take k).toArray)) _ 0 ⟨g0, gn, dr, tk0, os⟩ ⟨g0, tk0, rfl, M0⟩ (fun j a t hj hJ => ?_) (fun t hJ => ?_)
    · obtain ⟨h, tk, rfl, Mj⟩ := hJ
      rw [Nat.zero_add] at Mj ⊢
      obtain ⟨hjn, rfl⟩ := itsN_get (b := b) (n := src.length) hj
      have hr : src[j]? = some src[j] := List.getElem?_eq_getElem hjn
      have hm : src[j] ∈ src := List.getElem_mem hjn
      have hlb := hb _ hm
      have st := Mj.it j _ hr
      rw [if_neg (Nat.lt_irrefl j)] at st
      refine wpAny_bind (wpAny_holding ?_)
      show wpAny _ _ (Builtin.SmallTypes.nextOf (.ref (b + j)) >>= _) _ _ ⟨h, gn, dr, tk, os⟩
      refine wpAny_bind (sr_item (s := ⟨h, gn, dr, tk, os⟩) hh (by omega) (hl _ hm) st fun h1 tk1 st1 sb => wpAny_pure ?_)
      have M1 := Mj.draw hb hr sb st1
      have eT : (rowU src i).take (j + 1) = (rowU src i).take j ++ [src[j].its.getD i .none] := by
        rw [List.take_add_one]
        unfold rowU
        rw [List.getElem?_map, hr]; rfl
      refine wpAny_pure ⟨?_, h1, tk1, rfl, M1⟩
      show ForInStep.yield (none, ((rowU src i).take j).toArray.push (src[j].its.getD i .none)) = _
      rw [eT, List.push_toArray]
    · obtain ⟨h, tk, rfl, Mj⟩ := hJ
      have e0 : 0 + (itsN src.length b).toArray.toList.length = src.length := by simp [itsN_len]
      rw [e0] at Mj ⊢
      have eL : (rowU src i).take src.length = rowU src i := List.take_of_length_le (by simp [rowU])
      rw [eL]
      show wpAny _ _ (newTuple (rowU src i) >>= _) _ _ ⟨h, gn, dr, tk, os⟩
      refine wpAny_bind (wpAny_newTuple ?_ (by simp [rowU]; omega))
      have szh : h.objs.size = hp.objs.size := Mj.sz
      have k : ∀ (c : Nat) o, h.get? c = some o → (h.push { cls := .type "tuple", data := .seq (rowU src i).toArray }).get? c = some o := fun c o e => Heap.get?_push_of_some _ e
      refine wpAny_pure ⟨_, rfl, ?_⟩
      show Q (.ref h.objs.size) ⟨_, gn, dr, tk, os⟩
      have fin := Mj.next hb ho k
      have t8 : IsTupN (h.push { cls := .type "tuple", data := .seq (rowU src i).toArray }) h.objs.size (rowU src i) := Heap.get?_push_size _ rfl
      have sz8 : (h.push { cls := .type "tuple", data := .seq (rowU src i).toArray }).objs.size = h.objs.size + 1 := Heap.size_push ..
      have kp : ∀ (c : Nat) o, (c < b ∨ b + src.length + 3 ≤ c) → hp.get? c = some o → (h.push { cls := .type "tuple", data := .seq (rowU src i).toArray }).get? c = some o := fun c o hc e => k c o (Mj.keep c o hc e)
      rw [szh] at t8 sz8 ⊢
      exact hQ _ tk fin t8 sz8 kp
theorem zn_end {Q : Fin → Shared → Prop} (hh : A.handled = none) (hb : ∀ r ∈ src, r.l < b) {r0 : Sr} {rest : List Sr} (es : src = r0 :: rest) (hl : r0.its.length = i) (Z : ZN src b i s.heap)
    (hE : ∀ h' tk e, (∀ (c : Nat) o, (c < b ∨ b + src.length + 3 ≤ c) → s.heap.get? c = some o → h'.get? c = some o) → (∃ o, h'.get? e = some o ∧ o.cls = .type "StopIteration") → E (.ref e) { s with heap := h', toks := tk }) :
    wpAny (model prog w) A (Builtin.«zip.__next__» ⟨[.ref (b + src.length + 2)], []⟩) Q E s := by
  obtain ⟨own, f, ho, M⟩ := Z.ex
  have hz := M.z
  have hTI := M.ti
  obtain ⟨os0, lo0, _, hTO⟩ := M.to
  obtain ⟨hp, gn, dr, tk0, os⟩ := s
  have hr0 : src[0]? = some r0 := by rw [es]; rfl
  have h0 : 0 < src.length := ix_lt hr0
  have hlb := hb r0 (by rw [es]; simp)
  have hcons : itsN src.length b = .ref (b + 0) :: ((List.range rest.length).map fun j => Value.ref (b + (j + 1))) := by
    rw [es]
    unfold itsN
    rw [List.length_cons, List.range_succ_eq_map, List.map_cons, List.map_map]; rfl
  show wpAny _ _ (field (.ref (b + src.length + 2)) 2 >>= _) _ _ _
  refine wpAny_bind (wpAny_field hz rfl (x := .bool false) rfl ?_)
  show wpAny _ _ (field (.ref (b + src.length + 2)) 3 >>= _) _ _ _
  refine wpAny_bind (wpAny_field hz rfl (x := .ref (b + src.length)) rfl ?_)
  refine wpAny_bind (wpAny_seqItems hTI rfl ?_)
  have ne : (itsN src.length b).toArray.isEmpty = false := by rw [hcons]; rfl
  simp only [ne, Bool.false_eq_true, if_false]
  have stM : ∀ {own' f' h}, ZM src b i 0 0 own' f' hp h → SrAt r0 (b + 0) r0.its.length h := fun Mx => by
    have := Mx.it 0 r0 hr0
    rw [if_neg (Nat.lt_irrefl 0)] at this
    rw [hl]; exact this
  refine wpAny_bind (own_ask ho hz ?_ fun g0 hz0 hs0 => ?_)
  · simp only [if_true]
    refine wpAny_bind (wpAny_rule ?_)
    refine wpAny_bind (wpAny_field hz rfl (x := .ref (b + src.length + 1)) rfl ?_)
    refine wpAny_bind (wpAny_setField_rec hz (by simp) fun g0 hz0 hs0 => ?_)
    have M0 : ZM src b i 0 0 .ellipsis f hp g0 := M.wz hb hz0 hs0
    refine wpAny_bind ?_
    rw [hcons]
    simp only [List.zipIdx_cons, List.forIn_cons]
    refine wpAny_bind (wpAny_bind (wpAny_onRaise ?_))
    show wpAny _ _ (Builtin.SmallTypes.nextOf (.ref (b + 0)) >>= _) _ _ ⟨g0, gn, dr, tk0, os⟩
    refine wpAny_bind (sr_end (s := ⟨g0, gn, dr, tk0, os⟩) hh (by omega) (stM M0) fun q e hq he => ?_)
    replace hq : Heap.ExtBut (b + 0) g0 q := hq
    have zq : q.get? (b + src.length + 2) = some (ZRec .ellipsis f (b + src.length) (b + src.length + 1)) := hq _ _ (ane (by omega)) M0.z
    obtain ⟨oe, ge, ce⟩ := he
    have ez : e ≠ b + src.length + 2 := fun x => by rw [x, zq] at ge; cases ge; simp at ce
    refine wpAny_setField_rec (s := ⟨q, gn, dr, tk0, os⟩) zq (by simp) fun q' _ hq' => ?_
    replace hq' : Heap.SameBut (b + src.length + 2) q q' := hq'
    exact hE q' tk0 e (fun c o hc x => hq'.extBut _ _ (ane (by omega)) (hq _ _ (ane (by omega)) (M0.keep c o hc x))) ⟨oe, hq'.extBut _ _ ez ge, ce⟩
  · have M0 : ZM src b i 0 0 own true hp g0 := M.wz hb hz0 hs0
    simp only [Bool.false_eq_true, if_false]
    refine wpAny_bind ?_
    rw [← Array.forIn_toList]
    show wpAny _ _ (forIn (itsN src.length b) _ _) _ _ _
    rw [hcons]
    simp only [List.forIn_cons]
    refine wpAny_bind (wpAny_bind (wpAny_holding ?_))
    show wpAny _ _ (Builtin.SmallTypes.nextOf (.ref (b + 0)) >>= _) _ _ ⟨g0, gn, dr, tk0, os⟩
    refine wpAny_bind (sr_end (s := ⟨g0, gn, dr, tk0, os⟩) hh (by omega) (stM M0) fun q e hq he => ?_)
    replace hq : Heap.ExtBut (b + 0) g0 q := hq
    exact hE q tk0 e (fun c o hc x => hq _ _ (ane (by omega)) (M0.keep c o hc x)) he
end
end LS
end
section
set_option maxRecDepth 100000
set_option maxHeartbeats 2000000
namespace LS
open PySem PySem.Spec L2
/-! ## the call of zip -/
def SqAt (r : Sr) (h : Heap) : Prop := if r.isL = true then h.IsList r.l r.its.toArray else h.IsTuple r.l r.its.toArray
theorem SqAt.kept {r : Sr} {h h' : Heap} (x : SqAt r h) (k : ∀ c o, h.get? c = some o → h'.get? c = some o) : SqAt r h' := by
  obtain ⟨b, l, its⟩ := r
  cases b with
  | true => exact Heap.IsList.at x fun o e => k _ o e
  | false => exact Heap.IsTuple.at x fun o e => k _ o e
theorem SqAt.lt {r : Sr} {h : Heap} (x : SqAt r h) : r.l < h.objs.size := by
  obtain ⟨b, l, its⟩ := r
  cases b with
  | true => obtain ⟨o, e, _⟩ := x; exact Heap.lt_size e
  | false => obtain ⟨o, e, _⟩ := x; exact Heap.lt_size e
structure ZA (n : Nat) : Prop where
  t : ∀ args : List Value, args.length = n → checkTypeCall "zip" ⟨args, []⟩ = pure ()
  c : ∀ args : List Value, args.length = n → checkBuiltinCall "zip.__new__" ⟨.type "zip" :: args, []⟩ = pure ()
  o : ∀ (obj : Value) (args : List Value), args.length = n → argsOk "object.__init__" ⟨obj :: args, []⟩
theorem za2 : ZA 2 := ⟨fun args h => match args, h with | [_, _], _ => by kernel_rfl, fun args h => match args, h with | [_, _], _ => by kernel_rfl,
  fun obj args h => match args, h with | [_, _], _ => by unfold argsOk; rw [signature?_of (id := "object.__init__") (n := ['_', '_', 't', 'i', 'n', 'i', '_', '_']) (o := ['t', 'c', 'e', 'j', 'b', 'o']) (by kernel_rfl) F.owner_object]; kernel_rfl⟩
theorem za6 : ZA 6 := ⟨fun args h => match args, h with | [_, _, _, _, _, _], _ => by kernel_rfl, fun args h => match args, h with | [_, _, _, _, _, _], _ => by kernel_rfl,
  fun obj args h => match args, h with | [_, _, _, _, _, _], _ => by unfold argsOk; rw [signature?_of (id := "object.__init__") (n := ['_', '_', 't', 'i', 'n', 'i', '_', '_']) (o := ['t', 'c', 'e', 'j', 'b', 'o']) (by kernel_rfl) F.owner_object]; kernel_rfl⟩
theorem newClass_zip (rest : List Value) : Builtin.SmallTypes.newClass "zip" ⟨.type "zip" :: rest, []⟩ = pure (.type "zip", rest) := by
  unfold Builtin.SmallTypes.newClass
  simp only [isType, sub_zip, pure_bind, Bool.not_true, Bool.false_eq_true, if_false]
theorem meets_zipN (src : List Sr) (hs : src.length ≤ 64) : Meets (Builtin.«zip.__new__» ⟨.type "zip" :: src.map (fun r => Value.ref r.l), []⟩) (fun _ R s => (∀ r ∈ src, SqAt r s.heap) ∧
    ∀ h', ZN src s.heap.objs.size 0 h' → h'.objs.size = s.heap.objs.size + src.length + 3 → (∀ c o, s.heap.get? c = some o → h'.get? c = some o) → R (.ok (.ret (.ref (s.heap.objs.size + src.length + 2)))) { s with heap := h' }) :=
  .of_wp fun prog w A R s h => by
    obtain ⟨hp, gn, dr, tk, os⟩ := s
    obtain ⟨hsq, h⟩ := h
    have hsL : sizeLine = 16777216 := sizeLine_eq
    unfold Builtin.«zip.__new__»
    refine wpAny_bind (wpAny_of_eq (newClass_zip _) ?_)
    dsimp only
    rw [if_neg (by decide)]
    have all : ∀ {Q : List Value → Shared → Prop}, (∀ h1, h1.objs.size = hp.objs.size + src.length → (∀ (c : Nat) o, hp.get? c = some o → h1.get? c = some o) → (∀ j r, src[j]? = some r → SrAt r (hp.objs.size + j) 0 h1) → Q (itsN src.length hp.objs.size) ⟨h1, gn, dr, tk, os⟩) →
        wpAny (model prog w) A.in1 (Builtin.SmallTypes.iterAll (List.map (fun r => Value.ref r.l) src)) Q (fun e s' => R (.error e) s') ⟨hp, gn, dr, tk, os⟩ := by
      intro Q hQ
      unfold Builtin.SmallTypes.iterAll
      refine wpAny_bind ?_
      refine forIn_st (fun k t => ∃ h1, t = ⟨h1, gn, dr, tk, os⟩ ∧ h1.objs.size = hp.objs.size + k ∧ (∀ (c : Nat) o, hp.get? c = some o → h1.get? c = some o) ∧ ∀ j r, j < k → src[j]? = some r → SrAt r (hp.objs.size + j) 0 h1) (fun k => (itsN k hp.objs.size).toArray) _ 0 _ ⟨hp, rfl, rfl, fun _ _ e => e, fun j r h => absurd h (by omega)⟩ (fun j a t hj hJ => ?_) (fun t hJ => ?_)
      · obtain ⟨h1, rfl, z1, k1, s1⟩ := hJ
        rw [Nat.zero_add] at z1 s1
        rw [List.getElem?_map] at hj
        obtain ⟨r, hr, rfl⟩ := Option.map_eq_some_iff.mp hj
        have hq := (hsq r (List.mem_of_getElem? hr)).kept (h' := h1) k1
        have eI : itsN (0 + j + 1) hp.objs.size = itsN j hp.objs.size ++ [.ref (hp.objs.size + j)] := by
          rw [Nat.zero_add]
          unfold itsN
          rw [List.range_succ, List.map_append]; rfl
        have step : ∀ h2 : Heap, h2.objs.size = h1.objs.size + 1 → (∀ (c : Nat) o, h1.get? c = some o → h2.get? c = some o) → SrAt r (hp.objs.size + j) 0 h2 →
            ∃ h3, (⟨h2, gn, dr, tk, os⟩ : Shared) = ⟨h3, gn, dr, tk, os⟩ ∧ h3.objs.size = hp.objs.size + (0 + j + 1) ∧ (∀ (c : Nat) o, hp.get? c = some o → h3.get? c = some o) ∧ ∀ j' r', j' < 0 + j + 1 → src[j']? = some r' → SrAt r' (hp.objs.size + j') 0 h3 := fun h2 z2 k2 s2 => by
          refine ⟨h2, rfl, by omega, fun c o e => k2 c o (k1 c o e), fun j' r' hj' hr' => ?_⟩
          by_cases e : j' = j
          · subst e
            rw [hr] at hr'; cases hr'
            exact s2
          · exact (s1 j' r' (by omega) hr').frame (fun o q => k2 _ o q) (fun o q => k2 _ o q)
        refine wpAny_bind (wpAny_holding ?_)
        obtain ⟨b, l, its⟩ := r
        cases b with
        | true =>
          refine wpAny_pyIter_list (s := ⟨h1, gn, dr, tk, os⟩) (show Heap.IsList h1 l its.toArray from hq) ?_
          refine wpAny_pure ⟨?_, ?_⟩
          · show ForInStep.yield ((itsN (0 + j) hp.objs.size).toArray.push (Value.ref h1.objs.size)) = _
            rw [eI, Nat.zero_add, z1, List.push_toArray]
          · refine step _ (Heap.size_push ..) (fun c o e => Heap.get?_push_of_some _ e) ?_
            rw [← z1]
            exact ⟨⟨_, Heap.get?_push_size _ rfl, rfl, rfl⟩, Heap.IsList.at hq fun o e => Heap.get?_push_of_some _ e⟩
        | false =>
          refine wpAny_pyIter_tuple (s := ⟨h1, gn, dr, tk, os⟩) (show Heap.IsTuple h1 l its.toArray from hq) ?_
          refine wpAny_pure ⟨?_, ?_⟩
          · show ForInStep.yield ((itsN (0 + j) hp.objs.size).toArray.push (Value.ref h1.objs.size)) = _
            rw [eI, Nat.zero_add, z1, List.push_toArray]
          · refine step _ (Heap.size_push ..) (fun c o e => Heap.get?_push_of_some _ e) ?_
            rw [← z1]
            exact ⟨⟨_, Heap.get?_push_size _ rfl, rfl, rfl⟩, Heap.IsTuple.at hq fun o e => Heap.get?_push_of_some _ e⟩
      · obtain ⟨h1, rfl, z1, k1, s1⟩ := hJ
        rw [List.length_map, Nat.zero_add] at z1 s1 ⊢
        exact wpAny_pure (hQ h1 z1 k1 fun j r hr => s1 j r (ix_lt hr) hr)
    refine wpAny_bind (all fun h1 z1 k1 s1 => ?_)
    refine wpAny_bind (wpAny_newTuple ?_ (by rw [itsN_len]; omega))
    refine wpAny_bind (wpAny_newTuple ?_ (by rw [List.length_map, itsN_len]; omega))
    refine wpAny_bind ?_
    unfold Builtin.SmallTypes.newRecord
    refine wpAny_newObj_type ?_ (show 5 ≤ sizeLine + 2 by omega)
    refine wpAny_pure ⟨_, rfl, ?_⟩
    have z2 : (h1.push { cls := .type "tuple", data := .seq (itsN src.length hp.objs.size).toArray }).objs.size = hp.objs.size + src.length + 1 := by rw [Heap.size_push, z1]
    have t2 : IsTupN (h1.push { cls := .type "tuple", data := .seq (itsN src.length hp.objs.size).toArray }) (hp.objs.size + src.length) (itsN src.length hp.objs.size) := by rw [← z1]; exact Heap.get?_push_size _ rfl
    have k2 : ∀ (c : Nat) o, h1.get? c = some o → (h1.push { cls := .type "tuple", data := .seq (itsN src.length hp.objs.size).toArray }).get? c = some o := fun c o e => Heap.get?_push_of_some _ e
    show R (.ok (.ret (.ref (((h1.push { cls := .type "tuple", data := .seq (itsN src.length hp.objs.size).toArray }).push { cls := .type "tuple", data := .seq ((itsN src.length hp.objs.size).map fun _ => Value.none).toArray }).objs.size)))) ⟨((h1.push { cls := .type "tuple", data := .seq (itsN src.length hp.objs.size).toArray }).push { cls := .type "tuple", data := .seq ((itsN src.length hp.objs.size).map fun _ => Value.none).toArray }).push (ZRec .none false h1.objs.size (h1.push { cls := .type "tuple", data := .seq (itsN src.length hp.objs.size).toArray }).objs.size), gn, dr, tk, os⟩
    generalize h1.push { cls := .type "tuple", data := .seq (itsN src.length hp.objs.size).toArray } = h2 at z2 t2 k2 ⊢
    have lo : ((itsN src.length hp.objs.size).map fun _ => Value.none).length = src.length := by rw [List.length_map, itsN_len]
    generalize ((itsN src.length hp.objs.size).map fun _ => Value.none) = os2 at lo ⊢
    have z3 : (h2.push { cls := .type "tuple", data := .seq os2.toArray }).objs.size = hp.objs.size + src.length + 2 := by rw [Heap.size_push, z2]
    have t3 : IsTupN (h2.push { cls := .type "tuple", data := .seq os2.toArray }) (hp.objs.size + src.length + 1) os2 := by rw [← z2]; exact Heap.get?_push_size _ rfl
    have k3 : ∀ (c : Nat) o, h2.get? c = some o → (h2.push { cls := .type "tuple", data := .seq os2.toArray }).get? c = some o := fun c o e => Heap.get?_push_of_some _ e
    rw [z1, z2]
    generalize h2.push { cls := .type "tuple", data := .seq os2.toArray } = h3 at z3 t3 k3 ⊢
    have t4 : (h3.push (ZRec .none false (hp.objs.size + src.length) (hp.objs.size + src.length + 1))).get? (hp.objs.size + src.length + 2) = some (ZRec .none false (hp.objs.size + src.length) (hp.objs.size + src.length + 1)) := by rw [← z3]; exact Heap.get?_push_size _ rfl
    have z4 : (h3.push (ZRec .none false (hp.objs.size + src.length) (hp.objs.size + src.length + 1))).objs.size = hp.objs.size + src.length + 3 := by rw [Heap.size_push, z3]
    have k4 : ∀ (c : Nat) o, h3.get? c = some o → (h3.push (ZRec .none false (hp.objs.size + src.length) (hp.objs.size + src.length + 1))).get? c = some o := fun c o e => Heap.get?_push_of_some _ e
    rw [z3]
    generalize h3.push (ZRec .none false (hp.objs.size + src.length) (hp.objs.size + src.length + 1)) = h4 at z4 t4 k4 ⊢
    refine h h4 ⟨.none, false, .inl rfl, t4, k4 _ _ (k3 _ _ t2), ⟨os2, lo, fun j r hj => absurd hj (by omega), k4 _ _ t3⟩, fun j r hr => ?_, rfl, fun _ _ _ e => e⟩ z4 fun c o e => k4 c o (k3 c o (k2 c o (k1 c o e)))
    rw [if_neg (by omega)]
    exact (s1 j r hr).frame (fun o q => k4 _ o (k3 _ o (k2 _ o q))) (fun o q => k4 _ o (k3 _ o (k2 _ o q)))
section
variable {prog : Program} {w : World} {A : Around} {E : Value → Shared → Prop} {s : Shared} {src : List Sr}
theorem call_zipN (za : ZA src.length) (hs : src.length ≤ 64) (hsq : ∀ r ∈ src, SqAt r s.heap) {Q : Value → Shared → Prop}
    (h : ∀ h', ZN src s.heap.objs.size 0 h' → h'.objs.size = s.heap.objs.size + src.length + 3 → (∀ c o, s.heap.get? c = some o → h'.get? c = some o) → Q (.ref (s.heap.objs.size + src.length + 2)) { s with heap := h' }) :
    wpAny (model prog w) A (call (.type "zip") (src.map fun r => Value.ref r.l)) Q E s := by
  refine callType_new F.called_zip (by decide) (za.t _ (by simp)) (za.c _ (by simp)) (fun obj => za.o obj _ (by simp)) F.entry_zip_new (meets_zipN src hs) ⟨hsq, fun h' Z sz k => ?_⟩
  obtain ⟨own, f, _, M⟩ := Z.ex
  exact ⟨⟨_, M.z, rfl⟩, h h' Z sz k⟩
end
end LS
end
section
set_option maxRecDepth 100000
set_option maxHeartbeats 2000000
namespace LS
open PySem PySem.Spec L2
theorem zip_no_len' : typeLookup (.type "zip") "__len__" = pure none := by rw [typeLookup_type, builtinLookup_eq_fast]; kernel_rfl
theorem zip_no_hint' : typeLookup (.type "zip") "__length_hint__" = pure none := by rw [typeLookup_type, builtinLookup_eq_fast]; kernel_rfl
/-! ## list(zip(..)) -/
section
variable {prog : Program} {w : World} {A : Around} {E : Value → Shared → Prop} {s : Shared} {src : List Sr} {b : Nat} {i : Nat}
theorem zn_ty (Z : ZN src b i s.heap) : s.TypeIs (.ref (b + src.length + 2)) "zip" := by
  obtain ⟨own, f, _, M⟩ := Z.ex
  exact ⟨_, M.z, rfl⟩
theorem next_zn_item {Q : Option Value → Shared → Prop} (hh : A.handled = none) (hb : ∀ r ∈ src, r.l < b) (h0 : 0 < src.length) (hs : src.length ≤ 64) (hl : ∀ r ∈ src, i < r.its.length) (Z : ZN src b i s.heap)
    (hQ : ∀ h' tk, ZN src b (i + 1) h' → IsTupN h' s.heap.objs.size (rowU src i) → h'.objs.size = s.heap.objs.size + 1 → (∀ (c : Nat) o, (c < b ∨ b + src.length + 3 ≤ c) → s.heap.get? c = some o → h'.get? c = some o) → Q (some (.ref s.heap.objs.size)) { s with heap := h', toks := tk }) :
    wpAny (model prog w) A (pyNext (.ref (b + src.length + 2))) Q E s := by
  have hT := zn_ty Z
  unfold pyNext
  exact wpAny_bind (wpAny_attempt (wpAny_callSpecial?_slot (name := Str.ofString "__next__") hT F.slot_zip_next
    (wpAny_call_entry F.slot_zip_next hT F.entry_zip_next (zn_item hh hb h0 hs hl Z fun h' tk a1 a2 a3 a4 => wpAny_pure (hQ h' tk a1 a2 a3 a4)) (F.args_zip_next_1 _))))
theorem next_zn_end {Q : Option Value → Shared → Prop} (hh : A.handled = none) (hb : ∀ r ∈ src, r.l < b) {r0 : Sr} {rest : List Sr} (es : src = r0 :: rest) (hl : r0.its.length = i) (Z : ZN src b i s.heap)
    (hQ : ∀ h' tk, (∀ (c : Nat) o, (c < b ∨ b + src.length + 3 ≤ c) → s.heap.get? c = some o → h'.get? c = some o) → Q none { s with heap := h', toks := tk }) :
    wpAny (model prog w) A (pyNext (.ref (b + src.length + 2))) Q E s := by
  have hT := zn_ty Z
  unfold pyNext
  refine wpAny_bind (wpAny_attempt (wpAny_callSpecial?_slot (name := Str.ofString "__next__") hT F.slot_zip_next
    (wpAny_call_entry F.slot_zip_next hT F.entry_zip_next (zn_end hh hb es hl Z fun h' tk e hk he => ?_) (F.args_zip_next_1 _))))
  obtain ⟨o, ho, hc⟩ := he
  refine wpAny_bind (wpAny_isInstance (T := "StopIteration") (b := true) ⟨o, ho, hc⟩ isSubtype_stop ?_)
  exact wpAny_pure (hQ _ _ hk)
theorem iter_zn {Q : Value → Shared → Prop} (Z : ZN src b i s.heap) (h : Q (.ref (b + src.length + 2)) s) : wpAny (model prog w) A (pyIter (.ref (b + src.length + 2))) Q E s := by
  have hT := zn_ty Z
  refine wpAny_pyIter_slot hT F.slot_zip_iter (wpAny_call_entry F.slot_zip_iter hT F.entry_zip_iter ?_ (F.args_zip_iter_1 _))
  show wpAny _ _ (ret (.ref (b + src.length + 2))) _ _ s
  exact wpAny_pure ⟨_, rfl, "zip", _, hT, F.slot_zip_next.lookup, h⟩
end
/-- the list at q amid its making -/
structure Mkz (H1 : Hp) (q : Addr) (row : Nat → List V) (k : Nat) (Ts : List Addr) (H : Hp) : Prop where
  len : Ts.length = k
  lq : H q = some (.lst (Ts.map V.ref))
  at_ : ∀ (i : Nat) T, Ts[i]? = some T → H1 T = none ∧ T ≠ q ∧ H T = some (.tup (row i))
  off : ∀ a, a ≠ q → a ∉ Ts → H a = H1 a
theorem Mkz.next {H1 H : Hp} {q T : Addr} {row : Nat → List V} {k : Nat} {Ts : List Addr} (M : Mkz H1 q row k Ts H) (hT : H T = none) : Mkz H1 q row (k + 1) (Ts ++ [T]) (upd (upd H T (.tup (row k))) q (.lst ((Ts ++ [T]).map V.ref))) := by
  have ne : T ≠ q := fun e => by
    rw [e, M.lq] at hT
    cases hT
  have nT : T ∉ Ts := fun hm => by
    obtain ⟨j, hj⟩ := List.mem_iff_getElem?.mp hm
    rw [(M.at_ j T hj).2.2] at hT
    cases hT
  refine ⟨by simp [M.len], upd_same, fun i T' hi => ?_, fun a h1 h2 => ?_⟩
  · by_cases hl : i < Ts.length
    · rw [List.getElem?_append_left hl] at hi
      obtain ⟨a1, a2, a3⟩ := M.at_ i T' hi
      refine ⟨a1, a2, ?_⟩
      rw [upd_ne a2, upd_ne (fun e => by rw [e, hT] at a3; cases a3)]
      exact a3
    · rw [List.getElem?_append_right (by omega)] at hi
      have hi0 := (List.getElem?_eq_some_iff.mp hi).1
      have e0 : i - Ts.length = 0 := by simp at hi0; omega
      rw [e0] at hi
      have eT : T' = T := by simpa using hi.symm
      subst eT
      have ek : i = k := by have := M.len; omega
      subst ek
      refine ⟨by rw [← M.off T' ne nT]; exact hT, ne, ?_⟩
      rw [upd_ne ne, upd_same]
  · rw [upd_ne h1, upd_ne (fun e => h2 (by rw [e]; simp))]
    exact M.off a h1 fun hm => h2 (by simp [hm])
def rowV (vss : List (List V)) (i : Nat) : List V := vss.map fun vs => vs.getD i .non
inductive SV : List (List V) → List Sr → Prop
  | nil : SV [] []
  | cons {vs : List V} {r : Sr} {vss : List (List V)} {src : List Sr} : Vals vs r.its → SV vss src → SV (vs :: vss) (r :: src)
theorem vals_getD {vs : List V} {us : List Value} (r : Vals vs us) (i : Nat) : RelV (vs.getD i .non) (us.getD i .none) := by
  rw [List.getD_eq_getElem?_getD, List.getD_eq_getElem?_getD]
  cases q : vs[i]? with
  | none => rw [r.none_of q]; rfl
  | some v =>
    obtain ⟨u, e1, ru⟩ := r.get q
    rw [e1]; exact ru
theorem SV.row {vss : List (List V)} {src : List Sr} (h : SV vss src) (i : Nat) : Vals (rowV vss i) (rowU src i) := by
  induction h with
  | nil => exact .nil
  | cons r _ ih => exact .cons (vals_getD r i) ih
theorem SV.len {vss : List (List V)} {src : List Sr} (h : SV vss src) : vss.length = src.length := by
  induction h with
  | nil => rfl
  | cons _ _ ih => simp [ih]
section
variable {X : Cx} {pins : List (Addr × Obj)} {σ : L2.St} {H1 : Hp} {src : List Sr} {b q N : Nat} {vss : List (List V)} {Rs : Result → Shared → Prop} {A1 : Around}
theorem zl_loop (hh : A1.handled = none) (hb : ∀ r ∈ src, r.l < b) (h0 : 0 < src.length) (hs : src.length ≤ 64) (hN : ∀ r ∈ src, r.its.length = N) (hNs : N ≤ sizeLine) (sv : SV vss src) (hq : b + src.length + 3 ≤ q)
    (hdone : ∀ Ts H s, Inv X pins σ H s → Mkz H1 q (rowV vss) N Ts H → Rs (.ok (.ret .none)) s) :
    ∀ (m k : Nat) (Ts : List Addr) (H : Hp) (s : Shared), N = k + m → Inv X pins σ H s → Mkz H1 q (rowV vss) k Ts H → ZN src b k s.heap → (∀ c : Nat, b ≤ c → c < b + src.length + 3 → FpOk X pins H c) →
      codeAny (model X.prog X.w) A1 (.builtin "list.extend.loop" ⟨[.ref q, .ref (b + src.length + 2), .none], []⟩) Rs s := by
  have hsL : sizeLine = 16777216 := sizeLine_eq
  have blk : ∀ (H : Hp), (∀ c : Nat, b ≤ c → c < b + src.length + 3 → FpOk X pins H c) → ∀ c ∈ (List.range (src.length + 3)).map (b + ·), FpOk X pins H c := fun H hf c hc => by
    obtain ⟨j, hj, rfl⟩ := List.mem_map.mp hc
    have := List.mem_range.mp hj
    exact hf _ (by omega) (by omega)
  have nb : ∀ c : Nat, c ∉ (List.range (src.length + 3)).map (b + ·) → c < b ∨ b + src.length + 3 ≤ c := fun c hc => by
    by_cases h1 : c < b
    · exact .inl h1
    · by_cases h2 : b + src.length + 3 ≤ c
      · exact .inr h2
      · exact absurd (List.mem_map.mpr ⟨c - b, List.mem_range.mpr (by omega), by omega⟩) hc
  intro m
  induction m with
  | zero =>
    intro k Ts H s hk I M Z hf
    refine codeAny_builtin PySem.F.entry_extend_loop ?_
    rw [Around.under_plainId PySem.F.plain_extend_loop _]
    show wpAny _ A1.in1 (pyNext (.ref (b + src.length + 2)) >>= _) _ _ s
    obtain ⟨r0, rest, es⟩ : ∃ r0 rest, src = r0 :: rest := by
      cases src with
      | nil => simp at h0
      | cons r0 rest => exact ⟨_, _, rfl⟩
    refine wpAny_bind (next_zn_end hh hb es (by rw [hN r0 (by rw [es]; simp)]; exact hk) Z fun h' tk k' => ?_)
    have ek : N = k := hk
    subst ek
    exact wpAny_pure (hdone Ts H _ (I.turnedL (t' := tk) (ch := (List.range (src.length + 3)).map (b + ·)) (fun c o hc e => k' c o (nb c hc) e) (blk H hf)) M)
  | succ m ih =>
    intro k Ts H s hk I M Z hf
    refine codeAny_builtin PySem.F.entry_extend_loop ?_
    rw [Around.under_plainId PySem.F.plain_extend_loop _]
    show wpAny _ A1.in1 (pyNext (.ref (b + src.length + 2)) >>= _) _ _ s
    refine wpAny_bind (next_zn_item hh hb h0 hs (fun r hr => by rw [hN r hr]; omega) Z fun h' tk Z' hT' sz' k' => ?_)
    have hfr : H s.heap.objs.size = none := I.hok.fresh (Nat.le_refl _)
    have new : ObjOk X.prog X.w (upd H s.heap.objs.size (.tup (rowV vss k))) h' s.heap.objs.size (.tup (rowV vss k)) :=
      ⟨by show (rowV vss k).length ≤ sizeLine; simp [rowV, sv.len]; omega, rowU src k, sv.row k, ⟨_, hT', rfl, _, rfl⟩⟩
    have I1 := I.turnedNew (t' := tk) (h' := h') (ch := (List.range (src.length + 3)).map (b + ·)) (fun c o hc e => k' c o (nb c hc) e) (blk H hf) (Nat.le_refl _) new
    have nq : s.heap.objs.size ≠ q := fun e => by rw [e, M.lq] at hfr; cases hfr
    have hq1 : upd H s.heap.objs.size (.tup (rowV vss k)) q = some (.lst (Ts.map V.ref)) := by rw [upd_ne (Ne.symm nq)]; exact M.lq
    show wpAny _ A1.in1 (updateSeq q (·.push (.ref s.heap.objs.size)) >>= _) _ _ _
    obtain ⟨zl, its, kk, r2, hl, e⟩ := I1.lstM hq1
    have hlen : its.length = k := by rw [← hl, List.length_map, M.len]
    refine wpAny_bind (wpAny_updateSeq e rfl (wpAny_pure ⟨plainId_quiet PySem.F.plain_extend_loop _, ?_⟩) (by rw [List.size_toArray]; omega) (by show (its.toArray.push _).size ≤ sizeLine + 1; rw [Array.size_push, List.size_toArray]; omega))
    have I2 := I1.lset (its' := its ++ [.ref s.heap.objs.size]) (ys := (Ts ++ [s.heap.objs.size]).map V.ref) (f := (·.push (.ref s.heap.objs.size))) (t' := tk) hq1 e (by simp) (by
      rw [List.map_append]
      exact r2.append (.cons rfl .nil)) (by simp [M.len]; omega)
    refine ih (k + 1) (Ts ++ [s.heap.objs.size]) _ _ (by omega) I2 (M.next hfr) (Z'.keep hb hq fun c o hc e => (Heap.get?_update_other _ _ (Ne.symm hc)).trans e) fun c h1 h2 => ?_
    have hc := hf c h1 h2
    have c1 : c ≠ q := by omega
    have clt : c < s.heap.objs.size := by
      obtain ⟨own, f, _, MM⟩ := Z.ex
      have : b + src.length + 2 < s.heap.objs.size := Heap.lt_size MM.z
      omega
    refine ⟨?_, hc.2⟩
    rw [upd_ne c1, upd_ne (ane (by omega))]
    exact hc.1
end
end LS
end
section
set_option maxRecDepth 100000
set_option maxHeartbeats 2000000
namespace LS
open PySem PySem.Spec L2
abbrev LsV := List (Bool × Addr × List V)
def SqK (K : PySem.W.Frag) (H : Hp) (p : Bool × Addr × List V) : Prop := if p.1 = true then SqL K H p.2.1 p.2.2 else SqT K H p.2.1 p.2.2
theorem srcs {X : Cx} {pins : List (Addr × Obj)} {σ : L2.St} {H : Hp} {s : Shared} (I : Inv X pins σ H s) {N : Nat} : ∀ ls : LsV, (∀ p ∈ ls, SqK X.K H p ∧ p.2.2.length = N) →
    ∃ src : List Sr, src.length = ls.length ∧ (∀ us : List Value, Vals (ls.map fun p => V.ref p.2.1) us → us = src.map fun r => Value.ref r.l) ∧ SV (ls.map (·.2.2)) src ∧ (∀ r ∈ src, SqAt r s.heap) ∧ ∀ r ∈ src, r.its.length = N
  | [], _ => ⟨[], rfl, fun us h => by cases h; rfl, .nil, fun r h => absurd h (by simp), fun r h => absurd h (by simp)⟩
  | p :: ls, h => by
    obtain ⟨src, h0, h1, h2, h3, h4⟩ := srcs I ls fun x hx => h x (by simp [hx])
    obtain ⟨hp, hl⟩ := h p (by simp)
    obtain ⟨bb, a, vs⟩ := p
    have ex : ∃ its : List Value, Vals vs its ∧ SqAt ⟨bb, a, its⟩ s.heap := by
      cases bb with
      | true =>
        obtain ⟨its, rv, pl, _⟩ := I.list hp
        exact ⟨its, rv, pl.isList⟩
      | false =>
        obtain ⟨its, rv, pl, _⟩ := I.tuple hp
        exact ⟨its, rv, (show s.heap.IsTuple a its.toArray from pl)⟩
    obtain ⟨its, rv, hs⟩ := ex
    refine ⟨⟨bb, a, its⟩ :: src, by simp [h0], fun us hu => ?_, .cons rv h2, fun r hr => ?_, fun r hr => ?_⟩
    · cases hu with
      | cons r t =>
        cases r
        rw [h1 _ t]; rfl
    · rcases List.mem_cons.mp hr with e | e
      · rw [e]; exact hs
      · exact h3 r e
    · rcases List.mem_cons.mp hr with e | e
      · rw [e]; exact rv.length.symm.trans hl
      · exact h4 r e
def tListZip (K : PySem.W.Frag) (n : Nat) (ta : TA) : TE := fun σ H Q => ta σ H fun vs H1 => ∃ (N : Nat) (ls : LsV), vs = (ls.map fun p => V.ref p.2.1) ∧ ls.length = n ∧ N ≤ sizeLine ∧ (∀ p ∈ ls, SqK K H1 p ∧ p.2.2.length = N) ∧
  ∀ q Ts H2, H1 q = none → Mkz H1 q (rowV (ls.map (·.2.2))) N Ts H2 → Q (.ref q) H2
theorem pe_listZip {X : Cx} {e : Expr} {es : List Expr} {ta : TA} {n : Nat} {p p2 q pos : Pos} (za : ZA n) (h0 : 0 < n) (hn : n ≤ 64) (hc : X.calm = true) (hg : Gl X "list") (hm : X.mg "list" = none) (hg2 : Gl X "zip") (hm2 : X.mg "zip" = none) (ha : PA X (e :: es) ta)
    (na : starEach [.Call (.Name "zip" p2) (e :: es) [] q] X.env = (false, eval (.Call (.Name "zip" p2) (e :: es) [] q) X.env) :: starEach [] X.env) (na2 : starEach (e :: es) X.env = (false, eval e X.env) :: starEach es X.env) (hpl : (backTo q (starEach es X.env)).any (·.1) = false) :
    PE X (.Call (.Name "list" p) [.Call (.Name "zip" p2) (e :: es) [] q] [] pos) (tListZip X.K n ta) := by
  refine ⟨fun pins s σ H Q I h => ?_⟩
  refine PyProof.Rows.Call_ (ld_blt I hg hm PyProof.Rows.boot_list ?_)
  refine PyProof.Rows.callWith_type1 (PyProof.Rows.args_cons ?_ na) na
  refine PyProof.Rows.Call_ (ld_blt I hg2 hm2 PyProof.Rows.boot_zip ?_)
  refine PyProof.Rows.callWith_type1 (thn (ha.run q pins s σ H _ I h) fun us s1 ⟨vs, H1, I1, r1, q1⟩ => ?_) na2 hpl
  obtain ⟨N, ls, rfl, hl, hN, hls, q1⟩ := q1
  obtain ⟨src, e0, e1, sv, hsq, hsN⟩ := srcs I1 ls hls
  rw [e1 us r1]
  rw [← hl, ← e0] at za h0 hn
  refine call_zipN za hn hsq fun h' Z sz k => PyProof.Rows.args_nil ?_
  have I2 : Inv X pins σ H1 { s1 with heap := h' } := I1.kept (t' := s1.toks) k
  have hb : ∀ r ∈ src, r.l < s1.heap.objs.size := fun r hr => (hsq r hr).lt
  have fp : ∀ c : Nat, s1.heap.objs.size ≤ c → FpOk X pins H1 c := fun c hc' => I1.fpOk hc' (I1.hok.fresh hc')
  generalize hB : s1.heap.objs.size = B at *
  have hS0 : (h'.push { cls := .type "list", data := .seq #[] }).get? h'.objs.size = some { cls := .type "list", data := .seq #[] } := Heap.get?_push_size _ rfl
  refine callType_codes (Q₁ := fun obj s₁ => obj = .ref h'.objs.size ∧ s₁ = { s1 with heap := h'.push { cls := .type "list", data := .seq #[] } }) PySem.F.called_list (PySem.F.typeCall_list_1 _) PySem.F.entry_list_init
    (code_list_new (s := { s1 with heap := h' }) _ ⟨rfl, rfl⟩) fun obj s₁ h₁ => ?_
  obtain ⟨rfl, rfl⟩ := h₁
  refine ⟨⟨_, hS0, rfl⟩, PySem.F.args_list_init_2 _ _, ?_⟩
  have fr : H1 h'.objs.size = none := I2.hok.fresh (Nat.le_refl _)
  have I3 : Inv X pins σ (upd H1 h'.objs.size (.lst [])) { s1 with heap := h'.push { cls := .type "list", data := .seq #[] } } := I2.lnew (its := []) (t' := s1.toks) .nil (Nat.zero_le _)
  have qB : B + src.length + 3 ≤ h'.objs.size := by omega
  have Z3 : ZN src B 0 (h'.push { cls := .type "list", data := .seq #[] }) := Z.keep hb qB fun c o hc e => Heap.get?_push_of_some _ e
  generalize hq : h'.objs.size = qq at *
  generalize hH3 : h'.push { cls := .type "list", data := .seq #[] } = h3 at *
  show wpAny _ _ (do let old ← Builtin.List.listItems (.ref qq); Builtin.List.listUpdate (.ref qq) (fun _ => #[]); letGo old.toList.reverse; Builtin.List.listExtendWith (.ref qq) (.ref (B + src.length + 2)) .none) _ _ _
  refine wpAny_bind ?_
  unfold Builtin.List.listItems
  refine wpAny_bind (wpAny_seqItems (s := { s1 with heap := h3 }) hS0 rfl (wpAny_pure ?_))
  show wpAny _ _ (updateSeq qq (fun _ => #[]) >>= fun _ => letGo (#[] : Array Value).toList.reverse >>= fun _ => Builtin.List.listExtendWith (.ref qq) (.ref (B + src.length + 2)) .none) _ _ _
  refine wpAny_bind (wpAny_updateSeq (s := { s1 with heap := h3 }) hS0 rfl ?_)
  have I4 := I3.lset (f := fun _ => #[]) (its := []) (its' := []) (ys := []) (t' := s1.toks) upd_same hS0 rfl .nil (Nat.zero_le _)
  rw [upd_upd] at I4
  have Z4 : ZN src B 0 (h3.update qq (Obj.mapSeq fun _ => #[])) := Z3.keep hb qB fun c o hc e => (Heap.get?_update_other _ _ (Ne.symm hc)).trans e
  refine wpAny_bind (wpAny_letGo ?_)
  have fin : ∀ (s5 : Shared), Inv X pins σ (upd H1 qq (.lst [])) s5 → ZN src B 0 s5.heap → codeAny (model X.prog X.w) X.A.in1 (.builtin "list.extend.loop" ⟨[.ref qq, .ref (B + src.length + 2), .none], []⟩) (wants (fun r s₂ => r = .none ∧ EP X pins σ Q (.ref qq) s₂) X.xe) s5 := fun s5 I5 Z5 => by
    refine zl_loop (A1 := X.A.in1) (H1 := H1) (I5.ok.hd hc) hb h0 hn hsN hN sv qB (fun Ts H2 s6 I6 M6 => ⟨rfl, .ref qq, H2, I6, rfl, q1 qq Ts H2 fr M6⟩) N 0 [] _ s5 (by omega) I5 ⟨rfl, upd_same, fun i T h => (by simp at h), fun a h1 h2 => upd_ne h1⟩ Z5 fun c h1 h2 => ?_
    have hc' := fp c h1
    exact ⟨by rw [upd_ne (ane (by omega))]; exact hc'.1, hc'.2⟩
  have S4 := Heap.get?_update_self (Obj.mapSeq (fun _ => (#[] : Array Value))) hS0 rfl
  generalize hH4 : h3.update qq (Obj.mapSeq fun _ => #[]) = h4 at *
  unfold Builtin.List.listExtendWith
  refine wpAny_bind (wpAny_typeOf (zn_ty (s := { s1 with heap := h4 }) Z4) ?_)
  have nqz : qq ≠ B + src.length + 2 := by omega
  have h1 : Builtin.List.listSameRef (.ref qq) (.ref (B + src.length + 2)) = false := by simp [Builtin.List.listSameRef, nqz]
  have h2 : (Value.type "zip" == Value.type "list") = false := by decide
  have h3' : (Value.type "zip" == Value.type "tuple") = false := by decide
  simp only [h1, h2, h3', Bool.or_false, Bool.false_eq_true, if_false]
  refine wpAny_bind (iter_zn (s := { s1 with heap := h4 }) Z4 ?_)
  refine wpAny_bind (wpAny_holding ?_)
  unfold Builtin.List.listLengthHint
  refine wpAny_bind (wpAny_specialOf (zn_ty (s := { s1 with heap := h4 }) Z4) zip_no_len' ?_)
  show wpAny _ _ (specialOf (Value.ref (B + src.length + 2)) (Str.ofString "__length_hint__") >>= _) _ _ _
  refine wpAny_bind (wpAny_specialOf (zn_ty (s := { s1 with heap := h4 }) Z4) zip_no_hint' ?_)
  refine wpAny_pure ?_
  show wpAny _ _ (rule "list.extend.makes-room" >>= fun _ => Builtin.List.listTouch (.ref qq) >>= fun _ => again (.builtin "list.extend.loop" ⟨[.ref qq, .ref (B + src.length + 2), .none], []⟩)) _ _ _
  refine wpAny_bind (wpAny_rule ?_)
  refine wpAny_bind ?_
  show wpAny _ _ (updateSeq qq (·.push .none) >>= fun _ => updateSeq qq (·.pop)) _ _ _
  obtain ⟨_, its4, k4, r4, hl4, e4⟩ := I4.lstM upd_same
  have its0 : its4 = [] := List.length_eq_zero_iff.mp (by simpa using hl4.symm)
  subst its0
  refine wpAny_bind (wpAny_updateSeq (s := { s1 with heap := h4 }) e4 rfl ?_)
  have I5 := I4.lset (f := (·.push Value.none)) (its' := [Value.none]) (ys := [.non]) (t' := s1.toks) upd_same e4 (by simp) (.cons rfl .nil) (by rw [List.length_singleton, sizeLine_eq]; decide)
  rw [upd_upd] at I5
  have Z5 : ZN src B 0 (h4.update qq (Obj.mapSeq (·.push Value.none))) := Z4.keep hb qB fun c o hc e => (Heap.get?_update_other _ _ (Ne.symm hc)).trans e
  obtain ⟨_, its5, k5, r5, hl5, e5⟩ := I5.lstM upd_same
  obtain ⟨u5, rfl, ru5⟩ := r5.one
  refine wpAny_updateSeq (s := { s1 with heap := h4.update qq (Obj.mapSeq (·.push Value.none)) }) e5 rfl ?_ (by show 1 ≤ sizeLine; rw [sizeLine_eq]; decide) (by show 0 ≤ sizeLine + 1; exact Nat.zero_le _)
  have I6 := I5.lset (f := (·.pop)) (its := [u5]) (its' := []) (ys := []) (t' := s1.toks) upd_same e5 (by rfl) .nil (Nat.zero_le _)
  rw [upd_upd] at I6
  have Z6 : ZN src B 0 ((h4.update qq (Obj.mapSeq (·.push Value.none))).update qq (Obj.mapSeq (·.pop))) := Z5.keep hb qB fun c o hc e => (Heap.get?_update_other _ _ (Ne.symm hc)).trans e
  exact wpAny_pure ⟨plainId_quiet PySem.F.plain_extend_loop _, fin _ I6 Z6⟩
end LS
end
section
set_option maxRecDepth 100000
set_option maxHeartbeats 2000000
namespace LS
open PySem PySem.Spec L2
section
variable {K : PySem.W.Frag} {mg : Str → Option Value} {G H H2 : Hp} {as : List Addr} {st : Store}
/-- several new objects that stand still -/
theorem Ri.stills {S : Addr → Prop} [DecidablePred S] (R : Ri K mg G H as st) (hn : ∀ a, S a → H a = none) (off : ∀ a, ¬ S a → H2 a = H a) :
    Ri K mg (fun a => if S a then H2 a else G a) H2 as st ∧ Ext G H as (fun a => if S a then H2 a else G a) H2 as := by
  have nS : ∀ a o, H a = some o → ¬ S a := fun a o h s => by rw [hn a s] at h; cases h
  have x : Ext G H as (fun a => if S a then H2 a else G a) H2 as := by
    refine ⟨fun a u h => ?_, List.prefix_refl _, fun a u h _ => ?_, fun a g h => ?_, fun a h h' => absurd h h', fun a h => ?_, fun a u kvs h => ?_⟩
    · show (if S a then H2 a else G a) = _
      rw [if_neg (nS a u (R.sub _ _ h))]; exact h
    · rw [off a (nS a u h)]; exact h
    · show (if S a then H2 a else G a) = _
      rw [if_neg fun s => h (hn a s)]; exact g
    · rw [off a fun s => h (hn a s)]; exact h
    · rw [off a (nS a _ h)]; exact h
  have av : ∀ a ∈ as, ¬ S a := fun a ha s => by
    obtain ⟨i, hi, e⟩ := List.getElem_of_mem ha
    have hi' : i < st.length := by rw [← R.len]; exact hi
    obtain ⟨ho, q, _⟩ := R.obj i a st[i] (by rw [List.getElem?_eq_getElem hi, e]) (List.getElem?_eq_getElem hi')
    rw [hn a s] at q; cases q
  refine ⟨⟨fun a u h => ?_, R.len, R.nd, fun a ha => ?_, fun i a u ha hu => ?_⟩, x⟩
  · replace h : (if S a then H2 a else G a) = some u := h
    by_cases s : S a
    · rw [if_pos s] at h; exact h
    · rw [if_neg s] at h
      rw [off a s]; exact R.sub _ _ h
  · show (if S a then H2 a else G a) = none
    rw [if_neg (av a ha)]; exact R.out a ha
  · obtain ⟨ho, q, r⟩ := R.obj i a u ha hu
    refine ⟨ho, ?_, r.ext x⟩
    rw [off a (av a (List.mem_of_getElem? ha))]; exact q
theorem RpA.of_get : ∀ {vs : List V} {ds : List D}, vs.length = ds.length → (∀ (i : Nat) v d, vs[i]? = some v → ds[i]? = some d → Rp K mg G as v d) → RpA K mg G as vs ds
  | [], [], _, _ => .nil
  | [], _ :: _, h, _ => by simp at h
  | _ :: _, [], h, _ => by simp at h
  | v :: vs, d :: ds, h, q => .cons (q 0 v d rfl rfl) (RpA.of_get (by simpa using h) fun i v' d' h1 h2 => q (i + 1) v' d' (by simpa using h1) (by simpa using h2))
theorem RpA.getDR {vs : List V} {ds : List D} (r : RpA K mg G as vs ds) (i : Nat) : Rp K mg G as (vs.getD i .non) (ds.getD i .non) := by
  rw [List.getD_eq_getElem?_getD, List.getD_eq_getElem?_getD]
  by_cases hi : i < ds.length
  · obtain ⟨v, e1, rv⟩ := r.get (List.getElem?_eq_getElem hi)
    rw [e1, List.getElem?_eq_getElem hi]; exact rv
  · rw [List.getElem?_eq_none (by rw [r.len]; omega), List.getElem?_eq_none (by omega)]; exact .non
end
def stills : List D → Option (List (List D))
  | [] => some []
  | d :: r => (match stillOf d, stills r with
    | some xs, some xss => some (xs :: xss)
    | _, _ => none)
def zipAll (N : Nat) (xss : List (List D)) : List D := (List.range N).map fun i => .tup (xss.map fun xs => xs.getD i .non)
section
variable {g : Gb} {F : Fam g} {pos : Pos}
theorem stills_ok {G H : Hp} {as : List Addr} {st : Store} (R : Ri g.K g.mg G H as st) : ∀ {ds : List D} {vs : List V} {xss : List (List D)}, RpA g.K g.mg G as vs ds → stills ds = some xss →
    ∃ ls : LsV, vs = (ls.map fun p => V.ref p.2.1) ∧ (∀ i, RpA g.K g.mg G as (rowV (ls.map (·.2.2)) i) (xss.map fun xs => xs.getD i .non)) ∧ (∀ p ∈ ls, SqK g.K G p) ∧ ls.map (fun p => p.2.2.length) = xss.map List.length
  | [], _, _, r, h => by cases r; cases h; exact ⟨[], rfl, fun _ => .nil, fun p h => absurd h (by simp), rfl⟩
  | d :: ds, _, xss, r, h => by
    cases r with
    | cons a b =>
      unfold stills at h
      split at h
      · rename_i xs ys e1 e2
        cases h
        obtain ⟨ls, rfl, h1, h2, h3⟩ := stills_ok R b e2
        obtain ⟨p, us, rfl, rr, ss⟩ := stillOf_ok R a e1
        rcases ss with ss | ss
        · refine ⟨(true, p, us) :: ls, rfl, fun i => .cons (rr.getDR i) (h1 i), fun q hq => ?_, by simp [h3, rr.len]⟩
          rcases List.mem_cons.mp hq with e | e
          · rw [e]; exact ss
          · exact h2 q e
        · refine ⟨(false, p, us) :: ls, rfl, fun i => .cons (rr.getDR i) (h1 i), fun q hq => ?_, by simp [h3, rr.len]⟩
          rcases List.mem_cons.mp hq with e | e
          · rw [e]; exact ss
          · exact h2 q e
      · cases h
theorem SqK.toH {G H : Hp} {as : List Addr} {st : Store} (R : Ri g.K g.mg G H as st) {p : Bool × Addr × List V} (h : SqK g.K G p) : SqK g.K H p := by
  obtain ⟨b, a, vs⟩ := p
  cases b with
  | true => exact sqL_H R h
  | false => exact sqT_H R h
/-- list(zip(..)), all of one length -/
def xlistZip (n : Nat) (ms : XM (List D)) : XM D := xbind ms fun ds => fun _ st => match stills ds with
  | some xss => if xss.length = n ∧ (xss.headD []).length ≤ LIM ∧ (xss.all fun xs => xs.length == (xss.headD []).length) = true then .ok (.lst (zipAll (xss.headD []).length xss)) st else .stuck
  | none => .stuck
theorem je_listZip {n : Nat} {e : Expr} {es : List Expr} {ms : XM (List D)} {p p2 q : Pos} (za : ZA n) (hg : F.sc.names.lookup ("list" : Str) = some .globalImplicit) (hm : g.mg "list" = none) (hg2 : F.sc.names.lookup ("zip" : Str) = some .globalImplicit) (hm2 : g.mg "zip" = none) (ha : JA F (e :: es) ms) (h0 : 0 < n := by decide) (hn : n ≤ 64 := by decide)
    (na : ∀ env, starEach [Expr.Call (.Name "zip" p2) (e :: es) [] q] env = (false, eval (.Call (.Name "zip" p2) (e :: es) [] q) env) :: starEach [] env := by intro _; rfl) (na2 : ∀ env, starEach (e :: es) env = (false, eval e env) :: starEach es env := by intro _; rfl) (hpl : ∀ env, (backTo q (starEach es env)).any (·.1) = false := by intro _; rfl) :
    JE F (.Call (.Name "list" p) [.Call (.Name "zip" p2) (e :: es) [] q] [] pos) (xlistZip n ms) := by
  obtain ⟨ts, ps, ss⟩ := ha
  refine ⟨fun W => tListZip g.K n (ts W), fun W X mm => ?_, ?_⟩
  · have := pe_listZip (p := p) (p2 := p2) (q := q) (pos := pos) za h0 hn (F.calm mm) (by show X.env.scope.names.lookup _ = _; rw [F.hsc mm]; exact hg) (by rw [F.hmg mm]; exact hm) (by show X.env.scope.names.lookup _ = _; rw [F.hsc mm]; exact hg2) (by rw [F.hmg mm]; exact hm2) (ps W X mm) (na _) (na2 _) (hpl _)
    rw [F.hK mm] at this; exact this
  · intro W G H as st σ e Q R N h
    refine ss.one R N h fun ds st1 vs G1 H1 as1 R1 X1 N1 rvs h1 => ?_
    cases q0 : stills ds with
    | none => simp only [q0] at h1; exact h1.elim
    | some xss =>
      simp only [q0] at h1
      obtain ⟨ls, rfl, hr, hk, hlen⟩ := stills_ok R1 rvs q0
      by_cases hc : xss.length = n ∧ (xss.headD []).length ≤ LIM ∧ (xss.all fun xs => xs.length == (xss.headD []).length) = true
      · rw [if_pos hc] at h1
        obtain ⟨c1, c2, c3⟩ := hc
        have hls : ls.length = n := by
          have := congrArg List.length hlen
          simp only [List.length_map] at this
          omega
        have hN : ∀ p ∈ ls, p.2.2.length = (xss.headD []).length := fun p hp => by
          have hm' : p.2.2.length ∈ xss.map List.length := by
            rw [← hlen]
            exact List.mem_map.mpr ⟨p, hp, rfl⟩
          obtain ⟨xs, hx, ex⟩ := List.mem_map.mp hm'
          rw [← ex]
          exact eq_of_beq (List.all_eq_true.mp c3 xs hx)
        refine ⟨(xss.headD []).length, ls, rfl, hls, lim_le c2, fun p hp => ⟨(hk p hp).toH R1, hN p hp⟩, fun qa Ts H2 hq M => ?_⟩
        have hS : ∀ a, (a = qa ∨ a ∈ Ts) → H1 a = none := fun a s => by
          rcases s with e | s
          · rw [e]; exact hq
          · obtain ⟨j, hj⟩ := List.mem_iff_getElem?.mp s
            exact (M.at_ j a hj).1
        obtain ⟨R2, X2⟩ := R1.stills (S := fun a => a = qa ∨ a ∈ Ts) (H2 := H2) hS fun a s => M.off a (fun e => s (.inl e)) fun m => s (.inr m)
        refine h1 _ _ _ _ R2 X2 (.lst (show (if (qa = qa ∨ qa ∈ Ts) then H2 qa else G1 qa) = _ by rw [if_pos (.inl rfl)]; exact M.lq) ?_)
        refine RpA.of_get (by simp [zipAll, M.len]) fun i v d hv hd => ?_
        rw [List.getElem?_map] at hv
        obtain ⟨T, hT, rfl⟩ := Option.map_eq_some_iff.mp hv
        unfold zipAll at hd
        rw [List.getElem?_map] at hd
        obtain ⟨j, hj, rfl⟩ := Option.map_eq_some_iff.mp hd
        have ej : j = i := by
          have := (List.getElem?_eq_some_iff.mp hj).2
          rw [← this]; simp
        subst ej
        obtain ⟨_, t2, t3⟩ := M.at_ j T hT
        exact .tup (.inl (.inl (show (if (T = qa ∨ T ∈ Ts) then H2 T else G1 T) = _ by rw [if_pos (.inr (List.mem_of_getElem? hT))]; exact t3))) ((hr j).mono X2.sub X2.pre)
      · rw [if_neg hc] at h1; exact h1.elim
end
end LS
end
section
set_option maxRecDepth 100000
set_option maxHeartbeats 2000000
namespace LS
open PySem PySem.Spec L2
/-! ## steps put together by hand (the kernel then need not unfold) -/
section
variable {e e1 : Nv} {s0 s1 s2 : Store}
theorem cons_ok {m : XM D} {ms : XM (List D)} {x : D} {xs : List D} (h : m e s0 = .ok x s1) (h2 : ms e s1 = .ok xs s2) : xcons m ms e s0 = .ok (x :: xs) s2 := by
  rw [ap_cons, ap_bind, h]
  simp only [ap_bind, h2, ap_pure]
theorem nil_ok : (xpure ([] : List D)) e s0 = .ok [] s0 := rfl
theorem one_ok {m : XM D} {x : D} (h : m e s0 = .ok x s1) : xcons m (xpure []) e s0 = .ok [x] s1 := cons_ok h nil_ok
theorem two_ok {m m2 : XM D} {x y : D} (h : m e s0 = .ok x s1) (h2 : m2 e s1 = .ok y s2) : xcons m (xcons m2 (xpure [])) e s0 = .ok [x, y] s2 := cons_ok h (one_ok h2)
theorem call_of {f : List D → XM D} {ms : XM (List D)} {ds : List D} {r : RX D} (h : ms e s0 = .ok ds s1) (h2 : f ds e s1 = r) : xcall f ms e s0 = r := by
  rw [ap_call, h]
  exact h2
theorem op_of {f : D → D → XM D} {a b : XM D} {x y : D} {r : RX D} (h : a e s0 = .ok x s1) (h2 : b e s1 = .ok y s2) (h3 : f x y e s2 = r) : xop f a b e s0 = r := by
  rw [ap_op, ap_bind, h]
  simp only [ap_bind, h2]
  exact h3
theorem bool_of {m : XM D} {b : Bool} (h : m e s0 = .ok (.bl b) s1) : xbool m e s0 = .ok b s1 := by rw [ap_bool, h]
theorem fn_of {n : Nat} {f : DF} {ms : XM (List D)} {ds : List D} {r : RX D} (h : ms e s0 = .ok ds s1) (hl : ds.length = n) (h2 : callD f ds e s1 = r) : xfn n f ms e s0 = r := by
  rw [ap_fn, h]
  simp only [hl, if_true]
  exact h2
theorem fnK_of {n l : Nat} {ix : List Nat} {f : DF} {ms mk : XM (List D)} {ds zs : List D} {r : RX D} (h : ms e s0 = .ok ds s1) (hk : mk e s1 = .ok zs s2) (hl : ds.length = n ∧ zs.length = l) (h2 : callD f (pick .non (ds ++ zs) ix) e s2 = r) : xfnK n ix l f ms mk e s0 = r := by
  rw [ap_fnK, h]
  simp only [hk]
  rw [if_pos hl]
  exact h2
theorem tup_ok {ms : XM (List D)} {xs : List D} (h : ms e s0 = .ok xs s1) (hl : xs.length ≤ LIM) : xtup ms e s0 = .ok (.tup xs) s1 := by
  rw [ap_tup, h]
  simp only [hl, if_true]
theorem lst_ok {ms : XM (List D)} {xs : List D} (h : ms e s0 = .ok xs s1) (hl : xs.length ≤ LIM) : xlst ms e s0 = .ok (.lst xs) s1 := by
  rw [ap_lst, h]
  simp only [hl, if_true]
theorem walk_of {m : XM D} {d : D} {r : List D × Option Nat} (h : m e s0 = .ok d s1) (h2 : seqSrc s1 d = some r) : xwalk m e s0 = .ok r s1 := by
  rw [ap_walk, h]
  simp only [h2]
theorem range1_of {m : XM D} {j : Int} (h : m e s0 = .ok (.int j) s1) (hr : rngB j = true) : xrange1 m e s0 = .ok (rangeL 0 j.toNat, none) s1 := by
  rw [ap_range1, h]
  simp only [hr, if_true]
theorem comp_of {mi : XM (List D × Option Nat)} {vs : List Nat} {g : MG} {mt : XM Bool} {me : XM D} {xs ds : List D} {src : Option Nat} (hi : mi e s0 = .ok (xs, src) s1) (hc : cloop src xs g mt me (wipeE e vs) xs [] s1 = .ok ds s2) : xcomp mi vs g mt me e s0 = .ok (.lst ds) s2 := by
  rw [ap_comp, hi]
  simp only [hc]
theorem for_of {mi : XM (List D × Option Nat)} {g : MG} {b : SM} {xs : List D} {src : Option Nat} {r : RS} (hi : mi e s0 = .ok (xs, src) s1) (h : sloop src xs g b xs e s1 = r) : sfor mi g b e s0 = r := by
  rw [ap_for, hi]
  exact h
theorem if_t {c : XM Bool} {m n : XM D} {r : RX D} (h : c e s0 = .ok true s1) (h2 : m e s1 = r) : xif c m n e s0 = r := by
  rw [ap_if, h]
  exact h2
theorem if_f {c : XM Bool} {m n : XM D} {r : RX D} (h : c e s0 = .ok false s1) (h2 : n e s1 = r) : xif c m n e s0 = r := by
  rw [ap_if, h]
  exact h2
theorem drop_ok {m : XM D} {d : D} (h : m e s0 = .ok d s1) : sdrop m e s0 = .nx e s1 := by rw [ap_drop, h]
theorem asg_ok {m : XM D} {g : MG} {d : D} (h : m e s0 = .ok d s1) (h2 : g d e s1 = some (e1, s2)) : sasg m g e s0 = .nx e1 s2 := by
  rw [ap_asg, h]
  simp only [h2]
theorem seq_of {m n : SM} {r : RS} (h : m e s0 = .nx e1 s1) (h2 : n e1 s1 = r) : sseq m n e s0 = r := by
  rw [seq_nx h]
  exact h2
theorem sloop_of {src : Option Nat} {items : List D} {gt : MG} {body : SM} {x : D} {r : List D} {e2 : Nv} {o : RS} (hs : srcOk src items s0 = true) (h1 : gt x e s0 = some (e1, s1)) (h2 : body e1 s1 = .nx e2 s2) (h3 : sloop src items gt body r e2 s2 = o) : sloop src items gt body (x :: r) e s0 = o := by
  rw [sloop_cons hs h1 h2]
  exact h3
theorem while_f {c : XM Bool} {b : SM} {n : Nat} (h : c e s0 = .ok false s1) : swhile c b (n + 1) e s0 = .nx e s1 := by
  unfold swhile sbindB
  rw [h]
  rfl
theorem while_t {c : XM Bool} {b : SM} {n : Nat} {r : RS} (h : c e s0 = .ok true s1) (h2 : b e s1 = .nx e1 s2) (h3 : swhile c b n e1 s2 = r) : swhile c b (n + 1) e s0 = r := by
  unfold swhile sbindB
  rw [h]
  simp only [if_true, h2]
  exact h3
end
end LS
end
section
set_option maxRecDepth 100000
set_option maxHeartbeats 2000000
namespace LS
open PySem PySem.Spec L2
/-! ## equal with itself -/
mutual
theorem okD_py : ∀ (n : Nat) (d : D), okD n d = true → ∃ p, pyD d = some p ∧ PyData.canLay0 p = true ∧ PyData.depth p ≤ n ∧ PyData.eqv p p = true
  | 0, _, h => by simp [okD] at h
  | n + 1, .non, _ => ⟨.none, rfl, rfl, by simp [PyData.depth], by simp [PyData.eqv]⟩
  | n + 1, .bl b, _ => ⟨.bool b, rfl, rfl, by simp [PyData.depth], by simp [PyData.eqv]⟩
  | n + 1, .int i, _ => ⟨.int i, rfl, rfl, by simp [PyData.depth], by simp [PyData.eqv]⟩
  | n + 1, .str s, h => by
    have : s.cps.all (· < 0x110000) = true := by simpa [okD] using h
    exact ⟨.str s, rfl, by simp [PyData.canLay0, PyData.strOk, this], by simp [PyData.depth], by simp [PyData.eqv]⟩
  | n + 1, .tup xs, h => by
    have h' : xs.length ≤ LIM ∧ xs.all (okD n) = true := by simpa [okD] using h
    obtain ⟨ps, h1, h2, h3, h4⟩ := okDs_py n xs h'.2
    exact ⟨.tuple ps, by simp [pyD, h1], by simp [PyData.canLay0, h2], by simp [PyData.depth]; omega, by simp [PyData.eqv, h4]⟩
  | n + 1, .lst xs, h => by
    have h' : xs.length ≤ LIM ∧ xs.all (okD n) = true := by simpa [okD] using h
    obtain ⟨ps, h1, h2, h3, h4⟩ := okDs_py n xs h'.2
    exact ⟨.list ps, by simp [pyD, h1], by simp [PyData.canLay0, h2], by simp [PyData.depth]; omega, by simp [PyData.eqv, h4]⟩
  | n + 1, .ty _, h => by simp [okD] at h
  | n + 1, .glo _, h => by simp [okD] at h
  | n + 1, .sq _, h => by simp [okD] at h
  | n + 1, .ref _, h => by simp [okD] at h
  | n + 1, .tpz _, h => by simp [okD] at h
theorem okDs_py : ∀ (n : Nat) (ds : List D), ds.all (okD n) = true → ∃ ps, pyDs ds = some ps ∧ PyData.canLayAll0 ps = true ∧ PyData.depthAll ps ≤ n ∧ PyData.eqvAll ps ps = true
  | n, [], _ => ⟨[], rfl, rfl, by simp [PyData.depthAll], by simp [PyData.eqvAll]⟩
  | n, d :: ds, h => by
    have h' : okD n d = true ∧ ds.all (okD n) = true := by simpa using h
    obtain ⟨p, a1, a2, a3, a4⟩ := okD_py n d h'.1
    obtain ⟨ps, b1, b2, b3, b4⟩ := okDs_py n ds h'.2
    exact ⟨p :: ps, by simp [pyDs, a1, b1], by simp [PyData.canLayAll0, a2, b2], by simp [PyData.depthAll]; omega, by simp [PyData.eqvAll, a4, b4]⟩
end
theorem eqO_refl {n : Nat} {d : D} (st : Store) (hn : n ≤ 64) (h : okD n d = true) : eqO st d d = some true := by
  obtain ⟨p, h1, h2, h3, h4⟩ := okD_py n d h
  have hp : pyOf st d = some p := by
    cases d with
    | ref _ => cases n <;> simp [okD] at h
    | _ => exact h1
  have sh : SeqAt.shaped p = true := by
    unfold SeqAt.shaped
    rw [h2, Bool.true_and]
    exact decide_eq_true (by omega)
  unfold eqO
  simp [hp, sh, h4]
theorem okD_mono : ∀ {n : Nat} {d : D}, okD n d = true → okD (n + 1) d = true
  | 0, _, h => by simp [okD] at h
  | n + 1, d, h => by
    have all : ∀ xs : List D, xs.all (okD n) = true → xs.all (okD (n + 1)) = true := fun xs q => by
      rw [List.all_eq_true] at q ⊢
      exact fun x hx => okD_mono (q x hx)
    cases d with
    | tup xs =>
      have h' : xs.length ≤ LIM ∧ xs.all (okD n) = true := by simpa [okD] using h
      exact okD_tup h'.1 (all xs h'.2)
    | lst xs =>
      have h' : xs.length ≤ LIM ∧ xs.all (okD n) = true := by simpa [okD] using h
      exact okD_lst h'.1 (all xs h'.2)
    | str s => simpa [okD] using h
    | _ => first | rfl | (simp [okD] at h)
end LS
end
section
set_option maxHeartbeats 2000000
namespace SA
/-! # the rows' own law (Sparre Andersen), over any items with a worth -/
section
variable {α : Type} (f : α → Int)
def tot (l : List α) : Int := (l.map f).sum
/-- how many of the sums behind each are above a -/
def abv : Int → List α → Nat
  | _, [] => 0
  | a, x :: r => (if 0 < a + f x then 1 else 0) + abv (a + f x) r
/-- the highest of the sums, the start among them -/
def hi : List α → Int
  | [] => 0
  | x :: r => max 0 (f x + hi r)
/-- the first place of the highest sum -/
def fst : List α → Nat
  | [] => 0
  | x :: r => if 0 < f x + hi f r then fst r + 1 else 0
def mv : Int → List α → List α → List α
  | _, m, [] => m
  | a, m, x :: r => mv (a + f x) (if 0 < a + f x then x :: m else m ++ [x]) r
def moved (l : List α) : List α := mv f 0 [] l
@[simp] theorem tot_nil : tot f [] = 0 := rfl
@[simp] theorem tot_cons (x : α) (r : List α) : tot f (x :: r) = f x + tot f r := by simp [tot]
@[simp] theorem tot_app (l r : List α) : tot f (l ++ r) = tot f l + tot f r := by simp [tot]
theorem hi_nn : ∀ l : List α, 0 ≤ hi f l
  | [] => Int.le_refl _
  | x :: r => by simp only [hi]; omega
theorem hi_tot : ∀ l : List α, tot f l ≤ hi f l
  | [] => Int.le_refl _
  | x :: r => by have := hi_tot r; simp only [hi, tot_cons]; omega
theorem hi_snoc : ∀ (l : List α) (x : α), hi f (l ++ [x]) = max (hi f l) (tot f l + f x)
  | [], x => by simp [hi]
  | y :: r, x => by
    have := hi_snoc r x
    simp only [List.cons_append, hi, this, tot_cons]
    omega
/-- a last number that does not lift the highest keeps the place -/
theorem fst_low : ∀ (l : List α) (x : α), tot f l + f x ≤ hi f l → fst f (l ++ [x]) = fst f l
  | [], x, h => by
    simp [hi] at h
    have : ¬ 0 < f x := by omega
    simp [fst, hi, this]
  | y :: r, x, h => by
    have e := hi_snoc f r x
    simp only [List.cons_append, fst, e]
    simp only [hi, tot_cons] at h
    by_cases h2 : 0 < f y + hi f r
    · have h3 : 0 < f y + max (hi f r) (tot f r + f x) := by omega
      rw [if_pos h2, if_pos h3, fst_low r x (by omega)]
    · have h3 : ¬ 0 < f y + max (hi f r) (tot f r + f x) := by omega
      rw [if_neg h2, if_neg h3]
theorem abv_snoc : ∀ (l : List α) (a : Int) (x : α), abv f a (l ++ [x]) = abv f a l + (if 0 < a + tot f l + f x then 1 else 0)
  | [], a, x => by simp [abv]
  | y :: r, a, x => by
    have := abv_snoc r (a + f y) x
    simp only [List.cons_append, abv, this, tot_cons]
    rw [show a + f y + tot f r + f x = a + (f y + tot f r) + f x by omega]
    omega
theorem abv_le : ∀ (l : List α) (a : Int), abv f a l ≤ l.length
  | [], _ => Nat.le_refl _
  | y :: r, a => by have := abv_le r (a + f y); simp only [abv, List.length_cons]; split <;> omega
theorem mv_snoc : ∀ (l : List α) (a : Int) (m : List α) (x : α), mv f a m (l ++ [x]) = if 0 < a + tot f l + f x then x :: mv f a m l else mv f a m l ++ [x]
  | [], a, m, x => by simp [mv]
  | y :: r, a, m, x => by
    have := mv_snoc r (a + f y) (if 0 < a + f y then y :: m else m ++ [y]) x
    simp only [List.cons_append, mv, this, tot_cons]
    rw [show a + f y + tot f r + f x = a + (f y + tot f r) + f x by omega]
theorem moved_snoc (l : List α) (x : α) : moved f (l ++ [x]) = if 0 < tot f l + f x then x :: moved f l else moved f l ++ [x] := by
  have := mv_snoc f l 0 [] x
  simpa [moved] using this
theorem moved_perm (l : List α) : (moved f l).Perm l := by
  suffices h : ∀ n (l : List α), l.length = n → (moved f l).Perm l from h _ l rfl
  intro n
  induction n with
  | zero => intro l h; rw [List.length_eq_zero_iff.mp h]; exact List.Perm.refl _
  | succ n ih =>
    intro l h
    obtain ⟨r, x, rfl⟩ : ∃ r x, l = r ++ [x] := ⟨l.dropLast, l.getLast (by intro z; simp [z] at h), (List.dropLast_concat_getLast _).symm⟩
    have p := ih r (by simpa using h)
    rw [moved_snoc]
    split
    · exact (List.Perm.cons x p).trans (List.perm_append_comm (l₁ := [x]) (l₂ := r))
    · exact p.append_right [x]
theorem perm_tot {a b : List α} (p : a.Perm b) : tot f a = tot f b := by
  induction p with
  | nil => rfl
  | cons x _ ih => simp [ih]
  | swap x y l => simp; omega
  | trans _ _ h1 h2 => rw [h1, h2]
theorem moved_tot (l : List α) : tot f (moved f l) = tot f l := perm_tot f (moved_perm f l)
/-- the first highest of what is moved is how many were above -/
theorem fst_moved (l : List α) : fst f (moved f l) = abv f 0 l := by
  suffices h : ∀ n (l : List α), l.length = n → fst f (moved f l) = abv f 0 l from h _ l rfl
  intro n
  induction n with
  | zero => intro l h; rw [List.length_eq_zero_iff.mp h]; rfl
  | succ n ih =>
    intro l h
    obtain ⟨r, x, rfl⟩ : ∃ r x, l = r ++ [x] := ⟨l.dropLast, l.getLast (by intro z; simp [z] at h), (List.dropLast_concat_getLast _).symm⟩
    have p := ih r (by simpa using h)
    have t := moved_tot f r
    have h1 := hi_tot f (moved f r)
    have h2 := hi_nn f (moved f r)
    rw [moved_snoc, abv_snoc, Int.zero_add]
    by_cases h3 : 0 < tot f r + f x
    · rw [if_pos h3, if_pos h3]
      have h4 : 0 < f x + hi f (moved f r) := by omega
      simp only [fst]
      rw [if_pos h4, p]
    · rw [if_neg h3, if_neg h3, fst_low f _ _ (by omega), p]; rfl
/-- the way back -/
def backN : Nat → List α → List α
  | 0, _ => []
  | _ + 1, [] => []
  | n + 1, x :: r => if 0 < tot f (x :: r) then backN n r ++ [x] else backN n ((x :: r).dropLast) ++ [(x :: r).getLast (by simp)]
def back (l : List α) : List α := backN f l.length l
theorem moved_back (l : List α) : moved f (back f l) = l := by
  suffices h : ∀ n (l : List α), l.length = n → moved f (backN f n l) = l from h _ l rfl
  intro n
  induction n with
  | zero => intro l h; rw [List.length_eq_zero_iff.mp h]; rfl
  | succ n ih =>
    intro l h
    match l, h with
    | x :: r, h =>
      have e1 := ih r (by simpa using h)
      have e2 := ih ((x :: r).dropLast) (by simpa using h)
      have t1 := moved_tot f (backN f n r)
      have t2 := moved_tot f (backN f n ((x :: r).dropLast))
      rw [e1] at t1
      rw [e2] at t2
      have ed : (x :: r).dropLast ++ [(x :: r).getLast (by simp)] = x :: r := List.dropLast_concat_getLast _
      have td : tot f (x :: r) = tot f ((x :: r).dropLast) + f ((x :: r).getLast (by simp)) := by
        have := congrArg (tot f) ed
        rw [tot_app] at this
        simp at this ⊢
        omega
      unfold backN
      by_cases h0 : 0 < tot f (x :: r)
      · rw [if_pos h0, moved_snoc, if_pos (by rw [← t1]; simp at h0; omega), e1]
      · rw [if_neg h0, moved_snoc, if_neg (by rw [← t2]; omega), e2, ed]
theorem back_moved (l : List α) : back f (moved f l) = l := by
  suffices h : ∀ n (l : List α), l.length = n → backN f n (moved f l) = l by
    have hl : (moved f l).length = l.length := (moved_perm f l).length_eq
    unfold back; rw [hl]; exact h _ l rfl
  intro n
  induction n with
  | zero => intro l h; rw [List.length_eq_zero_iff.mp h]; rfl
  | succ n ih =>
    intro l h
    obtain ⟨r, x, rfl⟩ : ∃ r x, l = r ++ [x] := ⟨l.dropLast, l.getLast (by intro z; simp [z] at h), (List.dropLast_concat_getLast _).symm⟩
    have p := ih r (by simpa using h)
    have t := moved_tot f r
    rw [moved_snoc]
    by_cases h0 : 0 < tot f r + f x
    · rw [if_pos h0]
      unfold backN
      rw [if_pos (by simp; omega), p]
    · rw [if_neg h0]
      cases hm : moved f r with
      | nil =>
        rw [hm] at t p
        have : r = [] := by rw [← p]; cases n <;> rfl
        subst this
        simp at h0 ⊢
        unfold backN
        rw [if_neg (by simp; omega)]
        cases n <;> simp [backN]
      | cons y m =>
        have ey : (y :: m ++ [x]).dropLast = y :: m := List.dropLast_concat
        have el : (y :: m ++ [x]).getLast (by simp) = x := List.getLast_concat
        show backN f (n + 1) (y :: (m ++ [x])) = _
        unfold backN
        rw [hm] at t p
        have nt : ¬ 0 < tot f (y :: (m ++ [x])) := by simp at t ⊢; omega
        rw [if_neg nt]
        have e1 : (y :: (m ++ [x])).dropLast = y :: m := ey
        have e2 : (y :: (m ++ [x])).getLast (by simp) = x := el
        rw [e2]
        simp only [e1, p]
theorem moved_inj {a b : List α} (h : moved f a = moved f b) : a = b := by
  rw [← back_moved f a, ← back_moved f b, h]
end
/-- a row that a one-to-one turn keeps within itself is but turned about -/
theorem map_nodup {α : Type} {g : α → α} : ∀ {l : List α}, l.Nodup → (∀ a ∈ l, ∀ b ∈ l, g a = g b → a = b) → (l.map g).Nodup
  | [], _, _ => by simp
  | x :: r, nd, inj => by
    have h := List.nodup_cons.mp nd
    rw [List.map_cons, List.nodup_cons]
    refine ⟨fun hm => ?_, map_nodup h.2 fun a ha b hb => inj a (by simp [ha]) b (by simp [hb])⟩
    obtain ⟨y, hy, e⟩ := List.mem_map.mp hm
    have := inj y (by simp [hy]) x (by simp) e
    subst this
    exact h.1 hy
theorem perm_of_within {α : Type} [DecidableEq α] : ∀ {a b : List α}, a.Nodup → (∀ x ∈ a, x ∈ b) → b.length ≤ a.length → a.Perm b
  | [], b, _, _, h => by
    have : b = [] := List.length_eq_zero_iff.mp (by simpa using h)
    subst this; exact List.Perm.refl _
  | x :: a, b, nd, hs, h => by
    have h1 := List.nodup_cons.mp nd
    have hx : x ∈ b := hs x (by simp)
    have p := List.perm_cons_erase hx
    have hl : (b.erase x).length + 1 = b.length := by have := p.length_eq; simp at this; omega
    have ih := perm_of_within (a := a) (b := b.erase x) h1.2 (fun y hy => (List.mem_erase_of_ne (fun (z : y = x) => h1.1 (z ▸ hy))).mpr (hs y (by simp [hy]))) (by simp at h; omega)
    exact (List.Perm.cons x ih).trans p.symm
theorem turned_perm {α : Type} [DecidableEq α] {g : α → α} {l : List α} (nd : l.Nodup) (inj : ∀ a ∈ l, ∀ b ∈ l, g a = g b → a = b) (into : ∀ a ∈ l, g a ∈ l) : (l.map g).Perm l := by
  refine perm_of_within (map_nodup nd inj) (fun x hx => ?_) (by simp)
  obtain ⟨a, ha, rfl⟩ := List.mem_map.mp hx
  exact into a ha
end SA
end
section
set_option maxHeartbeats 2000000
namespace SA
/-! # sums, places, orders in plain lists -/
section
variable {α : Type} (f : α → Int)
/-- the sums, each behind its start -/
def sm : Int → List α → List Int
  | a, [] => [a]
  | a, x :: r => a :: sm (a + f x) r
theorem sm_len : ∀ (a : Int) (l : List α), (sm f a l).length = l.length + 1
  | _, [] => rfl
  | a, x :: r => by simp [sm, sm_len (a + f x) r]
theorem sm_ne (a : Int) (l : List α) : sm f a l ≠ [] := by cases l <;> simp [sm]
theorem sm_head (a : Int) (l : List α) : ∃ t, sm f a l = a :: t := by cases l <;> exact ⟨_, rfl⟩
/-- how many of the sums behind each are not below 0 -/
def nbl : Int → List α → Nat
  | _, [] => 0
  | a, x :: r => (if 0 ≤ a + f x then 1 else 0) + nbl (a + f x) r
/-- the last place of the highest sum -/
def lst : List α → Nat
  | [] => 0
  | x :: r => if 0 ≤ f x + hi f r then lst r + 1 else 0
theorem lst_le : ∀ l : List α, lst f l ≤ l.length
  | [] => Nat.le_refl _
  | x :: r => by have := lst_le r; simp only [lst, List.length_cons]; split <;> omega
theorem fst_le : ∀ l : List α, fst f l ≤ l.length
  | [] => Nat.le_refl _
  | x :: r => by have := fst_le r; simp only [fst, List.length_cons]; split <;> omega
theorem nbl_le : ∀ (l : List α) (a : Int), nbl f a l ≤ l.length
  | [], _ => Nat.le_refl _
  | y :: r, a => by have := nbl_le r (a + f y); simp only [nbl, List.length_cons]; split <;> omega
/-- each number ten times itself and one -/
def up (x : α) : Int := 10 * f x + 1
theorem hi_up : ∀ l : List α, l.length < 10 → hi (up f) l = 10 * hi f l + lst f l
  | [], _ => rfl
  | x :: r, h => by
    have ih := hi_up r (by simp at h; omega)
    have hl := lst_le f r
    have hr : r.length < 9 := by simp at h; omega
    simp only [hi, lst, ih, up]
    split <;> omega
theorem fst_up : ∀ l : List α, l.length < 10 → fst (up f) l = lst f l
  | [], _ => rfl
  | x :: r, h => by
    have ih := fst_up r (by simp at h; omega)
    have e := hi_up f r (by simp at h; omega)
    have hl := lst_le f r
    have hr : r.length < 9 := by simp at h; omega
    simp only [fst, lst, ih, e, up]
    by_cases c : 0 ≤ f x + hi f r
    · rw [if_pos c, if_pos (by omega)]
    · rw [if_neg c, if_neg (by omega)]
theorem abv_up : ∀ (l : List α) (a : Int) (j : Int), 0 ≤ j → j + l.length < 10 → abv (up f) (10 * a + j) l = nbl f a l
  | [], _, _, _, _ => rfl
  | x :: r, a, j, h0, h => by
    have hl : j + r.length + 1 < 10 := by simp at h; omega
    have e : 10 * a + j + up f x = 10 * (a + f x) + (j + 1) := by simp only [up]; omega
    have ih := abv_up r (a + f x) (j + 1) (by omega) (by omega)
    simp only [abv, nbl, e, ih]
    by_cases c : 0 ≤ a + f x
    · rw [if_pos c, if_pos (by omega)]
    · rw [if_neg c, if_neg (by omega)]
/-! ## places -/
def place (v : Int) : Nat → List Int → List Nat
  | _, [] => []
  | k, x :: r => if x = v then k :: place v (k + 1) r else place v (k + 1) r
theorem place_succ (v : Int) : ∀ (l : List Int) (k : Nat), place v (k + 1) l = (place v k l).map (· + 1)
  | [], _ => rfl
  | x :: r, k => by
    have ih := place_succ v r (k + 1)
    simp only [place]
    split
    · rw [List.map_cons, ih]
    · exact ih
theorem hi_ge : ∀ (l : List α) (a : Int), ∀ x ∈ sm f a l, x ≤ a + hi f l
  | [], a, x, h => by simp [sm] at h; simp [hi, h]
  | y :: r, a, x, h => by
    simp only [sm, List.mem_cons] at h
    have := hi_nn f (y :: r)
    rcases h with rfl | h
    · omega
    · have := hi_ge r (a + f y) x h
      simp only [hi]; omega
theorem hi_in : ∀ (l : List α) (a : Int), a + hi f l ∈ sm f a l
  | [], a => by simp [sm, hi]
  | y :: r, a => by
    have ih := hi_in r (a + f y)
    simp only [sm, hi, List.mem_cons]
    by_cases c : 0 < f y + hi f r
    · right
      rw [show a + max 0 (f y + hi f r) = a + f y + hi f r by omega]; exact ih
    · left; omega
theorem place_none {v : Int} : ∀ {l : List Int} {k : Nat}, (∀ x ∈ l, x ≠ v) → place v k l = []
  | [], _, _ => rfl
  | x :: r, k, h => by
    simp only [place]
    rw [if_neg (h x (by simp)), place_none fun y hy => h y (by simp [hy])]
/-- the first and the last place of the highest sum -/
theorem place_hi : ∀ (l : List α) (a : Int), (place (a + hi f l) 0 (sm f a l)).head? = some (fst f l) ∧ (place (a + hi f l) 0 (sm f a l)).getLast? = some (lst f l)
  | [], a => ⟨by simp [sm, hi, place, fst], by simp [sm, hi, place, lst]⟩
  | y :: r, a => by
    obtain ⟨i1, i2⟩ := place_hi r (a + f y)
    simp only [sm, place, fst, lst, hi]
    rw [place_succ]
    by_cases c : 0 < f y + hi f r
    · have e : a + max 0 (f y + hi f r) = a + f y + hi f r := by omega
      have c2 : 0 ≤ f y + hi f r := by omega
      rw [e, if_neg (by omega), if_pos c, if_pos c2]
      refine ⟨?_, ?_⟩
      · rw [List.head?_map, i1]; rfl
      · rw [List.getLast?_map, i2]; rfl
    · have e : a + max 0 (f y + hi f r) = a := by omega
      rw [e, if_neg c]
      by_cases c2 : 0 ≤ f y + hi f r
      · have e2 : a = a + f y + hi f r := by omega
        rw [if_pos rfl, if_pos c2]
        refine ⟨rfl, ?_⟩
        rw [← e2] at i2
        rw [List.getLast?_cons, List.getLast?_map, i2]; rfl
      · rw [if_pos rfl, if_neg c2, place_none fun x hx => by have := hi_ge f r (a + f y) x hx; omega]
        exact ⟨rfl, rfl⟩
theorem abv_filter : ∀ (l : List α) (a : Int), ((sm f a l).filter fun x => decide (0 < x)).length = (if 0 < a then 1 else 0) + abv f a l
  | [], a => by
    by_cases c : 0 < a <;> simp [sm, abv, c]
  | y :: r, a => by
    have ih := abv_filter r (a + f y)
    simp only [sm, abv]
    by_cases c : 0 < a
    · rw [List.filter_cons_of_pos (by simpa using c), List.length_cons, ih, if_pos c]; omega
    · rw [List.filter_cons_of_neg (by simpa using c), ih, if_neg c]; omega
theorem nbl_filter : ∀ (l : List α) (a : Int), ((sm f a l).filter fun x => decide (0 ≤ x)).length = (if 0 ≤ a then 1 else 0) + nbl f a l
  | [], a => by
    by_cases c : 0 ≤ a <;> simp [sm, nbl, c]
  | y :: r, a => by
    have ih := nbl_filter r (a + f y)
    simp only [sm, nbl]
    by_cases c : 0 ≤ a
    · rw [List.filter_cons_of_pos (by simpa using c), List.length_cons, ih, if_pos c]; omega
    · rw [List.filter_cons_of_neg (by simpa using c), ih, if_neg c]; omega
/-! ## what is moved, in two parts -/
def posP : Int → List α → List α
  | _, [] => []
  | a, x :: r => if 0 < a + f x then x :: posP (a + f x) r else posP (a + f x) r
def negP : Int → List α → List α
  | _, [] => []
  | a, x :: r => if 0 < a + f x then negP (a + f x) r else x :: negP (a + f x) r
theorem mv_parts : ∀ (l : List α) (a : Int) (m : List α), mv f a m l = (posP f a l).reverse ++ m ++ negP f a l
  | [], _, m => by simp [mv, posP, negP]
  | x :: r, a, m => by
    have ih := mv_parts r (a + f x)
    simp only [mv, posP, negP, ih]
    by_cases c : 0 < a + f x
    · rw [if_pos c, if_pos c, if_pos c]; simp
    · rw [if_neg c, if_neg c, if_neg c]; simp
theorem moved_parts (l : List α) : moved f l = (posP f 0 l).reverse ++ negP f 0 l := by
  unfold moved; rw [mv_parts]; simp
end
/-! ## items by their worth -/
section
variable {α β : Type} (g : α → β) (f : β → Int)
theorem map_abv : ∀ (l : List α) (a : Int), abv f a (l.map g) = abv (f ∘ g) a l
  | [], _ => rfl
  | x :: r, a => by simp [abv, map_abv r (a + f (g x))]
theorem map_nbl : ∀ (l : List α) (a : Int), nbl f a (l.map g) = nbl (f ∘ g) a l
  | [], _ => rfl
  | x :: r, a => by simp [nbl, map_nbl r (a + f (g x))]
theorem map_hi : ∀ l : List α, hi f (l.map g) = hi (f ∘ g) l
  | [] => rfl
  | x :: r => by simp [hi, map_hi r]
theorem map_fst : ∀ l : List α, fst f (l.map g) = fst (f ∘ g) l
  | [] => rfl
  | x :: r => by simp [fst, map_fst r, map_hi g f r]
theorem map_lst : ∀ l : List α, lst f (l.map g) = lst (f ∘ g) l
  | [] => rfl
  | x :: r => by simp [lst, map_lst r, map_hi g f r]
end
/-! ## all orders -/
def ext (n : Nat) (L : List (List Nat)) : List (List Nat) := L.flatMap fun o => ((List.range n).filter fun x => !o.contains x).map fun x => o ++ [x]
def ordK (n : Nat) : Nat → List (List Nat)
  | 0 => [[]]
  | k + 1 => ext n (ordK n k)
theorem mem_ordK {n : Nat} : ∀ {k : Nat} {l : List Nat}, l ∈ ordK n k ↔ l.length = k ∧ l.Nodup ∧ ∀ x ∈ l, x < n
  | 0, l => by
    simp only [ordK, List.mem_singleton]
    constructor
    · rintro rfl; simp
    · rintro ⟨h, _⟩; exact List.length_eq_zero_iff.mp h
  | k + 1, l => by
    simp only [ordK, ext, List.mem_flatMap, List.mem_map, List.mem_filter, List.mem_range]
    constructor
    · rintro ⟨o, ho, x, ⟨hx, hc⟩, rfl⟩
      obtain ⟨h1, h2, h3⟩ := mem_ordK.mp ho
      have hn : x ∉ o := by simpa using hc
      refine ⟨by simp [h1], ?_, ?_⟩
      · rw [List.nodup_append]
        refine ⟨h2, by simp, fun a ha b hb => ?_⟩
        have : b = x := by simpa using hb
        subst this
        exact fun e => hn (e ▸ ha)
      · intro y hy
        rcases List.mem_append.mp hy with hy | hy
        · exact h3 y hy
        · have : y = x := by simpa using hy
          omega
    · rintro ⟨h1, h2, h3⟩
      obtain ⟨o, x, rfl⟩ : ∃ o x, l = o ++ [x] := ⟨l.dropLast, l.getLast (by intro z; simp [z] at h1), (List.dropLast_concat_getLast _).symm⟩
      rw [List.nodup_append] at h2
      refine ⟨o, mem_ordK.mpr ⟨by simpa using h1, h2.1, fun y hy => h3 y (by simp [hy])⟩, x, ⟨h3 x (by simp), ?_⟩, rfl⟩
      have : x ∉ o := fun hx => h2.2.2 x hx x (by simp) rfl
      simpa using this
theorem perm_mem {n k : Nat} {a b : List Nat} (p : a.Perm b) (h : a ∈ ordK n k) : b ∈ ordK n k := by
  obtain ⟨h1, h2, h3⟩ := mem_ordK.mp h
  exact mem_ordK.mpr ⟨p.length_eq ▸ h1, p.nodup h2, fun x hx => h3 x (p.mem_iff.mpr hx)⟩
end SA
end
section
set_option maxHeartbeats 2000000
namespace SA
/-! # counts over all orders -/
theorem nodup_ordK (n : Nat) : ∀ k, (ordK n k).Nodup
  | 0 => by simp [ordK]
  | k + 1 => by
    unfold ordK ext
    show List.Pairwise _ _
    rw [List.pairwise_flatMap]
    refine ⟨fun o ho => ?_, ?_⟩
    · rw [List.pairwise_map]
      have : ((List.range n).filter fun x => !o.contains x).Nodup := List.Pairwise.filter _ List.nodup_range
      refine List.Pairwise.imp (fun {a b} h e => ?_) this
      have := List.append_cancel_left e
      simp at this
      exact h this
    · refine List.Pairwise.imp (fun {a b} h x hx y hy e => ?_) (nodup_ordK n k)
      obtain ⟨p, _, rfl⟩ := List.mem_map.mp hx
      obtain ⟨q, _, rfl⟩ := List.mem_map.mp hy
      have := congrArg List.dropLast e
      simp at this
      exact h this
theorem perm_abv_fst (n : Nat) (v : Nat → Int) : ((ordK n n).map fun o => abv v 0 o).Perm ((ordK n n).map fun o => fst v o) := by
  have p : ((ordK n n).map (moved v)).Perm (ordK n n) := turned_perm (nodup_ordK n n) (fun a _ b _ h => moved_inj v h) fun a ha => perm_mem (moved_perm v a).symm ha
  have e : ((ordK n n).map fun o => abv v 0 o) = ((ordK n n).map (moved v)).map fun o => fst v o := by
    rw [List.map_map]
    exact List.map_congr_left fun o _ => (fst_moved v o).symm
  rw [e]
  exact p.map _
theorem perm_nbl_lst (n : Nat) (hn : n < 10) (v : Nat → Int) : ((ordK n n).map fun o => nbl v 0 o).Perm ((ordK n n).map fun o => lst v o) := by
  have p := perm_abv_fst n (up v)
  have hl : ∀ o ∈ ordK n n, o.length < 10 := fun o ho => by have := (mem_ordK.mp ho).1; omega
  have e1 : ((ordK n n).map fun o => abv (up v) 0 o) = (ordK n n).map fun o => nbl v 0 o := List.map_congr_left fun o ho => by
    have := abv_up v o 0 0 (Int.le_refl _) (by have := hl o ho; omega)
    simpa using this
  have e2 : ((ordK n n).map fun o => fst (up v) o) = (ordK n n).map fun o => lst v o := List.map_congr_left fun o ho => fst_up v o (hl o ho)
  rw [e1, e2] at p
  exact p
/-! ## most, least -/
theorem dom : ∀ {d l : List Int}, d.Pairwise (fun a b => b ≤ a) → l.Perm d → ∀ k, (l.take k).sum ≤ (d.take k).sum
  | [], l, _, p, k => by rw [List.perm_nil.mp p]; exact Int.le_refl _
  | x :: d, l, h, p, k => by
    have hx : x ∈ l := p.symm.subset (by simp)
    obtain ⟨l1, l2, rfl⟩ := List.append_of_mem hx
    have hp := List.pairwise_cons.mp h
    have p' : (l1 ++ l2).Perm d := (List.perm_cons x).mp (List.perm_middle.symm.trans p)
    cases k with
    | zero => simp
    | succ k =>
      have ih := dom hp.2 p' k
      rw [List.take_succ_cons, List.sum_cons]
      by_cases hk : k + 1 ≤ l1.length
      · rw [List.take_append_of_le_length hk]
        rw [List.take_append_of_le_length (by omega)] at ih
        rw [List.take_add_one, List.getElem?_eq_getElem (by omega), List.sum_append]
        have : l1[k] ≤ x := hp.1 _ (p'.subset (by simp))
        simp
        omega
      · obtain ⟨j, hj⟩ : ∃ j, k = l1.length + j := ⟨k - l1.length, by omega⟩
        subst hj
        rw [show l1.length + j + 1 = l1.length + (j + 1) by omega, List.take_length_add_append, List.sum_append, List.take_succ_cons, List.sum_cons]
        rw [List.take_length_add_append, List.sum_append] at ih
        omega
theorem abv_mono : ∀ {l m : List Int} {a b : Int}, l.length = m.length → (∀ k, k ≤ l.length → a + (l.take k).sum ≤ b + (m.take k).sum) → abv id a l ≤ abv id b m
  | [], [], _, _, _, _ => Nat.le_refl _
  | [], _ :: _, _, _, h, _ => by simp at h
  | _ :: _, [], _, _, h, _ => by simp at h
  | x :: l, y :: m, a, b, hl, h => by
    have ih := abv_mono (l := l) (m := m) (a := a + id x) (b := b + id y) (by simpa using hl) fun k hk => by
      have := h (k + 1) (by simp; omega)
      simp only [List.take_succ_cons, List.sum_cons] at this
      simp only [id]; omega
    have h1 := h 1 (by simp)
    simp at h1
    simp only [abv, id] at *
    by_cases c : 0 < a + x
    · rw [if_pos c, if_pos (by omega)]; omega
    · rw [if_neg c]; omega
theorem abv_most {d l : List Int} (h : d.Pairwise (fun a b => b ≤ a)) (p : l.Perm d) : abv id 0 l ≤ abv id 0 d :=
  abv_mono p.length_eq fun k _ => by have := dom h p k; omega
theorem sum_neg : ∀ l : List Int, (l.map fun x => -x).sum = -l.sum
  | [] => rfl
  | x :: r => by simp [sum_neg r]; omega
theorem abv_least {d l : List Int} (h : d.Pairwise (fun a b => a ≤ b)) (p : l.Perm d) : abv id 0 d ≤ abv id 0 l := by
  refine abv_mono p.length_eq.symm fun k _ => ?_
  have h2 : (d.map fun x => -x).Pairwise (fun a b => b ≤ a) := by
    rw [List.pairwise_map]
    exact h.imp fun {a b} q => by omega
  have := dom h2 (p.map fun x => -x) k
  rw [← List.map_take, ← List.map_take, sum_neg, sum_neg] at this
  omega
/-! ## rows in all orders -/
def rowO (ns : List Int) (o : List Nat) : List Int := o.map fun i => ns.getD i 0
theorem rowO_abv (ns : List Int) (o : List Nat) (a : Int) : abv id a (rowO ns o) = abv (fun i => ns.getD i 0) a o := map_abv (fun i => ns.getD i 0) id o a
theorem rowO_nbl (ns : List Int) (o : List Nat) (a : Int) : nbl id a (rowO ns o) = nbl (fun i => ns.getD i 0) a o := map_nbl (fun i => ns.getD i 0) id o a
theorem rowO_fst (ns : List Int) (o : List Nat) : fst id (rowO ns o) = fst (fun i => ns.getD i 0) o := map_fst (fun i => ns.getD i 0) id o
theorem rowO_lst (ns : List Int) (o : List Nat) : lst id (rowO ns o) = lst (fun i => ns.getD i 0) o := map_lst (fun i => ns.getD i 0) id o
theorem rowO_id (ns : List Int) : rowO ns (List.range ns.length) = ns := by
  refine List.ext_getElem (by simp [rowO]) fun i h1 h2 => ?_
  simp [rowO, h2]
theorem ord_perm {n : Nat} {o : List Nat} (h : o ∈ ordK n n) : o.Perm (List.range n) := by
  obtain ⟨h1, h2, h3⟩ := mem_ordK.mp h
  exact perm_of_within h2 (fun x hx => by simpa using h3 x hx) (by simp [h1])
theorem rowO_perm {ns : List Int} {o : List Nat} (h : o ∈ ordK ns.length ns.length) : (rowO ns o).Perm ns := by
  have := (ord_perm h).map fun i => ns.getD i 0
  have e := rowO_id ns
  unfold rowO at e
  rw [e] at this
  exact this
/-- each turning about of the numbers is one of the orders -/
theorem perm_rowO {n : Nat} {v : Nat → Int} : ∀ {l : List Int} {o : List Nat}, l.Perm (o.map v) → ∃ o' : List Nat, o'.Perm o ∧ o'.map v = l
  | [], o, p => by
    have : o = [] := by simpa using (List.nil_perm.mp p)
    subst this; exact ⟨[], List.Perm.refl _, rfl⟩
  | x :: l, o, p => by
    have hx : x ∈ o.map v := p.subset (by simp)
    obtain ⟨i, hi, e⟩ := List.mem_map.mp hx
    obtain ⟨o1, o2, rfl⟩ := List.append_of_mem hi
    have p2 : (x :: l).Perm (x :: (o1 ++ o2).map v) := by
      refine p.trans ?_
      rw [List.map_append, List.map_cons, e, List.map_append]
      exact List.perm_middle
    obtain ⟨o', h1, h2⟩ := perm_rowO (n := n) ((List.perm_cons x).mp p2)
    exact ⟨i :: o', (List.Perm.cons i h1).trans List.perm_middle.symm, by simp [h2, e]⟩
theorem ord_of_perm {ns l : List Int} (p : l.Perm ns) : ∃ o ∈ ordK ns.length ns.length, rowO ns o = l := by
  have e := rowO_id ns
  obtain ⟨o, h1, h2⟩ := perm_rowO (n := ns.length) (v := fun i => ns.getD i 0) (l := l) (o := List.range ns.length) (by unfold rowO at e; rw [e]; exact p)
  refine ⟨o, perm_mem h1.symm ?_, h2⟩
  exact mem_ordK.mpr ⟨by simp, List.nodup_range, fun x hx => by simpa using hx⟩
end SA
end
section
set_option maxRecDepth 100000
set_option maxHeartbeats 2000000
namespace LS
open PySem PySem.Spec L2
/-! ## the defs: mirrors and derivations (printed by gen.py) -/
structure GF (g : Gb) : Prop where
  b_abs : g.mg "abs" = none
  b_all : g.mg "all" = none
  b_bool : g.mg "bool" = none
  b_divmod : g.mg "divmod" = none
  b_enumerate : g.mg "enumerate" = none
  b_int : g.mg "int" = none
  b_isinstance : g.mg "isinstance" = none
  b_len : g.mg "len" = none
  b_list : g.mg "list" = none
  b_max : g.mg "max" = none
  b_min : g.mg "min" = none
  b_range : g.mg "range" = none
  b_set : g.mg "set" = none
  b_sorted : g.mg "sorted" = none
  b_str : g.mg "str" = none
  b_sum : g.mg "sum" = none
  b_tuple : g.mg "tuple" = none
  b_zip : g.mg "zip" = none
  c_MOST_NUMBERS : ∃ t, g.mg "MOST_NUMBERS" = some (.int (8) t)
  c_MOST_ORDERED : ∃ t, g.mg "MOST_ORDERED" = some (.int (6) t)
  c_MOST_SIZE : ∃ t, g.mg "MOST_SIZE" = some (.int (9) t)
  v_permutations : g.mg "permutations" = some (.type "itertools.permutations")
  d_u_law_orders : ∃ f fd, g.mg "_law_orders" = some (.ref f) ∧ FunD g.K "_law_orders" "_law_orders" (defArgs (top 68)) (defBody (top 68)) (defScope (top 68)) [] [] f fd
  d_u_law_sums : ∃ f fd, g.mg "_law_sums" = some (.ref f) ∧ FunD g.K "_law_sums" "_law_sums" (defArgs (top 67)) (defBody (top 67)) (defScope (top 67)) [] [] f fd
  d_u_law_counts : ∃ f fd, g.mg "_law_counts" = some (.ref f) ∧ FunD g.K "_law_counts" "_law_counts" (defArgs (top 69)) (defBody (top 69)) (defScope (top 69)) [] [] f fd
  d_u_law_draw : ∃ f fd, g.mg "_law_draw" = some (.ref f) ∧ FunD g.K "_law_draw" "_law_draw" (defArgs (top 63)) (defBody (top 63)) (defScope (top 63)) [] [] f fd
  d_is_whole : ∃ f fd, g.mg "is_whole" = some (.ref f) ∧ FunD g.K "is_whole" "is_whole" (defArgs (top 8)) (defBody (top 8)) (defScope (top 8)) [] [] f fd
  d_is_between : ∃ f fd, g.mg "is_between" = some (.ref f) ∧ FunD g.K "is_between" "is_between" (defArgs (top 9)) (defBody (top 9)) (defScope (top 9)) [] [] f fd
  d_is_number : ∃ f fd, g.mg "is_number" = some (.ref f) ∧ FunD g.K "is_number" "is_number" (defArgs (top 14)) (defBody (top 14)) (defScope (top 14)) [] [] f fd
  d_wrong_in_row : ∃ f fd, g.mg "wrong_in_row" = some (.ref f) ∧ FunD g.K "wrong_in_row" "wrong_in_row" (defArgs (top 15)) (defBody (top 15)) (defScope (top 15)) [] [] f fd
  d_check_row : ∃ f fd, g.mg "check_row" = some (.ref f) ∧ FunD g.K "check_row" "check_row" (defArgs (top 30)) (defBody (top 30)) (defScope (top 30)) [] [] f fd
  d_check_few : ∃ f fd, g.mg "check_few" = some (.ref f) ∧ FunD g.K "check_few" "check_few" (defArgs (top 33)) (defBody (top 33)) (defScope (top 33)) [] [] f fd
  d_check_few_numbers : ∃ f fd, g.mg "check_few_numbers" = some (.ref f) ∧ FunD g.K "check_few_numbers" "check_few_numbers" (defArgs (top 45)) (defBody (top 45)) (defScope (top 45)) [] [] f fd
  d_counted : ∃ f fd, g.mg "counted" = some (.ref f) ∧ FunD g.K "counted" "counted" (defArgs (top 37)) (defBody (top 37)) (defScope (top 37)) [] [] f fd
  d_all_orders : ∃ f fd, g.mg "all_orders" = some (.ref f) ∧ FunD g.K "all_orders" "all_orders" (defArgs (top 35)) (defBody (top 35)) (defScope (top 35)) [] [] f fd
  d_in_order_by : ∃ f fd, g.mg "in_order_by" = some (.ref f) ∧ FunD g.K "in_order_by" "in_order_by" (defArgs (top 24)) (defBody (top 24)) (defScope (top 24)) [] [] f fd
  d_all_in_order : ∃ f fd, g.mg "all_in_order" = some (.ref f) ∧ FunD g.K "all_in_order" "all_in_order" (defArgs (top 36)) (defBody (top 36)) (defScope (top 36)) [] [] f fd
  d_sums_by : ∃ f fd, g.mg "sums_by" = some (.ref f) ∧ FunD g.K "sums_by" "sums_by" (defArgs (top 17)) (defBody (top 17)) (defScope (top 17)) [] [] f fd
  d_above_by : ∃ f fd, g.mg "above_by" = some (.ref f) ∧ FunD g.K "above_by" "above_by" (defArgs (top 18)) (defBody (top 18)) (defScope (top 18)) [] [] f fd
  d_orders_above_by : ∃ f fd, g.mg "orders_above_by" = some (.ref f) ∧ FunD g.K "orders_above_by" "orders_above_by" (defArgs (top 38)) (defBody (top 38)) (defScope (top 38)) [] [] f fd
  d_orders_above : ∃ f fd, g.mg "orders_above" = some (.ref f) ∧ FunD g.K "orders_above" "orders_above" (defArgs (top 46)) (defBody (top 46)) (defScope (top 46)) [] [] f fd
  d_places_with : ∃ f fd, g.mg "places_with" = some (.ref f) ∧ FunD g.K "places_with" "places_with" (defArgs (top 21)) (defBody (top 21)) (defScope (top 21)) [] [] f fd
  d_highest_by : ∃ f fd, g.mg "highest_by" = some (.ref f) ∧ FunD g.K "highest_by" "highest_by" (defArgs (top 20)) (defBody (top 20)) (defScope (top 20)) [] [] f fd
  d_first_highest_by : ∃ f fd, g.mg "first_highest_by" = some (.ref f) ∧ FunD g.K "first_highest_by" "first_highest_by" (defArgs (top 22)) (defBody (top 22)) (defScope (top 22)) [] [] f fd
  d_orders_first_by : ∃ f fd, g.mg "orders_first_by" = some (.ref f) ∧ FunD g.K "orders_first_by" "orders_first_by" (defArgs (top 40)) (defBody (top 40)) (defScope (top 40)) [] [] f fd
  d_orders_first : ∃ f fd, g.mg "orders_first" = some (.ref f) ∧ FunD g.K "orders_first" "orders_first" (defArgs (top 48)) (defBody (top 48)) (defScope (top 48)) [] [] f fd
  d_not_below_by : ∃ f fd, g.mg "not_below_by" = some (.ref f) ∧ FunD g.K "not_below_by" "not_below_by" (defArgs (top 19)) (defBody (top 19)) (defScope (top 19)) [] [] f fd
  d_orders_not_below_by : ∃ f fd, g.mg "orders_not_below_by" = some (.ref f) ∧ FunD g.K "orders_not_below_by" "orders_not_below_by" (defArgs (top 39)) (defBody (top 39)) (defScope (top 39)) [] [] f fd
  d_orders_not_below : ∃ f fd, g.mg "orders_not_below" = some (.ref f) ∧ FunD g.K "orders_not_below" "orders_not_below" (defArgs (top 47)) (defBody (top 47)) (defScope (top 47)) [] [] f fd
  d_last_highest_by : ∃ f fd, g.mg "last_highest_by" = some (.ref f) ∧ FunD g.K "last_highest_by" "last_highest_by" (defArgs (top 23)) (defBody (top 23)) (defScope (top 23)) [] [] f fd
  d_orders_last_by : ∃ f fd, g.mg "orders_last_by" = some (.ref f) ∧ FunD g.K "orders_last_by" "orders_last_by" (defArgs (top 41)) (defBody (top 41)) (defScope (top 41)) [] [] f fd
  d_orders_last : ∃ f fd, g.mg "orders_last" = some (.ref f) ∧ FunD g.K "orders_last" "orders_last" (defArgs (top 49)) (defBody (top 49)) (defScope (top 49)) [] [] f fd
  d_u_law_same : ∃ f fd, g.mg "_law_same" = some (.ref f) ∧ FunD g.K "_law_same" "_law_same" (defArgs (top 65)) (defBody (top 65)) (defScope (top 65)) [] [] f fd
  d_most_above_by : ∃ f fd, g.mg "most_above_by" = some (.ref f) ∧ FunD g.K "most_above_by" "most_above_by" (defArgs (top 25)) (defBody (top 25)) (defScope (top 25)) [] [] f fd
  d_most_above : ∃ f fd, g.mg "most_above" = some (.ref f) ∧ FunD g.K "most_above" "most_above" (defArgs (top 59)) (defBody (top 59)) (defScope (top 59)) [] [] f fd
  d_least_above_by : ∃ f fd, g.mg "least_above_by" = some (.ref f) ∧ FunD g.K "least_above_by" "least_above_by" (defArgs (top 26)) (defBody (top 26)) (defScope (top 26)) [] [] f fd
  d_least_above : ∃ f fd, g.mg "least_above" = some (.ref f) ∧ FunD g.K "least_above" "least_above" (defArgs (top 60)) (defBody (top 60)) (defScope (top 60)) [] [] f fd
  d_check_number : ∃ f fd, g.mg "check_number" = some (.ref f) ∧ FunD g.K "check_number" "check_number" (defArgs (top 32)) (defBody (top 32)) (defScope (top 32)) [] [] f fd
  d_orders_with_by : ∃ f fd, g.mg "orders_with_by" = some (.ref f) ∧ FunD g.K "orders_with_by" "orders_with_by" (defArgs (top 42)) (defBody (top 42)) (defScope (top 42)) [] [] f fd
  d_orders_with : ∃ f fd, g.mg "orders_with" = some (.ref f) ∧ FunD g.K "orders_with" "orders_with" (defArgs (top 50)) (defBody (top 50)) (defScope (top 50)) [] [] f fd
  d_moved_by : ∃ f fd, g.mg "moved_by" = some (.ref f) ∧ FunD g.K "moved_by" "moved_by" (defArgs (top 27)) (defBody (top 27)) (defScope (top 27)) [] [] f fd
  d_moved : ∃ f fd, g.mg "moved" = some (.ref f) ∧ FunD g.K "moved" "moved" (defArgs (top 57)) (defBody (top 57)) (defScope (top 57)) [] [] f fd
  d_first_highest : ∃ f fd, g.mg "first_highest" = some (.ref f) ∧ FunD g.K "first_highest" "first_highest" (defArgs (top 54)) (defBody (top 54)) (defScope (top 54)) [] [] f fd
  d_moved_back_by : ∃ f fd, g.mg "moved_back_by" = some (.ref f) ∧ FunD g.K "moved_back_by" "moved_back_by" (defArgs (top 28)) (defBody (top 28)) (defScope (top 28)) [] [] f fd
  d_moved_back : ∃ f fd, g.mg "moved_back" = some (.ref f) ∧ FunD g.K "moved_back" "moved_back" (defArgs (top 58)) (defBody (top 58)) (defScope (top 58)) [] [] f fd
  d_is_tuple_of : ∃ f fd, g.mg "is_tuple_of" = some (.ref f) ∧ FunD g.K "is_tuple_of" "is_tuple_of" (defArgs (top 10)) (defBody (top 10)) (defScope (top 10)) [] [] f fd
  d_is_order_by : ∃ f fd, g.mg "is_order_by" = some (.ref f) ∧ FunD g.K "is_order_by" "is_order_by" (defArgs (top 16)) (defBody (top 16)) (defScope (top 16)) [] [] f fd
  d_check_order : ∃ f fd, g.mg "check_order" = some (.ref f) ∧ FunD g.K "check_order" "check_order" (defArgs (top 31)) (defBody (top 31)) (defScope (top 31)) [] [] f fd
  d_in_order : ∃ f fd, g.mg "in_order" = some (.ref f) ∧ FunD g.K "in_order" "in_order" (defArgs (top 56)) (defBody (top 56)) (defScope (top 56)) [] [] f fd
  d_above : ∃ f fd, g.mg "above" = some (.ref f) ∧ FunD g.K "above" "above" (defArgs (top 52)) (defBody (top 52)) (defScope (top 52)) [] [] f fd
  d_not_below : ∃ f fd, g.mg "not_below" = some (.ref f) ∧ FunD g.K "not_below" "not_below" (defArgs (top 53)) (defBody (top 53)) (defScope (top 53)) [] [] f fd
  d_last_highest : ∃ f fd, g.mg "last_highest" = some (.ref f) ∧ FunD g.K "last_highest" "last_highest" (defArgs (top 55)) (defBody (top 55)) (defScope (top 55)) [] [] f fd
  d_u_law_is_told : ∃ f fd, g.mg "_law_is_told" = some (.ref f) ∧ FunD g.K "_law_is_told" "_law_is_told" (defArgs (top 70)) (defBody (top 70)) (defScope (top 70)) [] [] f fd
  d_u_law_pick : ∃ f fd, g.mg "_law_pick" = some (.ref f) ∧ FunD g.K "_law_pick" "_law_pick" (defArgs (top 64)) (defBody (top 64)) (defScope (top 64)) [] [] f fd
  d_u_law_row : ∃ f fd, g.mg "_law_row" = some (.ref f) ∧ FunD g.K "_law_row" "_law_row" (defArgs (top 66)) (defBody (top 66)) (defScope (top 66)) [] [] f fd
  d_u_law_right : ∃ f fd, g.mg "_law_right" = some (.ref f) ∧ FunD g.K "_law_right" "_law_right" (defArgs (top 71)) (defBody (top 71)) (defScope (top 71)) [] [] f fd
  d_u_law_pool : ∃ f fd, g.mg "_law_pool" = some (.ref f) ∧ FunD g.K "_law_pool" "_law_pool" (defArgs (top 62)) (defBody (top 62)) (defScope (top 62)) [] [] f fd
  d_law : ∃ f fd, g.mg "law" = some (.ref f) ∧ FunD g.K "law" "law" (defArgs (top 72)) (defBody (top 72)) (defScope (top 72)) [] [] f fd
theorem bt_abs : bootBuiltins "abs" = some (.builtin "abs") := by decide +kernel
theorem bt_all : bootBuiltins "all" = some (.builtin "all") := by decide +kernel
theorem bt_bool : bootBuiltins "bool" = some (.type "bool") := by decide +kernel
theorem bt_divmod : bootBuiltins "divmod" = some (.builtin "divmod") := by decide +kernel
theorem bt_enumerate : bootBuiltins "enumerate" = some (.type "enumerate") := by decide +kernel
theorem bt_int : bootBuiltins "int" = some (.type "int") := by decide +kernel
theorem bt_isinstance : bootBuiltins "isinstance" = some (.builtin "isinstance") := by decide +kernel
theorem bt_len : bootBuiltins "len" = some (.builtin "len") := by decide +kernel
theorem bt_list : bootBuiltins "list" = some (.type "list") := by decide +kernel
theorem bt_max : bootBuiltins "max" = some (.builtin "max") := by decide +kernel
theorem bt_min : bootBuiltins "min" = some (.builtin "min") := by decide +kernel
theorem bt_range : bootBuiltins "range" = some (.type "range") := by decide +kernel
theorem bt_set : bootBuiltins "set" = some (.type "set") := by decide +kernel
theorem bt_sorted : bootBuiltins "sorted" = some (.builtin "sorted") := by decide +kernel
theorem bt_str : bootBuiltins "str" = some (.type "str") := by decide +kernel
theorem bt_sum : bootBuiltins "sum" = some (.builtin "sum") := by decide +kernel
theorem bt_tuple : bootBuiltins "tuple" = some (.type "tuple") := by decide +kernel
theorem bt_zip : bootBuiltins "zip" = some (.type "zip") := by decide +kernel
/-- _law_orders -/
theorem sc_u_law_orders : FnScope ["many", "found", "lap", "more", "order", "each"] ["many"] (defScope (top 68)) := ⟨rfl, rfl, rfl, by decide +kernel, rfl, by decide +kernel, by decide +kernel⟩
def m_u_law_orders_e1 : XM D :=
  (xop addD (xvar 4) (xtup (xcons (xvar 5) (xpure []))))
def m_u_law_orders_t1 : XM Bool :=
  (xbool (xop notInD (xvar 5) (xvar 4)))
def m_u_law_orders_b1 : SM :=
  (sset 3 (xop addD (xvar 3) (xcomp (xrange1 (xvar 0)) [5] (gname 5) m_u_law_orders_t1 m_u_law_orders_e1)))
def m_u_law_orders_b2 : SM :=
  (sseq (sset 3 (xlst (xpure []))) (sseq (sfor (xwalk (xvar 1)) (gname 4) m_u_law_orders_b1) (sset 1 (xvar 3))))
def m_u_law_orders : SM :=
  (sseq (sset 1 (xlst (xcons (xtup (xpure [])) (xpure [])))) (sseq (sfor (xrange1 (xvar 0)) (gname 2) m_u_law_orders_b2) (sret (xvar 1))))
abbrev D_u_law_orders : DF := runF 6 m_u_law_orders
theorem b_u_law_orders {g : Gb} (GG : GF g) (b : Bd) (hr : Room 0 (b.A.deeper (PyProof.Rows.envOfC b.qual (defScope (top 68)) b.s.heap.objs.size b.f b.cdv))) :
    JSs (famB g 0 ["many", "found", "lap", "more", "order", "each"] sc_u_law_orders.nd (defScope (top 68)) b hr) (defBody (top 68)) m_u_law_orders :=
  (jss_cons (js_set 1 rfl (.inl (by first | rfl | kernel_rfl)) (je_lst (ja_cons (je_tup ja_nil) ja_nil)))
      (jss_cons (js_for (ji_range1 (by first | rfl | kernel_rfl) GG.b_range (je_var 0 rfl (.inl (by first | rfl | kernel_rfl)))) (jg_name 2 rfl (.inl (by first | rfl | kernel_rfl))) (jss_cons (js_set 3 rfl (.inl (by first | rfl | kernel_rfl)) (je_lst ja_nil))
      (jss_cons (js_for (ji_seq (je_var 1 rfl (.inl (by first | rfl | kernel_rfl)))) (jg_name 4 rfl (.inr (by first | rfl | kernel_rfl))) (jss_one (js_set 3 rfl (.inl (by first | rfl | kernel_rfl)) (je_op os_add (je_var 3 rfl (.inl (by first | rfl | kernel_rfl))) (je_lc [("each", 5)] (ji_range1 (by first | rfl | kernel_rfl) GG.b_range (je_var 0 rfl (.inl (by first | rfl | kernel_rfl)))) (by first | rfl | kernel_rfl) (jc_name 5 rfl (.inl (by first | rfl | kernel_rfl)) (by decide)) (jts_one (jt_cmp os_notin (je_var 5 rfl (.inl (by first | rfl | kernel_rfl))) (je_var 4 rfl (.inr (.inl (by first | rfl | kernel_rfl)))) rfl)) (je_op os_add (je_var 4 rfl (.inr (.inl (by first | rfl | kernel_rfl)))) (je_tup (ja_cons (je_var 5 rfl (.inl (by first | rfl | kernel_rfl))) ja_nil))))))))
      (jss_one (js_set 1 rfl (.inl (by first | rfl | kernel_rfl)) (je_var 3 rfl (.inl (by first | rfl | kernel_rfl))))))))
      (jss_one (js_ret (je_var 1 rfl (.inl (by first | rfl | kernel_rfl)))))))
theorem f_u_law_orders {g : Gb} (GG : GF g) : Fn g (top 68) "_law_orders" "_law_orders" ["many"] 1 D_u_law_orders := by
  obtain ⟨f, fd, hx, D0⟩ := GG.d_u_law_orders
  exact fn_mk outD outD_hout hx D0 sc_u_law_orders (fun kV doc pm an cdv ct us hl => match us, hl with | [_], _ => rfl) (fun b hr => b_u_law_orders GG b hr)
/-- _law_sums -/
theorem sc_u_law_sums : FnScope ["row", "found", "each"] ["row"] (defScope (top 67)) := ⟨rfl, rfl, rfl, by decide +kernel, rfl, by decide +kernel, by decide +kernel⟩
def m_u_law_sums_b1 : SM :=
  (sdrop (xappend (xvar 1) (xop addD (xop ixD (xvar 1) (xneg (xpure (.int 1)))) (xvar 2))))
def m_u_law_sums : SM :=
  (sseq (sset 1 (xlstM (xcons (xpure (.int 0)) (xpure [])))) (sseq (sfor (xwalk (xvar 0)) (gname 2) m_u_law_sums_b1) (sret (xvar 1))))
abbrev D_u_law_sums : DF := runF 3 m_u_law_sums
theorem b_u_law_sums {g : Gb} (GG : GF g) (b : Bd) (hr : Room 0 (b.A.deeper (PyProof.Rows.envOfC b.qual (defScope (top 67)) b.s.heap.objs.size b.f b.cdv))) :
    JSs (famB g 0 ["row", "found", "each"] sc_u_law_sums.nd (defScope (top 67)) b hr) (defBody (top 67)) m_u_law_sums :=
  (jss_cons (js_set 1 rfl (.inl (by first | rfl | kernel_rfl)) (je_lstM (ja_cons je_int ja_nil)))
      (jss_cons (js_for (ji_seq (je_var 0 rfl (.inl (by first | rfl | kernel_rfl)))) (jg_name 2 rfl (.inl (by first | rfl | kernel_rfl))) (jss_one (js_expr (je_append (je_var 1 rfl (.inl (by first | rfl | kernel_rfl))) (je_op os_add (je_ix (je_var 1 rfl (.inl (by first | rfl | kernel_rfl))) (je_neg je_int)) (je_var 2 rfl (.inl (by first | rfl | kernel_rfl))))))))
      (jss_one (js_ret (je_var 1 rfl (.inl (by first | rfl | kernel_rfl)))))))
theorem f_u_law_sums {g : Gb} (GG : GF g) : Fn g (top 67) "_law_sums" "_law_sums" ["row"] 1 D_u_law_sums := by
  obtain ⟨f, fd, hx, D0⟩ := GG.d_u_law_sums
  exact fn_mk outD outD_hout hx D0 sc_u_law_sums (fun kV doc pm an cdv ct us hl => match us, hl with | [_], _ => rfl) (fun b hr => b_u_law_sums GG b hr)
/-- _law_counts -/
theorem sc_u_law_counts : FnScope ["many", "some", "k"] ["many", "some"] (defScope (top 69)) := ⟨rfl, rfl, rfl, by decide +kernel, rfl, by decide +kernel, by decide +kernel⟩
def m_u_law_counts_e1 : XM D :=
  (xm1 countD (xvar 1) (xvar 2))
def m_u_law_counts : SM :=
  (sret (xcall (f1 tupleD) (xcons (xcomp (xrange1 (xop addD (xvar 0) (xpure (.int 1)))) [2] (gname 2) (xpure true) m_u_law_counts_e1) (xpure []))))
abbrev D_u_law_counts : DF := runF 3 m_u_law_counts
theorem b_u_law_counts {g : Gb} (GG : GF g) (b : Bd) (hr : Room 0 (b.A.deeper (PyProof.Rows.envOfC b.qual (defScope (top 69)) b.s.heap.objs.size b.f b.cdv))) :
    JSs (famB g 0 ["many", "some", "k"] sc_u_law_counts.nd (defScope (top 69)) b hr) (defBody (top 69)) m_u_law_counts :=
  (jss_one (js_ret (je_callTy cs_tuple (by first | rfl | kernel_rfl) GG.b_tuple bt_tuple (ja_cons (je_lc [("k", 2)] (ji_range1 (by first | rfl | kernel_rfl) GG.b_range (je_op os_add (je_var 0 rfl (.inl (by first | rfl | kernel_rfl))) je_int)) (by first | rfl | kernel_rfl) (jc_name 2 rfl (.inl (by first | rfl | kernel_rfl)) (by decide)) jts_nil (je_count (je_var 1 rfl (.inr (.inl (by first | rfl | kernel_rfl)))) (je_var 2 rfl (.inl (by first | rfl | kernel_rfl))))) ja_nil))))
theorem f_u_law_counts {g : Gb} (GG : GF g) : Fn g (top 69) "_law_counts" "_law_counts" ["many", "some"] 1 D_u_law_counts := by
  obtain ⟨f, fd, hx, D0⟩ := GG.d_u_law_counts
  exact fn_mk outD outD_hout hx D0 sc_u_law_counts (fun kV doc pm an cdv ct us hl => match us, hl with | [_, _], _ => rfl) (fun b hr => b_u_law_counts GG b hr)
/-- _law_draw -/
theorem sc_u_law_draw : FnScope ["pool", "many", "figure", "held"] ["pool", "many"] (defScope (top 63)) := ⟨rfl, rfl, rfl, by decide +kernel, rfl, by decide +kernel, by decide +kernel⟩
def m_u_law_draw_s1 : SM :=
  (sif (xbool (xop gtD (xop ixD (xvar 0) (xpure (.int 1))) (xpure (.int 0)))) (sseq (sasg (xcall (f2 divmodD) (xcons (xop ixD (xvar 0) (xpure (.int 1))) (xcons (xvar 1) (xpure [])))) (gtup 2 (gcons (gsub (xvar 0) (xpure (.int 1))) (gcons (gname 2) gnil)))) (sret (xvar 2))) snext)
def m_u_law_draw_s2 : SM :=
  (sasg (xop addD (xop ixD (xvar 0) (xpure (.int 2))) (xpure (.int 1))) (gsub (xvar 0) (xpure (.int 2))))
def m_u_law_draw_s3 : SM :=
  (sset 3 (xcall (f1 intD) (xcons (xop ixD (xvar 0) (xpure (.int 0))) (xpure []))))
def m_u_law_draw_s4 : SM :=
  (sasg (xop modD (xcall (f1 intD) (xcons (xop addD (xop addD (xop mulD (xvar 3) (xop addD (xop modD (xvar 3) (xpure (.int 20011))) (xpure (.int 30011)))) (xop mulD (xpure (.int 70001)) (xop ixD (xvar 0) (xpure (.int 2))))) (xpure (.int 9))) (xpure []))) (xpure (.int 2147483237))) (gsub (xvar 0) (xpure (.int 0))))
def m_u_law_draw_s5 : SM :=
  (sret (xop modD (xcall (f1 intD) (xcons (xop divD (xop ixD (xvar 0) (xpure (.int 0))) (xpure (.int 128))) (xpure []))) (xvar 1)))
def m_u_law_draw : SM :=
  (sseq m_u_law_draw_s1 (sseq m_u_law_draw_s2 (sseq m_u_law_draw_s3 (sseq m_u_law_draw_s4 m_u_law_draw_s5))))
abbrev D_u_law_draw : DF := runF 4 m_u_law_draw
theorem b_u_law_draw {g : Gb} (GG : GF g) (b : Bd) (hr : Room 0 (b.A.deeper (PyProof.Rows.envOfC b.qual (defScope (top 63)) b.s.heap.objs.size b.f b.cdv))) :
    JSs (famB g 0 ["pool", "many", "figure", "held"] sc_u_law_draw.nd (defScope (top 63)) b hr) (defBody (top 63)) m_u_law_draw :=
  (jss_cons (js_if (jt_cmp os_gt (je_ix (je_var 0 rfl (.inl (by first | rfl | kernel_rfl))) je_int) je_int rfl) (jss_cons (js_asg (je_callB cs_divmod (by first | rfl | kernel_rfl) GG.b_divmod bt_divmod (ja_cons (je_ix (je_var 0 rfl (.inl (by first | rfl | kernel_rfl))) je_int) (ja_cons (je_var 1 rfl (.inl (by first | rfl | kernel_rfl))) ja_nil))) (jg_tup (jgs_cons (jg_sub (je_var 0 rfl (.inl (by first | rfl | kernel_rfl))) je_int (quiet_var _) (quiet_pure _)) (jgs_cons (jg_name 2 rfl (.inl (by first | rfl | kernel_rfl))) jgs_nil))))
      (jss_one (js_ret (je_var 2 rfl (.inl (by first | rfl | kernel_rfl)))))) jss_nil)
      (jss_cons (js_asg (je_op os_add (je_ix (je_var 0 rfl (.inl (by first | rfl | kernel_rfl))) je_int) je_int) (jg_sub (je_var 0 rfl (.inl (by first | rfl | kernel_rfl))) je_int (quiet_var _) (quiet_pure _)))
      (jss_cons (js_set 3 rfl (.inl (by first | rfl | kernel_rfl)) (je_callTy cs_int (by first | rfl | kernel_rfl) GG.b_int bt_int (ja_cons (je_ix (je_var 0 rfl (.inl (by first | rfl | kernel_rfl))) je_int) ja_nil)))
      (jss_cons (js_asg (je_op os_mod (je_callTy cs_int (by first | rfl | kernel_rfl) GG.b_int bt_int (ja_cons (je_op os_add (je_op os_add (je_op os_mul (je_var 3 rfl (.inl (by first | rfl | kernel_rfl))) (je_op os_add (je_op os_mod (je_var 3 rfl (.inl (by first | rfl | kernel_rfl))) je_int) je_int)) (je_op os_mul je_int (je_ix (je_var 0 rfl (.inl (by first | rfl | kernel_rfl))) je_int))) je_int) ja_nil)) je_int) (jg_sub (je_var 0 rfl (.inl (by first | rfl | kernel_rfl))) je_int (quiet_var _) (quiet_pure _)))
      (jss_one (js_ret (je_op os_mod (je_callTy cs_int (by first | rfl | kernel_rfl) GG.b_int bt_int (ja_cons (je_op os_div (je_ix (je_var 0 rfl (.inl (by first | rfl | kernel_rfl))) je_int) je_int) ja_nil)) (je_var 1 rfl (.inl (by first | rfl | kernel_rfl))))))))))
theorem f_u_law_draw {g : Gb} (GG : GF g) : Fn g (top 63) "_law_draw" "_law_draw" ["pool", "many"] 1 D_u_law_draw := by
  obtain ⟨f, fd, hx, D0⟩ := GG.d_u_law_draw
  exact fn_mk outD outD_hout hx D0 sc_u_law_draw (fun kV doc pm an cdv ct us hl => match us, hl with | [_, _], _ => rfl) (fun b hr => b_u_law_draw GG b hr)
/-- is_whole -/
theorem sc_is_whole : FnScope ["value"] ["value"] (defScope (top 8)) := ⟨rfl, rfl, rfl, by decide +kernel, rfl, by decide +kernel, by decide +kernel⟩
def m_is_whole : SM :=
  (sret (xand (xcall (f2 isiD) (xcons (xvar 0) (xcons (xpure (.ty "int")) (xpure [])))) (xnot (xcall (f2 isiD) (xcons (xvar 0) (xcons (xpure (.ty "bool")) (xpure [])))))))
abbrev D_is_whole : DF := runF 1 m_is_whole
theorem b_is_whole {g : Gb} (GG : GF g) (b : Bd) (hr : Room 0 (b.A.deeper (PyProof.Rows.envOfC b.qual (defScope (top 8)) b.s.heap.objs.size b.f b.cdv))) :
    JSs (famB g 0 ["value"] sc_is_whole.nd (defScope (top 8)) b hr) (defBody (top 8)) m_is_whole :=
  (jss_one (js_ret (je_and (je_callB cs_isi (by first | rfl | kernel_rfl) GG.b_isinstance bt_isinstance (ja_cons (je_var 0 rfl (.inl (by first | rfl | kernel_rfl))) (ja_cons (je_gty (by first | rfl | kernel_rfl) GG.b_int bt_int) ja_nil))) (je_one (je_not (je_callB cs_isi (by first | rfl | kernel_rfl) GG.b_isinstance bt_isinstance (ja_cons (je_var 0 rfl (.inl (by first | rfl | kernel_rfl))) (ja_cons (je_gty (by first | rfl | kernel_rfl) GG.b_bool bt_bool) ja_nil))))))))
theorem f_is_whole {g : Gb} (GG : GF g) : Fn g (top 8) "is_whole" "is_whole" ["value"] 1 D_is_whole := by
  obtain ⟨f, fd, hx, D0⟩ := GG.d_is_whole
  exact fn_mk outD outD_hout hx D0 sc_is_whole (fun kV doc pm an cdv ct us hl => match us, hl with | [_], _ => rfl) (fun b hr => b_is_whole GG b hr)
/-- is_between -/
theorem sc_is_between : FnScope ["value", "low", "high"] ["value", "low", "high"] (defScope (top 9)) := ⟨rfl, rfl, rfl, by decide +kernel, rfl, by decide +kernel, by decide +kernel⟩
def m_is_between : SM :=
  (sret (xand (xfn 1 (D_is_whole) (xcons (xvar 0) (xpure []))) (xchain leD leD (xvar 1) (xvar 0) (xvar 2))))
abbrev D_is_between : DF := runF 3 m_is_between
theorem b_is_between {g : Gb} (GG : GF g) (b : Bd) (hr : Room 2 (b.A.deeper (PyProof.Rows.envOfC b.qual (defScope (top 9)) b.s.heap.objs.size b.f b.cdv))) :
    JSs (famB g 2 ["value", "low", "high"] sc_is_between.nd (defScope (top 9)) b hr) (defBody (top 9)) m_is_between :=
  (jss_one (js_ret (je_and (je_call (f_is_whole GG) (Nat.le_of_ble_eq_true rfl) (by first | rfl | kernel_rfl) (ja_cons (je_var 0 rfl (.inl (by first | rfl | kernel_rfl))) ja_nil)) (je_one (je_chain os_le os_le (je_var 1 rfl (.inl (by first | rfl | kernel_rfl))) (je_var 0 rfl (.inl (by first | rfl | kernel_rfl))) (je_var 2 rfl (.inl (by first | rfl | kernel_rfl))))))))
theorem f_is_between {g : Gb} (GG : GF g) : Fn g (top 9) "is_between" "is_between" ["value", "low", "high"] 3 D_is_between := by
  obtain ⟨f, fd, hx, D0⟩ := GG.d_is_between
  exact fn_mk outD outD_hout hx D0 sc_is_between (fun kV doc pm an cdv ct us hl => match us, hl with | [_, _, _], _ => rfl) (fun b hr => b_is_between GG b hr)
/-- is_number -/
theorem sc_is_number : FnScope ["value"] ["value"] (defScope (top 14)) := ⟨rfl, rfl, rfl, by decide +kernel, rfl, by decide +kernel, by decide +kernel⟩
def m_is_number : SM :=
  (sret (xfn 3 (D_is_between) (xcons (xvar 0) (xcons (xneg (xpure (.int (9)))) (xcons (xpure (.int (9))) (xpure []))))))
abbrev D_is_number : DF := runF 1 m_is_number
theorem b_is_number {g : Gb} (GG : GF g) (b : Bd) (hr : Room 4 (b.A.deeper (PyProof.Rows.envOfC b.qual (defScope (top 14)) b.s.heap.objs.size b.f b.cdv))) :
    JSs (famB g 4 ["value"] sc_is_number.nd (defScope (top 14)) b hr) (defBody (top 14)) m_is_number :=
  (jss_one (js_ret (je_call (f_is_between GG) (Nat.le_of_ble_eq_true rfl) (by first | rfl | kernel_rfl) (ja_cons (je_var 0 rfl (.inl (by first | rfl | kernel_rfl))) (ja_cons (je_neg (je_gint (by first | rfl | kernel_rfl) GG.c_MOST_SIZE)) (ja_cons (je_gint (by first | rfl | kernel_rfl) GG.c_MOST_SIZE) ja_nil))))))
theorem f_is_number {g : Gb} (GG : GF g) : Fn g (top 14) "is_number" "is_number" ["value"] 5 D_is_number := by
  obtain ⟨f, fd, hx, D0⟩ := GG.d_is_number
  exact fn_mk outD outD_hout hx D0 sc_is_number (fun kV doc pm an cdv ct us hl => match us, hl with | [_], _ => rfl) (fun b hr => b_is_number GG b hr)
/-- wrong_in_row -/
theorem sc_wrong_in_row : FnScope ["value", "each", "index"] ["value"] (defScope (top 15)) := ⟨rfl, rfl, rfl, by decide +kernel, rfl, by decide +kernel, by decide +kernel⟩
def m_wrong_in_row_t1 : XM Bool :=
  (tnot (xtru (xfn 1 (D_is_number) (xcons (xvar 1) (xpure [])))))
def m_wrong_in_row : SM :=
  (sseq (sif (tor (tnot (xtru (xcall (f2 isiD) (xcons (xvar 0) (xcons (xpure (.ty "tuple")) (xpure [])))))) (tnot (xbool (xchain leD leD (xpure (.int 1)) (xcall (f1 lenD) (xcons (xvar 0) (xpure []))) (xpure (.int (8))))))) (sret (xlst (xcons (xpure .non) (xpure [])))) snext) (sret (xslice (xcomp (xenum (xvar 0)) [2, 1] (gtup 2 (gcons (gname 2) (gcons (gname 1) gnil))) m_wrong_in_row_t1 (xvar 2)) (xpure none) (xpart (xpure (.int 1))))))
abbrev D_wrong_in_row : DF := runF 3 m_wrong_in_row
theorem b_wrong_in_row {g : Gb} (GG : GF g) (b : Bd) (hr : Room 6 (b.A.deeper (PyProof.Rows.envOfC b.qual (defScope (top 15)) b.s.heap.objs.size b.f b.cdv))) :
    JSs (famB g 6 ["value", "each", "index"] sc_wrong_in_row.nd (defScope (top 15)) b hr) (defBody (top 15)) m_wrong_in_row :=
  (jss_cons (js_if (jw_or (jt_not (jt_tru (je_callB cs_isi (by first | rfl | kernel_rfl) GG.b_isinstance bt_isinstance (ja_cons (je_var 0 rfl (.inl (by first | rfl | kernel_rfl))) (ja_cons (je_gty (by first | rfl | kernel_rfl) GG.b_tuple bt_tuple) ja_nil))))) (jw_or1 (jt_not (jt_chain os_le os_le je_int (je_callB cs_len (by first | rfl | kernel_rfl) GG.b_len bt_len (ja_cons (je_var 0 rfl (.inl (by first | rfl | kernel_rfl))) ja_nil)) (je_gint (by first | rfl | kernel_rfl) GG.c_MOST_NUMBERS))))).jt (jss_one (js_ret (je_lst (ja_cons je_non ja_nil)))) jss_nil)
      (jss_one (js_ret (je_slice (je_lc [("index", 2), ("each", 1)] (ji_enum (by first | rfl | kernel_rfl) GG.b_enumerate (je_var 0 rfl (.inl (by first | rfl | kernel_rfl)))) (by first | rfl | kernel_rfl) (jc_tup (jcs_cons (jc_name 2 rfl (.inl (by first | rfl | kernel_rfl)) (by decide)) (jcs_cons (jc_name 1 rfl (.inl (by first | rfl | kernel_rfl)) (by decide)) jcs_nil))) (jts_one (jt_not (jt_tru (je_call (f_is_number GG) (Nat.le_of_ble_eq_true rfl) (by first | rfl | kernel_rfl) (ja_cons (je_var 1 rfl (.inl (by first | rfl | kernel_rfl))) ja_nil))))) (je_var 2 rfl (.inl (by first | rfl | kernel_rfl)))) jo_none (jo_some je_int)))))
theorem f_wrong_in_row {g : Gb} (GG : GF g) : Fn g (top 15) "wrong_in_row" "wrong_in_row" ["value"] 7 D_wrong_in_row := by
  obtain ⟨f, fd, hx, D0⟩ := GG.d_wrong_in_row
  exact fn_mk outD outD_hout hx D0 sc_wrong_in_row (fun kV doc pm an cdv ct us hl => match us, hl with | [_], _ => rfl) (fun b hr => b_wrong_in_row GG b hr)
/-- check_row -/
theorem sc_check_row : FnScope ["value", "index"] ["value"] (defScope (top 30)) := ⟨rfl, rfl, rfl, by decide +kernel, rfl, by decide +kernel, by decide +kernel⟩
def m_check_row : SM :=
  (sfor (xwalk (xfn 1 (D_wrong_in_row) (xcons (xvar 0) (xpure [])))) (gname 1) snever)
abbrev D_check_row : DF := runF 2 m_check_row
theorem b_check_row {g : Gb} (GG : GF g) (b : Bd) (hr : Room 8 (b.A.deeper (PyProof.Rows.envOfC b.qual (defScope (top 30)) b.s.heap.objs.size b.f b.cdv))) :
    JSs (famB g 8 ["value", "index"] sc_check_row.nd (defScope (top 30)) b hr) (defBody (top 30)) m_check_row :=
  (jss_one (js_for (ji_seq (je_call (f_wrong_in_row GG) (Nat.le_of_ble_eq_true rfl) (by first | rfl | kernel_rfl) (ja_cons (je_var 0 rfl (.inl (by first | rfl | kernel_rfl))) ja_nil))) (jg_name 1 rfl (.inl (by first | rfl | kernel_rfl))) (jss_one js_never)))
theorem f_check_row {g : Gb} (GG : GF g) : Fn g (top 30) "check_row" "check_row" ["value"] 9 D_check_row := by
  obtain ⟨f, fd, hx, D0⟩ := GG.d_check_row
  exact fn_mk outD outD_hout hx D0 sc_check_row (fun kV doc pm an cdv ct us hl => match us, hl with | [_], _ => rfl) (fun b hr => b_check_row GG b hr)
/-- check_few -/
theorem sc_check_few : FnScope ["some", "most"] ["some", "most"] (defScope (top 33)) := ⟨rfl, rfl, rfl, by decide +kernel, rfl, by decide +kernel, by decide +kernel⟩
def m_check_few : SM :=
  (sif (xbool (xop gtD (xcall (f1 lenD) (xcons (xvar 0) (xpure []))) (xvar 1))) snever snext)
abbrev D_check_few : DF := runF 2 m_check_few
theorem b_check_few {g : Gb} (GG : GF g) (b : Bd) (hr : Room 0 (b.A.deeper (PyProof.Rows.envOfC b.qual (defScope (top 33)) b.s.heap.objs.size b.f b.cdv))) :
    JSs (famB g 0 ["some", "most"] sc_check_few.nd (defScope (top 33)) b hr) (defBody (top 33)) m_check_few :=
  (jss_one (js_if (jt_cmp os_gt (je_callB cs_len (by first | rfl | kernel_rfl) GG.b_len bt_len (ja_cons (je_var 0 rfl (.inl (by first | rfl | kernel_rfl))) ja_nil)) (je_var 1 rfl (.inl (by first | rfl | kernel_rfl))) rfl) (jss_one js_never) jss_nil))
theorem f_check_few {g : Gb} (GG : GF g) : Fn g (top 33) "check_few" "check_few" ["some", "most"] 1 D_check_few := by
  obtain ⟨f, fd, hx, D0⟩ := GG.d_check_few
  exact fn_mk outD outD_hout hx D0 sc_check_few (fun kV doc pm an cdv ct us hl => match us, hl with | [_, _], _ => rfl) (fun b hr => b_check_few GG b hr)
/-- check_few_numbers -/
theorem sc_check_few_numbers : FnScope ["row"] ["row"] (defScope (top 45)) := ⟨rfl, rfl, rfl, by decide +kernel, rfl, by decide +kernel, by decide +kernel⟩
def m_check_few_numbers : SM :=
  (sseq (sdrop (xfn 1 (D_check_row) (xcons (xvar 0) (xpure [])))) (sdrop (xfn 2 (D_check_few) (xcons (xvar 0) (xcons (xpure (.int (6))) (xpure []))))))
abbrev D_check_few_numbers : DF := runF 1 m_check_few_numbers
theorem b_check_few_numbers {g : Gb} (GG : GF g) (b : Bd) (hr : Room 10 (b.A.deeper (PyProof.Rows.envOfC b.qual (defScope (top 45)) b.s.heap.objs.size b.f b.cdv))) :
    JSs (famB g 10 ["row"] sc_check_few_numbers.nd (defScope (top 45)) b hr) (defBody (top 45)) m_check_few_numbers :=
  (jss_cons (js_expr (je_call (f_check_row GG) (Nat.le_of_ble_eq_true rfl) (by first | rfl | kernel_rfl) (ja_cons (je_var 0 rfl (.inl (by first | rfl | kernel_rfl))) ja_nil)))
      (jss_one (js_expr (je_call (f_check_few GG) (Nat.le_of_ble_eq_true rfl) (by first | rfl | kernel_rfl) (ja_cons (je_var 0 rfl (.inl (by first | rfl | kernel_rfl))) (ja_cons (je_gint (by first | rfl | kernel_rfl) GG.c_MOST_ORDERED) ja_nil))))))
theorem f_check_few_numbers {g : Gb} (GG : GF g) : Fn g (top 45) "check_few_numbers" "check_few_numbers" ["row"] 11 D_check_few_numbers := by
  obtain ⟨f, fd, hx, D0⟩ := GG.d_check_few_numbers
  exact fn_mk outD outD_hout hx D0 sc_check_few_numbers (fun kV doc pm an cdv ct us hl => match us, hl with | [_], _ => rfl) (fun b hr => b_check_few_numbers GG b hr)
/-- counted -/
theorem sc_counted : FnScope ["found", "many", "number"] ["found", "many"] (defScope (top 37)) := ⟨rfl, rfl, rfl, by decide +kernel, rfl, by decide +kernel, by decide +kernel⟩
def m_counted_e1 : XM D :=
  (xm1 countD (xvar 0) (xvar 2))
def m_counted : SM :=
  (sret (xcall (f1 tupleD) (xcons (xcomp (xrange1 (xop addD (xvar 1) (xpure (.int 1)))) [2] (gname 2) (xpure true) m_counted_e1) (xpure []))))
abbrev D_counted : DF := runF 3 m_counted
theorem b_counted {g : Gb} (GG : GF g) (b : Bd) (hr : Room 0 (b.A.deeper (PyProof.Rows.envOfC b.qual (defScope (top 37)) b.s.heap.objs.size b.f b.cdv))) :
    JSs (famB g 0 ["found", "many", "number"] sc_counted.nd (defScope (top 37)) b hr) (defBody (top 37)) m_counted :=
  (jss_one (js_ret (je_callTy cs_tuple (by first | rfl | kernel_rfl) GG.b_tuple bt_tuple (ja_cons (je_lc [("number", 2)] (ji_range1 (by first | rfl | kernel_rfl) GG.b_range (je_op os_add (je_var 1 rfl (.inl (by first | rfl | kernel_rfl))) je_int)) (by first | rfl | kernel_rfl) (jc_name 2 rfl (.inl (by first | rfl | kernel_rfl)) (by decide)) jts_nil (je_count (je_var 0 rfl (.inr (.inl (by first | rfl | kernel_rfl)))) (je_var 2 rfl (.inl (by first | rfl | kernel_rfl))))) ja_nil))))
theorem f_counted {g : Gb} (GG : GF g) : Fn g (top 37) "counted" "counted" ["found", "many"] 1 D_counted := by
  obtain ⟨f, fd, hx, D0⟩ := GG.d_counted
  exact fn_mk outD outD_hout hx D0 sc_counted (fun kV doc pm an cdv ct us hl => match us, hl with | [_, _], _ => rfl) (fun b hr => b_counted GG b hr)
/-- all_orders -/
theorem sc_all_orders : FnScope ["row", "order"] ["row"] (defScope (top 35)) := ⟨rfl, rfl, rfl, by decide +kernel, rfl, by decide +kernel, by decide +kernel⟩
def m_all_orders : SM :=
  (sret (xcomp (xperm (xlistRg1 (xcall (f1 lenD) (xcons (xvar 0) (xpure []))))) [1] (gname 1) (xpure true) (xvar 1)))
abbrev D_all_orders : DF := runF 2 m_all_orders
theorem b_all_orders {g : Gb} (GG : GF g) (b : Bd) (hr : Room 0 (b.A.deeper (PyProof.Rows.envOfC b.qual (defScope (top 35)) b.s.heap.objs.size b.f b.cdv))) :
    JSs (famB g 0 ["row", "order"] sc_all_orders.nd (defScope (top 35)) b hr) (defBody (top 35)) m_all_orders :=
  (jss_one (js_ret (je_lc [("order", 1)] (ji_perm (by first | rfl | kernel_rfl) GG.v_permutations (je_listRg1 (by first | rfl | kernel_rfl) GG.b_list (by first | rfl | kernel_rfl) GG.b_range (je_callB cs_len (by first | rfl | kernel_rfl) GG.b_len bt_len (ja_cons (je_var 0 rfl (.inl (by first | rfl | kernel_rfl))) ja_nil)))) (by first | rfl | kernel_rfl) (jc_name 1 rfl (.inl (by first | rfl | kernel_rfl)) (by decide)) jts_nil (je_var 1 rfl (.inl (by first | rfl | kernel_rfl))))))
theorem f_all_orders {g : Gb} (GG : GF g) : Fn g (top 35) "all_orders" "all_orders" ["row"] 1 D_all_orders := by
  obtain ⟨f, fd, hx, D0⟩ := GG.d_all_orders
  exact fn_mk outD outD_hout hx D0 sc_all_orders (fun kV doc pm an cdv ct us hl => match us, hl with | [_], _ => rfl) (fun b hr => b_all_orders GG b hr)
/-- in_order_by -/
theorem sc_in_order_by : FnScope ["row", "order", "index"] ["row", "order"] (defScope (top 24)) := ⟨rfl, rfl, rfl, by decide +kernel, rfl, by decide +kernel, by decide +kernel⟩
def m_in_order_by_e1 : XM D :=
  (xop ixD (xvar 0) (xvar 2))
def m_in_order_by : SM :=
  (sret (xcall (f1 tupleD) (xcons (xcomp (xwalk (xvar 1)) [2] (gname 2) (xpure true) m_in_order_by_e1) (xpure []))))
abbrev D_in_order_by : DF := runF 3 m_in_order_by
theorem b_in_order_by {g : Gb} (GG : GF g) (b : Bd) (hr : Room 0 (b.A.deeper (PyProof.Rows.envOfC b.qual (defScope (top 24)) b.s.heap.objs.size b.f b.cdv))) :
    JSs (famB g 0 ["row", "order", "index"] sc_in_order_by.nd (defScope (top 24)) b hr) (defBody (top 24)) m_in_order_by :=
  (jss_one (js_ret (je_callTy cs_tuple (by first | rfl | kernel_rfl) GG.b_tuple bt_tuple (ja_cons (je_lc [("index", 2)] (ji_seq (je_var 1 rfl (.inl (by first | rfl | kernel_rfl)))) (by first | rfl | kernel_rfl) (jc_name 2 rfl (.inl (by first | rfl | kernel_rfl)) (by decide)) jts_nil (je_ix (je_var 0 rfl (.inr (.inl (by first | rfl | kernel_rfl)))) (je_var 2 rfl (.inl (by first | rfl | kernel_rfl))))) ja_nil))))
theorem f_in_order_by {g : Gb} (GG : GF g) : Fn g (top 24) "in_order_by" "in_order_by" ["row", "order"] 1 D_in_order_by := by
  obtain ⟨f, fd, hx, D0⟩ := GG.d_in_order_by
  exact fn_mk outD outD_hout hx D0 sc_in_order_by (fun kV doc pm an cdv ct us hl => match us, hl with | [_, _], _ => rfl) (fun b hr => b_in_order_by GG b hr)
/-- all_in_order -/
theorem sc_all_in_order : FnScope ["row", "order"] ["row"] (defScope (top 36)) := ⟨rfl, rfl, rfl, by decide +kernel, rfl, by decide +kernel, by decide +kernel⟩
def m_all_in_order_e1 : XM D :=
  (xfn 2 (D_in_order_by) (xcons (xvar 0) (xcons (xvar 1) (xpure []))))
def m_all_in_order : SM :=
  (sret (xcomp (xwalk (xfn 1 (D_all_orders) (xcons (xvar 0) (xpure [])))) [1] (gname 1) (xpure true) m_all_in_order_e1))
abbrev D_all_in_order : DF := runF 2 m_all_in_order
theorem b_all_in_order {g : Gb} (GG : GF g) (b : Bd) (hr : Room 2 (b.A.deeper (PyProof.Rows.envOfC b.qual (defScope (top 36)) b.s.heap.objs.size b.f b.cdv))) :
    JSs (famB g 2 ["row", "order"] sc_all_in_order.nd (defScope (top 36)) b hr) (defBody (top 36)) m_all_in_order :=
  (jss_one (js_ret (je_lc [("order", 1)] (ji_seq (je_call (f_all_orders GG) (Nat.le_of_ble_eq_true rfl) (by first | rfl | kernel_rfl) (ja_cons (je_var 0 rfl (.inr (.inl (by first | rfl | kernel_rfl)))) ja_nil))) (by first | rfl | kernel_rfl) (jc_name 1 rfl (.inl (by first | rfl | kernel_rfl)) (by decide)) jts_nil (je_call (f_in_order_by GG) (Nat.le_of_ble_eq_true rfl) (by first | rfl | kernel_rfl) (ja_cons (je_var 0 rfl (.inr (.inl (by first | rfl | kernel_rfl)))) (ja_cons (je_var 1 rfl (.inl (by first | rfl | kernel_rfl))) ja_nil))))))
theorem f_all_in_order {g : Gb} (GG : GF g) : Fn g (top 36) "all_in_order" "all_in_order" ["row"] 3 D_all_in_order := by
  obtain ⟨f, fd, hx, D0⟩ := GG.d_all_in_order
  exact fn_mk outD outD_hout hx D0 sc_all_in_order (fun kV doc pm an cdv ct us hl => match us, hl with | [_], _ => rfl) (fun b hr => b_all_in_order GG b hr)
/-- sums_by -/
theorem sc_sums_by : FnScope ["row", "found", "number"] ["row"] (defScope (top 17)) := ⟨rfl, rfl, rfl, by decide +kernel, rfl, by decide +kernel, by decide +kernel⟩
def m_sums_by_b1 : SM :=
  (sdrop (xappend (xvar 1) (xop addD (xop ixD (xvar 1) (xneg (xpure (.int 1)))) (xvar 2))))
def m_sums_by : SM :=
  (sseq (sset 1 (xlstM (xcons (xpure (.int 0)) (xpure [])))) (sseq (sfor (xwalk (xvar 0)) (gname 2) m_sums_by_b1) (sret (xcall (f1 tupleD) (xcons (xvar 1) (xpure []))))))
abbrev D_sums_by : DF := runF 3 m_sums_by
theorem b_sums_by {g : Gb} (GG : GF g) (b : Bd) (hr : Room 0 (b.A.deeper (PyProof.Rows.envOfC b.qual (defScope (top 17)) b.s.heap.objs.size b.f b.cdv))) :
    JSs (famB g 0 ["row", "found", "number"] sc_sums_by.nd (defScope (top 17)) b hr) (defBody (top 17)) m_sums_by :=
  (jss_cons (js_set 1 rfl (.inl (by first | rfl | kernel_rfl)) (je_lstM (ja_cons je_int ja_nil)))
      (jss_cons (js_for (ji_seq (je_var 0 rfl (.inl (by first | rfl | kernel_rfl)))) (jg_name 2 rfl (.inl (by first | rfl | kernel_rfl))) (jss_one (js_expr (je_append (je_var 1 rfl (.inl (by first | rfl | kernel_rfl))) (je_op os_add (je_ix (je_var 1 rfl (.inl (by first | rfl | kernel_rfl))) (je_neg je_int)) (je_var 2 rfl (.inl (by first | rfl | kernel_rfl))))))))
      (jss_one (js_ret (je_callTy cs_tuple (by first | rfl | kernel_rfl) GG.b_tuple bt_tuple (ja_cons (je_var 1 rfl (.inl (by first | rfl | kernel_rfl))) ja_nil))))))
theorem f_sums_by {g : Gb} (GG : GF g) : Fn g (top 17) "sums_by" "sums_by" ["row"] 1 D_sums_by := by
  obtain ⟨f, fd, hx, D0⟩ := GG.d_sums_by
  exact fn_mk outD outD_hout hx D0 sc_sums_by (fun kV doc pm an cdv ct us hl => match us, hl with | [_], _ => rfl) (fun b hr => b_sums_by GG b hr)
/-- above_by -/
theorem sc_above_by : FnScope ["row", "each"] ["row"] (defScope (top 18)) := ⟨rfl, rfl, rfl, by decide +kernel, rfl, by decide +kernel, by decide +kernel⟩
def m_above_by_t1 : XM Bool :=
  (xbool (xop gtD (xvar 1) (xpure (.int 0))))
def m_above_by : SM :=
  (sret (xcall (f1 lenD) (xcons (xcomp (xwalk (xfn 1 (D_sums_by) (xcons (xvar 0) (xpure [])))) [1] (gname 1) m_above_by_t1 (xvar 1)) (xpure []))))
abbrev D_above_by : DF := runF 2 m_above_by
theorem b_above_by {g : Gb} (GG : GF g) (b : Bd) (hr : Room 2 (b.A.deeper (PyProof.Rows.envOfC b.qual (defScope (top 18)) b.s.heap.objs.size b.f b.cdv))) :
    JSs (famB g 2 ["row", "each"] sc_above_by.nd (defScope (top 18)) b hr) (defBody (top 18)) m_above_by :=
  (jss_one (js_ret (je_callB cs_len (by first | rfl | kernel_rfl) GG.b_len bt_len (ja_cons (je_lc [("each", 1)] (ji_seq (je_call (f_sums_by GG) (Nat.le_of_ble_eq_true rfl) (by first | rfl | kernel_rfl) (ja_cons (je_var 0 rfl (.inl (by first | rfl | kernel_rfl))) ja_nil))) (by first | rfl | kernel_rfl) (jc_name 1 rfl (.inl (by first | rfl | kernel_rfl)) (by decide)) (jts_one (jt_cmp os_gt (je_var 1 rfl (.inl (by first | rfl | kernel_rfl))) je_int rfl)) (je_var 1 rfl (.inl (by first | rfl | kernel_rfl)))) ja_nil))))
theorem f_above_by {g : Gb} (GG : GF g) : Fn g (top 18) "above_by" "above_by" ["row"] 3 D_above_by := by
  obtain ⟨f, fd, hx, D0⟩ := GG.d_above_by
  exact fn_mk outD outD_hout hx D0 sc_above_by (fun kV doc pm an cdv ct us hl => match us, hl with | [_], _ => rfl) (fun b hr => b_above_by GG b hr)
/-- orders_above_by -/
theorem sc_orders_above_by : FnScope ["row", "each"] ["row"] (defScope (top 38)) := ⟨rfl, rfl, rfl, by decide +kernel, rfl, by decide +kernel, by decide +kernel⟩
def m_orders_above_by_e1 : XM D :=
  (xfn 1 (D_above_by) (xcons (xvar 1) (xpure [])))
def m_orders_above_by : SM :=
  (sret (xfn 2 (D_counted) (xcons (xcomp (xwalk (xfn 1 (D_all_in_order) (xcons (xvar 0) (xpure [])))) [1] (gname 1) (xpure true) m_orders_above_by_e1) (xcons (xcall (f1 lenD) (xcons (xvar 0) (xpure []))) (xpure [])))))
abbrev D_orders_above_by : DF := runF 2 m_orders_above_by
theorem b_orders_above_by {g : Gb} (GG : GF g) (b : Bd) (hr : Room 4 (b.A.deeper (PyProof.Rows.envOfC b.qual (defScope (top 38)) b.s.heap.objs.size b.f b.cdv))) :
    JSs (famB g 4 ["row", "each"] sc_orders_above_by.nd (defScope (top 38)) b hr) (defBody (top 38)) m_orders_above_by :=
  (jss_one (js_ret (je_call (f_counted GG) (Nat.le_of_ble_eq_true rfl) (by first | rfl | kernel_rfl) (ja_cons (je_lc [("each", 1)] (ji_seq (je_call (f_all_in_order GG) (Nat.le_of_ble_eq_true rfl) (by first | rfl | kernel_rfl) (ja_cons (je_var 0 rfl (.inl (by first | rfl | kernel_rfl))) ja_nil))) (by first | rfl | kernel_rfl) (jc_name 1 rfl (.inl (by first | rfl | kernel_rfl)) (by decide)) jts_nil (je_call (f_above_by GG) (Nat.le_of_ble_eq_true rfl) (by first | rfl | kernel_rfl) (ja_cons (je_var 1 rfl (.inl (by first | rfl | kernel_rfl))) ja_nil))) (ja_cons (je_callB cs_len (by first | rfl | kernel_rfl) GG.b_len bt_len (ja_cons (je_var 0 rfl (.inl (by first | rfl | kernel_rfl))) ja_nil)) ja_nil)))))
theorem f_orders_above_by {g : Gb} (GG : GF g) : Fn g (top 38) "orders_above_by" "orders_above_by" ["row"] 5 D_orders_above_by := by
  obtain ⟨f, fd, hx, D0⟩ := GG.d_orders_above_by
  exact fn_mk outD outD_hout hx D0 sc_orders_above_by (fun kV doc pm an cdv ct us hl => match us, hl with | [_], _ => rfl) (fun b hr => b_orders_above_by GG b hr)
/-- orders_above -/
theorem sc_orders_above : FnScope ["row"] ["row"] (defScope (top 46)) := ⟨rfl, rfl, rfl, by decide +kernel, rfl, by decide +kernel, by decide +kernel⟩
def m_orders_above : SM :=
  (sseq (sdrop (xfn 1 (D_check_few_numbers) (xcons (xvar 0) (xpure [])))) (sret (xfn 1 (D_orders_above_by) (xcons (xvar 0) (xpure [])))))
abbrev D_orders_above : DF := runF 1 m_orders_above
theorem b_orders_above {g : Gb} (GG : GF g) (b : Bd) (hr : Room 12 (b.A.deeper (PyProof.Rows.envOfC b.qual (defScope (top 46)) b.s.heap.objs.size b.f b.cdv))) :
    JSs (famB g 12 ["row"] sc_orders_above.nd (defScope (top 46)) b hr) (defBody (top 46)) m_orders_above :=
  (jss_cons (js_expr (je_call (f_check_few_numbers GG) (Nat.le_of_ble_eq_true rfl) (by first | rfl | kernel_rfl) (ja_cons (je_var 0 rfl (.inl (by first | rfl | kernel_rfl))) ja_nil)))
      (jss_one (js_ret (je_call (f_orders_above_by GG) (Nat.le_of_ble_eq_true rfl) (by first | rfl | kernel_rfl) (ja_cons (je_var 0 rfl (.inl (by first | rfl | kernel_rfl))) ja_nil)))))
theorem f_orders_above {g : Gb} (GG : GF g) : Fn g (top 46) "orders_above" "orders_above" ["row"] 13 D_orders_above := by
  obtain ⟨f, fd, hx, D0⟩ := GG.d_orders_above
  exact fn_mk outD outD_hout hx D0 sc_orders_above (fun kV doc pm an cdv ct us hl => match us, hl with | [_], _ => rfl) (fun b hr => b_orders_above GG b hr)
/-- places_with -/
theorem sc_places_with : FnScope ["row", "value", "each", "place"] ["row", "value"] (defScope (top 21)) := ⟨rfl, rfl, rfl, by decide +kernel, rfl, by decide +kernel, by decide +kernel⟩
def m_places_with_t1 : XM Bool :=
  (xbool (xop eqD (xvar 2) (xvar 1)))
def m_places_with : SM :=
  (sret (xcomp (xenum (xfn 1 (D_sums_by) (xcons (xvar 0) (xpure [])))) [3, 2] (gtup 2 (gcons (gname 3) (gcons (gname 2) gnil))) m_places_with_t1 (xvar 3)))
abbrev D_places_with : DF := runF 4 m_places_with
theorem b_places_with {g : Gb} (GG : GF g) (b : Bd) (hr : Room 2 (b.A.deeper (PyProof.Rows.envOfC b.qual (defScope (top 21)) b.s.heap.objs.size b.f b.cdv))) :
    JSs (famB g 2 ["row", "value", "each", "place"] sc_places_with.nd (defScope (top 21)) b hr) (defBody (top 21)) m_places_with :=
  (jss_one (js_ret (je_lc [("place", 3), ("each", 2)] (ji_enum (by first | rfl | kernel_rfl) GG.b_enumerate (je_call (f_sums_by GG) (Nat.le_of_ble_eq_true rfl) (by first | rfl | kernel_rfl) (ja_cons (je_var 0 rfl (.inl (by first | rfl | kernel_rfl))) ja_nil))) (by first | rfl | kernel_rfl) (jc_tup (jcs_cons (jc_name 3 rfl (.inl (by first | rfl | kernel_rfl)) (by decide)) (jcs_cons (jc_name 2 rfl (.inl (by first | rfl | kernel_rfl)) (by decide)) jcs_nil))) (jts_one (jt_cmp os_eq (je_var 2 rfl (.inl (by first | rfl | kernel_rfl))) (je_var 1 rfl (.inr (.inl (by first | rfl | kernel_rfl)))) rfl)) (je_var 3 rfl (.inl (by first | rfl | kernel_rfl))))))
theorem f_places_with {g : Gb} (GG : GF g) : Fn g (top 21) "places_with" "places_with" ["row", "value"] 3 D_places_with := by
  obtain ⟨f, fd, hx, D0⟩ := GG.d_places_with
  exact fn_mk outD outD_hout hx D0 sc_places_with (fun kV doc pm an cdv ct us hl => match us, hl with | [_, _], _ => rfl) (fun b hr => b_places_with GG b hr)
/-- highest_by -/
theorem sc_highest_by : FnScope ["row"] ["row"] (defScope (top 20)) := ⟨rfl, rfl, rfl, by decide +kernel, rfl, by decide +kernel, by decide +kernel⟩
def m_highest_by : SM :=
  (sret (xcall (f1 maxD) (xcons (xfn 1 (D_sums_by) (xcons (xvar 0) (xpure []))) (xpure []))))
abbrev D_highest_by : DF := runF 1 m_highest_by
theorem b_highest_by {g : Gb} (GG : GF g) (b : Bd) (hr : Room 2 (b.A.deeper (PyProof.Rows.envOfC b.qual (defScope (top 20)) b.s.heap.objs.size b.f b.cdv))) :
    JSs (famB g 2 ["row"] sc_highest_by.nd (defScope (top 20)) b hr) (defBody (top 20)) m_highest_by :=
  (jss_one (js_ret (je_callB cs_max (by first | rfl | kernel_rfl) GG.b_max bt_max (ja_cons (je_call (f_sums_by GG) (Nat.le_of_ble_eq_true rfl) (by first | rfl | kernel_rfl) (ja_cons (je_var 0 rfl (.inl (by first | rfl | kernel_rfl))) ja_nil)) ja_nil))))
theorem f_highest_by {g : Gb} (GG : GF g) : Fn g (top 20) "highest_by" "highest_by" ["row"] 3 D_highest_by := by
  obtain ⟨f, fd, hx, D0⟩ := GG.d_highest_by
  exact fn_mk outD outD_hout hx D0 sc_highest_by (fun kV doc pm an cdv ct us hl => match us, hl with | [_], _ => rfl) (fun b hr => b_highest_by GG b hr)
/-- first_highest_by -/
theorem sc_first_highest_by : FnScope ["row"] ["row"] (defScope (top 22)) := ⟨rfl, rfl, rfl, by decide +kernel, rfl, by decide +kernel, by decide +kernel⟩
def m_first_highest_by : SM :=
  (sret (xop ixD (xfn 2 (D_places_with) (xcons (xvar 0) (xcons (xfn 1 (D_highest_by) (xcons (xvar 0) (xpure []))) (xpure [])))) (xpure (.int 0))))
abbrev D_first_highest_by : DF := runF 1 m_first_highest_by
theorem b_first_highest_by {g : Gb} (GG : GF g) (b : Bd) (hr : Room 4 (b.A.deeper (PyProof.Rows.envOfC b.qual (defScope (top 22)) b.s.heap.objs.size b.f b.cdv))) :
    JSs (famB g 4 ["row"] sc_first_highest_by.nd (defScope (top 22)) b hr) (defBody (top 22)) m_first_highest_by :=
  (jss_one (js_ret (je_ix (je_call (f_places_with GG) (Nat.le_of_ble_eq_true rfl) (by first | rfl | kernel_rfl) (ja_cons (je_var 0 rfl (.inl (by first | rfl | kernel_rfl))) (ja_cons (je_call (f_highest_by GG) (Nat.le_of_ble_eq_true rfl) (by first | rfl | kernel_rfl) (ja_cons (je_var 0 rfl (.inl (by first | rfl | kernel_rfl))) ja_nil)) ja_nil))) je_int)))
theorem f_first_highest_by {g : Gb} (GG : GF g) : Fn g (top 22) "first_highest_by" "first_highest_by" ["row"] 5 D_first_highest_by := by
  obtain ⟨f, fd, hx, D0⟩ := GG.d_first_highest_by
  exact fn_mk outD outD_hout hx D0 sc_first_highest_by (fun kV doc pm an cdv ct us hl => match us, hl with | [_], _ => rfl) (fun b hr => b_first_highest_by GG b hr)
/-- orders_first_by -/
theorem sc_orders_first_by : FnScope ["row", "each"] ["row"] (defScope (top 40)) := ⟨rfl, rfl, rfl, by decide +kernel, rfl, by decide +kernel, by decide +kernel⟩
def m_orders_first_by_e1 : XM D :=
  (xfn 1 (D_first_highest_by) (xcons (xvar 1) (xpure [])))
def m_orders_first_by : SM :=
  (sret (xfn 2 (D_counted) (xcons (xcomp (xwalk (xfn 1 (D_all_in_order) (xcons (xvar 0) (xpure [])))) [1] (gname 1) (xpure true) m_orders_first_by_e1) (xcons (xcall (f1 lenD) (xcons (xvar 0) (xpure []))) (xpure [])))))
abbrev D_orders_first_by : DF := runF 2 m_orders_first_by
theorem b_orders_first_by {g : Gb} (GG : GF g) (b : Bd) (hr : Room 6 (b.A.deeper (PyProof.Rows.envOfC b.qual (defScope (top 40)) b.s.heap.objs.size b.f b.cdv))) :
    JSs (famB g 6 ["row", "each"] sc_orders_first_by.nd (defScope (top 40)) b hr) (defBody (top 40)) m_orders_first_by :=
  (jss_one (js_ret (je_call (f_counted GG) (Nat.le_of_ble_eq_true rfl) (by first | rfl | kernel_rfl) (ja_cons (je_lc [("each", 1)] (ji_seq (je_call (f_all_in_order GG) (Nat.le_of_ble_eq_true rfl) (by first | rfl | kernel_rfl) (ja_cons (je_var 0 rfl (.inl (by first | rfl | kernel_rfl))) ja_nil))) (by first | rfl | kernel_rfl) (jc_name 1 rfl (.inl (by first | rfl | kernel_rfl)) (by decide)) jts_nil (je_call (f_first_highest_by GG) (Nat.le_of_ble_eq_true rfl) (by first | rfl | kernel_rfl) (ja_cons (je_var 1 rfl (.inl (by first | rfl | kernel_rfl))) ja_nil))) (ja_cons (je_callB cs_len (by first | rfl | kernel_rfl) GG.b_len bt_len (ja_cons (je_var 0 rfl (.inl (by first | rfl | kernel_rfl))) ja_nil)) ja_nil)))))
theorem f_orders_first_by {g : Gb} (GG : GF g) : Fn g (top 40) "orders_first_by" "orders_first_by" ["row"] 7 D_orders_first_by := by
  obtain ⟨f, fd, hx, D0⟩ := GG.d_orders_first_by
  exact fn_mk outD outD_hout hx D0 sc_orders_first_by (fun kV doc pm an cdv ct us hl => match us, hl with | [_], _ => rfl) (fun b hr => b_orders_first_by GG b hr)
/-- orders_first -/
theorem sc_orders_first : FnScope ["row"] ["row"] (defScope (top 48)) := ⟨rfl, rfl, rfl, by decide +kernel, rfl, by decide +kernel, by decide +kernel⟩
def m_orders_first : SM :=
  (sseq (sdrop (xfn 1 (D_check_few_numbers) (xcons (xvar 0) (xpure [])))) (sret (xfn 1 (D_orders_first_by) (xcons (xvar 0) (xpure [])))))
abbrev D_orders_first : DF := runF 1 m_orders_first
theorem b_orders_first {g : Gb} (GG : GF g) (b : Bd) (hr : Room 12 (b.A.deeper (PyProof.Rows.envOfC b.qual (defScope (top 48)) b.s.heap.objs.size b.f b.cdv))) :
    JSs (famB g 12 ["row"] sc_orders_first.nd (defScope (top 48)) b hr) (defBody (top 48)) m_orders_first :=
  (jss_cons (js_expr (je_call (f_check_few_numbers GG) (Nat.le_of_ble_eq_true rfl) (by first | rfl | kernel_rfl) (ja_cons (je_var 0 rfl (.inl (by first | rfl | kernel_rfl))) ja_nil)))
      (jss_one (js_ret (je_call (f_orders_first_by GG) (Nat.le_of_ble_eq_true rfl) (by first | rfl | kernel_rfl) (ja_cons (je_var 0 rfl (.inl (by first | rfl | kernel_rfl))) ja_nil)))))
theorem f_orders_first {g : Gb} (GG : GF g) : Fn g (top 48) "orders_first" "orders_first" ["row"] 13 D_orders_first := by
  obtain ⟨f, fd, hx, D0⟩ := GG.d_orders_first
  exact fn_mk outD outD_hout hx D0 sc_orders_first (fun kV doc pm an cdv ct us hl => match us, hl with | [_], _ => rfl) (fun b hr => b_orders_first GG b hr)
/-- not_below_by -/
theorem sc_not_below_by : FnScope ["row", "each"] ["row"] (defScope (top 19)) := ⟨rfl, rfl, rfl, by decide +kernel, rfl, by decide +kernel, by decide +kernel⟩
def m_not_below_by_t1 : XM Bool :=
  (xbool (xop geD (xvar 1) (xpure (.int 0))))
def m_not_below_by : SM :=
  (sret (xcall (f1 lenD) (xcons (xcomp (xwalk (xslice (xfn 1 (D_sums_by) (xcons (xvar 0) (xpure []))) (xpart (xpure (.int 1))) (xpure none))) [1] (gname 1) m_not_below_by_t1 (xvar 1)) (xpure []))))
abbrev D_not_below_by : DF := runF 2 m_not_below_by
theorem b_not_below_by {g : Gb} (GG : GF g) (b : Bd) (hr : Room 2 (b.A.deeper (PyProof.Rows.envOfC b.qual (defScope (top 19)) b.s.heap.objs.size b.f b.cdv))) :
    JSs (famB g 2 ["row", "each"] sc_not_below_by.nd (defScope (top 19)) b hr) (defBody (top 19)) m_not_below_by :=
  (jss_one (js_ret (je_callB cs_len (by first | rfl | kernel_rfl) GG.b_len bt_len (ja_cons (je_lc [("each", 1)] (ji_seq (je_slice (je_call (f_sums_by GG) (Nat.le_of_ble_eq_true rfl) (by first | rfl | kernel_rfl) (ja_cons (je_var 0 rfl (.inl (by first | rfl | kernel_rfl))) ja_nil)) (jo_some je_int) jo_none)) (by first | rfl | kernel_rfl) (jc_name 1 rfl (.inl (by first | rfl | kernel_rfl)) (by decide)) (jts_one (jt_cmp os_ge (je_var 1 rfl (.inl (by first | rfl | kernel_rfl))) je_int rfl)) (je_var 1 rfl (.inl (by first | rfl | kernel_rfl)))) ja_nil))))
theorem f_not_below_by {g : Gb} (GG : GF g) : Fn g (top 19) "not_below_by" "not_below_by" ["row"] 3 D_not_below_by := by
  obtain ⟨f, fd, hx, D0⟩ := GG.d_not_below_by
  exact fn_mk outD outD_hout hx D0 sc_not_below_by (fun kV doc pm an cdv ct us hl => match us, hl with | [_], _ => rfl) (fun b hr => b_not_below_by GG b hr)
/-- orders_not_below_by -/
theorem sc_orders_not_below_by : FnScope ["row", "each"] ["row"] (defScope (top 39)) := ⟨rfl, rfl, rfl, by decide +kernel, rfl, by decide +kernel, by decide +kernel⟩
def m_orders_not_below_by_e1 : XM D :=
  (xfn 1 (D_not_below_by) (xcons (xvar 1) (xpure [])))
def m_orders_not_below_by : SM :=
  (sret (xfn 2 (D_counted) (xcons (xcomp (xwalk (xfn 1 (D_all_in_order) (xcons (xvar 0) (xpure [])))) [1] (gname 1) (xpure true) m_orders_not_below_by_e1) (xcons (xcall (f1 lenD) (xcons (xvar 0) (xpure []))) (xpure [])))))
abbrev D_orders_not_below_by : DF := runF 2 m_orders_not_below_by
theorem b_orders_not_below_by {g : Gb} (GG : GF g) (b : Bd) (hr : Room 4 (b.A.deeper (PyProof.Rows.envOfC b.qual (defScope (top 39)) b.s.heap.objs.size b.f b.cdv))) :
    JSs (famB g 4 ["row", "each"] sc_orders_not_below_by.nd (defScope (top 39)) b hr) (defBody (top 39)) m_orders_not_below_by :=
  (jss_one (js_ret (je_call (f_counted GG) (Nat.le_of_ble_eq_true rfl) (by first | rfl | kernel_rfl) (ja_cons (je_lc [("each", 1)] (ji_seq (je_call (f_all_in_order GG) (Nat.le_of_ble_eq_true rfl) (by first | rfl | kernel_rfl) (ja_cons (je_var 0 rfl (.inl (by first | rfl | kernel_rfl))) ja_nil))) (by first | rfl | kernel_rfl) (jc_name 1 rfl (.inl (by first | rfl | kernel_rfl)) (by decide)) jts_nil (je_call (f_not_below_by GG) (Nat.le_of_ble_eq_true rfl) (by first | rfl | kernel_rfl) (ja_cons (je_var 1 rfl (.inl (by first | rfl | kernel_rfl))) ja_nil))) (ja_cons (je_callB cs_len (by first | rfl | kernel_rfl) GG.b_len bt_len (ja_cons (je_var 0 rfl (.inl (by first | rfl | kernel_rfl))) ja_nil)) ja_nil)))))
theorem f_orders_not_below_by {g : Gb} (GG : GF g) : Fn g (top 39) "orders_not_below_by" "orders_not_below_by" ["row"] 5 D_orders_not_below_by := by
  obtain ⟨f, fd, hx, D0⟩ := GG.d_orders_not_below_by
  exact fn_mk outD outD_hout hx D0 sc_orders_not_below_by (fun kV doc pm an cdv ct us hl => match us, hl with | [_], _ => rfl) (fun b hr => b_orders_not_below_by GG b hr)
/-- orders_not_below -/
theorem sc_orders_not_below : FnScope ["row"] ["row"] (defScope (top 47)) := ⟨rfl, rfl, rfl, by decide +kernel, rfl, by decide +kernel, by decide +kernel⟩
def m_orders_not_below : SM :=
  (sseq (sdrop (xfn 1 (D_check_few_numbers) (xcons (xvar 0) (xpure [])))) (sret (xfn 1 (D_orders_not_below_by) (xcons (xvar 0) (xpure [])))))
abbrev D_orders_not_below : DF := runF 1 m_orders_not_below
theorem b_orders_not_below {g : Gb} (GG : GF g) (b : Bd) (hr : Room 12 (b.A.deeper (PyProof.Rows.envOfC b.qual (defScope (top 47)) b.s.heap.objs.size b.f b.cdv))) :
    JSs (famB g 12 ["row"] sc_orders_not_below.nd (defScope (top 47)) b hr) (defBody (top 47)) m_orders_not_below :=
  (jss_cons (js_expr (je_call (f_check_few_numbers GG) (Nat.le_of_ble_eq_true rfl) (by first | rfl | kernel_rfl) (ja_cons (je_var 0 rfl (.inl (by first | rfl | kernel_rfl))) ja_nil)))
      (jss_one (js_ret (je_call (f_orders_not_below_by GG) (Nat.le_of_ble_eq_true rfl) (by first | rfl | kernel_rfl) (ja_cons (je_var 0 rfl (.inl (by first | rfl | kernel_rfl))) ja_nil)))))
theorem f_orders_not_below {g : Gb} (GG : GF g) : Fn g (top 47) "orders_not_below" "orders_not_below" ["row"] 13 D_orders_not_below := by
  obtain ⟨f, fd, hx, D0⟩ := GG.d_orders_not_below
  exact fn_mk outD outD_hout hx D0 sc_orders_not_below (fun kV doc pm an cdv ct us hl => match us, hl with | [_], _ => rfl) (fun b hr => b_orders_not_below GG b hr)
/-- last_highest_by -/
theorem sc_last_highest_by : FnScope ["row"] ["row"] (defScope (top 23)) := ⟨rfl, rfl, rfl, by decide +kernel, rfl, by decide +kernel, by decide +kernel⟩
def m_last_highest_by : SM :=
  (sret (xop ixD (xfn 2 (D_places_with) (xcons (xvar 0) (xcons (xfn 1 (D_highest_by) (xcons (xvar 0) (xpure []))) (xpure [])))) (xneg (xpure (.int 1)))))
abbrev D_last_highest_by : DF := runF 1 m_last_highest_by
theorem b_last_highest_by {g : Gb} (GG : GF g) (b : Bd) (hr : Room 4 (b.A.deeper (PyProof.Rows.envOfC b.qual (defScope (top 23)) b.s.heap.objs.size b.f b.cdv))) :
    JSs (famB g 4 ["row"] sc_last_highest_by.nd (defScope (top 23)) b hr) (defBody (top 23)) m_last_highest_by :=
  (jss_one (js_ret (je_ix (je_call (f_places_with GG) (Nat.le_of_ble_eq_true rfl) (by first | rfl | kernel_rfl) (ja_cons (je_var 0 rfl (.inl (by first | rfl | kernel_rfl))) (ja_cons (je_call (f_highest_by GG) (Nat.le_of_ble_eq_true rfl) (by first | rfl | kernel_rfl) (ja_cons (je_var 0 rfl (.inl (by first | rfl | kernel_rfl))) ja_nil)) ja_nil))) (je_neg je_int))))
theorem f_last_highest_by {g : Gb} (GG : GF g) : Fn g (top 23) "last_highest_by" "last_highest_by" ["row"] 5 D_last_highest_by := by
  obtain ⟨f, fd, hx, D0⟩ := GG.d_last_highest_by
  exact fn_mk outD outD_hout hx D0 sc_last_highest_by (fun kV doc pm an cdv ct us hl => match us, hl with | [_], _ => rfl) (fun b hr => b_last_highest_by GG b hr)
/-- orders_last_by -/
theorem sc_orders_last_by : FnScope ["row", "each"] ["row"] (defScope (top 41)) := ⟨rfl, rfl, rfl, by decide +kernel, rfl, by decide +kernel, by decide +kernel⟩
def m_orders_last_by_e1 : XM D :=
  (xfn 1 (D_last_highest_by) (xcons (xvar 1) (xpure [])))
def m_orders_last_by : SM :=
  (sret (xfn 2 (D_counted) (xcons (xcomp (xwalk (xfn 1 (D_all_in_order) (xcons (xvar 0) (xpure [])))) [1] (gname 1) (xpure true) m_orders_last_by_e1) (xcons (xcall (f1 lenD) (xcons (xvar 0) (xpure []))) (xpure [])))))
abbrev D_orders_last_by : DF := runF 2 m_orders_last_by
theorem b_orders_last_by {g : Gb} (GG : GF g) (b : Bd) (hr : Room 6 (b.A.deeper (PyProof.Rows.envOfC b.qual (defScope (top 41)) b.s.heap.objs.size b.f b.cdv))) :
    JSs (famB g 6 ["row", "each"] sc_orders_last_by.nd (defScope (top 41)) b hr) (defBody (top 41)) m_orders_last_by :=
  (jss_one (js_ret (je_call (f_counted GG) (Nat.le_of_ble_eq_true rfl) (by first | rfl | kernel_rfl) (ja_cons (je_lc [("each", 1)] (ji_seq (je_call (f_all_in_order GG) (Nat.le_of_ble_eq_true rfl) (by first | rfl | kernel_rfl) (ja_cons (je_var 0 rfl (.inl (by first | rfl | kernel_rfl))) ja_nil))) (by first | rfl | kernel_rfl) (jc_name 1 rfl (.inl (by first | rfl | kernel_rfl)) (by decide)) jts_nil (je_call (f_last_highest_by GG) (Nat.le_of_ble_eq_true rfl) (by first | rfl | kernel_rfl) (ja_cons (je_var 1 rfl (.inl (by first | rfl | kernel_rfl))) ja_nil))) (ja_cons (je_callB cs_len (by first | rfl | kernel_rfl) GG.b_len bt_len (ja_cons (je_var 0 rfl (.inl (by first | rfl | kernel_rfl))) ja_nil)) ja_nil)))))
theorem f_orders_last_by {g : Gb} (GG : GF g) : Fn g (top 41) "orders_last_by" "orders_last_by" ["row"] 7 D_orders_last_by := by
  obtain ⟨f, fd, hx, D0⟩ := GG.d_orders_last_by
  exact fn_mk outD outD_hout hx D0 sc_orders_last_by (fun kV doc pm an cdv ct us hl => match us, hl with | [_], _ => rfl) (fun b hr => b_orders_last_by GG b hr)
/-- orders_last -/
theorem sc_orders_last : FnScope ["row"] ["row"] (defScope (top 49)) := ⟨rfl, rfl, rfl, by decide +kernel, rfl, by decide +kernel, by decide +kernel⟩
def m_orders_last : SM :=
  (sseq (sdrop (xfn 1 (D_check_few_numbers) (xcons (xvar 0) (xpure [])))) (sret (xfn 1 (D_orders_last_by) (xcons (xvar 0) (xpure [])))))
abbrev D_orders_last : DF := runF 1 m_orders_last
theorem b_orders_last {g : Gb} (GG : GF g) (b : Bd) (hr : Room 12 (b.A.deeper (PyProof.Rows.envOfC b.qual (defScope (top 49)) b.s.heap.objs.size b.f b.cdv))) :
    JSs (famB g 12 ["row"] sc_orders_last.nd (defScope (top 49)) b hr) (defBody (top 49)) m_orders_last :=
  (jss_cons (js_expr (je_call (f_check_few_numbers GG) (Nat.le_of_ble_eq_true rfl) (by first | rfl | kernel_rfl) (ja_cons (je_var 0 rfl (.inl (by first | rfl | kernel_rfl))) ja_nil)))
      (jss_one (js_ret (je_call (f_orders_last_by GG) (Nat.le_of_ble_eq_true rfl) (by first | rfl | kernel_rfl) (ja_cons (je_var 0 rfl (.inl (by first | rfl | kernel_rfl))) ja_nil)))))
theorem f_orders_last {g : Gb} (GG : GF g) : Fn g (top 49) "orders_last" "orders_last" ["row"] 13 D_orders_last := by
  obtain ⟨f, fd, hx, D0⟩ := GG.d_orders_last
  exact fn_mk outD outD_hout hx D0 sc_orders_last (fun kV doc pm an cdv ct us hl => match us, hl with | [_], _ => rfl) (fun b hr => b_orders_last GG b hr)
/-- _law_same -/
theorem sc_u_law_same : FnScope ["one", "other", "k"] ["one", "other"] (defScope (top 65)) := ⟨rfl, rfl, rfl, by decide +kernel, rfl, by decide +kernel, by decide +kernel⟩
def m_u_law_same_t1 (RR : DF) : XM Bool :=
  (tnot (xtru (xfn 2 (RR) (xcons (xop ixD (xvar 0) (xvar 2)) (xcons (xop ixD (xvar 1) (xvar 2)) (xpure []))))))
def m_u_law_same (RR : DF) : SM :=
  (sseq (sif (xtru (xcall (f2 isiD) (xcons (xvar 0) (xcons (xpure (.ty "tuple")) (xpure []))))) (sret (xand (xcall (f2 isiD) (xcons (xvar 1) (xcons (xpure (.ty "tuple")) (xpure [])))) (xand (xop eqD (xcall (f1 lenD) (xcons (xvar 0) (xpure []))) (xcall (f1 lenD) (xcons (xvar 1) (xpure [])))) (xop eqD (xcomp (xrange1 (xcall (f1 lenD) (xcons (xvar 0) (xpure [])))) [2] (gname 2) (m_u_law_same_t1 RR) (xvar 2)) (xlst (xpure [])))))) snext) (sseq (sif (tor (xtru (xcall (f2 isiD) (xcons (xvar 0) (xcons (xpure (.ty "bool")) (xpure []))))) (xtru (xcall (f2 isiD) (xcons (xvar 1) (xcons (xpure (.ty "bool")) (xpure [])))))) (sret (xand (xcall (f2 isiD) (xcons (xvar 0) (xcons (xpure (.ty "bool")) (xpure [])))) (xand (xcall (f2 isiD) (xcons (xvar 1) (xcons (xpure (.ty "bool")) (xpure [])))) (xop eqD (xvar 0) (xvar 1))))) snext) (sret (xand (xop eqD (xcall (f2 isiD) (xcons (xvar 0) (xcons (xpure (.ty "int")) (xpure [])))) (xcall (f2 isiD) (xcons (xvar 1) (xcons (xpure (.ty "int")) (xpure []))))) (xand (xop eqD (xcall (f2 isiD) (xcons (xvar 0) (xcons (xpure (.ty "str")) (xpure [])))) (xcall (f2 isiD) (xcons (xvar 1) (xcons (xpure (.ty "str")) (xpure []))))) (xop eqD (xvar 0) (xvar 1)))))))
def D_u_law_same : Nat → DF
  | 0 => fun _ _ => .stuck
  | n + 1 => runF 3 (m_u_law_same (D_u_law_same n))
theorem b_u_law_same {g : Gb} (GG : GF g) {RR : DF} {k : Nat} (RF : Fn g (top 65) "_law_same" "_law_same" ["one", "other"] (k + 1) RR) (b : Bd) (hr : Room (k + 1) (b.A.deeper (PyProof.Rows.envOfC b.qual (defScope (top 65)) b.s.heap.objs.size b.f b.cdv))) :
    JSs (famB g (k + 1) ["one", "other", "k"] sc_u_law_same.nd (defScope (top 65)) b hr) (defBody (top 65)) (m_u_law_same RR) :=
  (jss_cons (js_if (jt_tru (je_callB cs_isi (by first | rfl | kernel_rfl) GG.b_isinstance bt_isinstance (ja_cons (je_var 0 rfl (.inr (.inl (by first | rfl | kernel_rfl)))) (ja_cons (je_gty (by first | rfl | kernel_rfl) GG.b_tuple bt_tuple) ja_nil)))) (jss_one (js_ret (je_and (je_callB cs_isi (by first | rfl | kernel_rfl) GG.b_isinstance bt_isinstance (ja_cons (je_var 1 rfl (.inr (.inl (by first | rfl | kernel_rfl)))) (ja_cons (je_gty (by first | rfl | kernel_rfl) GG.b_tuple bt_tuple) ja_nil))) (je_and (je_cmp os_eq (je_callB cs_len (by first | rfl | kernel_rfl) GG.b_len bt_len (ja_cons (je_var 0 rfl (.inr (.inl (by first | rfl | kernel_rfl)))) ja_nil)) (je_callB cs_len (by first | rfl | kernel_rfl) GG.b_len bt_len (ja_cons (je_var 1 rfl (.inr (.inl (by first | rfl | kernel_rfl)))) ja_nil)) rfl) (je_one (je_cmp os_eq (je_lc [("k", 2)] (ji_range1 (by first | rfl | kernel_rfl) GG.b_range (je_callB cs_len (by first | rfl | kernel_rfl) GG.b_len bt_len (ja_cons (je_var 0 rfl (.inr (.inl (by first | rfl | kernel_rfl)))) ja_nil))) (by first | rfl | kernel_rfl) (jc_name 2 rfl (.inl (by first | rfl | kernel_rfl)) (by decide)) (jts_one (jt_not (jt_tru (je_call RF (Nat.le_refl _) (by first | rfl | kernel_rfl) (ja_cons (je_ix (je_var 0 rfl (.inr (.inl (by first | rfl | kernel_rfl)))) (je_var 2 rfl (.inl (by first | rfl | kernel_rfl)))) (ja_cons (je_ix (je_var 1 rfl (.inr (.inl (by first | rfl | kernel_rfl)))) (je_var 2 rfl (.inl (by first | rfl | kernel_rfl)))) ja_nil)))))) (je_var 2 rfl (.inl (by first | rfl | kernel_rfl)))) (je_lst ja_nil) rfl)))))) jss_nil)
      (jss_cons (js_if (jw_or (jt_tru (je_callB cs_isi (by first | rfl | kernel_rfl) GG.b_isinstance bt_isinstance (ja_cons (je_var 0 rfl (.inr (.inl (by first | rfl | kernel_rfl)))) (ja_cons (je_gty (by first | rfl | kernel_rfl) GG.b_bool bt_bool) ja_nil)))) (jw_or1 (jt_tru (je_callB cs_isi (by first | rfl | kernel_rfl) GG.b_isinstance bt_isinstance (ja_cons (je_var 1 rfl (.inr (.inl (by first | rfl | kernel_rfl)))) (ja_cons (je_gty (by first | rfl | kernel_rfl) GG.b_bool bt_bool) ja_nil)))))).jt (jss_one (js_ret (je_and (je_callB cs_isi (by first | rfl | kernel_rfl) GG.b_isinstance bt_isinstance (ja_cons (je_var 0 rfl (.inr (.inl (by first | rfl | kernel_rfl)))) (ja_cons (je_gty (by first | rfl | kernel_rfl) GG.b_bool bt_bool) ja_nil))) (je_and (je_callB cs_isi (by first | rfl | kernel_rfl) GG.b_isinstance bt_isinstance (ja_cons (je_var 1 rfl (.inr (.inl (by first | rfl | kernel_rfl)))) (ja_cons (je_gty (by first | rfl | kernel_rfl) GG.b_bool bt_bool) ja_nil))) (je_one (je_cmp os_eq (je_var 0 rfl (.inr (.inl (by first | rfl | kernel_rfl)))) (je_var 1 rfl (.inr (.inl (by first | rfl | kernel_rfl)))) rfl)))))) jss_nil)
      (jss_one (js_ret (je_and (je_cmp os_eq (je_callB cs_isi (by first | rfl | kernel_rfl) GG.b_isinstance bt_isinstance (ja_cons (je_var 0 rfl (.inr (.inl (by first | rfl | kernel_rfl)))) (ja_cons (je_gty (by first | rfl | kernel_rfl) GG.b_int bt_int) ja_nil))) (je_callB cs_isi (by first | rfl | kernel_rfl) GG.b_isinstance bt_isinstance (ja_cons (je_var 1 rfl (.inr (.inl (by first | rfl | kernel_rfl)))) (ja_cons (je_gty (by first | rfl | kernel_rfl) GG.b_int bt_int) ja_nil))) rfl) (je_and (je_cmp os_eq (je_callB cs_isi (by first | rfl | kernel_rfl) GG.b_isinstance bt_isinstance (ja_cons (je_var 0 rfl (.inr (.inl (by first | rfl | kernel_rfl)))) (ja_cons (je_gty (by first | rfl | kernel_rfl) GG.b_str bt_str) ja_nil))) (je_callB cs_isi (by first | rfl | kernel_rfl) GG.b_isinstance bt_isinstance (ja_cons (je_var 1 rfl (.inr (.inl (by first | rfl | kernel_rfl)))) (ja_cons (je_gty (by first | rfl | kernel_rfl) GG.b_str bt_str) ja_nil))) rfl) (je_one (je_cmp os_eq (je_var 0 rfl (.inr (.inl (by first | rfl | kernel_rfl)))) (je_var 1 rfl (.inr (.inl (by first | rfl | kernel_rfl)))) rfl))))))))
theorem f_u_law_same {g : Gb} (GG : GF g) : ∀ n : Nat, Fn g (top 65) "_law_same" "_law_same" ["one", "other"] (n + 1) (D_u_law_same n)
  | 0 => let ⟨f, fd, hx, D0⟩ := GG.d_u_law_same; fn_stuck hx D0 sc_u_law_same (fun kV doc pm an cdv ct us hl => match us, hl with | [_, _], _ => rfl)
  | n + 1 => by
    obtain ⟨f, fd, hx, D0⟩ := GG.d_u_law_same
    have RF := f_u_law_same GG n
    have := fn_mk outD outD_hout hx D0 sc_u_law_same (fun kV doc pm an cdv ct us hl => match us, hl with | [_, _], _ => rfl) (fun b hr => b_u_law_same GG RF b hr)
    rw [show n + 1 + 1 = n + 1 + 1 by omega]
    exact this
/-- most_above_by -/
theorem sc_most_above_by : FnScope ["row"] ["row"] (defScope (top 25)) := ⟨rfl, rfl, rfl, by decide +kernel, rfl, by decide +kernel, by decide +kernel⟩
def m_most_above_by : SM :=
  (sret (xfn 1 (D_above_by) (xcons (xrev (xcall (f1 sortedD) (xcons (xvar 0) (xpure [])))) (xpure []))))
abbrev D_most_above_by : DF := runF 1 m_most_above_by
theorem b_most_above_by {g : Gb} (GG : GF g) (b : Bd) (hr : Room 4 (b.A.deeper (PyProof.Rows.envOfC b.qual (defScope (top 25)) b.s.heap.objs.size b.f b.cdv))) :
    JSs (famB g 4 ["row"] sc_most_above_by.nd (defScope (top 25)) b hr) (defBody (top 25)) m_most_above_by :=
  (jss_one (js_ret (je_call (f_above_by GG) (Nat.le_of_ble_eq_true rfl) (by first | rfl | kernel_rfl) (ja_cons (je_rev (je_callB cs_sorted (by first | rfl | kernel_rfl) GG.b_sorted bt_sorted (ja_cons (je_var 0 rfl (.inl (by first | rfl | kernel_rfl))) ja_nil))) ja_nil))))
theorem f_most_above_by {g : Gb} (GG : GF g) : Fn g (top 25) "most_above_by" "most_above_by" ["row"] 5 D_most_above_by := by
  obtain ⟨f, fd, hx, D0⟩ := GG.d_most_above_by
  exact fn_mk outD outD_hout hx D0 sc_most_above_by (fun kV doc pm an cdv ct us hl => match us, hl with | [_], _ => rfl) (fun b hr => b_most_above_by GG b hr)
/-- most_above -/
theorem sc_most_above : FnScope ["row"] ["row"] (defScope (top 59)) := ⟨rfl, rfl, rfl, by decide +kernel, rfl, by decide +kernel, by decide +kernel⟩
def m_most_above : SM :=
  (sseq (sdrop (xfn 1 (D_check_row) (xcons (xvar 0) (xpure [])))) (sret (xfn 1 (D_most_above_by) (xcons (xvar 0) (xpure [])))))
abbrev D_most_above : DF := runF 1 m_most_above
theorem b_most_above {g : Gb} (GG : GF g) (b : Bd) (hr : Room 10 (b.A.deeper (PyProof.Rows.envOfC b.qual (defScope (top 59)) b.s.heap.objs.size b.f b.cdv))) :
    JSs (famB g 10 ["row"] sc_most_above.nd (defScope (top 59)) b hr) (defBody (top 59)) m_most_above :=
  (jss_cons (js_expr (je_call (f_check_row GG) (Nat.le_of_ble_eq_true rfl) (by first | rfl | kernel_rfl) (ja_cons (je_var 0 rfl (.inl (by first | rfl | kernel_rfl))) ja_nil)))
      (jss_one (js_ret (je_call (f_most_above_by GG) (Nat.le_of_ble_eq_true rfl) (by first | rfl | kernel_rfl) (ja_cons (je_var 0 rfl (.inl (by first | rfl | kernel_rfl))) ja_nil)))))
theorem f_most_above {g : Gb} (GG : GF g) : Fn g (top 59) "most_above" "most_above" ["row"] 11 D_most_above := by
  obtain ⟨f, fd, hx, D0⟩ := GG.d_most_above
  exact fn_mk outD outD_hout hx D0 sc_most_above (fun kV doc pm an cdv ct us hl => match us, hl with | [_], _ => rfl) (fun b hr => b_most_above GG b hr)
/-- least_above_by -/
theorem sc_least_above_by : FnScope ["row"] ["row"] (defScope (top 26)) := ⟨rfl, rfl, rfl, by decide +kernel, rfl, by decide +kernel, by decide +kernel⟩
def m_least_above_by : SM :=
  (sret (xfn 1 (D_above_by) (xcons (xcall (f1 sortedD) (xcons (xvar 0) (xpure []))) (xpure []))))
abbrev D_least_above_by : DF := runF 1 m_least_above_by
theorem b_least_above_by {g : Gb} (GG : GF g) (b : Bd) (hr : Room 4 (b.A.deeper (PyProof.Rows.envOfC b.qual (defScope (top 26)) b.s.heap.objs.size b.f b.cdv))) :
    JSs (famB g 4 ["row"] sc_least_above_by.nd (defScope (top 26)) b hr) (defBody (top 26)) m_least_above_by :=
  (jss_one (js_ret (je_call (f_above_by GG) (Nat.le_of_ble_eq_true rfl) (by first | rfl | kernel_rfl) (ja_cons (je_callB cs_sorted (by first | rfl | kernel_rfl) GG.b_sorted bt_sorted (ja_cons (je_var 0 rfl (.inl (by first | rfl | kernel_rfl))) ja_nil)) ja_nil))))
theorem f_least_above_by {g : Gb} (GG : GF g) : Fn g (top 26) "least_above_by" "least_above_by" ["row"] 5 D_least_above_by := by
  obtain ⟨f, fd, hx, D0⟩ := GG.d_least_above_by
  exact fn_mk outD outD_hout hx D0 sc_least_above_by (fun kV doc pm an cdv ct us hl => match us, hl with | [_], _ => rfl) (fun b hr => b_least_above_by GG b hr)
/-- least_above -/
theorem sc_least_above : FnScope ["row"] ["row"] (defScope (top 60)) := ⟨rfl, rfl, rfl, by decide +kernel, rfl, by decide +kernel, by decide +kernel⟩
def m_least_above : SM :=
  (sseq (sdrop (xfn 1 (D_check_row) (xcons (xvar 0) (xpure [])))) (sret (xfn 1 (D_least_above_by) (xcons (xvar 0) (xpure [])))))
abbrev D_least_above : DF := runF 1 m_least_above
theorem b_least_above {g : Gb} (GG : GF g) (b : Bd) (hr : Room 10 (b.A.deeper (PyProof.Rows.envOfC b.qual (defScope (top 60)) b.s.heap.objs.size b.f b.cdv))) :
    JSs (famB g 10 ["row"] sc_least_above.nd (defScope (top 60)) b hr) (defBody (top 60)) m_least_above :=
  (jss_cons (js_expr (je_call (f_check_row GG) (Nat.le_of_ble_eq_true rfl) (by first | rfl | kernel_rfl) (ja_cons (je_var 0 rfl (.inl (by first | rfl | kernel_rfl))) ja_nil)))
      (jss_one (js_ret (je_call (f_least_above_by GG) (Nat.le_of_ble_eq_true rfl) (by first | rfl | kernel_rfl) (ja_cons (je_var 0 rfl (.inl (by first | rfl | kernel_rfl))) ja_nil)))))
theorem f_least_above {g : Gb} (GG : GF g) : Fn g (top 60) "least_above" "least_above" ["row"] 11 D_least_above := by
  obtain ⟨f, fd, hx, D0⟩ := GG.d_least_above
  exact fn_mk outD outD_hout hx D0 sc_least_above (fun kV doc pm an cdv ct us hl => match us, hl with | [_], _ => rfl) (fun b hr => b_least_above GG b hr)
/-- check_number -/
theorem sc_check_number : FnScope ["value", "low", "high"] ["value", "low", "high"] (defScope (top 32)) := ⟨rfl, rfl, rfl, by decide +kernel, rfl, by decide +kernel, by decide +kernel⟩
def m_check_number : SM :=
  (sif (tnot (xtru (xfn 3 (D_is_between) (xcons (xvar 0) (xcons (xvar 1) (xcons (xvar 2) (xpure []))))))) snever snext)
abbrev D_check_number : DF := runF 3 m_check_number
theorem b_check_number {g : Gb} (GG : GF g) (b : Bd) (hr : Room 4 (b.A.deeper (PyProof.Rows.envOfC b.qual (defScope (top 32)) b.s.heap.objs.size b.f b.cdv))) :
    JSs (famB g 4 ["value", "low", "high"] sc_check_number.nd (defScope (top 32)) b hr) (defBody (top 32)) m_check_number :=
  (jss_one (js_if (jt_not (jt_tru (je_call (f_is_between GG) (Nat.le_of_ble_eq_true rfl) (by first | rfl | kernel_rfl) (ja_cons (je_var 0 rfl (.inl (by first | rfl | kernel_rfl))) (ja_cons (je_var 1 rfl (.inl (by first | rfl | kernel_rfl))) (ja_cons (je_var 2 rfl (.inl (by first | rfl | kernel_rfl))) ja_nil)))))) (jss_one js_never) jss_nil))
theorem f_check_number {g : Gb} (GG : GF g) : Fn g (top 32) "check_number" "check_number" ["value", "low", "high"] 5 D_check_number := by
  obtain ⟨f, fd, hx, D0⟩ := GG.d_check_number
  exact fn_mk outD outD_hout hx D0 sc_check_number (fun kV doc pm an cdv ct us hl => match us, hl with | [_, _, _], _ => rfl) (fun b hr => b_check_number GG b hr)
/-- orders_with_by -/
theorem sc_orders_with_by : FnScope ["row", "many", "order"] ["row", "many"] (defScope (top 42)) := ⟨rfl, rfl, rfl, by decide +kernel, rfl, by decide +kernel, by decide +kernel⟩
def m_orders_with_by_t1 : XM Bool :=
  (xbool (xop eqD (xfn 1 (D_above_by) (xcons (xfn 2 (D_in_order_by) (xcons (xvar 0) (xcons (xvar 2) (xpure [])))) (xpure []))) (xvar 1)))
def m_orders_with_by : SM :=
  (sret (xcall (f1 tupleD) (xcons (xcomp (xwalk (xfn 1 (D_all_orders) (xcons (xvar 0) (xpure [])))) [2] (gname 2) m_orders_with_by_t1 (xvar 2)) (xpure []))))
abbrev D_orders_with_by : DF := runF 3 m_orders_with_by
theorem b_orders_with_by {g : Gb} (GG : GF g) (b : Bd) (hr : Room 4 (b.A.deeper (PyProof.Rows.envOfC b.qual (defScope (top 42)) b.s.heap.objs.size b.f b.cdv))) :
    JSs (famB g 4 ["row", "many", "order"] sc_orders_with_by.nd (defScope (top 42)) b hr) (defBody (top 42)) m_orders_with_by :=
  (jss_one (js_ret (je_callTy cs_tuple (by first | rfl | kernel_rfl) GG.b_tuple bt_tuple (ja_cons (je_lc [("order", 2)] (ji_seq (je_call (f_all_orders GG) (Nat.le_of_ble_eq_true rfl) (by first | rfl | kernel_rfl) (ja_cons (je_var 0 rfl (.inr (.inl (by first | rfl | kernel_rfl)))) ja_nil))) (by first | rfl | kernel_rfl) (jc_name 2 rfl (.inl (by first | rfl | kernel_rfl)) (by decide)) (jts_one (jt_cmp os_eq (je_call (f_above_by GG) (Nat.le_of_ble_eq_true rfl) (by first | rfl | kernel_rfl) (ja_cons (je_call (f_in_order_by GG) (Nat.le_of_ble_eq_true rfl) (by first | rfl | kernel_rfl) (ja_cons (je_var 0 rfl (.inr (.inl (by first | rfl | kernel_rfl)))) (ja_cons (je_var 2 rfl (.inl (by first | rfl | kernel_rfl))) ja_nil))) ja_nil)) (je_var 1 rfl (.inr (.inl (by first | rfl | kernel_rfl)))) rfl)) (je_var 2 rfl (.inl (by first | rfl | kernel_rfl)))) ja_nil))))
theorem f_orders_with_by {g : Gb} (GG : GF g) : Fn g (top 42) "orders_with_by" "orders_with_by" ["row", "many"] 5 D_orders_with_by := by
  obtain ⟨f, fd, hx, D0⟩ := GG.d_orders_with_by
  exact fn_mk outD outD_hout hx D0 sc_orders_with_by (fun kV doc pm an cdv ct us hl => match us, hl with | [_, _], _ => rfl) (fun b hr => b_orders_with_by GG b hr)
/-- orders_with -/
theorem sc_orders_with : FnScope ["row", "times"] ["row", "times"] (defScope (top 50)) := ⟨rfl, rfl, rfl, by decide +kernel, rfl, by decide +kernel, by decide +kernel⟩
def m_orders_with : SM :=
  (sseq (sdrop (xfn 1 (D_check_row) (xcons (xvar 0) (xpure [])))) (sseq (sdrop (xfn 3 (D_check_number) (xcons (xvar 1) (xcons (xpure (.int 0)) (xcons (xcall (f1 lenD) (xcons (xvar 0) (xpure []))) (xpure [])))))) (sseq (sdrop (xfn 2 (D_check_few) (xcons (xvar 0) (xcons (xpure (.int (6))) (xpure []))))) (sret (xfn 2 (D_orders_with_by) (xcons (xvar 0) (xcons (xvar 1) (xpure []))))))))
abbrev D_orders_with : DF := runF 2 m_orders_with
theorem b_orders_with {g : Gb} (GG : GF g) (b : Bd) (hr : Room 10 (b.A.deeper (PyProof.Rows.envOfC b.qual (defScope (top 50)) b.s.heap.objs.size b.f b.cdv))) :
    JSs (famB g 10 ["row", "times"] sc_orders_with.nd (defScope (top 50)) b hr) (defBody (top 50)) m_orders_with :=
  (jss_cons (js_expr (je_call (f_check_row GG) (Nat.le_of_ble_eq_true rfl) (by first | rfl | kernel_rfl) (ja_cons (je_var 0 rfl (.inl (by first | rfl | kernel_rfl))) ja_nil)))
      (jss_cons (js_expr (je_call (f_check_number GG) (Nat.le_of_ble_eq_true rfl) (by first | rfl | kernel_rfl) (ja_cons (je_var 1 rfl (.inl (by first | rfl | kernel_rfl))) (ja_cons je_int (ja_cons (je_callB cs_len (by first | rfl | kernel_rfl) GG.b_len bt_len (ja_cons (je_var 0 rfl (.inl (by first | rfl | kernel_rfl))) ja_nil)) ja_nil)))))
      (jss_cons (js_expr (je_call (f_check_few GG) (Nat.le_of_ble_eq_true rfl) (by first | rfl | kernel_rfl) (ja_cons (je_var 0 rfl (.inl (by first | rfl | kernel_rfl))) (ja_cons (je_gint (by first | rfl | kernel_rfl) GG.c_MOST_ORDERED) ja_nil))))
      (jss_one (js_ret (je_call (f_orders_with_by GG) (Nat.le_of_ble_eq_true rfl) (by first | rfl | kernel_rfl) (ja_cons (je_var 0 rfl (.inl (by first | rfl | kernel_rfl))) (ja_cons (je_var 1 rfl (.inl (by first | rfl | kernel_rfl))) ja_nil))))))))
theorem f_orders_with {g : Gb} (GG : GF g) : Fn g (top 50) "orders_with" "orders_with" ["row", "times"] 11 D_orders_with := by
  obtain ⟨f, fd, hx, D0⟩ := GG.d_orders_with
  exact fn_mk outD outD_hout hx D0 sc_orders_with (fun kV doc pm an cdv ct us hl => match us, hl with | [_, _], _ => rfl) (fun b hr => b_orders_with GG b hr)
/-- moved_by -/
theorem sc_moved_by : FnScope ["row", "pairs", "ahead", "each", "number"] ["row"] (defScope (top 27)) := ⟨rfl, rfl, rfl, by decide +kernel, rfl, by decide +kernel, by decide +kernel⟩
def m_moved_by_t1 : XM Bool :=
  (xbool (xop gtD (xvar 3) (xpure (.int 0))))
def m_moved_by_t2 : XM Bool :=
  (xbool (xop leD (xvar 3) (xpure (.int 0))))
def m_moved_by : SM :=
  (sseq (sset 1 (xlistZip 2 (xcons (xvar 0) (xcons (xslice (xfn 1 (D_sums_by) (xcons (xvar 0) (xpure []))) (xpart (xpure (.int 1))) (xpure none)) (xpure []))))) (sseq (sset 2 (xcomp (xwalk (xvar 1)) [4, 3] (gtup 2 (gcons (gname 4) (gcons (gname 3) gnil))) m_moved_by_t1 (xvar 4))) (sret (xcall (f1 tupleD) (xcons (xop addD (xrev (xvar 2)) (xcomp (xwalk (xvar 1)) [4, 3] (gtup 2 (gcons (gname 4) (gcons (gname 3) gnil))) m_moved_by_t2 (xvar 4))) (xpure []))))))
abbrev D_moved_by : DF := runF 5 m_moved_by
theorem b_moved_by {g : Gb} (GG : GF g) (b : Bd) (hr : Room 2 (b.A.deeper (PyProof.Rows.envOfC b.qual (defScope (top 27)) b.s.heap.objs.size b.f b.cdv))) :
    JSs (famB g 2 ["row", "pairs", "ahead", "each", "number"] sc_moved_by.nd (defScope (top 27)) b hr) (defBody (top 27)) m_moved_by :=
  (jss_cons (js_set 1 rfl (.inl (by first | rfl | kernel_rfl)) (je_listZip za2 (by first | rfl | kernel_rfl) GG.b_list (by first | rfl | kernel_rfl) GG.b_zip (ja_cons (je_var 0 rfl (.inl (by first | rfl | kernel_rfl))) (ja_cons (je_slice (je_call (f_sums_by GG) (Nat.le_of_ble_eq_true rfl) (by first | rfl | kernel_rfl) (ja_cons (je_var 0 rfl (.inl (by first | rfl | kernel_rfl))) ja_nil)) (jo_some je_int) jo_none) ja_nil))))
      (jss_cons (js_setLc 2 [("number", 4), ("each", 3)] rfl (by first | rfl | kernel_rfl) rfl rfl (by first | rfl | kernel_rfl) (ji_seq (je_var 1 rfl (.inl (by first | rfl | kernel_rfl)))) (by first | rfl | kernel_rfl) (jc_tup (jcs_cons (jc_name 4 rfl (.inl (by first | rfl | kernel_rfl)) (by decide)) (jcs_cons (jc_name 3 rfl (.inl (by first | rfl | kernel_rfl)) (by decide)) jcs_nil))) (jts_one (jt_cmp os_gt (je_var 3 rfl (.inl (by first | rfl | kernel_rfl))) je_int rfl)) (je_var 4 rfl (.inl (by first | rfl | kernel_rfl))))
      (jss_one (js_ret (je_callTy cs_tuple (by first | rfl | kernel_rfl) GG.b_tuple bt_tuple (ja_cons (je_op os_add (je_rev (je_var 2 rfl (.inl (by first | rfl | kernel_rfl)))) (je_lc [("number", 4), ("each", 3)] (ji_seq (je_var 1 rfl (.inl (by first | rfl | kernel_rfl)))) (by first | rfl | kernel_rfl) (jc_tup (jcs_cons (jc_name 4 rfl (.inl (by first | rfl | kernel_rfl)) (by decide)) (jcs_cons (jc_name 3 rfl (.inl (by first | rfl | kernel_rfl)) (by decide)) jcs_nil))) (jts_one (jt_cmp os_le (je_var 3 rfl (.inl (by first | rfl | kernel_rfl))) je_int rfl)) (je_var 4 rfl (.inl (by first | rfl | kernel_rfl))))) ja_nil))))))
theorem f_moved_by {g : Gb} (GG : GF g) : Fn g (top 27) "moved_by" "moved_by" ["row"] 3 D_moved_by := by
  obtain ⟨f, fd, hx, D0⟩ := GG.d_moved_by
  exact fn_mk outD outD_hout hx D0 sc_moved_by (fun kV doc pm an cdv ct us hl => match us, hl with | [_], _ => rfl) (fun b hr => b_moved_by GG b hr)
/-- moved -/
theorem sc_moved : FnScope ["row"] ["row"] (defScope (top 57)) := ⟨rfl, rfl, rfl, by decide +kernel, rfl, by decide +kernel, by decide +kernel⟩
def m_moved : SM :=
  (sseq (sdrop (xfn 1 (D_check_row) (xcons (xvar 0) (xpure [])))) (sret (xfn 1 (D_moved_by) (xcons (xvar 0) (xpure [])))))
abbrev D_moved : DF := runF 1 m_moved
theorem b_moved {g : Gb} (GG : GF g) (b : Bd) (hr : Room 10 (b.A.deeper (PyProof.Rows.envOfC b.qual (defScope (top 57)) b.s.heap.objs.size b.f b.cdv))) :
    JSs (famB g 10 ["row"] sc_moved.nd (defScope (top 57)) b hr) (defBody (top 57)) m_moved :=
  (jss_cons (js_expr (je_call (f_check_row GG) (Nat.le_of_ble_eq_true rfl) (by first | rfl | kernel_rfl) (ja_cons (je_var 0 rfl (.inl (by first | rfl | kernel_rfl))) ja_nil)))
      (jss_one (js_ret (je_call (f_moved_by GG) (Nat.le_of_ble_eq_true rfl) (by first | rfl | kernel_rfl) (ja_cons (je_var 0 rfl (.inl (by first | rfl | kernel_rfl))) ja_nil)))))
theorem f_moved {g : Gb} (GG : GF g) : Fn g (top 57) "moved" "moved" ["row"] 11 D_moved := by
  obtain ⟨f, fd, hx, D0⟩ := GG.d_moved
  exact fn_mk outD outD_hout hx D0 sc_moved (fun kV doc pm an cdv ct us hl => match us, hl with | [_], _ => rfl) (fun b hr => b_moved GG b hr)
/-- first_highest -/
theorem sc_first_highest : FnScope ["row"] ["row"] (defScope (top 54)) := ⟨rfl, rfl, rfl, by decide +kernel, rfl, by decide +kernel, by decide +kernel⟩
def m_first_highest : SM :=
  (sseq (sdrop (xfn 1 (D_check_row) (xcons (xvar 0) (xpure [])))) (sret (xfn 1 (D_first_highest_by) (xcons (xvar 0) (xpure [])))))
abbrev D_first_highest : DF := runF 1 m_first_highest
theorem b_first_highest {g : Gb} (GG : GF g) (b : Bd) (hr : Room 10 (b.A.deeper (PyProof.Rows.envOfC b.qual (defScope (top 54)) b.s.heap.objs.size b.f b.cdv))) :
    JSs (famB g 10 ["row"] sc_first_highest.nd (defScope (top 54)) b hr) (defBody (top 54)) m_first_highest :=
  (jss_cons (js_expr (je_call (f_check_row GG) (Nat.le_of_ble_eq_true rfl) (by first | rfl | kernel_rfl) (ja_cons (je_var 0 rfl (.inl (by first | rfl | kernel_rfl))) ja_nil)))
      (jss_one (js_ret (je_call (f_first_highest_by GG) (Nat.le_of_ble_eq_true rfl) (by first | rfl | kernel_rfl) (ja_cons (je_var 0 rfl (.inl (by first | rfl | kernel_rfl))) ja_nil)))))
theorem f_first_highest {g : Gb} (GG : GF g) : Fn g (top 54) "first_highest" "first_highest" ["row"] 11 D_first_highest := by
  obtain ⟨f, fd, hx, D0⟩ := GG.d_first_highest
  exact fn_mk outD outD_hout hx D0 sc_first_highest (fun kV doc pm an cdv ct us hl => match us, hl with | [_], _ => rfl) (fun b hr => b_first_highest GG b hr)
/-- moved_back_by -/
theorem sc_moved_back_by : FnScope ["row", "place", "ahead", "behind", "found", "some"] ["row"] (defScope (top 28)) := ⟨rfl, rfl, rfl, by decide +kernel, rfl, by decide +kernel, by decide +kernel⟩
def m_moved_back_by_c1 : XM Bool :=
  (tor (xbool (xop neD (xvar 2) (xlst (xpure [])))) (xbool (xop neD (xvar 3) (xlst (xpure [])))))
def m_moved_back_by_b1 : SM :=
  (sseq (sset 5 (xif (xbool (xop gtD (xop addD (xcall (f1 sumD) (xcons (xvar 2) (xpure []))) (xcall (f1 sumD) (xcons (xvar 3) (xpure [])))) (xpure (.int 0)))) (xvar 2) (xvar 3))) (sdrop (xappend (xvar 4) (xpop (xvar 5)))))
def m_moved_back_by : SM :=
  (sseq (sset 1 (xfn 1 (D_first_highest_by) (xcons (xvar 0) (xpure [])))) (sseq (spar3 2 3 4 (xrevM (xcall (f1 listD) (xcons (xslice (xvar 0) (xpure none) (xpart (xvar 1))) (xpure [])))) (xcall (f1 listMD) (xcons (xslice (xvar 0) (xpart (xvar 1)) (xpure none)) (xpure []))) (xlstM (xpure []))) (sseq (swhile m_moved_back_by_c1 m_moved_back_by_b1 1000000) (sret (xcall (f1 tupleD) (xcons (xrev (xvar 4)) (xpure [])))))))
abbrev D_moved_back_by : DF := runF 6 m_moved_back_by
theorem b_moved_back_by {g : Gb} (GG : GF g) (b : Bd) (hr : Room 6 (b.A.deeper (PyProof.Rows.envOfC b.qual (defScope (top 28)) b.s.heap.objs.size b.f b.cdv))) :
    JSs (famB g 6 ["row", "place", "ahead", "behind", "found", "some"] sc_moved_back_by.nd (defScope (top 28)) b hr) (defBody (top 28)) m_moved_back_by :=
  (jss_cons (js_set 1 rfl (.inl (by first | rfl | kernel_rfl)) (je_call (f_first_highest_by GG) (Nat.le_of_ble_eq_true rfl) (by first | rfl | kernel_rfl) (ja_cons (je_var 0 rfl (.inl (by first | rfl | kernel_rfl))) ja_nil)))
      (jss_cons (js_par3 2 3 4 rfl rfl rfl (by decide) (by decide) (by decide) (by first | rfl | kernel_rfl) (by first | rfl | kernel_rfl) (by first | rfl | kernel_rfl) (je_revM (je_callTy cs_list (by first | rfl | kernel_rfl) GG.b_list bt_list (ja_cons (je_slice (je_var 0 rfl (.inl (by first | rfl | kernel_rfl))) jo_none (jo_some (je_var 1 rfl (.inl (by first | rfl | kernel_rfl))))) ja_nil))) (je_callTy cs_listM (by first | rfl | kernel_rfl) GG.b_list bt_list (ja_cons (je_slice (je_var 0 rfl (.inl (by first | rfl | kernel_rfl))) (jo_some (je_var 1 rfl (.inl (by first | rfl | kernel_rfl)))) jo_none) ja_nil)) (je_lstM ja_nil) (fun W X m => by obtain ⟨rfl, rfl⟩ := m; first | rfl | kernel_rfl))
      (jss_cons (js_while 1000000 (jw_or (jt_cmp os_ne (je_var 2 rfl (.inl (by first | rfl | kernel_rfl))) (je_lst ja_nil) rfl) (jw_or1 (jt_cmp os_ne (je_var 3 rfl (.inl (by first | rfl | kernel_rfl))) (je_lst ja_nil) rfl))).jt (jss_cons (js_set 5 rfl (.inl (by first | rfl | kernel_rfl)) (je_if (jt_cmp os_gt (je_op os_add (je_callB cs_sum (by first | rfl | kernel_rfl) GG.b_sum bt_sum (ja_cons (je_var 2 rfl (.inl (by first | rfl | kernel_rfl))) ja_nil)) (je_callB cs_sum (by first | rfl | kernel_rfl) GG.b_sum bt_sum (ja_cons (je_var 3 rfl (.inl (by first | rfl | kernel_rfl))) ja_nil))) je_int rfl) (je_var 2 rfl (.inl (by first | rfl | kernel_rfl))) (je_var 3 rfl (.inl (by first | rfl | kernel_rfl)))))
      (jss_one (js_expr (je_append (je_var 4 rfl (.inl (by first | rfl | kernel_rfl))) (je_pop (je_var 5 rfl (.inl (by first | rfl | kernel_rfl)))))))))
      (jss_one (js_ret (je_callTy cs_tuple (by first | rfl | kernel_rfl) GG.b_tuple bt_tuple (ja_cons (je_rev (je_var 4 rfl (.inl (by first | rfl | kernel_rfl)))) ja_nil)))))))
theorem f_moved_back_by {g : Gb} (GG : GF g) : Fn g (top 28) "moved_back_by" "moved_back_by" ["row"] 7 D_moved_back_by := by
  obtain ⟨f, fd, hx, D0⟩ := GG.d_moved_back_by
  exact fn_mk outD outD_hout hx D0 sc_moved_back_by (fun kV doc pm an cdv ct us hl => match us, hl with | [_], _ => rfl) (fun b hr => b_moved_back_by GG b hr)
/-- moved_back -/
theorem sc_moved_back : FnScope ["row"] ["row"] (defScope (top 58)) := ⟨rfl, rfl, rfl, by decide +kernel, rfl, by decide +kernel, by decide +kernel⟩
def m_moved_back : SM :=
  (sseq (sdrop (xfn 1 (D_check_row) (xcons (xvar 0) (xpure [])))) (sret (xfn 1 (D_moved_back_by) (xcons (xvar 0) (xpure [])))))
abbrev D_moved_back : DF := runF 1 m_moved_back
theorem b_moved_back {g : Gb} (GG : GF g) (b : Bd) (hr : Room 10 (b.A.deeper (PyProof.Rows.envOfC b.qual (defScope (top 58)) b.s.heap.objs.size b.f b.cdv))) :
    JSs (famB g 10 ["row"] sc_moved_back.nd (defScope (top 58)) b hr) (defBody (top 58)) m_moved_back :=
  (jss_cons (js_expr (je_call (f_check_row GG) (Nat.le_of_ble_eq_true rfl) (by first | rfl | kernel_rfl) (ja_cons (je_var 0 rfl (.inl (by first | rfl | kernel_rfl))) ja_nil)))
      (jss_one (js_ret (je_call (f_moved_back_by GG) (Nat.le_of_ble_eq_true rfl) (by first | rfl | kernel_rfl) (ja_cons (je_var 0 rfl (.inl (by first | rfl | kernel_rfl))) ja_nil)))))
theorem f_moved_back {g : Gb} (GG : GF g) : Fn g (top 58) "moved_back" "moved_back" ["row"] 11 D_moved_back := by
  obtain ⟨f, fd, hx, D0⟩ := GG.d_moved_back
  exact fn_mk outD outD_hout hx D0 sc_moved_back (fun kV doc pm an cdv ct us hl => match us, hl with | [_], _ => rfl) (fun b hr => b_moved_back GG b hr)
/-- is_tuple_of -/
theorem sc_is_tuple_of : FnScope ["value", "many"] ["value", "many"] (defScope (top 10)) := ⟨rfl, rfl, rfl, by decide +kernel, rfl, by decide +kernel, by decide +kernel⟩
def m_is_tuple_of : SM :=
  (sret (xand (xcall (f2 isiD) (xcons (xvar 0) (xcons (xpure (.ty "tuple")) (xpure [])))) (xop eqD (xcall (f1 lenD) (xcons (xvar 0) (xpure []))) (xvar 1))))
abbrev D_is_tuple_of : DF := runF 2 m_is_tuple_of
theorem b_is_tuple_of {g : Gb} (GG : GF g) (b : Bd) (hr : Room 0 (b.A.deeper (PyProof.Rows.envOfC b.qual (defScope (top 10)) b.s.heap.objs.size b.f b.cdv))) :
    JSs (famB g 0 ["value", "many"] sc_is_tuple_of.nd (defScope (top 10)) b hr) (defBody (top 10)) m_is_tuple_of :=
  (jss_one (js_ret (je_and (je_callB cs_isi (by first | rfl | kernel_rfl) GG.b_isinstance bt_isinstance (ja_cons (je_var 0 rfl (.inl (by first | rfl | kernel_rfl))) (ja_cons (je_gty (by first | rfl | kernel_rfl) GG.b_tuple bt_tuple) ja_nil))) (je_one (je_cmp os_eq (je_callB cs_len (by first | rfl | kernel_rfl) GG.b_len bt_len (ja_cons (je_var 0 rfl (.inl (by first | rfl | kernel_rfl))) ja_nil)) (je_var 1 rfl (.inl (by first | rfl | kernel_rfl))) rfl)))))
theorem f_is_tuple_of {g : Gb} (GG : GF g) : Fn g (top 10) "is_tuple_of" "is_tuple_of" ["value", "many"] 1 D_is_tuple_of := by
  obtain ⟨f, fd, hx, D0⟩ := GG.d_is_tuple_of
  exact fn_mk outD outD_hout hx D0 sc_is_tuple_of (fun kV doc pm an cdv ct us hl => match us, hl with | [_, _], _ => rfl) (fun b hr => b_is_tuple_of GG b hr)
/-- is_order_by -/
theorem sc_is_order_by : FnScope ["many", "value", "each"] ["many", "value"] (defScope (top 16)) := ⟨rfl, rfl, rfl, by decide +kernel, rfl, by decide +kernel, by decide +kernel⟩
def m_is_order_by_e1 : XM D :=
  (xfn 3 (D_is_between) (xcons (xvar 2) (xcons (xpure (.int 0)) (xcons (xop subD (xvar 0) (xpure (.int 1))) (xpure [])))))
def m_is_order_by : SM :=
  (sseq (sif (tor (tnot (xtru (xfn 2 (D_is_tuple_of) (xcons (xvar 1) (xcons (xvar 0) (xpure [])))))) (tnot (xtru (xcall (f1 allD) (xcons (xcomp (xwalk (xvar 1)) [2] (gname 2) (xpure true) m_is_order_by_e1) (xpure [])))))) (sret (xpure (.bl false))) snext) (sret (xop eqD (xcall (f1 sortedD) (xcons (xvar 1) (xpure []))) (xlistRg1 (xvar 0)))))
abbrev D_is_order_by : DF := runF 3 m_is_order_by
theorem b_is_order_by {g : Gb} (GG : GF g) (b : Bd) (hr : Room 4 (b.A.deeper (PyProof.Rows.envOfC b.qual (defScope (top 16)) b.s.heap.objs.size b.f b.cdv))) :
    JSs (famB g 4 ["many", "value", "each"] sc_is_order_by.nd (defScope (top 16)) b hr) (defBody (top 16)) m_is_order_by :=
  (jss_cons (js_if (jw_or (jt_not (jt_tru (je_call (f_is_tuple_of GG) (Nat.le_of_ble_eq_true rfl) (by first | rfl | kernel_rfl) (ja_cons (je_var 1 rfl (.inl (by first | rfl | kernel_rfl))) (ja_cons (je_var 0 rfl (.inr (.inl (by first | rfl | kernel_rfl)))) ja_nil))))) (jw_or1 (jt_not (jt_tru (je_callB cs_all (by first | rfl | kernel_rfl) GG.b_all bt_all (ja_cons (je_lc [("each", 2)] (ji_seq (je_var 1 rfl (.inl (by first | rfl | kernel_rfl)))) (by first | rfl | kernel_rfl) (jc_name 2 rfl (.inl (by first | rfl | kernel_rfl)) (by decide)) jts_nil (je_call (f_is_between GG) (Nat.le_of_ble_eq_true rfl) (by first | rfl | kernel_rfl) (ja_cons (je_var 2 rfl (.inl (by first | rfl | kernel_rfl))) (ja_cons je_int (ja_cons (je_op os_sub (je_var 0 rfl (.inr (.inl (by first | rfl | kernel_rfl)))) je_int) ja_nil))))) ja_nil)))))).jt (jss_one (js_ret je_bl)) jss_nil)
      (jss_one (js_ret (je_cmp os_eq (je_callB cs_sorted (by first | rfl | kernel_rfl) GG.b_sorted bt_sorted (ja_cons (je_var 1 rfl (.inl (by first | rfl | kernel_rfl))) ja_nil)) (je_listRg1 (by first | rfl | kernel_rfl) GG.b_list (by first | rfl | kernel_rfl) GG.b_range (je_var 0 rfl (.inr (.inl (by first | rfl | kernel_rfl))))) rfl))))
theorem f_is_order_by {g : Gb} (GG : GF g) : Fn g (top 16) "is_order_by" "is_order_by" ["many", "value"] 5 D_is_order_by := by
  obtain ⟨f, fd, hx, D0⟩ := GG.d_is_order_by
  exact fn_mk outD outD_hout hx D0 sc_is_order_by (fun kV doc pm an cdv ct us hl => match us, hl with | [_, _], _ => rfl) (fun b hr => b_is_order_by GG b hr)
/-- check_order -/
theorem sc_check_order : FnScope ["row", "value"] ["row", "value"] (defScope (top 31)) := ⟨rfl, rfl, rfl, by decide +kernel, rfl, by decide +kernel, by decide +kernel⟩
def m_check_order : SM :=
  (sif (tnot (xtru (xfn 2 (D_is_order_by) (xcons (xcall (f1 lenD) (xcons (xvar 0) (xpure []))) (xcons (xvar 1) (xpure [])))))) snever snext)
abbrev D_check_order : DF := runF 2 m_check_order
theorem b_check_order {g : Gb} (GG : GF g) (b : Bd) (hr : Room 6 (b.A.deeper (PyProof.Rows.envOfC b.qual (defScope (top 31)) b.s.heap.objs.size b.f b.cdv))) :
    JSs (famB g 6 ["row", "value"] sc_check_order.nd (defScope (top 31)) b hr) (defBody (top 31)) m_check_order :=
  (jss_one (js_if (jt_not (jt_tru (je_call (f_is_order_by GG) (Nat.le_of_ble_eq_true rfl) (by first | rfl | kernel_rfl) (ja_cons (je_callB cs_len (by first | rfl | kernel_rfl) GG.b_len bt_len (ja_cons (je_var 0 rfl (.inl (by first | rfl | kernel_rfl))) ja_nil)) (ja_cons (je_var 1 rfl (.inl (by first | rfl | kernel_rfl))) ja_nil))))) (jss_one js_never) jss_nil))
theorem f_check_order {g : Gb} (GG : GF g) : Fn g (top 31) "check_order" "check_order" ["row", "value"] 7 D_check_order := by
  obtain ⟨f, fd, hx, D0⟩ := GG.d_check_order
  exact fn_mk outD outD_hout hx D0 sc_check_order (fun kV doc pm an cdv ct us hl => match us, hl with | [_, _], _ => rfl) (fun b hr => b_check_order GG b hr)
/-- in_order -/
theorem sc_in_order : FnScope ["row", "order"] ["row", "order"] (defScope (top 56)) := ⟨rfl, rfl, rfl, by decide +kernel, rfl, by decide +kernel, by decide +kernel⟩
def m_in_order : SM :=
  (sseq (sdrop (xfn 1 (D_check_row) (xcons (xvar 0) (xpure [])))) (sseq (sdrop (xfn 2 (D_check_order) (xcons (xvar 0) (xcons (xvar 1) (xpure []))))) (sret (xfn 2 (D_in_order_by) (xcons (xvar 0) (xcons (xvar 1) (xpure [])))))))
abbrev D_in_order : DF := runF 2 m_in_order
theorem b_in_order {g : Gb} (GG : GF g) (b : Bd) (hr : Room 10 (b.A.deeper (PyProof.Rows.envOfC b.qual (defScope (top 56)) b.s.heap.objs.size b.f b.cdv))) :
    JSs (famB g 10 ["row", "order"] sc_in_order.nd (defScope (top 56)) b hr) (defBody (top 56)) m_in_order :=
  (jss_cons (js_expr (je_call (f_check_row GG) (Nat.le_of_ble_eq_true rfl) (by first | rfl | kernel_rfl) (ja_cons (je_var 0 rfl (.inl (by first | rfl | kernel_rfl))) ja_nil)))
      (jss_cons (js_expr (je_call (f_check_order GG) (Nat.le_of_ble_eq_true rfl) (by first | rfl | kernel_rfl) (ja_cons (je_var 0 rfl (.inl (by first | rfl | kernel_rfl))) (ja_cons (je_var 1 rfl (.inl (by first | rfl | kernel_rfl))) ja_nil))))
      (jss_one (js_ret (je_call (f_in_order_by GG) (Nat.le_of_ble_eq_true rfl) (by first | rfl | kernel_rfl) (ja_cons (je_var 0 rfl (.inl (by first | rfl | kernel_rfl))) (ja_cons (je_var 1 rfl (.inl (by first | rfl | kernel_rfl))) ja_nil)))))))
theorem f_in_order {g : Gb} (GG : GF g) : Fn g (top 56) "in_order" "in_order" ["row", "order"] 11 D_in_order := by
  obtain ⟨f, fd, hx, D0⟩ := GG.d_in_order
  exact fn_mk outD outD_hout hx D0 sc_in_order (fun kV doc pm an cdv ct us hl => match us, hl with | [_, _], _ => rfl) (fun b hr => b_in_order GG b hr)
/-- above -/
theorem sc_above : FnScope ["row"] ["row"] (defScope (top 52)) := ⟨rfl, rfl, rfl, by decide +kernel, rfl, by decide +kernel, by decide +kernel⟩
def m_above : SM :=
  (sseq (sdrop (xfn 1 (D_check_row) (xcons (xvar 0) (xpure [])))) (sret (xfn 1 (D_above_by) (xcons (xvar 0) (xpure [])))))
abbrev D_above : DF := runF 1 m_above
theorem b_above {g : Gb} (GG : GF g) (b : Bd) (hr : Room 10 (b.A.deeper (PyProof.Rows.envOfC b.qual (defScope (top 52)) b.s.heap.objs.size b.f b.cdv))) :
    JSs (famB g 10 ["row"] sc_above.nd (defScope (top 52)) b hr) (defBody (top 52)) m_above :=
  (jss_cons (js_expr (je_call (f_check_row GG) (Nat.le_of_ble_eq_true rfl) (by first | rfl | kernel_rfl) (ja_cons (je_var 0 rfl (.inl (by first | rfl | kernel_rfl))) ja_nil)))
      (jss_one (js_ret (je_call (f_above_by GG) (Nat.le_of_ble_eq_true rfl) (by first | rfl | kernel_rfl) (ja_cons (je_var 0 rfl (.inl (by first | rfl | kernel_rfl))) ja_nil)))))
theorem f_above {g : Gb} (GG : GF g) : Fn g (top 52) "above" "above" ["row"] 11 D_above := by
  obtain ⟨f, fd, hx, D0⟩ := GG.d_above
  exact fn_mk outD outD_hout hx D0 sc_above (fun kV doc pm an cdv ct us hl => match us, hl with | [_], _ => rfl) (fun b hr => b_above GG b hr)
/-- not_below -/
theorem sc_not_below : FnScope ["row"] ["row"] (defScope (top 53)) := ⟨rfl, rfl, rfl, by decide +kernel, rfl, by decide +kernel, by decide +kernel⟩
def m_not_below : SM :=
  (sseq (sdrop (xfn 1 (D_check_row) (xcons (xvar 0) (xpure [])))) (sret (xfn 1 (D_not_below_by) (xcons (xvar 0) (xpure [])))))
abbrev D_not_below : DF := runF 1 m_not_below
theorem b_not_below {g : Gb} (GG : GF g) (b : Bd) (hr : Room 10 (b.A.deeper (PyProof.Rows.envOfC b.qual (defScope (top 53)) b.s.heap.objs.size b.f b.cdv))) :
    JSs (famB g 10 ["row"] sc_not_below.nd (defScope (top 53)) b hr) (defBody (top 53)) m_not_below :=
  (jss_cons (js_expr (je_call (f_check_row GG) (Nat.le_of_ble_eq_true rfl) (by first | rfl | kernel_rfl) (ja_cons (je_var 0 rfl (.inl (by first | rfl | kernel_rfl))) ja_nil)))
      (jss_one (js_ret (je_call (f_not_below_by GG) (Nat.le_of_ble_eq_true rfl) (by first | rfl | kernel_rfl) (ja_cons (je_var 0 rfl (.inl (by first | rfl | kernel_rfl))) ja_nil)))))
theorem f_not_below {g : Gb} (GG : GF g) : Fn g (top 53) "not_below" "not_below" ["row"] 11 D_not_below := by
  obtain ⟨f, fd, hx, D0⟩ := GG.d_not_below
  exact fn_mk outD outD_hout hx D0 sc_not_below (fun kV doc pm an cdv ct us hl => match us, hl with | [_], _ => rfl) (fun b hr => b_not_below GG b hr)
/-- last_highest -/
theorem sc_last_highest : FnScope ["row"] ["row"] (defScope (top 55)) := ⟨rfl, rfl, rfl, by decide +kernel, rfl, by decide +kernel, by decide +kernel⟩
def m_last_highest : SM :=
  (sseq (sdrop (xfn 1 (D_check_row) (xcons (xvar 0) (xpure [])))) (sret (xfn 1 (D_last_highest_by) (xcons (xvar 0) (xpure [])))))
abbrev D_last_highest : DF := runF 1 m_last_highest
theorem b_last_highest {g : Gb} (GG : GF g) (b : Bd) (hr : Room 10 (b.A.deeper (PyProof.Rows.envOfC b.qual (defScope (top 55)) b.s.heap.objs.size b.f b.cdv))) :
    JSs (famB g 10 ["row"] sc_last_highest.nd (defScope (top 55)) b hr) (defBody (top 55)) m_last_highest :=
  (jss_cons (js_expr (je_call (f_check_row GG) (Nat.le_of_ble_eq_true rfl) (by first | rfl | kernel_rfl) (ja_cons (je_var 0 rfl (.inl (by first | rfl | kernel_rfl))) ja_nil)))
      (jss_one (js_ret (je_call (f_last_highest_by GG) (Nat.le_of_ble_eq_true rfl) (by first | rfl | kernel_rfl) (ja_cons (je_var 0 rfl (.inl (by first | rfl | kernel_rfl))) ja_nil)))))
theorem f_last_highest {g : Gb} (GG : GF g) : Fn g (top 55) "last_highest" "last_highest" ["row"] 11 D_last_highest := by
  obtain ⟨f, fd, hx, D0⟩ := GG.d_last_highest
  exact fn_mk outD outD_hout hx D0 sc_last_highest (fun kV doc pm an cdv ct us hl => match us, hl with | [_], _ => rfl) (fun b hr => b_last_highest GG b hr)
/-- _law_is_told -/
theorem sc_u_law_is_told : FnScope ["pool", "row", "many", "orders", "rows", "k", "order", "sums", "each", "ups", "some", "downs", "firsts", "lasts", "dues", "named", "told", "up", "first", "down", "last", "other"] ["pool", "row"] (defScope (top 70)) := ⟨rfl, rfl, rfl, by decide +kernel, rfl, by decide +kernel, by decide +kernel⟩
def m_u_law_is_told_s1 : SM :=
  (sasg (xtup (xcons (xcall (f1 lenD) (xcons (xvar 1) (xpure []))) (xcons (xfn 1 (D_u_law_orders) (xcons (xcall (f1 lenD) (xcons (xvar 1) (xpure []))) (xpure []))) (xpure [])))) (gtup 2 (gcons (gname 2) (gcons (gname 3) gnil))))
def m_u_law_is_told_e1 : XM D :=
  (xop ixD (xvar 1) (xvar 5))
def m_u_law_is_told_e2 : XM D :=
  (xcall (f1 tupleD) (xcons (xcomp (xwalk (xvar 6)) [5] (gname 5) (xpure true) m_u_law_is_told_e1) (xpure [])))
def m_u_law_is_told_s2 : SM :=
  (sset 4 (xcomp (xwalk (xvar 3)) [6] (gname 6) (xpure true) m_u_law_is_told_e2))
def m_u_law_is_told_e3 : XM D :=
  (xfn 1 (D_u_law_sums) (xcons (xvar 8) (xpure [])))
def m_u_law_is_told_s3 : SM :=
  (sset 7 (xcomp (xwalk (xvar 4)) [8] (gname 8) (xpure true) m_u_law_is_told_e3))
def m_u_law_is_told_t1 : XM Bool :=
  (xbool (xop gtD (xvar 8) (xpure (.int 0))))
def m_u_law_is_told_e4 : XM D :=
  (xcall (f1 lenD) (xcons (xcomp (xwalk (xvar 10)) [8] (gname 8) m_u_law_is_told_t1 (xvar 8)) (xpure [])))
def m_u_law_is_told_s4 : SM :=
  (sset 9 (xcomp (xwalk (xvar 7)) [10] (gname 10) (xpure true) m_u_law_is_told_e4))
def m_u_law_is_told_t2 : XM Bool :=
  (xbool (xop geD (xvar 8) (xpure (.int 0))))
def m_u_law_is_told_e5 : XM D :=
  (xcall (f1 lenD) (xcons (xcomp (xwalk (xslice (xvar 10) (xpart (xpure (.int 1))) (xpure none))) [8] (gname 8) m_u_law_is_told_t2 (xvar 8)) (xpure [])))
def m_u_law_is_told_s5 : SM :=
  (sset 11 (xcomp (xwalk (xvar 7)) [10] (gname 10) (xpure true) m_u_law_is_told_e5))
def m_u_law_is_told_e6 : XM D :=
  (xm1 indexD (xvar 10) (xcall (f1 maxD) (xcons (xvar 10) (xpure []))))
def m_u_law_is_told_e7 : XM D :=
  (xop subD (xvar 2) (xm1 indexD (xrev (xvar 10)) (xcall (f1 maxD) (xcons (xvar 10) (xpure [])))))
def m_u_law_is_told_s6 : SM :=
  (spar2 12 13 (xcomp (xwalk (xvar 7)) [10] (gname 10) (xpure true) m_u_law_is_told_e6) (xcomp (xwalk (xvar 7)) [10] (gname 10) (xpure true) m_u_law_is_told_e7))
def m_u_law_is_told_s7 : SM :=
  (sset 14 (xlst (xcons (xfn 2 (D_u_law_counts) (xcons (xvar 2) (xcons (xvar 9) (xpure [])))) (xcons (xfn 2 (D_u_law_counts) (xcons (xvar 2) (xcons (xvar 12) (xpure [])))) (xcons (xfn 2 (D_u_law_counts) (xcons (xvar 2) (xcons (xvar 11) (xpure [])))) (xcons (xfn 2 (D_u_law_counts) (xcons (xvar 2) (xcons (xvar 13) (xpure [])))) (xpure [])))))))
def m_u_law_is_told_s8 : SM :=
  (sset 15 (xop eqD (xfn 2 (D_u_law_draw) (xcons (xvar 0) (xcons (xpure (.int 2)) (xpure [])))) (xpure (.int 0))))
def m_u_law_is_told_s9 : SM :=
  (sset 16 (xlst (xcons (xfn 1 (D_orders_above) (xcons (xvar 1) (xpure []))) (xcons (xfn 1 (D_orders_first) (xcons (xvar 1) (xpure []))) (xcons (xfn 1 (D_orders_not_below) (xcons (xvar 1) (xpure []))) (xcons (xfn 1 (D_orders_last) (xcons (xvar 1) (xpure []))) (xpure [])))))))
def m_u_law_is_told_s10 : SM :=
  (sif (xtru (xvar 15)) (sset 16 (xlst (xcons (xfnK 0 [0] 1 (D_orders_above) (xpure []) (xcons (xvar 1) (xpure []))) (xcons (xfnK 0 [0] 1 (D_orders_first) (xpure []) (xcons (xvar 1) (xpure []))) (xcons (xfnK 0 [0] 1 (D_orders_not_below) (xpure []) (xcons (xvar 1) (xpure []))) (xcons (xfnK 0 [0] 1 (D_orders_last) (xpure []) (xcons (xvar 1) (xpure []))) (xpure []))))))) snext)
def m_u_law_is_told_s11 : SM :=
  (sif (tor (tnot (xtru (xfn 2 (D_u_law_same 6) (xcons (xvar 16) (xcons (xvar 14) (xpure [])))))) (tor (xbool (xop neD (xop ixD (xvar 14) (xpure (.int 0))) (xop ixD (xvar 14) (xpure (.int 1))))) (tor (xbool (xop neD (xop ixD (xvar 14) (xpure (.int 2))) (xop ixD (xvar 14) (xpure (.int 3))))) (tnot (xtru (xfn 2 (D_u_law_same 6) (xcons (xlst (xcons (xfn 1 (D_most_above) (xcons (xvar 1) (xpure []))) (xcons (xfn 1 (D_least_above) (xcons (xvar 1) (xpure []))) (xpure [])))) (xcons (xlst (xcons (xcall (f1 maxD) (xcons (xvar 9) (xpure []))) (xcons (xcall (f1 minD) (xcons (xvar 9) (xpure []))) (xpure [])))) (xpure []))))))))) (sret (xpure (.bl false))) snext)
def m_u_law_is_told_s12 : SM :=
  (sset 5 (xfn 2 (D_u_law_draw) (xcons (xvar 0) (xcons (xop addD (xvar 2) (xpure (.int 1))) (xpure [])))))
def m_u_law_is_told_t3 : XM Bool :=
  (xbool (xop eqD (xvar 17) (xvar 5)))
def m_u_law_is_told_s13 : SM :=
  (sif (tnot (xtru (xfn 2 (D_u_law_same 6) (xcons (xif (xtru (xvar 15)) (xfnK 0 [1, 0] 2 (D_orders_with) (xpure []) (xcons (xvar 5) (xcons (xvar 1) (xpure [])))) (xfn 2 (D_orders_with) (xcons (xvar 1) (xcons (xvar 5) (xpure []))))) (xcons (xcall (f1 tupleD) (xcons (xcomp (xzip (xvar 3) (xvar 9)) [6, 17] (gtup 2 (gcons (gname 6) (gcons (gname 17) gnil))) m_u_law_is_told_t3 (xvar 6)) (xpure []))) (xpure [])))))) (sret (xpure (.bl false))) snext)
def m_u_law_is_told_b1 : SM :=
  (sseq (sset 21 (xfn 1 (D_moved) (xcons (xvar 8) (xpure [])))) (sseq (sif (tor (xbool (xop neD (xcall (f1 sortedD) (xcons (xvar 21) (xpure []))) (xcall (f1 sortedD) (xcons (xvar 1) (xpure []))))) (tnot (xtru (xfn 2 (D_u_law_same 6) (xcons (xlst (xcons (xfn 1 (D_first_highest) (xcons (xvar 21) (xpure []))) (xcons (xfn 1 (D_moved_back) (xcons (xvar 21) (xpure []))) (xcons (xfn 2 (D_in_order) (xcons (xvar 1) (xcons (xvar 6) (xpure [])))) (xpure []))))) (xcons (xlst (xcons (xvar 17) (xcons (xvar 8) (xcons (xvar 8) (xpure []))))) (xpure []))))))) (sret (xpure (.bl false))) snext) (sif (tnot (xtru (xfn 2 (D_u_law_same 6) (xcons (xlst (xcons (xfn 1 (D_above) (xcons (xvar 8) (xpure []))) (xcons (xfn 1 (D_first_highest) (xcons (xvar 8) (xpure []))) (xcons (xfn 1 (D_not_below) (xcons (xvar 8) (xpure []))) (xcons (xfn 1 (D_last_highest) (xcons (xvar 8) (xpure []))) (xcons (xfn 1 (D_moved) (xcons (xfn 1 (D_moved_back) (xcons (xvar 8) (xpure []))) (xpure []))) (xpure []))))))) (xcons (xlst (xcons (xvar 17) (xcons (xvar 18) (xcons (xvar 19) (xcons (xvar 20) (xcons (xvar 8) (xpure []))))))) (xpure [])))))) (sret (xpure (.bl false))) snext)))
def m_u_law_is_told_s14 : SM :=
  (sfor (xwalk (xslice (xlistZip 6 (xcons (xvar 3) (xcons (xvar 4) (xcons (xvar 9) (xcons (xvar 12) (xcons (xvar 11) (xcons (xvar 13) (xpure [])))))))) (xpure none) (xpart (xpure (.int 40))))) (gtup 6 (gcons (gname 6) (gcons (gname 8) (gcons (gname 17) (gcons (gname 18) (gcons (gname 19) (gcons (gname 20) gnil))))))) m_u_law_is_told_b1)
def m_u_law_is_told_e8 : XM D :=
  (xfn 1 (D_moved) (xcons (xvar 8) (xpure [])))
def m_u_law_is_told_s15 : SM :=
  (sret (xif (xbool (xop ltD (xvar 2) (xpure (.int 5)))) (xop eqD (xlenSet (xcomp (xwalk (xvar 4)) [8] (gname 8) (xpure true) m_u_law_is_told_e8)) (xlenSet (xvar 4))) (xpure (.bl true))))
def m_u_law_is_told : SM :=
  (sseq m_u_law_is_told_s1 (sseq m_u_law_is_told_s2 (sseq m_u_law_is_told_s3 (sseq m_u_law_is_told_s4 (sseq m_u_law_is_told_s5 (sseq m_u_law_is_told_s6 (sseq m_u_law_is_told_s7 (sseq m_u_law_is_told_s8 (sseq m_u_law_is_told_s9 (sseq m_u_law_is_told_s10 (sseq m_u_law_is_told_s11 (sseq m_u_law_is_told_s12 (sseq m_u_law_is_told_s13 (sseq m_u_law_is_told_s14 m_u_law_is_told_s15))))))))))))))
abbrev D_u_law_is_told : DF := runF 22 m_u_law_is_told
theorem b_u_law_is_told {g : Gb} (GG : GF g) (b : Bd) (hr : Room 14 (b.A.deeper (PyProof.Rows.envOfC b.qual (defScope (top 70)) b.s.heap.objs.size b.f b.cdv))) :
    JSs (famB g 14 ["pool", "row", "many", "orders", "rows", "k", "order", "sums", "each", "ups", "some", "downs", "firsts", "lasts", "dues", "named", "told", "up", "first", "down", "last", "other"] sc_u_law_is_told.nd (defScope (top 70)) b hr) (defBody (top 70)) m_u_law_is_told :=
  (jss_cons (js_asgF (je_tup (ja_cons (je_callB cs_len (by first | rfl | kernel_rfl) GG.b_len bt_len (ja_cons (je_var 1 rfl (.inr (.inl (by first | rfl | kernel_rfl)))) ja_nil)) (ja_cons (je_call (f_u_law_orders GG) (Nat.le_of_ble_eq_true rfl) (by first | rfl | kernel_rfl) (ja_cons (je_callB cs_len (by first | rfl | kernel_rfl) GG.b_len bt_len (ja_cons (je_var 1 rfl (.inr (.inl (by first | rfl | kernel_rfl)))) ja_nil)) ja_nil)) ja_nil))) (jg_tup (jgs_cons (jg_name 2 rfl (.inr (by first | rfl | kernel_rfl))) (jgs_cons (jg_name 3 rfl (.inl (by first | rfl | kernel_rfl))) jgs_nil))) (by intro _; rfl) (fun W X m => by obtain ⟨rfl, rfl⟩ := m; first | rfl | kernel_rfl))
      (jss_cons (js_setLc 4 [("order", 6)] rfl (by first | rfl | kernel_rfl) rfl rfl (by first | rfl | kernel_rfl) (ji_seq (je_var 3 rfl (.inl (by first | rfl | kernel_rfl)))) (by first | rfl | kernel_rfl) (jc_name 6 rfl (.inl (by first | rfl | kernel_rfl)) (by decide)) jts_nil (je_callTy cs_tuple (by first | rfl | kernel_rfl) GG.b_tuple bt_tuple (ja_cons (je_lc [("k", 5)] (ji_seq (je_var 6 rfl (.inl (by first | rfl | kernel_rfl)))) (by first | rfl | kernel_rfl) (jc_name 5 rfl (.inl (by first | rfl | kernel_rfl)) (by decide)) jts_nil (je_ix (je_var 1 rfl (.inr (.inl (by first | rfl | kernel_rfl)))) (je_var 5 rfl (.inl (by first | rfl | kernel_rfl))))) ja_nil)))
      (jss_cons (js_setLc 7 [("each", 8)] rfl (by first | rfl | kernel_rfl) rfl rfl (by first | rfl | kernel_rfl) (ji_seq (je_var 4 rfl (.inl (by first | rfl | kernel_rfl)))) (by first | rfl | kernel_rfl) (jc_name 8 rfl (.inl (by first | rfl | kernel_rfl)) (by decide)) jts_nil (je_call (f_u_law_sums GG) (Nat.le_of_ble_eq_true rfl) (by first | rfl | kernel_rfl) (ja_cons (je_var 8 rfl (.inl (by first | rfl | kernel_rfl))) ja_nil)))
      (jss_cons (js_setLc 9 [("some", 10)] rfl (by first | rfl | kernel_rfl) rfl rfl (by first | rfl | kernel_rfl) (ji_seq (je_var 7 rfl (.inl (by first | rfl | kernel_rfl)))) (by first | rfl | kernel_rfl) (jc_name 10 rfl (.inl (by first | rfl | kernel_rfl)) (by decide)) jts_nil (je_callB cs_len (by first | rfl | kernel_rfl) GG.b_len bt_len (ja_cons (je_lc [("each", 8)] (ji_seq (je_var 10 rfl (.inl (by first | rfl | kernel_rfl)))) (by first | rfl | kernel_rfl) (jc_name 8 rfl (.inl (by first | rfl | kernel_rfl)) (by decide)) (jts_one (jt_cmp os_gt (je_var 8 rfl (.inl (by first | rfl | kernel_rfl))) je_int rfl)) (je_var 8 rfl (.inl (by first | rfl | kernel_rfl)))) ja_nil)))
      (jss_cons (js_setLc 11 [("some", 10)] rfl (by first | rfl | kernel_rfl) rfl rfl (by first | rfl | kernel_rfl) (ji_seq (je_var 7 rfl (.inl (by first | rfl | kernel_rfl)))) (by first | rfl | kernel_rfl) (jc_name 10 rfl (.inl (by first | rfl | kernel_rfl)) (by decide)) jts_nil (je_callB cs_len (by first | rfl | kernel_rfl) GG.b_len bt_len (ja_cons (je_lc [("each", 8)] (ji_seq (je_slice (je_var 10 rfl (.inl (by first | rfl | kernel_rfl))) (jo_some je_int) jo_none)) (by first | rfl | kernel_rfl) (jc_name 8 rfl (.inl (by first | rfl | kernel_rfl)) (by decide)) (jts_one (jt_cmp os_ge (je_var 8 rfl (.inl (by first | rfl | kernel_rfl))) je_int rfl)) (je_var 8 rfl (.inl (by first | rfl | kernel_rfl)))) ja_nil)))
      (jss_cons (js_par2 12 13 rfl rfl (by decide) (by first | rfl | kernel_rfl) (by first | rfl | kernel_rfl) (je_lc [("some", 10)] (ji_seq (je_var 7 rfl (.inl (by first | rfl | kernel_rfl)))) (by first | rfl | kernel_rfl) (jc_name 10 rfl (.inl (by first | rfl | kernel_rfl)) (by decide)) jts_nil (je_index (je_var 10 rfl (.inl (by first | rfl | kernel_rfl))) (je_callB cs_max (by first | rfl | kernel_rfl) GG.b_max bt_max (ja_cons (je_var 10 rfl (.inl (by first | rfl | kernel_rfl))) ja_nil)))) (je_lc [("some", 10)] (ji_seq (je_var 7 rfl (.inl (by first | rfl | kernel_rfl)))) (by first | rfl | kernel_rfl) (jc_name 10 rfl (.inl (by first | rfl | kernel_rfl)) (by decide)) jts_nil (je_op os_sub (je_var 2 rfl (.inr (.inl (by first | rfl | kernel_rfl)))) (je_index (je_rev (je_var 10 rfl (.inl (by first | rfl | kernel_rfl)))) (je_callB cs_max (by first | rfl | kernel_rfl) GG.b_max bt_max (ja_cons (je_var 10 rfl (.inl (by first | rfl | kernel_rfl))) ja_nil))))) (fun W X m => by obtain ⟨rfl, rfl⟩ := m; first | rfl | kernel_rfl))
      (jss_cons (js_set 14 rfl (.inl (by first | rfl | kernel_rfl)) (je_lst (ja_cons (je_call (f_u_law_counts GG) (Nat.le_of_ble_eq_true rfl) (by first | rfl | kernel_rfl) (ja_cons (je_var 2 rfl (.inr (.inl (by first | rfl | kernel_rfl)))) (ja_cons (je_var 9 rfl (.inl (by first | rfl | kernel_rfl))) ja_nil))) (ja_cons (je_call (f_u_law_counts GG) (Nat.le_of_ble_eq_true rfl) (by first | rfl | kernel_rfl) (ja_cons (je_var 2 rfl (.inr (.inl (by first | rfl | kernel_rfl)))) (ja_cons (je_var 12 rfl (.inl (by first | rfl | kernel_rfl))) ja_nil))) (ja_cons (je_call (f_u_law_counts GG) (Nat.le_of_ble_eq_true rfl) (by first | rfl | kernel_rfl) (ja_cons (je_var 2 rfl (.inr (.inl (by first | rfl | kernel_rfl)))) (ja_cons (je_var 11 rfl (.inl (by first | rfl | kernel_rfl))) ja_nil))) (ja_cons (je_call (f_u_law_counts GG) (Nat.le_of_ble_eq_true rfl) (by first | rfl | kernel_rfl) (ja_cons (je_var 2 rfl (.inr (.inl (by first | rfl | kernel_rfl)))) (ja_cons (je_var 13 rfl (.inl (by first | rfl | kernel_rfl))) ja_nil))) ja_nil))))))
      (jss_cons (js_set 15 rfl (.inl (by first | rfl | kernel_rfl)) (je_cmp os_eq (je_call (f_u_law_draw GG) (Nat.le_of_ble_eq_true rfl) (by first | rfl | kernel_rfl) (ja_cons (je_var 0 rfl (.inl (by first | rfl | kernel_rfl))) (ja_cons je_int ja_nil))) je_int rfl))
      (jss_cons (js_set 16 rfl (.inl (by first | rfl | kernel_rfl)) (je_lst (ja_cons (je_call (f_orders_above GG) (Nat.le_of_ble_eq_true rfl) (by first | rfl | kernel_rfl) (ja_cons (je_var 1 rfl (.inr (.inl (by first | rfl | kernel_rfl)))) ja_nil)) (ja_cons (je_call (f_orders_first GG) (Nat.le_of_ble_eq_true rfl) (by first | rfl | kernel_rfl) (ja_cons (je_var 1 rfl (.inr (.inl (by first | rfl | kernel_rfl)))) ja_nil)) (ja_cons (je_call (f_orders_not_below GG) (Nat.le_of_ble_eq_true rfl) (by first | rfl | kernel_rfl) (ja_cons (je_var 1 rfl (.inr (.inl (by first | rfl | kernel_rfl)))) ja_nil)) (ja_cons (je_call (f_orders_last GG) (Nat.le_of_ble_eq_true rfl) (by first | rfl | kernel_rfl) (ja_cons (je_var 1 rfl (.inr (.inl (by first | rfl | kernel_rfl)))) ja_nil)) ja_nil))))))
      (jss_cons (js_if (jt_tru (je_var 15 rfl (.inl (by first | rfl | kernel_rfl)))) (jss_one (js_set 16 rfl (.inl (by first | rfl | kernel_rfl)) (je_lst (ja_cons (je_callK0 (ks := ["row"]) (ix := [0]) (f_orders_above GG) (Nat.le_of_ble_eq_true rfl) (by first | rfl | kernel_rfl) (fun kV doc pm an cdv ct us ws hu hw => match us, hu, ws, hw with | [], _, [_], _ => rfl) rfl (jk_cons (je_var 1 rfl (.inr (.inl (by first | rfl | kernel_rfl)))) jk_nil)) (ja_cons (je_callK0 (ks := ["row"]) (ix := [0]) (f_orders_first GG) (Nat.le_of_ble_eq_true rfl) (by first | rfl | kernel_rfl) (fun kV doc pm an cdv ct us ws hu hw => match us, hu, ws, hw with | [], _, [_], _ => rfl) rfl (jk_cons (je_var 1 rfl (.inr (.inl (by first | rfl | kernel_rfl)))) jk_nil)) (ja_cons (je_callK0 (ks := ["row"]) (ix := [0]) (f_orders_not_below GG) (Nat.le_of_ble_eq_true rfl) (by first | rfl | kernel_rfl) (fun kV doc pm an cdv ct us ws hu hw => match us, hu, ws, hw with | [], _, [_], _ => rfl) rfl (jk_cons (je_var 1 rfl (.inr (.inl (by first | rfl | kernel_rfl)))) jk_nil)) (ja_cons (je_callK0 (ks := ["row"]) (ix := [0]) (f_orders_last GG) (Nat.le_of_ble_eq_true rfl) (by first | rfl | kernel_rfl) (fun kV doc pm an cdv ct us ws hu hw => match us, hu, ws, hw with | [], _, [_], _ => rfl) rfl (jk_cons (je_var 1 rfl (.inr (.inl (by first | rfl | kernel_rfl)))) jk_nil)) ja_nil))))))) jss_nil)
      (jss_cons (js_if (jw_or (jt_not (jt_tru (je_call (f_u_law_same GG 6) (Nat.le_of_ble_eq_true rfl) (by first | rfl | kernel_rfl) (ja_cons (je_var 16 rfl (.inl (by first | rfl | kernel_rfl))) (ja_cons (je_var 14 rfl (.inl (by first | rfl | kernel_rfl))) ja_nil))))) (jw_or (jt_cmp os_ne (je_ix (je_var 14 rfl (.inl (by first | rfl | kernel_rfl))) je_int) (je_ix (je_var 14 rfl (.inl (by first | rfl | kernel_rfl))) je_int) rfl) (jw_or (jt_cmp os_ne (je_ix (je_var 14 rfl (.inl (by first | rfl | kernel_rfl))) je_int) (je_ix (je_var 14 rfl (.inl (by first | rfl | kernel_rfl))) je_int) rfl) (jw_or1 (jt_not (jt_tru (je_call (f_u_law_same GG 6) (Nat.le_of_ble_eq_true rfl) (by first | rfl | kernel_rfl) (ja_cons (je_lst (ja_cons (je_call (f_most_above GG) (Nat.le_of_ble_eq_true rfl) (by first | rfl | kernel_rfl) (ja_cons (je_var 1 rfl (.inr (.inl (by first | rfl | kernel_rfl)))) ja_nil)) (ja_cons (je_call (f_least_above GG) (Nat.le_of_ble_eq_true rfl) (by first | rfl | kernel_rfl) (ja_cons (je_var 1 rfl (.inr (.inl (by first | rfl | kernel_rfl)))) ja_nil)) ja_nil))) (ja_cons (je_lst (ja_cons (je_callB cs_max (by first | rfl | kernel_rfl) GG.b_max bt_max (ja_cons (je_var 9 rfl (.inl (by first | rfl | kernel_rfl))) ja_nil)) (ja_cons (je_callB cs_min (by first | rfl | kernel_rfl) GG.b_min bt_min (ja_cons (je_var 9 rfl (.inl (by first | rfl | kernel_rfl))) ja_nil)) ja_nil))) ja_nil))))))))).jt (jss_one (js_ret je_bl)) jss_nil)
      (jss_cons (js_set 5 rfl (.inr (by first | rfl | kernel_rfl)) (je_call (f_u_law_draw GG) (Nat.le_of_ble_eq_true rfl) (by first | rfl | kernel_rfl) (ja_cons (je_var 0 rfl (.inl (by first | rfl | kernel_rfl))) (ja_cons (je_op os_add (je_var 2 rfl (.inr (.inl (by first | rfl | kernel_rfl)))) je_int) ja_nil))))
      (jss_cons (js_if (jt_not (jt_tru (je_call (f_u_law_same GG 6) (Nat.le_of_ble_eq_true rfl) (by first | rfl | kernel_rfl) (ja_cons (je_if (jt_tru (je_var 15 rfl (.inl (by first | rfl | kernel_rfl)))) (je_callK0 (ks := ["times", "row"]) (ix := [1, 0]) (f_orders_with GG) (Nat.le_of_ble_eq_true rfl) (by first | rfl | kernel_rfl) (fun kV doc pm an cdv ct us ws hu hw => match us, hu, ws, hw with | [], _, [_, _], _ => rfl) rfl (jk_cons (je_var 5 rfl (.inr (.inl (by first | rfl | kernel_rfl)))) (jk_cons (je_var 1 rfl (.inr (.inl (by first | rfl | kernel_rfl)))) jk_nil))) (je_call (f_orders_with GG) (Nat.le_of_ble_eq_true rfl) (by first | rfl | kernel_rfl) (ja_cons (je_var 1 rfl (.inr (.inl (by first | rfl | kernel_rfl)))) (ja_cons (je_var 5 rfl (.inr (.inl (by first | rfl | kernel_rfl)))) ja_nil)))) (ja_cons (je_callTy cs_tuple (by first | rfl | kernel_rfl) GG.b_tuple bt_tuple (ja_cons (je_lc [("order", 6), ("up", 17)] (ji_zip (by first | rfl | kernel_rfl) GG.b_zip (je_var 3 rfl (.inl (by first | rfl | kernel_rfl))) (je_var 9 rfl (.inl (by first | rfl | kernel_rfl)))) (by first | rfl | kernel_rfl) (jc_tup (jcs_cons (jc_name 6 rfl (.inl (by first | rfl | kernel_rfl)) (by decide)) (jcs_cons (jc_name 17 rfl (.inl (by first | rfl | kernel_rfl)) (by decide)) jcs_nil))) (jts_one (jt_cmp os_eq (je_var 17 rfl (.inl (by first | rfl | kernel_rfl))) (je_var 5 rfl (.inr (.inl (by first | rfl | kernel_rfl)))) rfl)) (je_var 6 rfl (.inl (by first | rfl | kernel_rfl)))) ja_nil)) ja_nil))))) (jss_one (js_ret je_bl)) jss_nil)
      (jss_cons (js_for (ji_seq (je_slice (je_listZip za6 (by first | rfl | kernel_rfl) GG.b_list (by first | rfl | kernel_rfl) GG.b_zip (ja_cons (je_var 3 rfl (.inl (by first | rfl | kernel_rfl))) (ja_cons (je_var 4 rfl (.inl (by first | rfl | kernel_rfl))) (ja_cons (je_var 9 rfl (.inl (by first | rfl | kernel_rfl))) (ja_cons (je_var 12 rfl (.inl (by first | rfl | kernel_rfl))) (ja_cons (je_var 11 rfl (.inl (by first | rfl | kernel_rfl))) (ja_cons (je_var 13 rfl (.inl (by first | rfl | kernel_rfl))) ja_nil))))))) jo_none (jo_some je_int))) (jg_tup (jgs_cons (jg_name 6 rfl (.inl (by first | rfl | kernel_rfl))) (jgs_cons (jg_name 8 rfl (.inl (by first | rfl | kernel_rfl))) (jgs_cons (jg_name 17 rfl (.inl (by first | rfl | kernel_rfl))) (jgs_cons (jg_name 18 rfl (.inl (by first | rfl | kernel_rfl))) (jgs_cons (jg_name 19 rfl (.inl (by first | rfl | kernel_rfl))) (jgs_cons (jg_name 20 rfl (.inl (by first | rfl | kernel_rfl))) jgs_nil))))))) (jss_cons (js_set 21 rfl (.inl (by first | rfl | kernel_rfl)) (je_call (f_moved GG) (Nat.le_of_ble_eq_true rfl) (by first | rfl | kernel_rfl) (ja_cons (je_var 8 rfl (.inl (by first | rfl | kernel_rfl))) ja_nil)))
      (jss_cons (js_if (jw_or (jt_cmp os_ne (je_callB cs_sorted (by first | rfl | kernel_rfl) GG.b_sorted bt_sorted (ja_cons (je_var 21 rfl (.inl (by first | rfl | kernel_rfl))) ja_nil)) (je_callB cs_sorted (by first | rfl | kernel_rfl) GG.b_sorted bt_sorted (ja_cons (je_var 1 rfl (.inr (.inl (by first | rfl | kernel_rfl)))) ja_nil)) rfl) (jw_or1 (jt_not (jt_tru (je_call (f_u_law_same GG 6) (Nat.le_of_ble_eq_true rfl) (by first | rfl | kernel_rfl) (ja_cons (je_lst (ja_cons (je_call (f_first_highest GG) (Nat.le_of_ble_eq_true rfl) (by first | rfl | kernel_rfl) (ja_cons (je_var 21 rfl (.inl (by first | rfl | kernel_rfl))) ja_nil)) (ja_cons (je_call (f_moved_back GG) (Nat.le_of_ble_eq_true rfl) (by first | rfl | kernel_rfl) (ja_cons (je_var 21 rfl (.inl (by first | rfl | kernel_rfl))) ja_nil)) (ja_cons (je_call (f_in_order GG) (Nat.le_of_ble_eq_true rfl) (by first | rfl | kernel_rfl) (ja_cons (je_var 1 rfl (.inr (.inl (by first | rfl | kernel_rfl)))) (ja_cons (je_var 6 rfl (.inl (by first | rfl | kernel_rfl))) ja_nil))) ja_nil)))) (ja_cons (je_lst (ja_cons (je_var 17 rfl (.inl (by first | rfl | kernel_rfl))) (ja_cons (je_var 8 rfl (.inl (by first | rfl | kernel_rfl))) (ja_cons (je_var 8 rfl (.inl (by first | rfl | kernel_rfl))) ja_nil)))) ja_nil))))))).jt (jss_one (js_ret je_bl)) jss_nil)
      (jss_one (js_if (jt_not (jt_tru (je_call (f_u_law_same GG 6) (Nat.le_of_ble_eq_true rfl) (by first | rfl | kernel_rfl) (ja_cons (je_lst (ja_cons (je_call (f_above GG) (Nat.le_of_ble_eq_true rfl) (by first | rfl | kernel_rfl) (ja_cons (je_var 8 rfl (.inl (by first | rfl | kernel_rfl))) ja_nil)) (ja_cons (je_call (f_first_highest GG) (Nat.le_of_ble_eq_true rfl) (by first | rfl | kernel_rfl) (ja_cons (je_var 8 rfl (.inl (by first | rfl | kernel_rfl))) ja_nil)) (ja_cons (je_call (f_not_below GG) (Nat.le_of_ble_eq_true rfl) (by first | rfl | kernel_rfl) (ja_cons (je_var 8 rfl (.inl (by first | rfl | kernel_rfl))) ja_nil)) (ja_cons (je_call (f_last_highest GG) (Nat.le_of_ble_eq_true rfl) (by first | rfl | kernel_rfl) (ja_cons (je_var 8 rfl (.inl (by first | rfl | kernel_rfl))) ja_nil)) (ja_cons (je_call (f_moved GG) (Nat.le_of_ble_eq_true rfl) (by first | rfl | kernel_rfl) (ja_cons (je_call (f_moved_back GG) (Nat.le_of_ble_eq_true rfl) (by first | rfl | kernel_rfl) (ja_cons (je_var 8 rfl (.inl (by first | rfl | kernel_rfl))) ja_nil)) ja_nil)) ja_nil)))))) (ja_cons (je_lst (ja_cons (je_var 17 rfl (.inl (by first | rfl | kernel_rfl))) (ja_cons (je_var 18 rfl (.inl (by first | rfl | kernel_rfl))) (ja_cons (je_var 19 rfl (.inl (by first | rfl | kernel_rfl))) (ja_cons (je_var 20 rfl (.inl (by first | rfl | kernel_rfl))) (ja_cons (je_var 8 rfl (.inl (by first | rfl | kernel_rfl))) ja_nil)))))) ja_nil))))) (jss_one (js_ret je_bl)) jss_nil)))))
      (jss_one (js_ret (je_if (jt_cmp os_lt (je_var 2 rfl (.inr (.inl (by first | rfl | kernel_rfl)))) je_int rfl) (je_cmp os_eq (je_lenSet (by first | rfl | kernel_rfl) GG.b_len (by first | rfl | kernel_rfl) GG.b_set (je_lc [("each", 8)] (ji_seq (je_var 4 rfl (.inl (by first | rfl | kernel_rfl)))) (by first | rfl | kernel_rfl) (jc_name 8 rfl (.inl (by first | rfl | kernel_rfl)) (by decide)) jts_nil (je_call (f_moved GG) (Nat.le_of_ble_eq_true rfl) (by first | rfl | kernel_rfl) (ja_cons (je_var 8 rfl (.inl (by first | rfl | kernel_rfl))) ja_nil)))) (je_lenSet (by first | rfl | kernel_rfl) GG.b_len (by first | rfl | kernel_rfl) GG.b_set (je_var 4 rfl (.inl (by first | rfl | kernel_rfl)))) rfl) je_bl)))))))))))))))))
theorem f_u_law_is_told {g : Gb} (GG : GF g) : Fn g (top 70) "_law_is_told" "_law_is_told" ["pool", "row"] 15 D_u_law_is_told := by
  obtain ⟨f, fd, hx, D0⟩ := GG.d_u_law_is_told
  exact fn_mk outD outD_hout hx D0 sc_u_law_is_told (fun kV doc pm an cdv ct us hl => match us, hl with | [_, _], _ => rfl) (fun b hr => b_u_law_is_told GG b hr)
/-- _law_pick -/
theorem sc_u_law_pick : FnScope ["pool", "some"] ["pool", "some"] (defScope (top 64)) := ⟨rfl, rfl, rfl, by decide +kernel, rfl, by decide +kernel, by decide +kernel⟩
def m_u_law_pick : SM :=
  (sret (xop ixD (xvar 1) (xfn 2 (D_u_law_draw) (xcons (xvar 0) (xcons (xcall (f1 lenD) (xcons (xvar 1) (xpure []))) (xpure []))))))
abbrev D_u_law_pick : DF := runF 2 m_u_law_pick
theorem b_u_law_pick {g : Gb} (GG : GF g) (b : Bd) (hr : Room 2 (b.A.deeper (PyProof.Rows.envOfC b.qual (defScope (top 64)) b.s.heap.objs.size b.f b.cdv))) :
    JSs (famB g 2 ["pool", "some"] sc_u_law_pick.nd (defScope (top 64)) b hr) (defBody (top 64)) m_u_law_pick :=
  (jss_one (js_ret (je_ix (je_var 1 rfl (.inl (by first | rfl | kernel_rfl))) (je_call (f_u_law_draw GG) (Nat.le_of_ble_eq_true rfl) (by first | rfl | kernel_rfl) (ja_cons (je_var 0 rfl (.inl (by first | rfl | kernel_rfl))) (ja_cons (je_callB cs_len (by first | rfl | kernel_rfl) GG.b_len bt_len (ja_cons (je_var 1 rfl (.inl (by first | rfl | kernel_rfl))) ja_nil)) ja_nil))))))
theorem f_u_law_pick {g : Gb} (GG : GF g) : Fn g (top 64) "_law_pick" "_law_pick" ["pool", "some"] 3 D_u_law_pick := by
  obtain ⟨f, fd, hx, D0⟩ := GG.d_u_law_pick
  exact fn_mk outD outD_hout hx D0 sc_u_law_pick (fun kV doc pm an cdv ct us hl => match us, hl with | [_, _], _ => rfl) (fun b hr => b_u_law_pick GG b hr)
/-- _law_row -/
theorem sc_u_law_row : FnScope ["pool", "most", "high", "k"] ["pool", "most"] (defScope (top 66)) := ⟨rfl, rfl, rfl, by decide +kernel, rfl, by decide +kernel, by decide +kernel⟩
def m_u_law_row_e1 : XM D :=
  (xop subD (xfn 2 (D_u_law_draw) (xcons (xvar 0) (xcons (xop addD (xop mulD (xpure (.int 2)) (xvar 2)) (xpure (.int 1))) (xpure [])))) (xvar 2))
def m_u_law_row : SM :=
  (sseq (sset 2 (xfn 2 (D_u_law_pick) (xcons (xvar 0) (xcons (xlst (xcons (xpure (.int 1)) (xcons (xpure (.int 2)) (xcons (xpure (.int 4)) (xcons (xpure (.int 9)) (xpure [])))))) (xpure []))))) (sret (xcall (f1 tupleD) (xcons (xcomp (xrange1 (xop addD (xpure (.int 1)) (xfn 2 (D_u_law_draw) (xcons (xvar 0) (xcons (xvar 1) (xpure [])))))) [3] (gname 3) (xpure true) m_u_law_row_e1) (xpure [])))))
abbrev D_u_law_row : DF := runF 4 m_u_law_row
theorem b_u_law_row {g : Gb} (GG : GF g) (b : Bd) (hr : Room 4 (b.A.deeper (PyProof.Rows.envOfC b.qual (defScope (top 66)) b.s.heap.objs.size b.f b.cdv))) :
    JSs (famB g 4 ["pool", "most", "high", "k"] sc_u_law_row.nd (defScope (top 66)) b hr) (defBody (top 66)) m_u_law_row :=
  (jss_cons (js_set 2 rfl (.inr (by first | rfl | kernel_rfl)) (je_call (f_u_law_pick GG) (Nat.le_of_ble_eq_true rfl) (by first | rfl | kernel_rfl) (ja_cons (je_var 0 rfl (.inr (.inl (by first | rfl | kernel_rfl)))) (ja_cons (je_lst (ja_cons je_int (ja_cons je_int (ja_cons je_int (ja_cons je_int ja_nil))))) ja_nil))))
      (jss_one (js_ret (je_callTy cs_tuple (by first | rfl | kernel_rfl) GG.b_tuple bt_tuple (ja_cons (je_lc [("k", 3)] (ji_range1 (by first | rfl | kernel_rfl) GG.b_range (je_op os_add je_int (je_call (f_u_law_draw GG) (Nat.le_of_ble_eq_true rfl) (by first | rfl | kernel_rfl) (ja_cons (je_var 0 rfl (.inr (.inl (by first | rfl | kernel_rfl)))) (ja_cons (je_var 1 rfl (.inl (by first | rfl | kernel_rfl))) ja_nil))))) (by first | rfl | kernel_rfl) (jc_name 3 rfl (.inl (by first | rfl | kernel_rfl)) (by decide)) jts_nil (je_op os_sub (je_call (f_u_law_draw GG) (Nat.le_of_ble_eq_true rfl) (by first | rfl | kernel_rfl) (ja_cons (je_var 0 rfl (.inr (.inl (by first | rfl | kernel_rfl)))) (ja_cons (je_op os_add (je_op os_mul je_int (je_var 2 rfl (.inr (.inl (by first | rfl | kernel_rfl))))) je_int) ja_nil))) (je_var 2 rfl (.inr (.inl (by first | rfl | kernel_rfl)))))) ja_nil)))))
theorem f_u_law_row {g : Gb} (GG : GF g) : Fn g (top 66) "_law_row" "_law_row" ["pool", "most"] 5 D_u_law_row := by
  obtain ⟨f, fd, hx, D0⟩ := GG.d_u_law_row
  exact fn_mk outD outD_hout hx D0 sc_u_law_row (fun kV doc pm an cdv ct us hl => match us, hl with | [_, _], _ => rfl) (fun b hr => b_u_law_row GG b hr)
/-- _law_right -/
theorem sc_u_law_right : FnScope ["pool", "most", "day", "duel", "told"] ["pool"] (defScope (top 71)) := ⟨rfl, rfl, rfl, by decide +kernel, rfl, by decide +kernel, by decide +kernel⟩
def m_u_law_right_b1 : SM :=
  (sif (tnot (xtru (xfn 2 (D_u_law_is_told) (xcons (xvar 0) (xcons (xfn 2 (D_u_law_row) (xcons (xvar 0) (xcons (xvar 1) (xpure [])))) (xpure [])))))) (sret (xpure (.bl false))) snext)
def m_u_law_right : SM :=
  (sseq (sfor (xwalk (xlst (xcons (xpure (.int 1)) (xcons (xpure (.int 3)) (xcons (xpure (.int 4)) (xcons (xpure (.int 5)) (xpure []))))))) (gname 1) m_u_law_right_b1) (sseq (sasg (xtup (xcons (xtup (xcons (xpure (.int 1)) (xcons (xneg (xpure (.int 2))) (xcons (xpure (.int 3)) (xpure []))))) (xcons (xtup (xcons (xpure (.int 1)) (xcons (xpure (.int 1)) (xcons (xneg (xpure (.int 1))) (xpure []))))) (xpure [])))) (gtup 2 (gcons (gname 2) (gcons (gname 3) gnil)))) (sseq (sset 4 (xlst (xcons (xfn 1 (D_orders_above) (xcons (xvar 2) (xpure []))) (xcons (xfn 1 (D_orders_first) (xcons (xvar 2) (xpure []))) (xcons (xfn 1 (D_orders_not_below) (xcons (xvar 3) (xpure []))) (xcons (xfn 1 (D_orders_last) (xcons (xvar 3) (xpure []))) (xcons (xfn 2 (D_orders_with) (xcons (xtup (xcons (xpure (.int 1)) (xcons (xneg (xpure (.int 2))) (xpure [])))) (xcons (xpure (.int 1)) (xpure [])))) (xcons (xfn 1 (D_moved) (xcons (xvar 2) (xpure []))) (xcons (xfn 1 (D_moved_back) (xcons (xtup (xcons (xpure (.int 3)) (xcons (xpure (.int 1)) (xcons (xneg (xpure (.int 2))) (xpure []))))) (xpure []))) (xcons (xfn 1 (D_most_above) (xcons (xvar 2) (xpure []))) (xcons (xfn 1 (D_least_above) (xcons (xvar 2) (xpure []))) (xpure [])))))))))))) (sret (xfn 2 (D_u_law_same 6) (xcons (xvar 4) (xcons (xlst (xcons (xtup (xcons (xpure (.int 0)) (xcons (xpure (.int 1)) (xcons (xpure (.int 2)) (xcons (xpure (.int 3)) (xpure [])))))) (xcons (xtup (xcons (xpure (.int 0)) (xcons (xpure (.int 1)) (xcons (xpure (.int 2)) (xcons (xpure (.int 3)) (xpure [])))))) (xcons (xtup (xcons (xpure (.int 0)) (xcons (xpure (.int 0)) (xcons (xpure (.int 2)) (xcons (xpure (.int 4)) (xpure [])))))) (xcons (xtup (xcons (xpure (.int 0)) (xcons (xpure (.int 0)) (xcons (xpure (.int 2)) (xcons (xpure (.int 4)) (xpure [])))))) (xcons (xtup (xcons (xtup (xcons (xpure (.int 0)) (xcons (xpure (.int 1)) (xpure [])))) (xpure []))) (xcons (xtup (xcons (xpure (.int 3)) (xcons (xpure (.int 1)) (xcons (xneg (xpure (.int 2))) (xpure []))))) (xcons (xvar 2) (xcons (xpure (.int 3)) (xcons (xpure (.int 1)) (xpure []))))))))))) (xpure []))))))))
abbrev D_u_law_right : DF := runF 5 m_u_law_right
theorem b_u_law_right {g : Gb} (GG : GF g) (b : Bd) (hr : Room 16 (b.A.deeper (PyProof.Rows.envOfC b.qual (defScope (top 71)) b.s.heap.objs.size b.f b.cdv))) :
    JSs (famB g 16 ["pool", "most", "day", "duel", "told"] sc_u_law_right.nd (defScope (top 71)) b hr) (defBody (top 71)) m_u_law_right :=
  (jss_cons (js_for (ji_seq (je_lst (ja_cons je_int (ja_cons je_int (ja_cons je_int (ja_cons je_int ja_nil)))))) (jg_name 1 rfl (.inl (by first | rfl | kernel_rfl))) (jss_one (js_if (jt_not (jt_tru (je_call (f_u_law_is_told GG) (Nat.le_of_ble_eq_true rfl) (by first | rfl | kernel_rfl) (ja_cons (je_var 0 rfl (.inl (by first | rfl | kernel_rfl))) (ja_cons (je_call (f_u_law_row GG) (Nat.le_of_ble_eq_true rfl) (by first | rfl | kernel_rfl) (ja_cons (je_var 0 rfl (.inl (by first | rfl | kernel_rfl))) (ja_cons (je_var 1 rfl (.inl (by first | rfl | kernel_rfl))) ja_nil))) ja_nil))))) (jss_one (js_ret je_bl)) jss_nil)))
      (jss_cons (js_asgF (je_tup (ja_cons (je_tup (ja_cons je_int (ja_cons (je_neg je_int) (ja_cons je_int ja_nil)))) (ja_cons (je_tup (ja_cons je_int (ja_cons je_int (ja_cons (je_neg je_int) ja_nil)))) ja_nil))) (jg_tup (jgs_cons (jg_name 2 rfl (.inl (by first | rfl | kernel_rfl))) (jgs_cons (jg_name 3 rfl (.inl (by first | rfl | kernel_rfl))) jgs_nil))) (by intro _; rfl) (fun W X m => by obtain ⟨rfl, rfl⟩ := m; first | rfl | kernel_rfl))
      (jss_cons (js_set 4 rfl (.inl (by first | rfl | kernel_rfl)) (je_lst (ja_cons (je_call (f_orders_above GG) (Nat.le_of_ble_eq_true rfl) (by first | rfl | kernel_rfl) (ja_cons (je_var 2 rfl (.inl (by first | rfl | kernel_rfl))) ja_nil)) (ja_cons (je_call (f_orders_first GG) (Nat.le_of_ble_eq_true rfl) (by first | rfl | kernel_rfl) (ja_cons (je_var 2 rfl (.inl (by first | rfl | kernel_rfl))) ja_nil)) (ja_cons (je_call (f_orders_not_below GG) (Nat.le_of_ble_eq_true rfl) (by first | rfl | kernel_rfl) (ja_cons (je_var 3 rfl (.inl (by first | rfl | kernel_rfl))) ja_nil)) (ja_cons (je_call (f_orders_last GG) (Nat.le_of_ble_eq_true rfl) (by first | rfl | kernel_rfl) (ja_cons (je_var 3 rfl (.inl (by first | rfl | kernel_rfl))) ja_nil)) (ja_cons (je_call (f_orders_with GG) (Nat.le_of_ble_eq_true rfl) (by first | rfl | kernel_rfl) (ja_cons (je_tup (ja_cons je_int (ja_cons (je_neg je_int) ja_nil))) (ja_cons je_int ja_nil))) (ja_cons (je_call (f_moved GG) (Nat.le_of_ble_eq_true rfl) (by first | rfl | kernel_rfl) (ja_cons (je_var 2 rfl (.inl (by first | rfl | kernel_rfl))) ja_nil)) (ja_cons (je_call (f_moved_back GG) (Nat.le_of_ble_eq_true rfl) (by first | rfl | kernel_rfl) (ja_cons (je_tup (ja_cons je_int (ja_cons je_int (ja_cons (je_neg je_int) ja_nil)))) ja_nil)) (ja_cons (je_call (f_most_above GG) (Nat.le_of_ble_eq_true rfl) (by first | rfl | kernel_rfl) (ja_cons (je_var 2 rfl (.inl (by first | rfl | kernel_rfl))) ja_nil)) (ja_cons (je_call (f_least_above GG) (Nat.le_of_ble_eq_true rfl) (by first | rfl | kernel_rfl) (ja_cons (je_var 2 rfl (.inl (by first | rfl | kernel_rfl))) ja_nil)) ja_nil)))))))))))
      (jss_one (js_ret (je_call (f_u_law_same GG 6) (Nat.le_of_ble_eq_true rfl) (by first | rfl | kernel_rfl) (ja_cons (je_var 4 rfl (.inl (by first | rfl | kernel_rfl))) (ja_cons (je_lst (ja_cons (je_tup (ja_cons je_int (ja_cons je_int (ja_cons je_int (ja_cons je_int ja_nil))))) (ja_cons (je_tup (ja_cons je_int (ja_cons je_int (ja_cons je_int (ja_cons je_int ja_nil))))) (ja_cons (je_tup (ja_cons je_int (ja_cons je_int (ja_cons je_int (ja_cons je_int ja_nil))))) (ja_cons (je_tup (ja_cons je_int (ja_cons je_int (ja_cons je_int (ja_cons je_int ja_nil))))) (ja_cons (je_tup (ja_cons (je_tup (ja_cons je_int (ja_cons je_int ja_nil))) ja_nil)) (ja_cons (je_tup (ja_cons je_int (ja_cons je_int (ja_cons (je_neg je_int) ja_nil)))) (ja_cons (je_var 2 rfl (.inl (by first | rfl | kernel_rfl))) (ja_cons je_int (ja_cons je_int ja_nil)))))))))) ja_nil))))))))
theorem f_u_law_right {g : Gb} (GG : GF g) : Fn g (top 71) "_law_right" "_law_right" ["pool"] 17 D_u_law_right := by
  obtain ⟨f, fd, hx, D0⟩ := GG.d_u_law_right
  exact fn_mk outD outD_hout hx D0 sc_u_law_right (fun kV doc pm an cdv ct us hl => match us, hl with | [_], _ => rfl) (fun b hr => b_u_law_right GG b hr)
/-- _law_pool -/
theorem sc_u_law_pool : FnScope ["script", "lap", "own", "stirred", "cell"] ["script", "lap"] (defScope (top 62)) := ⟨rfl, rfl, rfl, by decide +kernel, rfl, by decide +kernel, by decide +kernel⟩
def m_u_law_pool_b1 : SM :=
  (sset 3 (xop modD (xcall (f1 intD) (xcons (xop addD (xop addD (xop mulD (xvar 3) (xpure (.int 48271))) (xop modD (xcall (f1 intD) (xcons (xvar 4) (xpure []))) (xpure (.int 2147483237)))) (xpure (.int 10295))) (xpure []))) (xpure (.int 2147483237))))
def m_u_law_pool : SM :=
  (sseq (spar2 2 3 (xif (xbool (xop ltD (xvar 1) (xcall (f1 lenD) (xcons (xvar 0) (xpure []))))) (xcall (f1 intD) (xcons (xop ixD (xvar 0) (xvar 1)) (xpure []))) (xop addD (xop mulD (xpure (.int 70001)) (xvar 1)) (xpure (.int 29695)))) (xop addD (xpure (.int 2942355)) (xop mulD (xpure (.int 5087)) (xvar 1)))) (sseq (sfor (xwalk (xslice (xvar 0) (xpure none) (xpart (xpure (.int 63))))) (gname 4) m_u_law_pool_b1) (sret (xlstM (xcons (xop modD (xcall (f1 intD) (xcons (xop addD (xvar 3) (xop mulD (xvar 2) (xpure (.int 1013)))) (xpure []))) (xpure (.int 2147483237))) (xcons (xif (tor (xbool (xop ltD (xvar 2) (xpure (.int 0)))) (xbool (xop geD (xvar 2) (xop powD (xpure (.int 10)) (xpure (.int 18)))))) (xcall (f1 absD) (xcons (xvar 2) (xpure []))) (xpure (.int 0))) (xcons (xpure (.int 0)) (xpure []))))))))
abbrev D_u_law_pool : DF := runM 5 m_u_law_pool
theorem b_u_law_pool {g : Gb} (GG : GF g) (b : Bd) (hr : Room 0 (b.A.deeper (PyProof.Rows.envOfC b.qual (defScope (top 62)) b.s.heap.objs.size b.f b.cdv))) :
    JSs (famB g 0 ["script", "lap", "own", "stirred", "cell"] sc_u_law_pool.nd (defScope (top 62)) b hr) (defBody (top 62)) m_u_law_pool :=
  (jss_cons (js_par2 2 3 rfl rfl (by decide) (by first | rfl | kernel_rfl) (by first | rfl | kernel_rfl) (je_if (jt_cmp os_lt (je_var 1 rfl (.inl (by first | rfl | kernel_rfl))) (je_callB cs_len (by first | rfl | kernel_rfl) GG.b_len bt_len (ja_cons (je_var 0 rfl (.inl (by first | rfl | kernel_rfl))) ja_nil)) rfl) (je_callTy cs_int (by first | rfl | kernel_rfl) GG.b_int bt_int (ja_cons (je_ix (je_var 0 rfl (.inl (by first | rfl | kernel_rfl))) (je_var 1 rfl (.inl (by first | rfl | kernel_rfl)))) ja_nil)) (je_op os_add (je_op os_mul je_int (je_var 1 rfl (.inl (by first | rfl | kernel_rfl)))) je_int)) (je_op os_add je_int (je_op os_mul je_int (je_var 1 rfl (.inl (by first | rfl | kernel_rfl))))) (fun W X m => by obtain ⟨rfl, rfl⟩ := m; first | rfl | kernel_rfl))
      (jss_cons (js_for (ji_seq (je_slice (je_var 0 rfl (.inl (by first | rfl | kernel_rfl))) jo_none (jo_some je_int))) (jg_name 4 rfl (.inl (by first | rfl | kernel_rfl))) (jss_one (js_set 3 rfl (.inl (by first | rfl | kernel_rfl)) (je_op os_mod (je_callTy cs_int (by first | rfl | kernel_rfl) GG.b_int bt_int (ja_cons (je_op os_add (je_op os_add (je_op os_mul (je_var 3 rfl (.inl (by first | rfl | kernel_rfl))) je_int) (je_op os_mod (je_callTy cs_int (by first | rfl | kernel_rfl) GG.b_int bt_int (ja_cons (je_var 4 rfl (.inl (by first | rfl | kernel_rfl))) ja_nil)) je_int)) je_int) ja_nil)) je_int))))
      (jss_one (js_ret (je_lstM (ja_cons (je_op os_mod (je_callTy cs_int (by first | rfl | kernel_rfl) GG.b_int bt_int (ja_cons (je_op os_add (je_var 3 rfl (.inl (by first | rfl | kernel_rfl))) (je_op os_mul (je_var 2 rfl (.inl (by first | rfl | kernel_rfl))) je_int)) ja_nil)) je_int) (ja_cons (je_if (jw_or (jt_cmp os_lt (je_var 2 rfl (.inl (by first | rfl | kernel_rfl))) je_int rfl) (jw_or1 (jt_cmp os_ge (je_var 2 rfl (.inl (by first | rfl | kernel_rfl))) (je_op os_pow je_int je_int) rfl))).jt (je_callB cs_abs (by first | rfl | kernel_rfl) GG.b_abs bt_abs (ja_cons (je_var 2 rfl (.inl (by first | rfl | kernel_rfl))) ja_nil)) je_int) (ja_cons je_int ja_nil))))))))
theorem f_u_law_pool {g : Gb} (GG : GF g) : Fn g (top 62) "_law_pool" "_law_pool" ["script", "lap"] 1 D_u_law_pool := by
  obtain ⟨f, fd, hx, D0⟩ := GG.d_u_law_pool
  exact fn_mk outM outM_hout hx D0 sc_u_law_pool (fun kV doc pm an cdv ct us hl => match us, hl with | [_, _], _ => rfl) (fun b hr => b_u_law_pool GG b hr)
/-- law -/
theorem sc_law : FnScope ["script", "lap"] ["script"] (defScope (top 72)) := ⟨rfl, rfl, rfl, by decide +kernel, rfl, by decide +kernel, by decide +kernel⟩
def m_law_b1 : SM :=
  (sif (tnot (xtru (xfn 1 (D_u_law_right) (xcons (xfn 2 (D_u_law_pool) (xcons (xvar 0) (xcons (xvar 1) (xpure [])))) (xpure []))))) (sret (xpure (.bl false))) snext)
def m_law : SM :=
  (sseq (sfor (xrange1 (xcall (f2 max2D) (xcons (xpure (.int 2)) (xcons (xcall (f2 min2D) (xcons (xcall (f1 lenD) (xcons (xvar 0) (xpure []))) (xcons (xpure (.int 3)) (xpure [])))) (xpure []))))) (gname 1) m_law_b1) (sret (xpure (.bl true))))
abbrev D_law : DF := runF 2 m_law
theorem b_law {g : Gb} (GG : GF g) (b : Bd) (hr : Room 18 (b.A.deeper (PyProof.Rows.envOfC b.qual (defScope (top 72)) b.s.heap.objs.size b.f b.cdv))) :
    JSs (famB g 18 ["script", "lap"] sc_law.nd (defScope (top 72)) b hr) (defBody (top 72)) m_law :=
  (jss_cons (js_for (ji_range1 (by first | rfl | kernel_rfl) GG.b_range (je_callB cs_max2 (by first | rfl | kernel_rfl) GG.b_max bt_max (ja_cons je_int (ja_cons (je_callB cs_min2 (by first | rfl | kernel_rfl) GG.b_min bt_min (ja_cons (je_callB cs_len (by first | rfl | kernel_rfl) GG.b_len bt_len (ja_cons (je_var 0 rfl (.inl (by first | rfl | kernel_rfl))) ja_nil)) (ja_cons je_int ja_nil))) ja_nil)))) (jg_name 1 rfl (.inl (by first | rfl | kernel_rfl))) (jss_one (js_if (jt_not (jt_tru (je_call (f_u_law_right GG) (Nat.le_of_ble_eq_true rfl) (by first | rfl | kernel_rfl) (ja_cons (je_call (f_u_law_pool GG) (Nat.le_of_ble_eq_true rfl) (by first | rfl | kernel_rfl) (ja_cons (je_var 0 rfl (.inl (by first | rfl | kernel_rfl))) (ja_cons (je_var 1 rfl (.inl (by first | rfl | kernel_rfl))) ja_nil))) ja_nil)))) (jss_one (js_ret je_bl)) jss_nil)))
      (jss_one (js_ret je_bl)))
theorem f_law {g : Gb} (GG : GF g) : Fn g (top 72) "law" "law" ["script"] 19 D_law := by
  obtain ⟨f, fd, hx, D0⟩ := GG.d_law
  exact fn_mk outD outD_hout hx D0 sc_law (fun kV doc pm an cdv ct us hl => match us, hl with | [_], _ => rfl) (fun b hr => b_law GG b hr)
theorem ok_law {g : Gb} (GG : GF g) {f : Addr} {fd : FuncData} (D0 : FunD g.K "law" "law" (defArgs (top 72)) (defBody (top 72)) (defScope (top 72)) [] [] f fd) : FnOk g.P g.w g.K g.mg g.base (L2.CX g.P g.w) 19 f fd ["script"] (spS g 1 D_law) :=
  fn_ok outD outD_hout D0 sc_law (fun b hr => b_law GG b hr)
end LS
end
section
set_option maxRecDepth 100000
set_option maxHeartbeats 4000000
namespace LS
open PySem PySem.Spec L2
variable {e : Nv} {st : Store}
/-! ## the well -/
theorem lp_pool (items : List D) (x0 x1 x2 : Option D) : ∀ (ns : List Int) (s : Int) (x4 : Option D), 0 ≤ s → ∃ (y : Option D) (s' : Int), 0 ≤ s' ∧ sloop none items (gname 4) m_u_law_pool_b1 (iD ns) [x0, x1, x2, some (.int s), x4] [] = .nx [x0, x1, x2, some (.int s'), y] []
  | [], s, x3, h => ⟨x3, s, h, by simp [sloop]⟩
  | n :: r, s, x3, h => by
    have hp : (0 : Int) ≤ (s * 48271 + n % 2147483237 + 10295) % 2147483237 := Int.emod_nonneg _ (by decide)
    obtain ⟨y, s', h', q⟩ := lp_pool items x0 x1 x2 r ((s * 48271 + n % 2147483237 + 10295) % 2147483237) (some (.int n)) hp
    refine ⟨y, s', h', ?_⟩
    have hb : m_u_law_pool_b1 [x0, x1, x2, some (.int s), some (.int n)] [] = .nx [x0, x1, x2, some (.int ((s * 48271 + n % 2147483237 + 10295) % 2147483237)), some (.int n)] [] := by
      simp [m_u_law_pool_b1, mulC]
    rw [iD_cons, sloop_cons rfl rfl hb, q]
theorem c_pool (ns : List Int) (lap : Int) (h0 : 0 ≤ lap) (hn : ns.length ≤ 63) : ∃ m, Wl m ∧ ∀ (e : Nv) (st : Store), callD D_u_law_pool [.sq (iD ns), .int lap] e st = .ok (.ref st.length) (st ++ [m]) := by
  have main : ∀ o : Int, ((lap < (ns.length : Int) ∧ ns[lap.toNat]? = some o) ∨ (¬ lap < (ns.length : Int) ∧ o = 70001 * lap + 29695)) → ∃ m, Wl m ∧ D_u_law_pool [] [.sq (iD ns), .int lap] = .ok (.ref 0) [m] := by
    intro o ho
    obtain ⟨y, s', hs', q⟩ := lp_pool ((iD ns).take 63) (some (.sq (iD ns))) (some (.int lap)) (some (.int o)) (ns.take 63) (2942355 + 5087 * lap) none (by omega)
    have el : iD (ns.take 63) = (iD ns).take 63 := by simp [iD, List.map_take]
    rw [el] at q
    have c8 : cutD (iD ns) none (some 63) = (iD ns).take 63 := cut_to _ 63
    have l3 : 3 ≤ LIM := by decide
    have pc : powC 10 18 = true := by decide
    have mc : mulC 5087 lap = true := by simp [mulC]
    have mc2 : mulC 70001 lap = true := by simp [mulC]
    have mc3 : mulC o 1013 = true := by simp [mulC]
    have en : ((10 : Int) ^ (Int.toNat 18)) = 1000000000000000000 := by decide
    have sb : stB 0 [] = true := rfl
    refine ⟨.lst [.int ((s' + o * 1013) % 2147483237), .int (if o < 0 ∨ 1000000000000000000 ≤ o then (o.natAbs : Int) else 0), .int 0], ⟨_, _, 0, Int.emod_nonneg _ (by decide), by split <;> omega, by decide, rfl⟩, ?_⟩
    rcases ho with ⟨h, ho⟩ | ⟨h, rfl⟩
    · by_cases h2 : o < 0
      · simp [runM, m_u_law_pool, h, atI_nn _ h0, ho, mc, mc3, c8, l3, q, h2, outF, outM, refsBs, refsB]
      · by_cases h3 : 1000000000000000000 ≤ o
        · simp [runM, m_u_law_pool, h, atI_nn _ h0, ho, mc, mc3, c8, l3, q, h2, h3, pc, en, outF, outM, refsBs, refsB]
        · simp [runM, m_u_law_pool, h, atI_nn _ h0, ho, mc, mc3, c8, l3, q, h2, h3, pc, en, outF, outM, refsBs, refsB]
    · have h2 : ¬ 70001 * lap + 29695 < 0 := by omega
      by_cases h3 : 1000000000000000000 ≤ 70001 * lap + 29695
      · simp [runM, m_u_law_pool, h, mc, mc2, mc3, c8, l3, q, pc, en, h2, h3, outF, outM, refsBs, refsB]
      · simp [runM, m_u_law_pool, h, mc, mc2, mc3, c8, l3, q, pc, en, h2, h3, outF, outM, refsBs, refsB]
  have ex : ∃ o : Int, (lap < (ns.length : Int) ∧ ns[lap.toNat]? = some o) ∨ (¬ lap < (ns.length : Int) ∧ o = 70001 * lap + 29695) := by
    by_cases h : lap < (ns.length : Int)
    · have hl : lap.toNat < ns.length := by omega
      exact ⟨ns[lap.toNat], .inl ⟨h, List.getElem?_eq_getElem hl⟩⟩
    · exact ⟨70001 * lap + 29695, .inr ⟨h, rfl⟩⟩
  obtain ⟨o, ho⟩ := ex
  obtain ⟨m, w, q⟩ := main o ho
  exact ⟨m, w, fun e st => callDM rfl (by simp [refsBs, refsB]) q w.mo⟩
theorem draw_ok (m : MO) (hm : Wl m) (k : Int) (h0 : 0 < k) (h1 : k < 1073741824) : ∃ (d : Int) (m' : MO), Wl m' ∧ 0 ≤ d ∧ d < k ∧ D_u_law_draw [m] [.ref 0, .int k] = .ok (.int d) [m'] := by
  obtain ⟨a, s, c, ha, hs, hc, rfl⟩ := hm
  have stb : ∀ x y z : Int, stB 1 [.lst [.int x, .int y, .int z]] = true := fun _ _ _ => rfl
  by_cases h : 0 < s
  · refine ⟨s % k, .lst [.int a, .int (s / k), .int c], ⟨a, s / k, c, ha, Int.ediv_nonneg hs (by omega), hc, rfl⟩, Int.emod_nonneg _ (by omega), Int.emod_lt_of_pos _ h0, ?_⟩
    simp [runF, m_u_law_draw, m_u_law_draw_s1, h, h0, h1, ixN, outF, outD, stb, refsB]
  · have p : (0 : Int) ≤ (a * (a % 20011 + 30011) + 70001 * (c + 1) + 9) % 2147483237 := Int.emod_nonneg _ (by decide)
    refine ⟨(a * (a % 20011 + 30011) + 70001 * (c + 1) + 9) % 2147483237 / 128 % k, .lst [.int ((a * (a % 20011 + 30011) + 70001 * (c + 1) + 9) % 2147483237), .int s, .int (c + 1)], ⟨_, s, c + 1, p, hs, by omega, rfl⟩, Int.emod_nonneg _ (by omega), Int.emod_lt_of_pos _ h0, ?_⟩
    have mc : mulC a (a % 20011 + 30011) = true := by
      have z0 : (0 : Int) ≤ a % 20011 := Int.emod_nonneg _ (by decide)
      have z1 : a % 20011 < 20011 := Int.emod_lt_of_pos _ (by decide)
      unfold mulC
      simp
      omega
    have mc2 : mulC 70001 (c + 1) = true := by simp [mulC]
    simp [runF, m_u_law_draw, m_u_law_draw_s1, m_u_law_draw_s2, m_u_law_draw_s3, m_u_law_draw_s4, m_u_law_draw_s5, h, h0, h1, ixN, outF, outD, stb, refsB, divC, mc, mc2]
theorem c_draw (m : MO) (hm : Wl m) (k : Int) (h0 : 0 < k) (h1 : k < 1073741824) : ∃ (d : Int) (m' : MO), Wl m' ∧ 0 ≤ d ∧ d < k ∧ ∀ (e : Nv) (r : Store), callD D_u_law_draw [.ref 0, .int k] e (m :: r) = .ok (.int d) (m' :: r) := by
  obtain ⟨d, m', w, a, b, q⟩ := draw_ok m hm k h0 h1
  exact ⟨d, m', w, a, b, fun e r => callD1 (i := 0) rfl rfl rfl hm.mo q w.mo rfl⟩
end LS
end
section
set_option maxRecDepth 100000
set_option maxHeartbeats 4000000
namespace LS
open PySem PySem.Spec L2
variable {e : Nv} {st : Store}
/-! ## right rows -/
theorem c_is_whole (i : Int) : callD D_is_whole [.int i] e st = .ok (.bl true) st := callD0 rfl rfl (runF_rt (st' := []) (by simp [m_is_whole]) rfl) rfl
theorem c_is_between (i a b : Int) : callD D_is_between [.int i, .int a, .int b] e st = .ok (.bl (decide (a ≤ i) && decide (i ≤ b))) st := callD0 rfl rfl (runF_rt (st' := []) (by
  simp [m_is_between, c_is_whole]
  by_cases h : a ≤ i <;> simp [h]) rfl) rfl
theorem c_is_number (i : Int) (h : -9 ≤ i ∧ i ≤ 9) : callD D_is_number [.int i] e st = .ok (.bl true) st := callD0 rfl rfl (runF_rt (st' := []) (by
  simp [m_is_number, c_is_between, h]) rfl) rfl
def Row (ns : List Int) : Prop := 1 ≤ ns.length ∧ ns.length ≤ 8 ∧ ∀ n ∈ ns, -9 ≤ n ∧ n ≤ 9
theorem c_wrong (ns : List Int) (h : Row ns) : callD D_wrong_in_row [.tup (iD ns)] e st = .ok (.lst []) st := by
  refine callD0 rfl (by simp [refsBs, refsB]) (runF_rt (st' := []) ?_ rfl) rfl
  have h1 : (1 : Int) ≤ (ns.length : Int) := by have := h.1; omega
  have h2 : (ns.length : Int) ≤ 8 := by have := h.2.1; omega
  simp [m_wrong_in_row, h1, h2]
  rw [cloop_pure (fun _ => false) (fun x => x) rfl]
  · simp [cutD, HT.sIx]
  · intro x hx
    obtain ⟨i, y, hy, _, rfl⟩ := mem_enumD hx
    obtain ⟨n, hn, rfl⟩ := mem_iD hy
    exact ⟨_, by simp; rfl, by simp [m_wrong_in_row_t1, c_is_number n (h.2.2 n hn)], by simp⟩
  · simp [enumD_len, LIM]; have := h.2.1; omega
theorem c_check_row (ns : List Int) (h : Row ns) : callD D_check_row [.tup (iD ns)] e st = .ok .non st := by
  refine callD0 rfl (by simp [refsBs, refsB]) (runF_nx (e' := [some (.tup (iD ns)), none]) (st' := []) ?_) rfl
  simp [m_check_row, c_wrong ns h, sloop]
theorem c_check_number (i a b : Int) (h : a ≤ i) (h2 : i ≤ b) : callD D_check_number [.int i, .int a, .int b] e st = .ok .non st := by
  refine callD0 rfl rfl (runF_nx (e' := [some (.int i), some (.int a), some (.int b)]) (st' := []) ?_) rfl
  simp [m_check_number, c_is_between, h, h2]
theorem c_check_few (ns : List Int) (h : ns.length ≤ 6) : callD D_check_few [.tup (iD ns), .int 6] e st = .ok .non st := by
  refine callD0 rfl (by simp [refsBs, refsB]) (runF_nx (e' := [some (.tup (iD ns)), some (.int 6)]) (st' := []) ?_) rfl
  have h2 : ¬ (6 : Int) < (ns.length : Int) := by omega
  simp [m_check_few, h2]
theorem c_check_few_numbers (ns : List Int) (h : Row ns) (h6 : ns.length ≤ 6) : callD D_check_few_numbers [.tup (iD ns)] e st = .ok .non st := by
  refine callD0 rfl (by simp [refsBs, refsB]) (runF_nx (e' := [some (.tup (iD ns))]) (st' := []) ?_) rfl
  simp [m_check_few_numbers, c_check_row ns h, c_check_few ns h6]
/-! ## drawn rows -/
theorem c_pick (m : MO) (hm : Wl m) : ∃ (g : Int) (m' : MO), Wl m' ∧ 1 ≤ g ∧ g ≤ 9 ∧ ∀ e : Nv, callD D_u_law_pick [.ref 0, .lst [.int 1, .int 2, .int 4, .int 9]] e [m] = .ok (.int g) [m'] := by
  obtain ⟨d, m', w, d0, d1, q⟩ := c_draw m hm 4 (by decide) (by decide)
  have fin : ∀ g : Int, atI [D.int 1, .int 2, .int 4, .int 9] d = some (.int g) → ∀ e : Nv, callD D_u_law_pick [.ref 0, .lst [.int 1, .int 2, .int 4, .int 9]] e [m] = .ok (.int g) [m'] := by
    intro g hg e
    refine callD1 (i := 0) rfl rfl rfl hm.mo (runF_w (st := []) ?_ w rfl) w.mo rfl
    simp [m_u_law_pick, loc1, q, hg]
  have hd : d = 0 ∨ d = 1 ∨ d = 2 ∨ d = 3 := by omega
  rcases hd with rfl | rfl | rfl | rfl
  · exact ⟨1, m', w, by decide, by decide, fin 1 (by simp)⟩
  · exact ⟨2, m', w, by decide, by decide, fin 2 (by simp)⟩
  · exact ⟨4, m', w, by decide, by decide, fin 4 (by simp)⟩
  · exact ⟨9, m', w, by decide, by decide, fin 9 (by rfl)⟩
theorem c_law_row (m : MO) (hm : Wl m) (most : Int) (h0 : 1 ≤ most) (h5 : most ≤ 5) : ∃ (ns : List Int) (m' : MO), Wl m' ∧ 1 ≤ ns.length ∧ (ns.length : Int) ≤ most ∧ (∀ n ∈ ns, -9 ≤ n ∧ n ≤ 9) ∧ ∀ e : Nv, callD D_u_law_row [.ref 0, .int most] e [m] = .ok (.tup (iD ns)) [m'] := by
  obtain ⟨g, m1, w1, g0, g9, q1⟩ := c_pick m hm
  obtain ⟨k, m2, w2, k0, k8, q2⟩ := c_draw m1 w1 most (by omega) (by omega)
  obtain ⟨ds, st', ql, hlen, hp, ⟨m3, e3, w3⟩⟩ := cloop_inv (src := none) (items := rangeL 0 (1 + k).toNat) (gt := gname 3) (mt := xpure true) (me := m_u_law_row_e1) (e := [some (.ref 0), some (.int most), some (.int g), none]) (fun st => ∃ m, st = [m] ∧ Wl m) (fun d => ∃ n : Int, d = .int n ∧ -9 ≤ n ∧ n ≤ 9) (fun _ _ => rfl) (rangeL 0 (1 + k).toNat) [] [m2]
    (by
      intro x hx st ⟨m, es, w⟩
      subst es
      obtain ⟨d, m', w', d0, d1, q⟩ := c_draw m w (2 * g + 1) (by omega) (by omega)
      have mc : mulC 2 g = true := by simp [mulC]
      exact ⟨_, rfl, rfl, .int (d - g), [m'], by simp [m_u_law_row_e1, mc, q], ⟨d - g, rfl, by omega, by omega⟩, m', rfl, w'⟩)
    ⟨m2, rfl, w2⟩ (by simp [rangeL_len, LIM]; omega)
  have hns : ∃ ns : List Int, ds = iD ns ∧ ∀ n ∈ ns, -9 ≤ n ∧ n ≤ 9 := by
    clear ql hlen
    induction ds with
    | nil => exact ⟨[], rfl, by simp⟩
    | cons d r ih =>
      obtain ⟨ns, e1, h1⟩ := ih fun x hx => hp x (by simp [hx])
      obtain ⟨n, e2, h2⟩ := hp d (by simp)
      exact ⟨n :: ns, by rw [e2, e1]; rfl, fun x hx => by
        rcases List.mem_cons.mp hx with rfl | hx
        · exact h2
        · exact h1 x hx⟩
  obtain ⟨ns, rfl, hb⟩ := hns
  subst e3
  rw [rangeL_len, iD_len] at hlen
  refine ⟨ns, m3, w3, by omega, by omega, hb, fun e => ?_⟩
  refine callD1 (i := 0) rfl rfl rfl hm.mo (runF_w (st := []) ?_ w3 (by simp [refsB])) w3.mo (by simp [refsB])
  have l3 : 4 ≤ LIM := by decide
  have hr : rngB (1 + k) = true := rngB_of (by omega) (by omega)
  simp at ql
  simp [m_u_law_row, loc1, l3, q1, q2, hr, ql]
end LS
end
section
set_option maxRecDepth 100000
set_option maxHeartbeats 4000000
namespace LS
open PySem PySem.Spec L2
variable {e : Nv} {st : Store}
/-! ## sums, places -/
theorem lp_sums (row : D) (items : List D) : ∀ (ns acc : List Int) (s : Int) (x2 : Option D), acc.length + ns.length < 1000 → ∃ y2 : Option D, sloop none items (gname 2) m_sums_by_b1 (iD ns) [some row, some (.ref 0), x2] [.lst (iD (acc ++ [s]))] = .nx [some row, some (.ref 0), y2] [.lst (iD (acc ++ SA.sm id s ns))]
  | [], acc, s, x2, _ => ⟨x2, by simp [sloop, SA.sm]⟩
  | n :: r, acc, s, x2, hl => by
    have hl' : acc.length + (r.length + 1) < 1000 := by simpa using hl
    obtain ⟨y2, q⟩ := lp_sums row items r (acc ++ [s]) (s + n) (some (.int n)) (by simp; omega)
    refine ⟨y2, ?_⟩
    have hlim : acc.length + 1 < LIM := by simp [LIM]; omega
    have hb : m_sums_by_b1 [some row, some (.ref 0), some (.int n)] [.lst (iD (acc ++ [s]))] = .nx [some row, some (.ref 0), some (.int n)] [.lst (iD (acc ++ [s] ++ [s + n]))] := by
      simp [m_sums_by_b1, iD_app, atI_last, hlim]
    rw [iD_cons, sloop_cons rfl rfl hb, q]
    simp [SA.sm]
theorem lp_law_sums (row : D) (items : List D) : ∀ (ns acc : List Int) (s : Int) (x2 : Option D), acc.length + ns.length < 1000 → ∃ y2 : Option D, sloop none items (gname 2) m_u_law_sums_b1 (iD ns) [some row, some (.ref 0), x2] [.lst (iD (acc ++ [s]))] = .nx [some row, some (.ref 0), y2] [.lst (iD (acc ++ SA.sm id s ns))] := lp_sums row items
def sms (ns : List Int) : List Int := SA.sm id 0 ns
theorem sms_len (ns : List Int) : (sms ns).length = ns.length + 1 := SA.sm_len id 0 ns
/-- a tuple or a list of these ints -/
def Like (d : D) (ns : List Int) : Prop := d = .tup (iD ns) ∨ d = .lst (iD ns)
theorem c_sums (d : D) (ns : List Int) (h : Like d ns) (hl : ns.length ≤ 8) : callD D_sums_by [d] e st = .ok (.tup (iD (sms ns))) st := by
  obtain ⟨y2, q⟩ := lp_sums d (iD ns) ns [] 0 none (by simp; omega)
  simp at q
  refine callD0 (by rcases h with rfl | rfl <;> rfl) (by rcases h with rfl | rfl <;> simp [refsBs, refsB]) (runF_rt (st' := [.lst (iD (sms ns))]) ?_ (by simp [refsB])) (by simp [refsB])
  rcases h with rfl | rfl <;> simp [m_sums_by, LIM, q, sms]
theorem c_law_sums (ns : List Int) (hl : ns.length ≤ 8) : callD D_u_law_sums [.tup (iD ns)] e st = .ok (.lst (iD (sms ns))) st := by
  obtain ⟨y2, q⟩ := lp_law_sums (.tup (iD ns)) (iD ns) ns [] 0 none (by simp; omega)
  simp at q
  refine callD0 rfl (by simp [refsBs, refsB]) (runF_ref (k := 0) (st' := [.lst (iD (sms ns))]) ?_ rfl (by simp)) (by simp [refsB])
  simp [m_u_law_sums, LIM, q, sms]
abbrev abvL (ns : List Int) : Nat := SA.abv id 0 ns
abbrev nblL (ns : List Int) : Nat := SA.nbl id 0 ns
abbrev fstL (ns : List Int) : Nat := SA.fst id ns
abbrev lstL (ns : List Int) : Nat := SA.lst id ns
theorem fil_abv (ns : List Int) : ((sms ns).filter fun x => decide (0 < x)).length = abvL ns := by
  have := SA.abv_filter id ns 0
  simpa [sms] using this
theorem sms_cons (ns : List Int) : ∃ t, sms ns = 0 :: t ∧ t.length = ns.length := by
  obtain ⟨t, h⟩ := SA.sm_head id 0 ns
  refine ⟨t, h, ?_⟩
  have := sms_len ns
  rw [sms, h] at this
  simpa using this
theorem fil_nbl (ns : List Int) : (((sms ns).drop 1).filter fun x => decide (0 ≤ x)).length = nblL ns := by
  have := SA.nbl_filter id ns 0
  obtain ⟨t, h, _⟩ := sms_cons ns
  rw [sms] at h
  rw [h] at this
  simp at this
  show _ = SA.nbl id 0 ns
  rw [sms, h]
  simp
  omega
theorem cl_int {src : Option Nat} {items : List D} {j : Nat} {mt : XM Bool} (c : Int → Bool) (hs : srcOk src items st = true) (L : List Int) (hl : L.length ≤ 1000) (hj : j < e.length)
    (h : ∀ x : Int, mt (e.set j (some (.int x))) st = .ok (c x) st) : cloop src items (gname j) mt (xvar j) e (iD L) [] st = .ok (iD (L.filter c)) st := by
  have := cloop_rows (e := e) (st := st) (src := src) (items := items) (gt := gname j) (mt := mt) (me := xvar j) D.int c D.int hs L [] (fun x _ => ⟨_, rfl, h x, fun _ => by simp [hj]⟩) (by simp [LIM]; omega)
  simpa [iD] using this
theorem c_above_by (d : D) (ns : List Int) (h : Like d ns) (hl : ns.length ≤ 8) : callD D_above_by [d] e st = .ok (.int (abvL ns)) st := by
  refine callD0 (by rcases h with rfl | rfl <;> rfl) (by rcases h with rfl | rfl <;> simp [refsBs, refsB]) (runF_rt (st' := []) ?_ rfl) rfl
  simp [m_above_by, c_sums d ns h hl]
  rw [cl_int (fun x => decide (0 < x)) rfl _ (by rw [sms_len]; omega) (by simp) fun x => by simp [m_above_by_t1]]
  simp [fil_abv]
theorem c_not_below_by (ns : List Int) (hl : ns.length ≤ 8) : callD D_not_below_by [.tup (iD ns)] e st = .ok (.int (nblL ns)) st := by
  refine callD0 rfl (by simp [refsBs, refsB]) (runF_rt (st' := []) ?_ rfl) rfl
  have c1 : cutD (iD (sms ns)) (some 1) none = iD ((sms ns).drop 1) := by rw [show (1 : Int) = ((1 : Nat) : Int) from rfl, cut_from]; simp [iD]
  simp [m_not_below_by, c_sums _ ns (.inl rfl) hl, c1]
  rw [show List.drop 1 (sms ns) = (sms ns).tail by simp] at *
  rw [cl_int (fun x => decide (0 ≤ x)) rfl _ (by simp [sms_len]; omega) (by simp) fun x => by simp [m_not_below_by_t1]]
  have := fil_nbl ns
  simp at this
  simp [this]
theorem maxL_sms (ns : List Int) : maxL (sms ns) = SA.hi id ns := by
  have hne : 0 < (sms ns).length := by rw [sms_len]; omega
  have h1 := SA.hi_ge id ns 0
  have h2 := SA.hi_in id ns 0
  have h3 := h1 _ (maxL_mem hne)
  have h4 : 0 + SA.hi id ns ≤ maxL (sms ns) := maxL_le (ns := sms ns) h2
  have h5 : maxL (sms ns) ≤ 0 + SA.hi id ns := h3
  omega
@[simp] theorem max_tD (ns : List Int) : maxD (.tup (iD ns)) e st = if ns = [] then .stuck else .ok (.int (maxL ns)) st := by simp [maxD, intsD, seqOf, intsOf_iD]
theorem c_highest_by (ns : List Int) (hl : ns.length ≤ 8) : callD D_highest_by [.tup (iD ns)] e st = .ok (.int (SA.hi id ns)) st := by
  refine callD0 rfl (by simp [refsBs, refsB]) (runF_rt (st' := []) ?_ rfl) rfl
  obtain ⟨t, ht, _⟩ := sms_cons ns
  have ne : sms ns ≠ [] := by rw [ht]; simp
  simp [m_highest_by, c_sums _ ns (.inl rfl) hl, ne, maxL_sms]
def plI (p : List Nat) : List Int := p.map fun (n : Nat) => (n : Int)
def cP (v : Int) : D → Bool
  | .tup [.int _, .int x] => decide (x = v)
  | _ => false
def fP : D → D
  | .tup [.int i, _] => .int i
  | _ => .non
theorem pl_enum (v : Int) : ∀ (l : List Int) (k : Nat), ((enumD k (iD l)).filter (cP v)).map fP = iD (plI (SA.place v k l))
  | [], _ => rfl
  | x :: r, k => by
    have ih := pl_enum v r (k + 1)
    simp only [iD_cons, enumD, SA.place]
    by_cases h : x = v
    · rw [List.filter_cons_of_pos (by simp [cP, h]), if_pos h]
      simp [fP, ih, plI]
    · rw [List.filter_cons_of_neg (by simp [cP, h]), if_neg h, ih]
theorem c_places (ns : List Int) (v : Int) (hl : ns.length ≤ 8) : callD D_places_with [.tup (iD ns), .int v] e st = .ok (.lst (iD (plI (SA.place v 0 (sms ns))))) st := by
  refine callD0 rfl (by simp [refsBs, refsB]) (runF_rt (st' := []) ?_ (by simp [refsB])) (by simp [refsB])
  simp [m_places_with, c_sums _ ns (.inl rfl) hl]
  rw [cloop_pure (cP v) fP rfl]
  · simp [pl_enum]
  · intro x hx
    obtain ⟨i, y, hy, _, rfl⟩ := mem_enumD hx
    obtain ⟨n, hn, rfl⟩ := mem_iD hy
    exact ⟨_, by simp; rfl, by simp [m_places_with_t1, cP], fun _ => by simp [fP]⟩
  · simp [enumD_len, LIM, sms_len]; omega
theorem pl_hi (ns : List Int) : (∃ t, SA.place (SA.hi id ns) 0 (sms ns) = fstL ns :: t) ∧ ∃ t, SA.place (SA.hi id ns) 0 (sms ns) = t ++ [lstL ns] := by
  obtain ⟨h1, h2⟩ := SA.place_hi id ns 0
  rw [Int.zero_add] at h1 h2
  refine ⟨?_, List.getLast?_eq_some_iff.mp h2⟩
  unfold sms
  cases hp : SA.place (SA.hi id ns) 0 (SA.sm id 0 ns) with
  | nil => rw [hp] at h1; simp at h1
  | cons x t =>
    rw [hp] at h1
    simp at h1
    exact ⟨t, by rw [h1]⟩
theorem c_first_by (ns : List Int) (hl : ns.length ≤ 8) : callD D_first_highest_by [.tup (iD ns)] e st = .ok (.int (fstL ns)) st := by
  refine callD0 rfl (by simp [refsBs, refsB]) (runF_rt (st' := []) ?_ rfl) rfl
  obtain ⟨t, ht⟩ := (pl_hi ns).1
  simp [m_first_highest_by, c_highest_by ns hl, c_places ns _ hl, ht, plI]
theorem c_last_by (ns : List Int) (hl : ns.length ≤ 8) : callD D_last_highest_by [.tup (iD ns)] e st = .ok (.int (lstL ns)) st := by
  refine callD0 rfl (by simp [refsBs, refsB]) (runF_rt (st' := []) ?_ rfl) rfl
  obtain ⟨t, ht⟩ := (pl_hi ns).2
  simp [m_last_highest_by, c_highest_by ns hl, c_places ns _ hl, ht, plI, iD_app, atI_last]
end LS
end
section
set_option maxRecDepth 100000
set_option maxHeartbeats 4000000
namespace LS
open PySem PySem.Spec L2
variable {e : Nv} {st : Store}
/-! ## all orders -/
abbrev ords (n : Nat) : List (List Nat) := SA.ordK n n
def oI (o : List Nat) : List Int := o.map fun (i : Nat) => (i : Int)
def ordD (o : List Nat) : D := .tup (iD (oI o))
def rowD (r : List Int) : D := .tup (iD r)
theorem iD_oI (o : List Nat) : iD (oI o) = o.map fun (i : Nat) => D.int (i : Int) := by simp [iD, oI]
theorem refs_map {α : Type} (f : α → D) (h : ∀ x, refsB 0 (f x) = true) : ∀ l : List α, refsBs 0 (l.map f) = true
  | [] => rfl
  | x :: l => by simp [refsBs, h x, refs_map f h l]
theorem refs_ord (o : List Nat) : refsB 0 (ordD o) = true := by simp [ordD, refsB]
theorem refs_row (o : List Int) : refsB 0 (rowD o) = true := by simp [rowD, refsB]
theorem law_ords (n : Nat) (h1 : 1 ≤ n) (h5 : n ≤ 5) : m_u_law_orders [some (.int n), none, none, none, none, none] [] = .rt (.lst ((ords n).map ordD)) [] := by
  match n, h1, h5 with
  | 1, _, _ => kernel_rfl
  | 2, _, _ => kernel_rfl
  | 3, _, _ => kernel_rfl
  | 4, _, _ => kernel_rfl
  | 5, _, _ => kernel_rfl
theorem c_law_orders (n : Nat) (h1 : 1 ≤ n) (h5 : n ≤ 5) : callD D_u_law_orders [.int n] e st = .ok (.lst ((ords n).map ordD)) st :=
  callD0 rfl rfl (runF_rt (st' := []) (law_ords n h1 h5) (by simp [refsB, refs_map _ refs_ord])) (by simp [refsB, refs_map _ refs_ord])
theorem all_ords (ns : List Int) (h1 : 1 ≤ ns.length) (h5 : ns.length ≤ 5) : m_all_orders [some (.tup (iD ns)), none] [] = .rt (.lst ((ords ns.length).map ordD)) [] := by
  match ns, h1, h5 with
  | [a], _, _ => kernel_rfl
  | [a, b], _, _ => kernel_rfl
  | [a, b, c], _, _ => kernel_rfl
  | [a, b, c, d], _, _ => kernel_rfl
  | [a, b, c, d, f], _, _ => kernel_rfl
theorem c_all_orders (ns : List Int) (h1 : 1 ≤ ns.length) (h5 : ns.length ≤ 5) : callD D_all_orders [.tup (iD ns)] e st = .ok (.lst ((ords ns.length).map ordD)) st :=
  callD0 rfl (by simp [refsBs, refsB]) (runF_rt (st' := []) (all_ords ns h1 h5) (by simp [refsB, refs_map _ refs_ord])) (by simp [refsB, refs_map _ refs_ord])
theorem fac5 (n : Nat) (h5 : n ≤ 5) : (ords n).length ≤ 120 := by
  have : ∀ n ≤ 5, (ords n).length ≤ 120 := by decide +kernel
  exact this n h5
theorem le_lim {a : Nat} (h : a ≤ 120) : ([] : List D).length + a ≤ LIM := by simp [LIM]; omega
theorem ord_lt {n : Nat} {o : List Nat} (h : o ∈ ords n) : o.length = n ∧ ∀ i ∈ o, i < n := ⟨(SA.mem_ordK.mp h).1, (SA.mem_ordK.mp h).2.2⟩
theorem c_in_order_by (ns : List Int) (o : List Nat) (hl : ns.length ≤ 8) (h : o ∈ ords ns.length) : callD D_in_order_by [.tup (iD ns), ordD o] e st = .ok (rowD (SA.rowO ns o)) st := by
  refine callD0 rfl (by simp [refsBs, refsB, ordD]) (runF_rt (st' := []) ?_ (refs_row _)) (refs_row _)
  obtain ⟨lo, ho⟩ := ord_lt h
  simp [m_in_order_by, ordD]
  rw [iD_oI, cloop_rows (fun (i : Nat) => D.int (i : Int)) (fun _ => true) (fun i => D.int (ns.getD i 0)) rfl]
  · simp [rowD, SA.rowO, iD]
  · intro i hi
    have := ho i hi
    exact ⟨_, rfl, rfl, fun _ => by simp [m_in_order_by_e1, getD_at this]⟩
  · simp [LIM]; omega
abbrev rowsO (ns : List Int) : List (List Int) := (ords ns.length).map (SA.rowO ns)
theorem rowsO_row {ns r : List Int} (h : r ∈ rowsO ns) (hr : Row ns) : Row r ∧ r.Perm ns ∧ r.length = ns.length := by
  obtain ⟨o, ho, rfl⟩ := List.mem_map.mp h
  have p := SA.rowO_perm ho
  exact ⟨⟨by rw [p.length_eq]; exact hr.1, by rw [p.length_eq]; exact hr.2.1, fun x hx => hr.2.2 x (p.mem_iff.mp hx)⟩, p, p.length_eq⟩
theorem rowsO_len (ns : List Int) (h5 : ns.length ≤ 5) : (rowsO ns).length ≤ 120 := by simp; exact fac5 _ h5
theorem c_all_in_order (ns : List Int) (h1 : 1 ≤ ns.length) (h5 : ns.length ≤ 5) : callD D_all_in_order [.tup (iD ns)] e st = .ok (.lst ((rowsO ns).map rowD)) st := by
  refine callD0 rfl (by simp [refsBs, refsB]) (runF_rt (st' := []) ?_ (by simp only [refsB]; exact refs_map _ refs_row _)) (by simp only [refsB]; exact refs_map _ refs_row _)
  simp only [m_all_in_order, ap_ret, ap_comp, ap_walk, ap_fn, ap_cons, ap_bind, ap_pure, ap_var, c_all_orders ns h1 h5, List.map_cons, List.map_nil, List.length_cons, List.length_nil, List.cons_append, List.nil_append, List.getElem?_cons_zero, src_lst, if_true, Nat.zero_add]
  rw [cloop_rows ordD (fun _ => true) (fun o => rowD (SA.rowO ns o)) rfl]
  · simp [rowsO]
  · intro o ho
    exact ⟨_, rfl, rfl, fun _ => by simp [m_all_in_order_e1, c_in_order_by ns o (by omega) ho]⟩
  · simp [LIM]; have := fac5 _ h5; omega
/-! ## counts -/
def cnts (n : Nat) (L : List Int) : List Int := (List.range (n + 1)).map fun (k : Nat) => ((L.count (k : Int) : Nat) : Int)
theorem cnts_perm {n : Nat} {L M : List Int} (p : L.Perm M) : cnts n L = cnts n M := by
  unfold cnts
  refine List.map_congr_left fun k _ => ?_
  rw [p.count_eq]
theorem listy_lst (xs : List D) : listy st (.lst xs) = true := rfl
theorem plain_ints : ∀ L : List Int, PyData.plainAll (L.map PyData.int) = true
  | [] => rfl
  | x :: r => by
    have := plain_ints r
    simp only [List.map_cons, PyData.plainAll, this]
    rfl
theorem count_eqv (k : Int) : ∀ L : List Int, (L.map PyData.int).countP (fun z => PyData.eqv z (.int k)) = L.count k
  | [] => rfl
  | x :: r => by
    rw [List.map_cons, List.countP_cons, List.count_cons, count_eqv k r]
    simp [PyData.eqv]
theorem count_ap (L : List Int) (k : Int) : countD (.lst (iD L)) (.int k) e st = .ok (.int ((L.count k : Nat) : Int)) st := by
  have h1 : pyListOf st (.lst (iD L)) = some (L.map PyData.int) := by simp [pyListOf, pyOf, pyD]
  have h2 : pyOf st (.int k) = some (.int k) := rfl
  unfold countD
  rw [h1, h2]
  simp only
  rw [if_pos (by rw [plain_ints]; rfl), count_eqv]
theorem iD_cnts (n : Nat) (L : List Int) : iD (cnts n L) = (List.range (n + 1)).map fun (i : Nat) => D.int ((L.count (i : Int) : Nat) : Int) := by simp only [cnts, iD, List.map_map]; rfl
theorem c_counted_1 (L : List Int) (n : Nat) (i : Nat) : m_counted_e1 [some (.lst (iD L)), some (.int n), some (.int (0 + (i : Int)))] [] = .ok (.int ((L.count (i : Int) : Nat) : Int)) [] := by
  simp [m_counted_e1, xm1, listy_lst, count_ap]
theorem c_counted_2 (L : List Int) (n : Nat) (hn : n ≤ 8) : cloop none (rangeL 0 (n + 1)) (gname 2) (xpure true) m_counted_e1 [some (.lst (iD L)), some (.int n), none] (rangeL 0 (n + 1)) [] [] = .ok (iD (cnts n L)) [] := by
  have q := cloop_rows (e := [some (.lst (iD L)), some (.int n), none]) (st := []) (src := none) (items := rangeL 0 (n + 1)) (gt := gname 2) (mt := xpure true) (me := m_counted_e1) (fun (i : Nat) => D.int (0 + (i : Int))) (fun _ => true) (fun (i : Nat) => D.int ((L.count (i : Int) : Nat) : Int)) rfl (List.range (n + 1)) [] (fun i hi => ⟨_, rfl, rfl, fun _ => c_counted_1 L n i⟩) (by simp [LIM]; omega)
  rw [filter_yes, List.nil_append, ← iD_cnts] at q
  exact q
theorem c_counted (L : List Int) (n : Nat) (hn : n ≤ 8) : callD D_counted [.lst (iD L), .int n] e st = .ok (.tup (iD (cnts n L))) st := by
  have rg : rngB ((n : Int) + 1) = true := rngB_of (by omega) (by omega)
  have h1 : xrange1 (xop addD (xvar 1) (xpure (.int 1))) [some (.lst (iD L)), some (.int n), none] [] = .ok (rangeL 0 (n + 1), none) [] := range1_of (j := (n : Int) + 1) (op_of rfl rfl rfl) rg
  have h2 : m_counted [some (.lst (iD L)), some (.int n), none] [] = .rt (.tup (iD (cnts n L))) [] := ret_ok (call_of (one_ok (comp_of h1 (c_counted_2 L n hn))) (by rw [f1_ap]; exact tuple_lst _))
  exact callD0 rfl (by simp [refsBs, refsB]) (runF_rt (st' := []) h2 (by simp [refsB])) (by simp [refsB])
theorem c_law_counts_1 (L : List Int) (n : Nat) (i : Nat) : m_u_law_counts_e1 [some (.int n), some (.lst (iD L)), some (.int (0 + (i : Int)))] [] = .ok (.int ((L.count (i : Int) : Nat) : Int)) [] := by
  simp [m_u_law_counts_e1, xm1, listy_lst, count_ap]
theorem c_law_counts_2 (L : List Int) (n : Nat) (hn : n ≤ 8) : cloop none (rangeL 0 (n + 1)) (gname 2) (xpure true) m_u_law_counts_e1 [some (.int n), some (.lst (iD L)), none] (rangeL 0 (n + 1)) [] [] = .ok (iD (cnts n L)) [] := by
  have q := cloop_rows (e := [some (.int n), some (.lst (iD L)), none]) (st := []) (src := none) (items := rangeL 0 (n + 1)) (gt := gname 2) (mt := xpure true) (me := m_u_law_counts_e1) (fun (i : Nat) => D.int (0 + (i : Int))) (fun _ => true) (fun (i : Nat) => D.int ((L.count (i : Int) : Nat) : Int)) rfl (List.range (n + 1)) [] (fun i hi => ⟨_, rfl, rfl, fun _ => c_law_counts_1 L n i⟩) (by simp [LIM]; omega)
  rw [filter_yes, List.nil_append, ← iD_cnts] at q
  exact q
theorem c_law_counts (L : List Int) (n : Nat) (hn : n ≤ 8) : callD D_u_law_counts [.int n, .lst (iD L)] e st = .ok (.tup (iD (cnts n L))) st := by
  have rg : rngB ((n : Int) + 1) = true := rngB_of (by omega) (by omega)
  have h1 : xrange1 (xop addD (xvar 0) (xpure (.int 1))) [some (.int n), some (.lst (iD L)), none] [] = .ok (rangeL 0 (n + 1), none) [] := range1_of (j := (n : Int) + 1) (op_of rfl rfl rfl) rg
  have h2 : m_u_law_counts [some (.int n), some (.lst (iD L)), none] [] = .rt (.tup (iD (cnts n L))) [] := ret_ok (call_of (one_ok (comp_of h1 (c_law_counts_2 L n hn))) (by rw [f1_ap]; exact tuple_lst _))
  exact callD0 rfl (by simp [refsBs, refsB]) (runF_rt (st' := []) h2 (by simp [refsB])) (by simp [refsB])
/-- a number of each row in all orders -/
def nums (q : List Int → Nat) (ns : List Int) : List Int := (rowsO ns).map fun r => (q r : Int)
section
variable (ns : List Int) (hr : Row ns) (h5 : ns.length ≤ 5)
include hr h5
theorem cl_rows (q : List Int → Nat) (mt : XM Bool) (me : XM D) (e : Nv) (hm : ∀ r, mt (e.set 1 (some (rowD r))) [] = .ok true [])
    (h : ∀ r ∈ rowsO ns, me (e.set 1 (some (rowD r))) [] = .ok (.int (q r)) []) {src : Option Nat} {items : List D} (hs : srcOk src items [] = true) : cloop src items (gname 1) mt me e ((rowsO ns).map rowD) [] [] = .ok (iD (nums q ns)) [] := by
  have := cloop_rows (e := e) (st := []) (src := src) (items := items) (gt := gname 1) (mt := mt) (me := me) rowD (fun _ => true) (fun r => .int (q r)) hs (rowsO ns) [] (fun r hr => ⟨_, rfl, hm r, fun _ => h r hr⟩) (by have := rowsO_len ns h5; simp [LIM] at *; omega)
  rw [filter_yes, List.nil_append] at this
  have e1 : iD (nums q ns) = (rowsO ns).map fun r => D.int (q r) := by simp only [nums, iD, List.map_map]; rfl
  rw [e1]
  exact this
theorem c_orders_above_by : callD D_orders_above_by [.tup (iD ns)] e st = .ok (.tup (iD (cnts ns.length (nums abvL ns)))) st := by
  refine callD0 rfl (by simp [refsBs, refsB]) (runF_rt (st' := []) ?_ (by simp [refsB])) (by simp [refsB])
  have q := cl_rows ns hr h5 abvL (xpure true) m_orders_above_by_e1 [some (.tup (iD ns)), none] (fun r => rfl) (fun r hm => by
    simp [m_orders_above_by_e1, rowD, c_above_by _ r (.inl rfl) (rowsO_row hm hr).1.2.1]) (src := none) (items := (rowsO ns).map rowD) rfl
  simp only [m_orders_above_by, ap_ret, ap_comp, ap_walk, ap_fn, ap_cons, ap_bind, ap_pure, ap_var, ap_call, ap_wipe1, c_all_in_order ns hr.1 h5, List.map_cons, List.map_nil, List.length_cons, List.length_nil, List.cons_append, List.nil_append, List.getElem?_cons_zero, src_lst, if_true, Nat.zero_add, List.replicate, List.set_cons_succ, List.set_cons_zero, q, f1_ap, len_tup, iD_len, c_counted _ _ hr.2.1]
theorem c_orders_first_by : callD D_orders_first_by [.tup (iD ns)] e st = .ok (.tup (iD (cnts ns.length (nums fstL ns)))) st := by
  refine callD0 rfl (by simp [refsBs, refsB]) (runF_rt (st' := []) ?_ (by simp [refsB])) (by simp [refsB])
  have q := cl_rows ns hr h5 fstL (xpure true) m_orders_first_by_e1 [some (.tup (iD ns)), none] (fun r => rfl) (fun r hm => by
    simp [m_orders_first_by_e1, rowD, c_first_by r (rowsO_row hm hr).1.2.1]) (src := none) (items := (rowsO ns).map rowD) rfl
  simp only [m_orders_first_by, ap_ret, ap_comp, ap_walk, ap_fn, ap_cons, ap_bind, ap_pure, ap_var, ap_call, ap_wipe1, c_all_in_order ns hr.1 h5, List.map_cons, List.map_nil, List.length_cons, List.length_nil, List.cons_append, List.nil_append, List.getElem?_cons_zero, src_lst, if_true, Nat.zero_add, List.replicate, List.set_cons_succ, List.set_cons_zero, q, f1_ap, len_tup, iD_len, c_counted _ _ hr.2.1]
theorem c_orders_not_below_by : callD D_orders_not_below_by [.tup (iD ns)] e st = .ok (.tup (iD (cnts ns.length (nums nblL ns)))) st := by
  refine callD0 rfl (by simp [refsBs, refsB]) (runF_rt (st' := []) ?_ (by simp [refsB])) (by simp [refsB])
  have q := cl_rows ns hr h5 nblL (xpure true) m_orders_not_below_by_e1 [some (.tup (iD ns)), none] (fun r => rfl) (fun r hm => by
    simp [m_orders_not_below_by_e1, rowD, c_not_below_by r (rowsO_row hm hr).1.2.1]) (src := none) (items := (rowsO ns).map rowD) rfl
  simp only [m_orders_not_below_by, ap_ret, ap_comp, ap_walk, ap_fn, ap_cons, ap_bind, ap_pure, ap_var, ap_call, ap_wipe1, c_all_in_order ns hr.1 h5, List.map_cons, List.map_nil, List.length_cons, List.length_nil, List.cons_append, List.nil_append, List.getElem?_cons_zero, src_lst, if_true, Nat.zero_add, List.replicate, List.set_cons_succ, List.set_cons_zero, q, f1_ap, len_tup, iD_len, c_counted _ _ hr.2.1]
theorem c_orders_last_by : callD D_orders_last_by [.tup (iD ns)] e st = .ok (.tup (iD (cnts ns.length (nums lstL ns)))) st := by
  refine callD0 rfl (by simp [refsBs, refsB]) (runF_rt (st' := []) ?_ (by simp [refsB])) (by simp [refsB])
  have q := cl_rows ns hr h5 lstL (xpure true) m_orders_last_by_e1 [some (.tup (iD ns)), none] (fun r => rfl) (fun r hm => by
    simp [m_orders_last_by_e1, rowD, c_last_by r (rowsO_row hm hr).1.2.1]) (src := none) (items := (rowsO ns).map rowD) rfl
  simp only [m_orders_last_by, ap_ret, ap_comp, ap_walk, ap_fn, ap_cons, ap_bind, ap_pure, ap_var, ap_call, ap_wipe1, c_all_in_order ns hr.1 h5, List.map_cons, List.map_nil, List.length_cons, List.length_nil, List.cons_append, List.nil_append, List.getElem?_cons_zero, src_lst, if_true, Nat.zero_add, List.replicate, List.set_cons_succ, List.set_cons_zero, q, f1_ap, len_tup, iD_len, c_counted _ _ hr.2.1]
theorem c_orders_above : callD D_orders_above [.tup (iD ns)] e st = .ok (.tup (iD (cnts ns.length (nums abvL ns)))) st := by
  refine callD0 rfl (by simp [refsBs, refsB]) (runF_rt (st' := []) ?_ (by simp [refsB])) (by simp [refsB])
  simp [m_orders_above, c_check_few_numbers ns hr (by omega), c_orders_above_by ns hr h5]
theorem c_orders_first : callD D_orders_first [.tup (iD ns)] e st = .ok (.tup (iD (cnts ns.length (nums fstL ns)))) st := by
  refine callD0 rfl (by simp [refsBs, refsB]) (runF_rt (st' := []) ?_ (by simp [refsB])) (by simp [refsB])
  simp [m_orders_first, c_check_few_numbers ns hr (by omega), c_orders_first_by ns hr h5]
theorem c_orders_not_below : callD D_orders_not_below [.tup (iD ns)] e st = .ok (.tup (iD (cnts ns.length (nums nblL ns)))) st := by
  refine callD0 rfl (by simp [refsBs, refsB]) (runF_rt (st' := []) ?_ (by simp [refsB])) (by simp [refsB])
  simp [m_orders_not_below, c_check_few_numbers ns hr (by omega), c_orders_not_below_by ns hr h5]
theorem c_orders_last : callD D_orders_last [.tup (iD ns)] e st = .ok (.tup (iD (cnts ns.length (nums lstL ns)))) st := by
  refine callD0 rfl (by simp [refsBs, refsB]) (runF_rt (st' := []) ?_ (by simp [refsB])) (by simp [refsB])
  simp [m_orders_last, c_check_few_numbers ns hr (by omega), c_orders_last_by ns hr h5]
def ordsWith (ns : List Int) (k : Int) : List D := ((ords ns.length).filter fun o => decide (((abvL (SA.rowO ns o) : Nat) : Int) = k)).map ordD
theorem c_orders_with_by (k : Int) : callD D_orders_with_by [.tup (iD ns), .int k] e st = .ok (.tup (ordsWith ns k)) st := by
  have hf : refsB 0 (.tup (ordsWith ns k)) = true := by simp only [refsB]; exact refs_map _ refs_ord _
  refine callD0 rfl (by simp [refsBs, refsB]) (runF_rt (st' := []) ?_ hf) hf
  have q := cloop_rows (e := [some (.tup (iD ns)), some (.int k), none]) (st := []) (src := none) (items := (ords ns.length).map ordD) (gt := gname 2) (mt := m_orders_with_by_t1) (me := xvar 2) ordD (fun o => decide (((abvL (SA.rowO ns o) : Nat) : Int) = k)) ordD rfl (ords ns.length) [] (fun o ho => ⟨_, rfl, by
      have hm : SA.rowO ns o ∈ rowsO ns := List.mem_map.mpr ⟨o, ho, rfl⟩
      have h1 := c_in_order_by (e := [some (.tup (iD ns)), some (.int k), some (ordD o)]) (st := []) ns o hr.2.1 ho
      have h2 := c_above_by (e := [some (.tup (iD ns)), some (.int k), some (ordD o)]) (st := []) (rowD (SA.rowO ns o)) (SA.rowO ns o) (.inl rfl) (rowsO_row hm hr).1.2.1
      simp [m_orders_with_by_t1, h1, h2], fun _ => by simp⟩) (by have := fac5 ns.length h5; simp [LIM] at *; omega)
  simp only [m_orders_with_by, ap_ret, ap_comp, ap_walk, ap_fn, ap_cons, ap_bind, ap_pure, ap_var, ap_call, ap_wipe1, c_all_orders ns hr.1 h5, List.map_cons, List.map_nil, List.length_cons, List.length_nil, List.cons_append, List.nil_append, List.getElem?_cons_zero, src_lst, if_true, Nat.zero_add, List.replicate, List.set_cons_succ, List.set_cons_zero, q, f1_ap, tuple_lst]
  rfl
theorem c_orders_with (k : Int) (h0 : 0 ≤ k) (hk : k ≤ ns.length) : callD D_orders_with [.tup (iD ns), .int k] e st = .ok (.tup (ordsWith ns k)) st := by
  have hf : refsB 0 (.tup (ordsWith ns k)) = true := by simp only [refsB]; exact refs_map _ refs_ord _
  refine callD0 rfl (by simp [refsBs, refsB]) (runF_rt (st' := []) ?_ hf) hf
  simp [m_orders_with, c_check_row ns hr, c_check_number k 0 ns.length h0 hk, c_check_few ns (by omega), c_orders_with_by ns hr h5 k]
omit hr h5 in
theorem sort_order {n : Nat} {o : List Nat} (h : o ∈ ords n) : ((oI o).mergeSort fun a b => decide (a ≤ b)) = (List.range n).map fun (i : Nat) => (i : Int) := by
  refine perm_sorted (le := fun a b => decide (a ≤ b)) (fun x _ y _ a b => ?_) ((List.mergeSort_perm _ _).trans ?_) (List.pairwise_mergeSort (fun a b c x y => ?_) (fun a b => ?_) _) ?_
  · simp at a b; omega
  · exact (SA.ord_perm h).map _
  · simp at x y ⊢; omega
  · simp; omega
  · rw [List.pairwise_map]
    exact (List.pairwise_le_range (n := n)).imp fun h => by simpa using h
omit hr h5 in
theorem c_is_order (n : Nat) (o : List Nat) (h8 : n ≤ 8) (h : o ∈ ords n) : callD D_is_order_by [.int n, ordD o] e st = .ok (.bl true) st := by
  refine callD0 rfl (by simp [refsBs, refsB, ordD]) (runF_rt (st' := []) ?_ rfl) rfl
  obtain ⟨lo, ho⟩ := ord_lt h
  have loI : (oI o).length = n := by simp [oI, lo]
  have q1 : ∀ (e : Nv) (st : Store), callD D_is_tuple_of [ordD o, .int n] e st = .ok (.bl true) st := fun e st => by
    refine callD0 rfl (by simp [refsBs, refsB, ordD]) (runF_rt (st' := []) ?_ rfl) rfl
    simp [m_is_tuple_of, ordD, loI]
  have q2 := cloop_rows (e := [some (.int n), some (ordD o), none]) (st := []) (src := none) (items := o.map fun (i : Nat) => D.int (i : Int)) (gt := gname 2) (mt := xpure true) (me := m_is_order_by_e1) (fun (i : Nat) => D.int (i : Int)) (fun _ => true) (fun _ => .bl true) rfl o [] (fun i hi => ⟨_, rfl, rfl, fun _ => by
    have hlt := ho i hi
    have h1 : (i : Int) ≤ (n : Int) - 1 := by omega
    simp [m_is_order_by_e1, c_is_between, h1]⟩) (by simp [LIM]; omega)
  have rep : (List.map (fun _ => D.bl true) o) = List.replicate o.length (D.bl true) := by rw [List.eq_replicate_iff]; refine ⟨by simp, fun b hb => ?_⟩; obtain ⟨_, _, h⟩ := List.mem_map.mp hb; exact h.symm
  have a1 : tnot (xtru (xfn 2 (D_is_tuple_of) (xcons (xvar 1) (xcons (xvar 0) (xpure []))))) [some (.int n), some (ordD o), none] [] = .ok false [] := tnot_ok (b := true) (tru_ok (fn_of (two_ok rfl rfl) rfl (q1 _ _)))
  have hw : xwalk (xvar 1) [some (D.int n), some (ordD o), none] [] = .ok (o.map fun (i : Nat) => D.int (i : Int), none) [] := walk_of (d := ordD o) rfl (by rw [ordD, iD_oI]; rfl)
  have hc : xcomp (xwalk (xvar 1)) [2] (gname 2) (xpure true) m_is_order_by_e1 [some (D.int n), some (ordD o), none] [] = .ok (.lst (List.replicate o.length (D.bl true))) [] := by
    refine comp_of hw ?_
    rw [filter_yes, List.nil_append, rep] at q2
    exact q2
  have a2 : tnot (xtru (xcall (f1 allD) (xcons (xcomp (xwalk (xvar 1)) [2] (gname 2) (xpure true) m_is_order_by_e1) (xpure [])))) [some (.int n), some (ordD o), none] [] = .ok false [] := tnot_ok (b := true) (tru_ok (all_yes hc))
  have h2 : xlistRg1 (xvar 0) [some (D.int n), some (ordD o), none] [] = .ok (.lst (iD ((List.range n).map fun (i : Nat) => (i : Int)))) [] := by
    have : -(2 ^ 62) ≤ (n : Int) ∧ (n : Int) ≤ 16777216 := by omega
    have h3 : iD ((List.range n).map fun (i : Nat) => (i : Int)) = rangeL 0 n := by simp [rangeL, iD]
    rw [h3]
    simp [xlistRg1, this]
  have h4 : (xcall (f1 sortedD) (xcons (xvar 1) (xpure []))) [some (D.int n), some (ordD o), none] [] = .ok (.lst (iD ((List.range n).map fun (i : Nat) => (i : Int)))) [] := by
    refine call_of (one_ok (x := ordD o) rfl) ?_
    rw [f1_ap, ordD, sorted_int_tup, sort_order h]
  have s1 : m_is_order_by [some (.int n), some (ordD o), none] [] = .rt (.bl true) [] := by
    unfold m_is_order_by
    refine seq_of (e1 := [some (.int n), some (ordD o), none]) (s1 := []) ?_ ?_
    · rw [sif_f (st' := [])]
      · rfl
      · rw [tor_f a1]
        exact a2
    · refine ret_ok (op_of h4 h2 ?_)
      rw [eq_ap, eqO_lints]
      simp
  exact s1
theorem c_in_order (o : List Nat) (h : o ∈ ords ns.length) : callD D_in_order [.tup (iD ns), ordD o] e st = .ok (rowD (SA.rowO ns o)) st := by
  refine callD0 rfl (by simp [refsBs, refsB, ordD]) (runF_rt (st' := []) ?_ (refs_row _)) (refs_row _)
  have q1 : ∀ (e : Nv) (st : Store), callD D_check_order [.tup (iD ns), ordD o] e st = .ok .non st := fun e st => by
    refine callD0 rfl (by simp [refsBs, refsB, ordD]) (runF_nx (e' := [some (.tup (iD ns)), some (ordD o)]) (st' := []) ?_) rfl
    simp [m_check_order, c_is_order ns.length o hr.2.1 h]
  simp [m_in_order, c_check_row ns hr, q1, c_in_order_by ns o hr.2.1 h]
end
end LS
end
section
set_option maxRecDepth 100000
set_option maxHeartbeats 4000000
namespace LS
open PySem PySem.Spec L2
variable {e : Nv} {st : Store}
/-! ## what is moved -/
def sbh : Int → List Int → List Int
  | _, [] => []
  | a, x :: r => (a + x) :: sbh (a + x) r
theorem sm_sbh : ∀ (ns : List Int) (a : Int), SA.sm id a ns = a :: sbh a ns
  | [], _ => rfl
  | x :: r, a => by
    have := sm_sbh r (a + x)
    simp only [SA.sm, sbh, id, this]
theorem sbh_len : ∀ (ns : List Int) (a : Int), (sbh a ns).length = ns.length
  | [], _ => rfl
  | x :: r, a => by simp [sbh, sbh_len r]
def pD (p : Int × Int) : D := .tup [.int p.1, .int p.2]
theorem zipAll2 (a b : List Int) (h : a.length = b.length) : zipAll (iD a).length [iD a, iD b] = (a.zip b).map pD := by
  refine List.ext_getElem (by simp [zipAll]; omega) fun i h1 h2 => ?_
  have h3 : i < a.length := by simpa [zipAll] using h1
  have h4 : i < b.length := by omega
  simp [zipAll, pD, List.getD_eq_getElem?_getD, iD, h3, h4]
theorem pos_zip : ∀ (ns : List Int) (a : Int), ((ns.zip (sbh a ns)).filter fun p => decide (0 < p.2)).map (fun p => D.int p.1) = iD (SA.posP id a ns)
  | [], _ => rfl
  | x :: r, a => by
    have ih := pos_zip r (a + x)
    simp only [sbh, List.zip_cons_cons, SA.posP, id]
    by_cases h : 0 < a + x
    · rw [List.filter_cons_of_pos (by simpa using h), if_pos h, List.map_cons, ih]; rfl
    · rw [List.filter_cons_of_neg (by simpa using h), if_neg h, ih]
theorem neg_zip : ∀ (ns : List Int) (a : Int), ((ns.zip (sbh a ns)).filter fun p => decide (p.2 ≤ 0)).map (fun p => D.int p.1) = iD (SA.negP id a ns)
  | [], _ => rfl
  | x :: r, a => by
    have ih := neg_zip r (a + x)
    simp only [sbh, List.zip_cons_cons, SA.negP, id]
    by_cases h : 0 < a + x
    · rw [List.filter_cons_of_neg (by simp; omega), if_pos h, ih]
    · rw [List.filter_cons_of_pos (by simp; omega), if_neg h, List.map_cons, ih]; rfl
theorem zl_ok (ns : List Int) (hl : ns.length ≤ 8) (x1 x2 x3 x4 : Option D) : xlistZip 2 (xcons (xvar 0) (xcons (xslice (xfn 1 (D_sums_by) (xcons (xvar 0) (xpure []))) (xpart (xpure (.int 1))) (xpure none)) (xpure []))) [some (.tup (iD ns)), x1, x2, x3, x4] st = .ok (.lst ((ns.zip (sbh 0 ns)).map pD)) st := by
  have c1 : cutD (iD (sms ns)) (some 1) none = iD (sbh 0 ns) := by
    rw [show (1 : Int) = ((1 : Nat) : Int) from rfl, cut_from]
    unfold sms
    rw [sm_sbh]; rfl
  have h1 : xslice (xfn 1 (D_sums_by) (xcons (xvar 0) (xpure []))) (xpart (xpure (.int 1))) (xpure none) [some (.tup (iD ns)), x1, x2, x3, x4] st = .ok (.tup (iD (sbh 0 ns))) st := by
    simp [c_sums _ ns (.inl rfl) hl, c1]
  have h2 : xcons (xvar 0) (xcons (xslice (xfn 1 (D_sums_by) (xcons (xvar 0) (xpure []))) (xpart (xpure (.int 1))) (xpure none)) (xpure [])) [some (.tup (iD ns)), x1, x2, x3, x4] st = .ok [.tup (iD ns), .tup (iD (sbh 0 ns))] st := two_ok rfl h1
  unfold xlistZip
  rw [ap_bind, h2]
  have h3 : stills [.tup (iD ns), .tup (iD (sbh 0 ns))] = some [iD ns, iD (sbh 0 ns)] := rfl
  simp only [h3]
  rw [if_pos ⟨rfl, by simp [LIM]; omega, by simp [sbh_len]⟩]
  simp only [List.headD_cons]
  rw [zipAll2 _ _ (sbh_len ns 0).symm]
theorem pos_len : ∀ (ns : List Int) (a : Int), (SA.posP id a ns).length + (SA.negP id a ns).length = ns.length
  | [], _ => rfl
  | x :: r, a => by
    have ih := pos_len r (a + x)
    simp only [SA.posP, SA.negP, id]
    by_cases h : 0 < a + x
    · rw [if_pos h, if_pos h]; simp; omega
    · rw [if_neg h, if_neg h]; simp; omega
theorem cl_pD {mt : XM Bool} (c : Int × Int → Bool) (ns : List Int) (hl : ns.length ≤ 8) (y0 y1 y2 : Option D) (h : ∀ p : Int × Int, mt [y0, y1, y2, some (.int p.2), some (.int p.1)] [] = .ok (c p) []) :
    cloop none ((ns.zip (sbh 0 ns)).map pD) (gtup 2 (gcons (gname 4) (gcons (gname 3) gnil))) mt (xvar 4) [y0, y1, y2, none, none] ((ns.zip (sbh 0 ns)).map pD) [] [] = .ok (((ns.zip (sbh 0 ns)).filter c).map fun p => D.int p.1) [] := by
  have := cloop_rows (e := [y0, y1, y2, none, none]) (st := []) (src := none) (items := (ns.zip (sbh 0 ns)).map pD) (gt := gtup 2 (gcons (gname 4) (gcons (gname 3) gnil))) (mt := mt) (me := xvar 4) pD c (fun p => D.int p.1) rfl (ns.zip (sbh 0 ns)) [] (fun p _ => ⟨[y0, y1, y2, some (.int p.2), some (.int p.1)], rfl, h p, fun _ => rfl⟩) (by simp [LIM, sbh_len]; omega)
  rw [List.nil_append] at this
  exact this
theorem rev_lst {m : XM D} {xs : List D} {s0 s1 : Store} (h : m e s0 = .ok (.lst xs) s1) : xrev m e s0 = .ok (.lst xs.reverse) s1 := by
  unfold xrev xrevL
  rw [ap_bind, ap_bind, h]
  rfl
theorem c_moved_by (ns : List Int) (hl : ns.length ≤ 8) : callD D_moved_by [.tup (iD ns)] e st = .ok (.tup (iD (SA.moved id ns))) st := by
  have P := (ns.zip (sbh 0 ns)).map pD
  have a1 := cl_pD (mt := m_moved_by_t1) (fun p => decide (0 < p.2)) ns hl (some (.tup (iD ns))) (some (.lst ((ns.zip (sbh 0 ns)).map pD))) none (fun p => by simp [m_moved_by_t1])
  rw [pos_zip] at a1
  have a2 := cl_pD (mt := m_moved_by_t2) (fun p => decide (p.2 ≤ 0)) ns hl (some (.tup (iD ns))) (some (.lst ((ns.zip (sbh 0 ns)).map pD))) (some (.lst (iD (SA.posP id 0 ns)))) (fun p => by simp [m_moved_by_t2])
  rw [neg_zip] at a2
  have b1 : xcomp (xwalk (xvar 1)) [4, 3] (gtup 2 (gcons (gname 4) (gcons (gname 3) gnil))) m_moved_by_t1 (xvar 4) [some (.tup (iD ns)), some (.lst ((ns.zip (sbh 0 ns)).map pD)), none, none, none] [] = .ok (.lst (iD (SA.posP id 0 ns))) [] := comp_of (walk_of rfl rfl) a1
  have b2 : xcomp (xwalk (xvar 1)) [4, 3] (gtup 2 (gcons (gname 4) (gcons (gname 3) gnil))) m_moved_by_t2 (xvar 4) [some (.tup (iD ns)), some (.lst ((ns.zip (sbh 0 ns)).map pD)), some (.lst (iD (SA.posP id 0 ns))), none, none] [] = .ok (.lst (iD (SA.negP id 0 ns))) [] := comp_of (walk_of rfl rfl) a2
  have b3 : xrev (xvar 2) [some (.tup (iD ns)), some (.lst ((ns.zip (sbh 0 ns)).map pD)), some (.lst (iD (SA.posP id 0 ns))), none, none] [] = .ok (.lst (iD (SA.posP id 0 ns)).reverse) [] := rev_lst rfl
  have pl := pos_len ns 0
  have b4 : addD (.lst (iD (SA.posP id 0 ns)).reverse) (.lst (iD (SA.negP id 0 ns))) [some (.tup (iD ns)), some (.lst ((ns.zip (sbh 0 ns)).map pD)), some (.lst (iD (SA.posP id 0 ns))), none, none] [] = .ok (.lst (iD (SA.moved id ns))) [] := by
    rw [add_lst, if_pos (by simp [LIM]; omega), SA.moved_parts, iD_app]
    simp [iD]
  refine callD0 rfl (by simp [refsBs, refsB]) (runF_rt (st' := []) (?_ : m_moved_by [some (.tup (iD ns)), none, none, none, none] [] = _) (by simp [refsB])) (by simp [refsB])
  unfold m_moved_by
  refine seq_of (set_ok (zl_ok ns hl _ _ _ _)) (seq_of (set_ok b1) (ret_ok (call_of (one_ok (op_of b3 b2 b4)) ?_)))
  rw [f1_ap]; exact tuple_lst _
theorem c_moved (ns : List Int) (hr : Row ns) : callD D_moved [.tup (iD ns)] e st = .ok (.tup (iD (SA.moved id ns))) st := by
  refine callD0 rfl (by simp [refsBs, refsB]) (runF_rt (st' := []) ?_ (by simp [refsB])) (by simp [refsB])
  simp [m_moved, c_check_row ns hr, c_moved_by ns hr.2.1]
/-! ## the way back -/
theorem gt_int (i j : Int) : gtD (.int i) (.int j) e st = .ok (.bl (decide (j < i))) st := rfl
theorem sum_ref {k : Nat} {ns : List Int} (h : st[k]? = some (.lst (iD ns))) : sumD (.ref k) e st = .ok (.int ns.sum) st := by simp [intsD, seqOf, lstOf, h, intsOf_iD]
theorem eqO_ref {k : Nat} {ns : List Int} (h : st[k]? = some (.lst (iD ns))) : eqO st (.ref k) (.lst []) = some (decide (ns = [])) := by
  have := eqO_lints st ns []
  unfold eqO at this ⊢
  simp only [pyOf, h]
  exact this
theorem tot_sum : ∀ l : List Int, SA.tot id l = l.sum
  | [] => rfl
  | x :: r => by simp [tot_sum r]
theorem mb_cond (a b : List Int) (y0 y1 y4 y5 : Option D) (f : MO) : m_moved_back_by_c1 [y0, y1, some (.ref 0), some (.ref 1), y4, y5] [.lst (iD a), .lst (iD b), f] = .ok (!(decide (a = [] ∧ b = []))) [.lst (iD a), .lst (iD b), f] := by
  have h1 := eqO_ref (st := [.lst (iD a), .lst (iD b), f]) (k := 0) (ns := a) rfl
  have h2 := eqO_ref (st := [.lst (iD a), .lst (iD b), f]) (k := 1) (ns := b) rfl
  have n1 : xbool (xop neD (xvar 2) (xlst (xpure []))) [y0, y1, some (.ref 0), some (.ref 1), y4, y5] [.lst (iD a), .lst (iD b), f] = .ok (!(decide (a = []))) [.lst (iD a), .lst (iD b), f] := bool_of (op_of (x := .ref 0) rfl (lst_ok nil_ok (by decide)) (by rw [ne_ap, h1]))
  have n2 : xbool (xop neD (xvar 3) (xlst (xpure []))) [y0, y1, some (.ref 0), some (.ref 1), y4, y5] [.lst (iD a), .lst (iD b), f] = .ok (!(decide (b = []))) [.lst (iD a), .lst (iD b), f] := bool_of (op_of (x := .ref 1) rfl (lst_ok nil_ok (by decide)) (by rw [ne_ap, h2]))
  unfold m_moved_back_by_c1
  by_cases ha : a = []
  · rw [decide_eq_true ha] at n1
    rw [tor_f n1, n2]
    simp [ha]
  · rw [decide_eq_false ha] at n1
    rw [tor_t n1]
    simp [ha]
theorem mb_one (a b f : List Int) (x : Int) (y0 y1 y5 : Option D) (h : 0 < (a ++ [x]).sum + b.sum) (hf : f.length < 1000) : m_moved_back_by_b1 [y0, y1, some (.ref 0), some (.ref 1), some (.ref 2), y5] [.lst (iD (a ++ [x])), .lst (iD b), .lst (iD f)] =
    .nx [y0, y1, some (.ref 0), some (.ref 1), some (.ref 2), some (.ref 0)] [.lst (iD a), .lst (iD b), .lst (iD (f ++ [x]))] := by
  have h1 := sum_ref (e := [y0, y1, some (.ref 0), some (.ref 1), some (.ref 2), y5]) (st := [.lst (iD (a ++ [x])), .lst (iD b), .lst (iD f)]) (k := 0) (ns := a ++ [x]) rfl
  have h2 := sum_ref (e := [y0, y1, some (.ref 0), some (.ref 1), some (.ref 2), y5]) (st := [.lst (iD (a ++ [x])), .lst (iD b), .lst (iD f)]) (k := 1) (ns := b) rfl
  have c1 : xif (xbool (xop gtD (xop addD (xcall (f1 sumD) (xcons (xvar 2) (xpure []))) (xcall (f1 sumD) (xcons (xvar 3) (xpure [])))) (xpure (.int 0)))) (xvar 2) (xvar 3) [y0, y1, some (.ref 0), some (.ref 1), some (.ref 2), y5] [.lst (iD (a ++ [x])), .lst (iD b), .lst (iD f)] = .ok (.ref 0) [.lst (iD (a ++ [x])), .lst (iD b), .lst (iD f)] := by
    have g1 : xop addD (xcall (f1 sumD) (xcons (xvar 2) (xpure []))) (xcall (f1 sumD) (xcons (xvar 3) (xpure []))) [y0, y1, some (.ref 0), some (.ref 1), some (.ref 2), y5] [.lst (iD (a ++ [x])), .lst (iD b), .lst (iD f)] = .ok (.int ((a ++ [x]).sum + b.sum)) [.lst (iD (a ++ [x])), .lst (iD b), .lst (iD f)] := op_of (call_of (one_ok (x := .ref 0) rfl) h1) (call_of (one_ok (x := .ref 1) rfl) h2) rfl
    have g2 : gtD (.int ((a ++ [x]).sum + b.sum)) (.int 0) [y0, y1, some (.ref 0), some (.ref 1), some (.ref 2), y5] [.lst (iD (a ++ [x])), .lst (iD b), .lst (iD f)] = .ok (.bl true) [.lst (iD (a ++ [x])), .lst (iD b), .lst (iD f)] := by
      rw [gt_int, decide_eq_true h]
    exact if_t (bool_of (op_of g1 rfl g2)) rfl
  have hp : xpop (xvar 5) [y0, y1, some (.ref 0), some (.ref 1), some (.ref 2), some (.ref 0)] [.lst (iD (a ++ [x])), .lst (iD b), .lst (iD f)] = .ok (.int x) [.lst (iD a), .lst (iD b), .lst (iD f)] := by
    unfold xpop
    simp [iD_app]
  have hl : f.length < LIM := by simp [LIM]; omega
  unfold m_moved_back_by_b1
  refine seq_of (set_ok c1) (drop_ok (d := .non) ?_)
  rw [ap_append]
  simp only [ap_var, List.set_cons_succ, List.set_cons_zero, List.getElem?_cons_succ, List.getElem?_cons_zero]
  rw [if_pos (show isLst _ _ = true from rfl), hp]
  simp [hl, iD_app]
theorem mb_two (a b f : List Int) (x : Int) (y0 y1 y5 : Option D) (h : ¬ 0 < a.sum + (b ++ [x]).sum) (hf : f.length < 1000) : m_moved_back_by_b1 [y0, y1, some (.ref 0), some (.ref 1), some (.ref 2), y5] [.lst (iD a), .lst (iD (b ++ [x])), .lst (iD f)] =
    .nx [y0, y1, some (.ref 0), some (.ref 1), some (.ref 2), some (.ref 1)] [.lst (iD a), .lst (iD b), .lst (iD (f ++ [x]))] := by
  have h1 := sum_ref (e := [y0, y1, some (.ref 0), some (.ref 1), some (.ref 2), y5]) (st := [.lst (iD a), .lst (iD (b ++ [x])), .lst (iD f)]) (k := 0) (ns := a) rfl
  have h2 := sum_ref (e := [y0, y1, some (.ref 0), some (.ref 1), some (.ref 2), y5]) (st := [.lst (iD a), .lst (iD (b ++ [x])), .lst (iD f)]) (k := 1) (ns := b ++ [x]) rfl
  have c1 : xif (xbool (xop gtD (xop addD (xcall (f1 sumD) (xcons (xvar 2) (xpure []))) (xcall (f1 sumD) (xcons (xvar 3) (xpure [])))) (xpure (.int 0)))) (xvar 2) (xvar 3) [y0, y1, some (.ref 0), some (.ref 1), some (.ref 2), y5] [.lst (iD a), .lst (iD (b ++ [x])), .lst (iD f)] = .ok (.ref 1) [.lst (iD a), .lst (iD (b ++ [x])), .lst (iD f)] := by
    have g1 : xop addD (xcall (f1 sumD) (xcons (xvar 2) (xpure []))) (xcall (f1 sumD) (xcons (xvar 3) (xpure []))) [y0, y1, some (.ref 0), some (.ref 1), some (.ref 2), y5] [.lst (iD a), .lst (iD (b ++ [x])), .lst (iD f)] = .ok (.int (a.sum + (b ++ [x]).sum)) [.lst (iD a), .lst (iD (b ++ [x])), .lst (iD f)] := op_of (call_of (one_ok (x := .ref 0) rfl) h1) (call_of (one_ok (x := .ref 1) rfl) h2) rfl
    have g2 : gtD (.int (a.sum + (b ++ [x]).sum)) (.int 0) [y0, y1, some (.ref 0), some (.ref 1), some (.ref 2), y5] [.lst (iD a), .lst (iD (b ++ [x])), .lst (iD f)] = .ok (.bl false) [.lst (iD a), .lst (iD (b ++ [x])), .lst (iD f)] := by
      rw [gt_int, decide_eq_false h]
    exact if_f (bool_of (op_of g1 rfl g2)) rfl
  have hp : xpop (xvar 5) [y0, y1, some (.ref 0), some (.ref 1), some (.ref 2), some (.ref 1)] [.lst (iD a), .lst (iD (b ++ [x])), .lst (iD f)] = .ok (.int x) [.lst (iD a), .lst (iD b), .lst (iD f)] := by
    unfold xpop
    simp [iD_app]
  have hl : f.length < LIM := by simp [LIM]; omega
  unfold m_moved_back_by_b1
  refine seq_of (set_ok c1) (drop_ok (d := .non) ?_)
  rw [ap_append]
  simp only [ap_var, List.set_cons_succ, List.set_cons_zero, List.getElem?_cons_succ, List.getElem?_cons_zero]
  rw [if_pos (show isLst _ _ = true from rfl), hp]
  simp [hl, iD_app]
theorem mb_loop (y0 y1 : Option D) : ∀ (n : Nat) (l f : List Int) (y5 : Option D) (k : Nat), l.length = n → f.length + n < 1000 → ∃ y, swhile m_moved_back_by_c1 m_moved_back_by_b1 (n + 1 + k) [y0, y1, some (.ref 0), some (.ref 1), some (.ref 2), y5] [.lst (iD (l.take (fstL l)).reverse), .lst (iD (l.drop (fstL l))), .lst (iD f)] =
    .nx [y0, y1, some (.ref 0), some (.ref 1), some (.ref 2), y] [.lst [], .lst [], .lst (iD (f ++ (SA.backN id n l).reverse))]
  | 0, l, f, y5, k, hl, hf => by
    have : l = [] := List.length_eq_zero_iff.mp hl
    subst this
    refine ⟨y5, ?_⟩
    rw [show 0 + 1 + k = k + 1 by omega]
    have c := mb_cond [] [] y0 y1 (some (.ref 2)) y5 (.lst (iD f))
    simp at c
    simp only [List.take_nil, List.drop_nil, List.reverse_nil, SA.backN, List.append_nil, iD_nil]
    exact while_f c
  | n + 1, x :: r, f, y5, k, hl, hf => by
    have hlr : r.length = n := by simpa using hl
    have hc : m_moved_back_by_c1 [y0, y1, some (.ref 0), some (.ref 1), some (.ref 2), y5] [.lst (iD ((x :: r).take (fstL (x :: r))).reverse), .lst (iD ((x :: r).drop (fstL (x :: r)))), .lst (iD f)] = .ok true [.lst (iD ((x :: r).take (fstL (x :: r))).reverse), .lst (iD ((x :: r).drop (fstL (x :: r)))), .lst (iD f)] := by
      rw [mb_cond]
      have : ¬ (((x :: r).take (fstL (x :: r))).reverse = [] ∧ (x :: r).drop (fstL (x :: r)) = []) := fun ⟨h1, h2⟩ => by
        have h3 := List.take_append_drop (fstL (x :: r)) (x :: r)
        rw [h2, List.reverse_eq_nil_iff.mp h1] at h3
        simp at h3
      rw [decide_eq_false this]; rfl
    have hsum : (((x :: r).take (fstL (x :: r))).reverse).sum + ((x :: r).drop (fstL (x :: r))).sum = SA.tot id (x :: r) := by
      rw [tot_sum, List.sum_reverse, ← List.sum_append, List.take_append_drop]
    by_cases h : 0 < SA.tot id (x :: r)
    · have h1 := SA.hi_tot id r
      have hfst : fstL (x :: r) = fstL r + 1 := by
        show (if 0 < id x + SA.hi id r then SA.fst id r + 1 else 0) = _
        rw [if_pos (by simp at h ⊢; omega)]
      obtain ⟨y, ih⟩ := mb_loop y0 y1 n r (f ++ [x]) (some (.ref 0)) k hlr (by simp; omega)
      refine ⟨y, ?_⟩
      rw [show n + 1 + 1 + k = (n + 1 + k) + 1 by omega]
      rw [hfst] at hc hsum ⊢
      simp only [List.take_succ_cons, List.drop_succ_cons, List.reverse_cons] at hc hsum ⊢
      refine while_t hc (mb_one _ _ _ _ _ _ _ (by omega) (by omega)) ?_
      rw [ih]
      have : SA.backN id (n + 1) (x :: r) = SA.backN id n r ++ [x] := by
        show (if 0 < SA.tot id (x :: r) then _ else _) = _
        rw [if_pos h]
      rw [this]
      simp
    · obtain ⟨m, z, hm⟩ : ∃ m z, x :: r = m ++ [z] := ⟨(x :: r).dropLast, (x :: r).getLast (by simp), (List.dropLast_concat_getLast _).symm⟩
      have hlm : m.length = n := by
        have := congrArg List.length hm
        simp at this
        omega
      have ht : SA.tot id m + id z ≤ SA.hi id m := by
        have h2 := SA.hi_nn id m
        rw [hm] at h
        simp at h ⊢
        omega
      have hfst : fstL (m ++ [z]) = fstL m := SA.fst_low id m z ht
      have hle : fstL m ≤ m.length := SA.fst_le id m
      obtain ⟨y, ih⟩ := mb_loop y0 y1 n m (f ++ [z]) (some (.ref 1)) k hlm (by simp; omega)
      refine ⟨y, ?_⟩
      have hb : SA.backN id (n + 1) (x :: r) = SA.backN id n m ++ [z] := by
        show (if 0 < SA.tot id (x :: r) then _ else SA.backN id n ((x :: r).dropLast) ++ [(x :: r).getLast (by simp)]) = _
        rw [if_neg h]
        have e1 : (x :: r).dropLast = m := by rw [hm]; simp
        have e2 : (x :: r).getLast (by simp) = z := by
          have : (m ++ [z]).getLast (by simp) = z := by simp
          simp only [hm, this]
        rw [e1, e2]
      rw [hb, show n + 1 + 1 + k = (n + 1 + k) + 1 by omega]
      rw [hm, hfst] at hc hsum ⊢
      rw [hm] at h
      rw [List.take_append_of_le_length hle, List.drop_append_of_le_length hle] at hc hsum ⊢
      refine while_t hc (mb_two _ _ _ _ _ _ _ (by omega) (by omega)) ?_
      rw [ih]
      simp
theorem c_moved_back_by (ns : List Int) (hl : ns.length ≤ 8) : callD D_moved_back_by [.tup (iD ns)] e st = .ok (.tup (iD (SA.back id ns))) st := by
  obtain ⟨y, q⟩ := mb_loop (some (.tup (iD ns))) (some (.int (fstL ns))) ns.length ns [] none (1000000 - (ns.length + 1)) rfl (by simp; omega)
  rw [show ns.length + 1 + (1000000 - (ns.length + 1)) = 1000000 by omega] at q
  have ct : cutD (iD ns) none (some (fstL ns : Int)) = iD (ns.take (fstL ns)) := by rw [cut_to]; simp [iD, List.map_take]
  have cf : cutD (iD ns) (some (fstL ns : Int)) none = iD (ns.drop (fstL ns)) := by rw [cut_from]; simp [iD, List.map_drop]
  have s2 : spar3 2 3 4 (xrevM (xcall (f1 listD) (xcons (xslice (xvar 0) (xpure none) (xpart (xvar 1))) (xpure [])))) (xcall (f1 listMD) (xcons (xslice (xvar 0) (xpart (xvar 1)) (xpure none)) (xpure []))) (xlstM (xpure [])) [some (.tup (iD ns)), some (.int (fstL ns)), none, none, none, none] [] =
      .nx [some (.tup (iD ns)), some (.int (fstL ns)), some (.ref 0), some (.ref 1), some (.ref 2), none] [.lst (iD (ns.take (fstL ns)).reverse), .lst (iD (ns.drop (fstL ns))), .lst (iD [])] := by
    have e1 : (iD (ns.take (fstL ns))).reverse = iD (ns.take (fstL ns)).reverse := by simp [iD]
    have h1 : xrevM (xcall (f1 listD) (xcons (xslice (xvar 0) (xpure none) (xpart (xvar 1))) (xpure []))) [some (.tup (iD ns)), some (.int (fstL ns)), none, none, none, none] [] = .ok (.ref 0) [.lst (iD (ns.take (fstL ns)).reverse)] := by
      unfold xrevM xrevL
      simp [ct, listOf, lstOf, e1]
    have h2 : xcall (f1 listMD) (xcons (xslice (xvar 0) (xpart (xvar 1)) (xpure none)) (xpure [])) [some (.tup (iD ns)), some (.int (fstL ns)), none, none, none, none] [.lst (iD (ns.take (fstL ns)).reverse)] = .ok (.ref 1) [.lst (iD (ns.take (fstL ns)).reverse), .lst (iD (ns.drop (fstL ns)))] := by
      simp [cf, listMD]
    rw [ap_par3, ap_sbind, h1]
    simp only [ap_sbind, h2]
    rfl
  refine callD0 rfl (by simp [refsBs, refsB]) (runF_rt (st' := [.lst [], .lst [], .lst (iD (SA.backN id ns.length ns).reverse)]) (?_ : m_moved_back_by [some (.tup (iD ns)), none, none, none, none, none] [] = _) (by simp [refsB])) (by simp [refsB])
  unfold m_moved_back_by
  refine seq_of (set_ok (fn_of (one_ok rfl) rfl (c_first_by ns hl))) (seq_of s2 (seq_of q (ret_ok (call_of (one_ok (x := .lst (iD (SA.back id ns))) ?_) (by rw [f1_ap]; exact tuple_lst _)))))
  unfold xrev xrevL
  rw [List.nil_append]
  simp [listOf, lstOf]
  simp [iD, SA.back]
theorem c_moved_back (ns : List Int) (hr : Row ns) : callD D_moved_back [.tup (iD ns)] e st = .ok (.tup (iD (SA.back id ns))) st := by
  refine callD0 rfl (by simp [refsBs, refsB]) (runF_rt (st' := []) ?_ (by simp [refsB])) (by simp [refsB])
  simp [m_moved_back, c_check_row ns hr, c_moved_back_by ns hr.2.1]
end LS
end
section
set_option maxRecDepth 100000
set_option maxHeartbeats 4000000
namespace LS
open PySem PySem.Spec L2
variable {e : Nv} {st : Store}
/-! ## the same -/
theorem same_refl : ∀ (n : Nat) (x : D), n ≤ 60 → okD n x = true → ∀ (e : Nv) (st : Store), callD (D_u_law_same n) [x, x] e st = .ok (.bl true) st := by
  intro n
  induction n with
  | zero => intro x _ h; simp [okD] at h
  | succ n ih =>
    intro x hn h e st
    refine callD0 (refsIn_ok h h) (by have := refsB_okD _ _ h; simp [refsBs, this]) (runF_rt (st' := []) ?_ rfl) rfl
    have hq := eqO_refl [] (by omega) h
    cases x with
    | non => simp [m_u_law_same, hq]
    | bl b => simp [m_u_law_same]
    | int i => simp [m_u_law_same]
    | str s => simp [m_u_law_same, hq]
    | lst xs => simp [m_u_law_same, hq]
    | tup xs =>
      have h' : xs.length ≤ LIM ∧ xs.all (okD n) = true := by simpa [okD] using h
      have r := rngB_nat h'.1
      have q := cloop_pure (src := none) (items := rangeL 0 xs.length) (gt := gname 2) (mt := m_u_law_same_t1 (D_u_law_same n)) (me := xvar 2) (e := [some (.tup xs), some (.tup xs), none]) (st := []) (fun _ => false) (fun x => x) rfl (rangeL 0 xs.length) [] (by
        intro y hy
        obtain ⟨i, hi, rfl⟩ := mem_rangeL hy
        have hg : xs[i]? = some xs[i] := List.getElem?_eq_getElem hi
        have ok : okD n xs[i] = true := List.all_eq_true.mp h'.2 _ (List.getElem_mem hi)
        refine ⟨_, rfl, ?_, fun z => nomatch z⟩
        simp [m_u_law_same_t1, atI_nat, hg, ih _ (by omega) ok]) (by simp [rangeL_len]; exact h'.1)
      rw [filter_no, List.map_nil, List.append_nil] at q
      have hc : xcomp (xrange1 (xcall (f1 lenD) (xcons (xvar 0) (xpure [])))) [2] (gname 2) (m_u_law_same_t1 (D_u_law_same n)) (xvar 2) [some (.tup xs), some (.tup xs), none] [] = .ok (.lst []) [] := comp_of (range1_of (j := (xs.length : Int)) (call_of (one_ok rfl) rfl) r) q
      have h3 : xop eqD (xcomp (xrange1 (xcall (f1 lenD) (xcons (xvar 0) (xpure [])))) [2] (gname 2) (m_u_law_same_t1 (D_u_law_same n)) (xvar 2)) (xlst (xpure [])) [some (.tup xs), some (.tup xs), none] [] = .ok (.bl true) [] := op_of hc (lst_ok nil_ok (by decide)) (by rw [eq_ap, eqO_l0])
      have h4 : xop eqD (xcall (f1 lenD) (xcons (xvar 0) (xpure []))) (xcall (f1 lenD) (xcons (xvar 1) (xpure []))) [some (.tup xs), some (.tup xs), none] [] = .ok (.bl true) [] := by simp
      show m_u_law_same (D_u_law_same n) [some (.tup xs), some (.tup xs), none] [] = _
      unfold m_u_law_same
      refine seq_rt ?_
      rw [sif_t (st' := []) (by simp)]
      refine ret_ok ?_
      rw [and_t (st' := []) (by simp), and_t h4]
      exact h3
    | ty _ => simp [okD] at h
    | glo _ => simp [okD] at h
    | sq _ => simp [okD] at h
    | ref _ => simp [okD] at h
    | tpz _ => simp [okD] at h
theorem c_same (x : D) (h : okD 6 x = true) : callD (D_u_law_same 6) [x, x] e st = .ok (.bl true) st := same_refl 6 x (by decide) h e st
theorem ok_row {n : Nat} {r : List Int} (h : r.length ≤ LIM) : okD (n + 2) (rowD r) = true := okD_tup (by simpa using h) (okD_iD n r)
/-! ## the doors -/
section
variable (ns : List Int) (hr : Row ns)
include hr
theorem c_above : callD D_above [.tup (iD ns)] e st = .ok (.int (abvL ns)) st := by
  refine callD0 rfl (by simp [refsBs, refsB]) (runF_rt (st' := []) ?_ rfl) rfl
  simp [m_above, c_check_row ns hr, c_above_by _ ns (.inl rfl) hr.2.1]
theorem c_first : callD D_first_highest [.tup (iD ns)] e st = .ok (.int (fstL ns)) st := by
  refine callD0 rfl (by simp [refsBs, refsB]) (runF_rt (st' := []) ?_ rfl) rfl
  simp [m_first_highest, c_check_row ns hr, c_first_by ns hr.2.1]
theorem c_not_below : callD D_not_below [.tup (iD ns)] e st = .ok (.int (nblL ns)) st := by
  refine callD0 rfl (by simp [refsBs, refsB]) (runF_rt (st' := []) ?_ rfl) rfl
  simp [m_not_below, c_check_row ns hr, c_not_below_by ns hr.2.1]
theorem c_last : callD D_last_highest [.tup (iD ns)] e st = .ok (.int (lstL ns)) st := by
  refine callD0 rfl (by simp [refsBs, refsB]) (runF_rt (st' := []) ?_ rfl) rfl
  simp [m_last_highest, c_check_row ns hr, c_last_by ns hr.2.1]
end
/-! ## most, least -/
def srt (ns : List Int) : List Int := ns.mergeSort fun a b => decide (a ≤ b)
theorem srt_perm (ns : List Int) : (srt ns).Perm ns := List.mergeSort_perm _ _
theorem srt_up (ns : List Int) : (srt ns).Pairwise fun a b => a ≤ b := by
  have := List.pairwise_mergeSort (le := fun a b : Int => decide (a ≤ b)) (fun a b c x y => by simp at x y ⊢; omega) (fun a b => by simp; omega) ns
  exact this.imp fun h => by simpa using h
theorem srt_of_perm {a b : List Int} (p : a.Perm b) : srt a = srt b := by
  refine perm_sorted (le := fun a b => decide (a ≤ b)) (fun x _ y _ a b => by simp at a b; omega) ((srt_perm a).trans (p.trans (srt_perm b).symm)) ?_ ?_
  · exact (srt_up a).imp fun h => by simpa using h
  · exact (srt_up b).imp fun h => by simpa using h
theorem srt_dn (ns : List Int) : (srt ns).reverse.Pairwise fun a b => b ≤ a := by
  rw [List.pairwise_reverse]
  exact srt_up ns
theorem mem_nums {q : List Int → Nat} {ns : List Int} {x : Int} : x ∈ nums q ns ↔ ∃ r ∈ rowsO ns, x = (q r : Int) := by
  unfold nums
  rw [List.mem_map]
  constructor
  · rintro ⟨r, h, rfl⟩; exact ⟨r, h, rfl⟩
  · rintro ⟨r, h, rfl⟩; exact ⟨r, h, rfl⟩
theorem row_of_perm {ns r : List Int} (p : r.Perm ns) : r ∈ rowsO ns := by
  obtain ⟨o, h1, h2⟩ := SA.ord_of_perm p
  exact List.mem_map.mpr ⟨o, h1, h2⟩
theorem nums_ne (q : List Int → Nat) (ns : List Int) : nums q ns ≠ [] := fun h => by
  have : (q ns : Int) ∈ nums q ns := mem_nums.mpr ⟨ns, row_of_perm (List.Perm.refl _), rfl⟩
  rw [h] at this
  simp at this
theorem max_ups (ns : List Int) : maxL (nums abvL ns) = (abvL (srt ns).reverse : Int) := by
  have hne : 0 < (nums abvL ns).length := List.length_pos_iff.mpr (nums_ne _ _)
  have h1 : ((abvL (srt ns).reverse : Nat) : Int) ∈ nums abvL ns := mem_nums.mpr ⟨_, row_of_perm ((List.reverse_perm _).trans (srt_perm ns)), rfl⟩
  have h2 := maxL_le h1
  obtain ⟨r, hr, e⟩ := mem_nums.mp (maxL_mem hne)
  obtain ⟨o, ho, rfl⟩ := List.mem_map.mp hr
  have h3 := SA.abv_most (srt_dn ns) ((SA.rowO_perm ho).trans ((List.reverse_perm _).trans (srt_perm ns)).symm)
  rw [e]
  rw [e] at h2
  have : abvL (SA.rowO ns o) ≤ abvL (srt ns).reverse := h3
  omega
theorem min_ups (ns : List Int) : minL (nums abvL ns) = (abvL (srt ns) : Int) := by
  have hne : 0 < (nums abvL ns).length := List.length_pos_iff.mpr (nums_ne _ _)
  have h1 : ((abvL (srt ns) : Nat) : Int) ∈ nums abvL ns := mem_nums.mpr ⟨_, row_of_perm (srt_perm ns), rfl⟩
  have h2 := minL_le h1
  obtain ⟨r, hr, e⟩ := mem_nums.mp (minL_mem hne)
  obtain ⟨o, ho, rfl⟩ := List.mem_map.mp hr
  have h3 := SA.abv_least (srt_up ns) ((SA.rowO_perm ho).trans (srt_perm ns).symm)
  rw [e]
  rw [e] at h2
  have : abvL (srt ns) ≤ abvL (SA.rowO ns o) := h3
  omega
theorem c_most (ns : List Int) (hr : Row ns) : callD D_most_above [.tup (iD ns)] e st = .ok (.int (abvL (srt ns).reverse)) st := by
  have q : ∀ (e : Nv) (st : Store), callD D_most_above_by [.tup (iD ns)] e st = .ok (.int (abvL (srt ns).reverse)) st := fun e st => by
    refine callD0 rfl (by simp [refsBs, refsB]) (runF_rt (st' := []) (?_ : m_most_above_by [some (.tup (iD ns))] [] = _) rfl) rfl
    have h1 : xcall (f1 sortedD) (xcons (xvar 0) (xpure [])) [some (.tup (iD ns))] [] = .ok (.lst (iD (srt ns))) [] := call_of (one_ok rfl) (by rw [f1_ap, sorted_int_tup]; rfl)
    have h2 : xrev (xcall (f1 sortedD) (xcons (xvar 0) (xpure []))) [some (.tup (iD ns))] [] = .ok (.lst (iD (srt ns).reverse)) [] := by
      have := rev_lst h1
      rw [this]
      simp [iD]
    have hl : (srt ns).reverse.length ≤ 8 := by rw [List.length_reverse, (srt_perm ns).length_eq]; exact hr.2.1
    exact ret_ok (fn_of (one_ok h2) rfl (c_above_by _ _ (.inr rfl) hl))
  refine callD0 rfl (by simp [refsBs, refsB]) (runF_rt (st' := []) ?_ rfl) rfl
  simp [m_most_above, c_check_row ns hr, q]
theorem c_least (ns : List Int) (hr : Row ns) : callD D_least_above [.tup (iD ns)] e st = .ok (.int (abvL (srt ns))) st := by
  have q : ∀ (e : Nv) (st : Store), callD D_least_above_by [.tup (iD ns)] e st = .ok (.int (abvL (srt ns))) st := fun e st => by
    refine callD0 rfl (by simp [refsBs, refsB]) (runF_rt (st' := []) (?_ : m_least_above_by [some (.tup (iD ns))] [] = _) rfl) rfl
    have h1 : xcall (f1 sortedD) (xcons (xvar 0) (xpure [])) [some (.tup (iD ns))] [] = .ok (.lst (iD (srt ns))) [] := call_of (one_ok rfl) (by rw [f1_ap, sorted_int_tup]; rfl)
    have hl : (srt ns).length ≤ 8 := by rw [(srt_perm ns).length_eq]; exact hr.2.1
    exact ret_ok (fn_of (one_ok h1) rfl (c_above_by _ _ (.inr rfl) hl))
  refine callD0 rfl (by simp [refsBs, refsB]) (runF_rt (st' := []) ?_ rfl) rfl
  simp [m_least_above, c_check_row ns hr, q]
end LS
end
section
set_option maxRecDepth 100000
set_option maxHeartbeats 4000000
namespace LS
open PySem PySem.Spec L2
variable {e : Nv} {st : Store}
/-! ## index -/
theorem idx_place (v : Int) : ∀ L : List Int, (L.map PyData.int).findIdx? (fun z => PyData.eqv z (.int v)) = (SA.place v 0 L).head?
  | [] => rfl
  | x :: r => by
    have ih := idx_place v r
    rw [List.map_cons, List.findIdx?_cons]
    simp only [SA.place]
    by_cases h : x = v
    · simp [h, PyData.eqv]
    · have h2 : PyData.eqv (.int x) (.int v) = false := by simp [PyData.eqv, h]
      rw [h2, if_neg h, if_neg Bool.false_ne_true, ih, SA.place_succ, List.head?_map]
theorem index_ap {L : List Int} {v : Int} {p : Nat} (h : (SA.place v 0 L).head? = some p) : indexD (.lst (iD L)) (.int v) e st = .ok (.int (p : Int)) st := by
  have h1 : pyListOf st (.lst (iD L)) = some (L.map PyData.int) := by simp [pyListOf, pyOf, pyD]
  have h2 : pyOf st (.int v) = some (.int v) := rfl
  have sh : (SeqAt.shaped (.list (L.map PyData.int)) && SeqAt.shaped (.int v)) = true := by simp
  unfold indexD
  rw [h1, h2]
  simp only
  rw [if_pos sh, idx_place, h]
theorem place_app (v : Int) : ∀ (l : List Int) (k : Nat) (x : Int), SA.place v k (l ++ [x]) = SA.place v k l ++ (if x = v then [k + l.length] else [])
  | [], k, x => by
    simp only [List.nil_append, SA.place, List.length_nil, Nat.add_zero]
  | y :: r, k, x => by
    have ih := place_app v r (k + 1) x
    simp only [List.cons_append, SA.place, ih, List.length_cons]
    rw [show k + 1 + r.length = k + (r.length + 1) by omega]
    split <;> simp
theorem place_rev (v : Int) : ∀ L : List Int, (SA.place v 0 L.reverse).head? = (SA.place v 0 L).getLast?.map fun j => L.length - 1 - j
  | [] => rfl
  | x :: r => by
    have ih := place_rev v r
    rw [List.reverse_cons, place_app, List.length_reverse, Nat.zero_add]
    simp only [SA.place]
    rw [SA.place_succ]
    cases hp : SA.place v 0 r.reverse with
    | nil =>
      rw [hp] at ih
      have hq : SA.place v 0 r = [] := by
        cases hr : SA.place v 0 r with
        | nil => rfl
        | cons a t =>
          rw [hr] at ih
          simp [List.getLast?_cons] at ih
      rw [hq]
      by_cases h : x = v
      · simp [h]
      · simp [h]
    | cons a t =>
      rw [hp] at ih
      cases hr : (SA.place v 0 r).getLast? with
      | none => rw [hr] at ih; simp at ih
      | some j =>
        rw [hr] at ih
        have hj : a = r.length - 1 - j := by simpa using ih
        have h2 : (((SA.place v 0 r).map (· + 1)).getLast?) = some (j + 1) := by rw [List.getLast?_map, hr]; rfl
        by_cases h : x = v
        · rw [if_pos h, if_pos h, List.getLast?_cons, h2]
          simp
          omega
        · rw [if_neg h, if_neg h, h2]
          simp
          omega
theorem idx_first (ns : List Int) : (SA.place (SA.hi id ns) 0 (sms ns)).head? = some (fstL ns) := by
  obtain ⟨t, h⟩ := (pl_hi ns).1
  rw [h]; rfl
theorem idx_last (ns : List Int) : (SA.place (SA.hi id ns) 0 (sms ns).reverse).head? = some (ns.length - lstL ns) := by
  obtain ⟨t, h⟩ := (pl_hi ns).2
  rw [place_rev, h, sms_len]
  simp
/-! ## what the law reckons -/
abbrev vRow (ns : List Int) : D := .tup (iD ns)
abbrev vOrd (ns : List Int) : D := .lst ((ords ns.length).map ordD)
abbrev vRows (ns : List Int) : D := .lst ((rowsO ns).map rowD)
def lD (r : List Int) : D := .lst (iD (sms r))
abbrev vSums (ns : List Int) : D := .lst ((rowsO ns).map lD)
abbrev vNum (q : List Int → Nat) (ns : List Int) : D := .lst (iD (nums q ns))
def vDues (ns : List Int) : D := .lst [.tup (iD (cnts ns.length (nums abvL ns))), .tup (iD (cnts ns.length (nums fstL ns))), .tup (iD (cnts ns.length (nums nblL ns))), .tup (iD (cnts ns.length (nums lstL ns)))]
section
variable (ns : List Int) (hr : Row ns) (h5 : ns.length ≤ 5) (m : MO) (x0 x1 x2 x3 x4 x5 x6 x7 x8 x9 x10 x11 x12 x13 x14 x15 x16 x17 x18 x19 x20 x21 : Option D)
include hr h5

theorem told_1 : m_u_law_is_told_s1 [x0, some (vRow ns), x2, x3, x4, x5, x6, x7, x8, x9, x10, x11, x12, x13, x14, x15, x16, x17, x18, x19, x20, x21] [m] = .nx [x0, some (vRow ns), some (.int ns.length), some (vOrd ns), x4, x5, x6, x7, x8, x9, x10, x11, x12, x13, x14, x15, x16, x17, x18, x19, x20, x21] [m] := by
  have h1 : xcall (f1 lenD) (xcons (xvar 1) (xpure [])) [x0, some (vRow ns), x2, x3, x4, x5, x6, x7, x8, x9, x10, x11, x12, x13, x14, x15, x16, x17, x18, x19, x20, x21] [m] = .ok (.int ns.length) [m] := call_of (one_ok rfl) (by rw [f1_ap, len_tup, iD_len])
  exact asg_ok (tup_ok (two_ok h1 (fn_of (one_ok h1) rfl (c_law_orders ns.length hr.1 h5))) (show 2 ≤ LIM by decide)) rfl
theorem told_e2 (o : List Nat) (h : o ∈ ords ns.length) : m_u_law_is_told_e2 [x0, some (vRow ns), x2, x3, x4, x5, some (ordD o), x7, x8, x9, x10, x11, x12, x13, x14, x15, x16, x17, x18, x19, x20, x21] [m] = .ok (rowD (SA.rowO ns o)) [m] := by
  obtain ⟨lo, ho⟩ := ord_lt h
  have hw : xwalk (xvar 6) [x0, some (vRow ns), x2, x3, x4, x5, some (ordD o), x7, x8, x9, x10, x11, x12, x13, x14, x15, x16, x17, x18, x19, x20, x21] [m] = .ok (o.map fun (i : Nat) => D.int (i : Int), none) [m] := walk_of (d := ordD o) rfl (by rw [ordD, iD_oI]; rfl)
  have q := cloop_rows (e := [x0, some (vRow ns), x2, x3, x4, none, some (ordD o), x7, x8, x9, x10, x11, x12, x13, x14, x15, x16, x17, x18, x19, x20, x21]) (st := [m]) (src := none) (items := o.map fun (i : Nat) => D.int (i : Int)) (gt := gname 5) (mt := xpure true) (me := m_u_law_is_told_e1) (fun (i : Nat) => D.int (i : Int)) (fun _ => true) (fun i => D.int (ns.getD i 0)) rfl o [] (fun i hi => ⟨[x0, some (vRow ns), x2, x3, x4, some (.int (i : Int)), some (ordD o), x7, x8, x9, x10, x11, x12, x13, x14, x15, x16, x17, x18, x19, x20, x21], rfl, rfl, fun _ => op_of (x := vRow ns) (y := .int (i : Int)) rfl rfl (by rw [ix_tup, getD_at (ho i hi)])⟩) (by have := hr.2.1; simp [LIM]; omega)
  rw [filter_yes, List.nil_append] at q
  have e1 : rowD (SA.rowO ns o) = .tup (o.map fun i => D.int (ns.getD i 0)) := by simp only [rowD, SA.rowO, iD, List.map_map]; rfl
  rw [e1]
  exact call_of (one_ok (comp_of hw q)) (by rw [f1_ap]; exact tuple_lst _)
theorem told_2 : m_u_law_is_told_s2 [x0, some (vRow ns), x2, some (vOrd ns), x4, x5, x6, x7, x8, x9, x10, x11, x12, x13, x14, x15, x16, x17, x18, x19, x20, x21] [m] = .nx [x0, some (vRow ns), x2, some (vOrd ns), some (vRows ns), x5, x6, x7, x8, x9, x10, x11, x12, x13, x14, x15, x16, x17, x18, x19, x20, x21] [m] := by
  have q := cloop_rows (e := [x0, some (vRow ns), x2, some (vOrd ns), x4, x5, none, x7, x8, x9, x10, x11, x12, x13, x14, x15, x16, x17, x18, x19, x20, x21]) (st := [m]) (src := none) (items := (ords ns.length).map ordD) (gt := gname 6) (mt := xpure true) (me := m_u_law_is_told_e2) ordD (fun _ => true) (fun o => rowD (SA.rowO ns o)) rfl (ords ns.length) [] (fun o ho => ⟨[x0, some (vRow ns), x2, some (vOrd ns), x4, x5, some (ordD o), x7, x8, x9, x10, x11, x12, x13, x14, x15, x16, x17, x18, x19, x20, x21], rfl, rfl, fun _ => told_e2 ns hr h5 m x0 x2 (some (vOrd ns)) x4 x5 x7 x8 x9 x10 x11 x12 x13 x14 x15 x16 x17 x18 x19 x20 x21 o ho⟩) (le_lim (fac5 ns.length h5))
  rw [filter_yes, List.nil_append] at q
  have e1 : vRows ns = .lst ((ords ns.length).map fun o => rowD (SA.rowO ns o)) := by simp only [vRows, rowsO, List.map_map]; rfl
  rw [e1]
  exact set_ok (comp_of (walk_of rfl rfl) q)
theorem told_3c : xcomp (xwalk (xvar 4)) [8] (gname 8) (xpure true) m_u_law_is_told_e3 [some (.ref 0), some (vRow ns), some (.int ns.length), some (vOrd ns), some (vRows ns), x5, x6, x7, x8, x9, x10, x11, x12, x13, x14, x15, x16, x17, x18, x19, x20, x21] [m] = .ok (.lst ((rowsO ns).map fun r => lD r)) [m] := by
  have q := cloop_rows (e := [some (.ref 0), some (vRow ns), some (.int ns.length), some (vOrd ns), some (vRows ns), x5, x6, x7, none, x9, x10, x11, x12, x13, x14, x15, x16, x17, x18, x19, x20, x21]) (st := [m]) (src := none) (items := (rowsO ns).map rowD) (gt := gname 8) (mt := xpure true) (me := m_u_law_is_told_e3) rowD (fun _ => true) (fun r => lD r) rfl (rowsO ns) [] (fun r hm => ⟨[some (.ref 0), some (vRow ns), some (.int ns.length), some (vOrd ns), some (vRows ns), x5, x6, x7, some (rowD r), x9, x10, x11, x12, x13, x14, x15, x16, x17, x18, x19, x20, x21], rfl, rfl, fun _ => fn_of (one_ok (x := rowD r) rfl) rfl (c_law_sums r (rowsO_row hm hr).1.2.1)⟩) (le_lim (rowsO_len ns h5))
  rw [filter_yes, List.nil_append] at q
  exact comp_of (walk_of rfl rfl) q
theorem told_3 : m_u_law_is_told_s3 [some (.ref 0), some (vRow ns), some (.int ns.length), some (vOrd ns), some (vRows ns), x5, x6, x7, x8, x9, x10, x11, x12, x13, x14, x15, x16, x17, x18, x19, x20, x21] [m] = .nx [some (.ref 0), some (vRow ns), some (.int ns.length), some (vOrd ns), some (vRows ns), x5, x6, some (vSums ns), x8, x9, x10, x11, x12, x13, x14, x15, x16, x17, x18, x19, x20, x21] [m] := set_ok (told_3c ns hr h5 m x5 x6 x7 x8 x9 x10 x11 x12 x13 x14 x15 x16 x17 x18 x19 x20 x21)
theorem told_e4 (r : List Int) (hl : r.length ≤ 8) : m_u_law_is_told_e4 [some (.ref 0), some (vRow ns), some (.int ns.length), some (vOrd ns), some (vRows ns), x5, x6, some (vSums ns), x8, x9, some (lD r), x11, x12, x13, x14, x15, x16, x17, x18, x19, x20, x21] [m] = .ok (.int (abvL r)) [m] := by
  have q := cl_int (e := [some (.ref 0), some (vRow ns), some (.int ns.length), some (vOrd ns), some (vRows ns), x5, x6, some (vSums ns), none, x9, some (lD r), x11, x12, x13, x14, x15, x16, x17, x18, x19, x20, x21]) (st := [m]) (src := none) (items := iD (sms r)) (j := 8) (mt := m_u_law_is_told_t1) (fun x => decide (0 < x)) rfl (sms r) (by simp [sms_len]; omega) (by simp) (fun x => bool_of (op_of (x := .int x) (y := .int 0) rfl rfl rfl))
  have hw : xwalk (xvar 10) [some (.ref 0), some (vRow ns), some (.int ns.length), some (vOrd ns), some (vRows ns), x5, x6, some (vSums ns), x8, x9, some (lD r), x11, x12, x13, x14, x15, x16, x17, x18, x19, x20, x21] [m] = .ok (iD (sms r), none) [m] := walk_of (d := lD r) rfl rfl
  refine call_of (one_ok (comp_of hw q)) ?_
  rw [f1_ap, len_lst, iD_len, fil_abv]
theorem told_e5 (r : List Int) (hl : r.length ≤ 8) : m_u_law_is_told_e5 [some (.ref 0), some (vRow ns), some (.int ns.length), some (vOrd ns), some (vRows ns), x5, x6, some (vSums ns), x8, x9, some (lD r), x11, x12, x13, x14, x15, x16, x17, x18, x19, x20, x21] [m] = .ok (.int (nblL r)) [m] := by
  have q := cl_int (e := [some (.ref 0), some (vRow ns), some (.int ns.length), some (vOrd ns), some (vRows ns), x5, x6, some (vSums ns), none, x9, some (lD r), x11, x12, x13, x14, x15, x16, x17, x18, x19, x20, x21]) (st := [m]) (src := none) (items := iD ((sms r).drop 1)) (j := 8) (mt := m_u_law_is_told_t2) (fun x => decide (0 ≤ x)) rfl ((sms r).drop 1) (by simp [sms_len]; omega) (by simp) (fun x => bool_of (op_of (x := .int x) (y := .int 0) rfl rfl rfl))
  have hw : xwalk (xslice (xvar 10) (xpart (xpure (.int 1))) (xpure none)) [some (.ref 0), some (vRow ns), some (.int ns.length), some (vOrd ns), some (vRows ns), x5, x6, some (vSums ns), x8, x9, some (lD r), x11, x12, x13, x14, x15, x16, x17, x18, x19, x20, x21] [m] = .ok (iD ((sms r).drop 1), none) [m] := walk_of (d := .lst (iD ((sms r).drop 1))) (by
    have c1 : cutD (iD (sms r)) (some 1) none = iD ((sms r).drop 1) := by rw [show (1 : Int) = ((1 : Nat) : Int) from rfl, cut_from]; simp [iD]
    rw [← c1]; rfl) rfl
  refine call_of (one_ok (comp_of hw q)) ?_
  rw [f1_ap, len_lst, iD_len, fil_nbl]
theorem told_4c : xcomp (xwalk (xvar 7)) [10] (gname 10) (xpure true) m_u_law_is_told_e4 [some (.ref 0), some (vRow ns), some (.int ns.length), some (vOrd ns), some (vRows ns), x5, x6, some (vSums ns), x8, x9, x10, x11, x12, x13, x14, x15, x16, x17, x18, x19, x20, x21] [m] = .ok (vNum abvL ns) [m] := by
  have q := cloop_rows (e := [some (.ref 0), some (vRow ns), some (.int ns.length), some (vOrd ns), some (vRows ns), x5, x6, some (vSums ns), x8, x9, none, x11, x12, x13, x14, x15, x16, x17, x18, x19, x20, x21]) (st := [m]) (src := none) (items := (rowsO ns).map lD) (gt := gname 10) (mt := xpure true) (me := m_u_law_is_told_e4) lD (fun _ => true) (fun r => .int (abvL r)) rfl (rowsO ns) [] (fun r hm => ⟨[some (.ref 0), some (vRow ns), some (.int ns.length), some (vOrd ns), some (vRows ns), x5, x6, some (vSums ns), x8, x9, some (lD r), x11, x12, x13, x14, x15, x16, x17, x18, x19, x20, x21], rfl, rfl, fun _ => told_e4 ns hr h5 m x5 x6 x8 x9 x11 x12 x13 x14 x15 x16 x17 x18 x19 x20 x21 r (rowsO_row hm hr).1.2.1⟩) (le_lim (rowsO_len ns h5))
  rw [filter_yes, List.nil_append] at q
  have e1 : vNum abvL ns = .lst ((rowsO ns).map fun r => D.int (abvL r)) := by simp only [vNum, nums, iD, List.map_map]; rfl
  rw [e1]
  exact comp_of (walk_of rfl rfl) q
theorem told_4 : m_u_law_is_told_s4 [some (.ref 0), some (vRow ns), some (.int ns.length), some (vOrd ns), some (vRows ns), x5, x6, some (vSums ns), x8, x9, x10, x11, x12, x13, x14, x15, x16, x17, x18, x19, x20, x21] [m] = .nx [some (.ref 0), some (vRow ns), some (.int ns.length), some (vOrd ns), some (vRows ns), x5, x6, some (vSums ns), x8, some (vNum abvL ns), x10, x11, x12, x13, x14, x15, x16, x17, x18, x19, x20, x21] [m] := set_ok (told_4c ns hr h5 m x5 x6 x8 x9 x10 x11 x12 x13 x14 x15 x16 x17 x18 x19 x20 x21)
theorem told_5c : xcomp (xwalk (xvar 7)) [10] (gname 10) (xpure true) m_u_law_is_told_e5 [some (.ref 0), some (vRow ns), some (.int ns.length), some (vOrd ns), some (vRows ns), x5, x6, some (vSums ns), x8, some (vNum abvL ns), x10, x11, x12, x13, x14, x15, x16, x17, x18, x19, x20, x21] [m] = .ok (vNum nblL ns) [m] := by
  have q := cloop_rows (e := [some (.ref 0), some (vRow ns), some (.int ns.length), some (vOrd ns), some (vRows ns), x5, x6, some (vSums ns), x8, some (vNum abvL ns), none, x11, x12, x13, x14, x15, x16, x17, x18, x19, x20, x21]) (st := [m]) (src := none) (items := (rowsO ns).map lD) (gt := gname 10) (mt := xpure true) (me := m_u_law_is_told_e5) lD (fun _ => true) (fun r => .int (nblL r)) rfl (rowsO ns) [] (fun r hm => ⟨[some (.ref 0), some (vRow ns), some (.int ns.length), some (vOrd ns), some (vRows ns), x5, x6, some (vSums ns), x8, some (vNum abvL ns), some (lD r), x11, x12, x13, x14, x15, x16, x17, x18, x19, x20, x21], rfl, rfl, fun _ => told_e5 ns hr h5 m x5 x6 x8 (some (vNum abvL ns)) x11 x12 x13 x14 x15 x16 x17 x18 x19 x20 x21 r (rowsO_row hm hr).1.2.1⟩) (le_lim (rowsO_len ns h5))
  rw [filter_yes, List.nil_append] at q
  have e1 : vNum nblL ns = .lst ((rowsO ns).map fun r => D.int (nblL r)) := by simp only [vNum, nums, iD, List.map_map]; rfl
  rw [e1]
  exact comp_of (walk_of rfl rfl) q
theorem told_5 : m_u_law_is_told_s5 [some (.ref 0), some (vRow ns), some (.int ns.length), some (vOrd ns), some (vRows ns), x5, x6, some (vSums ns), x8, some (vNum abvL ns), x10, x11, x12, x13, x14, x15, x16, x17, x18, x19, x20, x21] [m] = .nx [some (.ref 0), some (vRow ns), some (.int ns.length), some (vOrd ns), some (vRows ns), x5, x6, some (vSums ns), x8, some (vNum abvL ns), x10, some (vNum nblL ns), x12, x13, x14, x15, x16, x17, x18, x19, x20, x21] [m] := set_ok (told_5c ns hr h5 m x5 x6 x8 x10 x11 x12 x13 x14 x15 x16 x17 x18 x19 x20 x21)
theorem told_max (r : List Int) : xcall (f1 maxD) (xcons (xvar 10) (xpure [])) [some (.ref 0), some (vRow ns), some (.int ns.length), some (vOrd ns), some (vRows ns), x5, x6, some (vSums ns), x8, some (vNum abvL ns), some (lD r), some (vNum nblL ns), x12, x13, x14, x15, x16, x17, x18, x19, x20, x21] [m] = .ok (.int (SA.hi id r)) [m] := by
  refine call_of (one_ok (x := lD r) rfl) ?_
  obtain ⟨t, ht, _⟩ := sms_cons r
  have ne : sms r ≠ [] := by rw [ht]; simp
  rw [f1_ap, lD, max_iD, if_neg ne, maxL_sms]
theorem told_e6 (r : List Int) : m_u_law_is_told_e6 [some (.ref 0), some (vRow ns), some (.int ns.length), some (vOrd ns), some (vRows ns), x5, x6, some (vSums ns), x8, some (vNum abvL ns), some (lD r), some (vNum nblL ns), x12, x13, x14, x15, x16, x17, x18, x19, x20, x21] [m] = .ok (.int (fstL r)) [m] := by
  have h1 := told_max ns hr h5 m x5 x6 x8 x12 x13 x14 x15 x16 x17 x18 x19 x20 x21 r
  have h2 : (xbind (xcall (f1 maxD) (xcons (xvar 10) (xpure []))) fun y => indexD (lD r) y) [some (.ref 0), some (vRow ns), some (.int ns.length), some (vOrd ns), some (vRows ns), x5, x6, some (vSums ns), x8, some (vNum abvL ns), some (lD r), some (vNum nblL ns), x12, x13, x14, x15, x16, x17, x18, x19, x20, x21] [m] = .ok (.int (fstL r)) [m] := by
    rw [ap_bind, h1]
    exact index_ap (idx_first r)
  exact h2
theorem told_e7 (r : List Int) (hl : r.length = ns.length) : m_u_law_is_told_e7 [some (.ref 0), some (vRow ns), some (.int ns.length), some (vOrd ns), some (vRows ns), x5, x6, some (vSums ns), x8, some (vNum abvL ns), some (lD r), some (vNum nblL ns), x12, x13, x14, x15, x16, x17, x18, x19, x20, x21] [m] = .ok (.int (lstL r)) [m] := by
  have h1 := told_max ns hr h5 m x5 x6 x8 x12 x13 x14 x15 x16 x17 x18 x19 x20 x21 r
  have h2 : xm1 indexD (xrev (xvar 10)) (xcall (f1 maxD) (xcons (xvar 10) (xpure []))) [some (.ref 0), some (vRow ns), some (.int ns.length), some (vOrd ns), some (vRows ns), x5, x6, some (vSums ns), x8, some (vNum abvL ns), some (lD r), some (vNum nblL ns), x12, x13, x14, x15, x16, x17, x18, x19, x20, x21] [m] = .ok (.int ((ns.length - lstL r : Nat) : Int)) [m] := by
    have hv : xrev (xvar 10) [some (.ref 0), some (vRow ns), some (.int ns.length), some (vOrd ns), some (vRows ns), x5, x6, some (vSums ns), x8, some (vNum abvL ns), some (lD r), some (vNum nblL ns), x12, x13, x14, x15, x16, x17, x18, x19, x20, x21] [m] = .ok (.lst (iD (sms r).reverse)) [m] := by
      have := rev_lst (m := xvar 10) (e := [some (.ref 0), some (vRow ns), some (.int ns.length), some (vOrd ns), some (vRows ns), x5, x6, some (vSums ns), x8, some (vNum abvL ns), some (lD r), some (vNum nblL ns), x12, x13, x14, x15, x16, x17, x18, x19, x20, x21]) (xs := iD (sms r)) (s0 := [m]) (s1 := [m]) rfl
      rw [this]
      simp [iD]
    unfold xm1
    rw [ap_bind, hv]
    simp only [listy_lst, if_true]
    rw [ap_bind, h1]
    have := idx_last r
    rw [hl] at this
    exact index_ap this
  have hle : lstL r ≤ ns.length := by rw [← hl]; exact SA.lst_le id r
  refine (op_of (x := .int ns.length) rfl h2 rfl).trans ?_
  show RX.ok (D.int ((ns.length : Int) - ((ns.length - lstL r : Nat) : Int))) [m] = _
  rw [show (ns.length : Int) - ((ns.length - lstL r : Nat) : Int) = (lstL r : Int) by omega]
theorem told_6a : xcomp (xwalk (xvar 7)) [10] (gname 10) (xpure true) m_u_law_is_told_e6 [some (.ref 0), some (vRow ns), some (.int ns.length), some (vOrd ns), some (vRows ns), x5, x6, some (vSums ns), x8, some (vNum abvL ns), x10, some (vNum nblL ns), x12, x13, x14, x15, x16, x17, x18, x19, x20, x21] [m] = .ok (vNum fstL ns) [m] := by
  have q := cloop_rows (e := [some (.ref 0), some (vRow ns), some (.int ns.length), some (vOrd ns), some (vRows ns), x5, x6, some (vSums ns), x8, some (vNum abvL ns), none, some (vNum nblL ns), x12, x13, x14, x15, x16, x17, x18, x19, x20, x21]) (st := [m]) (src := none) (items := (rowsO ns).map lD) (gt := gname 10) (mt := xpure true) (me := m_u_law_is_told_e6) lD (fun _ => true) (fun r => .int (fstL r)) rfl (rowsO ns) [] (fun r hm => ⟨[some (.ref 0), some (vRow ns), some (.int ns.length), some (vOrd ns), some (vRows ns), x5, x6, some (vSums ns), x8, some (vNum abvL ns), some (lD r), some (vNum nblL ns), x12, x13, x14, x15, x16, x17, x18, x19, x20, x21], rfl, rfl, fun _ => told_e6 ns hr h5 m x5 x6 x8 x12 x13 x14 x15 x16 x17 x18 x19 x20 x21 r⟩) (le_lim (rowsO_len ns h5))
  rw [filter_yes, List.nil_append] at q
  have e1 : vNum fstL ns = .lst ((rowsO ns).map fun r => D.int (fstL r)) := by simp only [vNum, nums, iD, List.map_map]; rfl
  rw [e1]
  exact comp_of (walk_of rfl rfl) q
theorem told_6b : xcomp (xwalk (xvar 7)) [10] (gname 10) (xpure true) m_u_law_is_told_e7 [some (.ref 0), some (vRow ns), some (.int ns.length), some (vOrd ns), some (vRows ns), x5, x6, some (vSums ns), x8, some (vNum abvL ns), x10, some (vNum nblL ns), x12, x13, x14, x15, x16, x17, x18, x19, x20, x21] [m] = .ok (vNum lstL ns) [m] := by
  have q := cloop_rows (e := [some (.ref 0), some (vRow ns), some (.int ns.length), some (vOrd ns), some (vRows ns), x5, x6, some (vSums ns), x8, some (vNum abvL ns), none, some (vNum nblL ns), x12, x13, x14, x15, x16, x17, x18, x19, x20, x21]) (st := [m]) (src := none) (items := (rowsO ns).map lD) (gt := gname 10) (mt := xpure true) (me := m_u_law_is_told_e7) lD (fun _ => true) (fun r => .int (lstL r)) rfl (rowsO ns) [] (fun r hm => ⟨[some (.ref 0), some (vRow ns), some (.int ns.length), some (vOrd ns), some (vRows ns), x5, x6, some (vSums ns), x8, some (vNum abvL ns), some (lD r), some (vNum nblL ns), x12, x13, x14, x15, x16, x17, x18, x19, x20, x21], rfl, rfl, fun _ => told_e7 ns hr h5 m x5 x6 x8 x12 x13 x14 x15 x16 x17 x18 x19 x20 x21 r (rowsO_row hm hr).2.2⟩) (le_lim (rowsO_len ns h5))
  rw [filter_yes, List.nil_append] at q
  have e1 : vNum lstL ns = .lst ((rowsO ns).map fun r => D.int (lstL r)) := by simp only [vNum, nums, iD, List.map_map]; rfl
  rw [e1]
  exact comp_of (walk_of rfl rfl) q
theorem told_6 : m_u_law_is_told_s6 [some (.ref 0), some (vRow ns), some (.int ns.length), some (vOrd ns), some (vRows ns), x5, x6, some (vSums ns), x8, some (vNum abvL ns), x10, some (vNum nblL ns), x12, x13, x14, x15, x16, x17, x18, x19, x20, x21] [m] = .nx [some (.ref 0), some (vRow ns), some (.int ns.length), some (vOrd ns), some (vRows ns), x5, x6, some (vSums ns), x8, some (vNum abvL ns), x10, some (vNum nblL ns), some (vNum fstL ns), some (vNum lstL ns), x14, x15, x16, x17, x18, x19, x20, x21] [m] := by
  have h1 := told_6a ns hr h5 m x5 x6 x8 x10 x12 x13 x14 x15 x16 x17 x18 x19 x20 x21
  have h2 := told_6b ns hr h5 m x5 x6 x8 x10 x12 x13 x14 x15 x16 x17 x18 x19 x20 x21
  unfold m_u_law_is_told_s6
  rw [ap_par2, ap_sbind, h1]
  simp only [ap_sbind, h2]
  rfl
theorem told_7 : m_u_law_is_told_s7 [some (.ref 0), some (vRow ns), some (.int ns.length), some (vOrd ns), some (vRows ns), x5, x6, some (vSums ns), x8, some (vNum abvL ns), x10, some (vNum nblL ns), some (vNum fstL ns), some (vNum lstL ns), x14, x15, x16, x17, x18, x19, x20, x21] [m] = .nx [some (.ref 0), some (vRow ns), some (.int ns.length), some (vOrd ns), some (vRows ns), x5, x6, some (vSums ns), x8, some (vNum abvL ns), x10, some (vNum nblL ns), some (vNum fstL ns), some (vNum lstL ns), some (vDues ns), x15, x16, x17, x18, x19, x20, x21] [m] := by
  refine set_ok (lst_ok (xs := [.tup (iD (cnts ns.length (nums abvL ns))), .tup (iD (cnts ns.length (nums fstL ns))), .tup (iD (cnts ns.length (nums nblL ns))), .tup (iD (cnts ns.length (nums lstL ns)))]) ?_ (show 4 ≤ LIM by decide))
  exact cons_ok (fn_of (two_ok (x := .int ns.length) (y := vNum abvL ns) rfl rfl) rfl (c_law_counts _ _ hr.2.1)) (cons_ok (fn_of (two_ok (x := .int ns.length) (y := vNum fstL ns) rfl rfl) rfl (c_law_counts _ _ hr.2.1)) (cons_ok (fn_of (two_ok (x := .int ns.length) (y := vNum nblL ns) rfl rfl) rfl (c_law_counts _ _ hr.2.1)) (one_ok (fn_of (two_ok (x := .int ns.length) (y := vNum lstL ns) rfl rfl) rfl (c_law_counts _ _ hr.2.1)))))
end
end LS
end
section
set_option maxRecDepth 100000
set_option maxHeartbeats 4000000
namespace LS
open PySem PySem.Spec L2
variable {e : Nv} {st : Store}
/-! ## the counts are of one tuple -/
theorem nums_map (q : List Int → Nat) (p : List Nat → Nat) (ns : List Int) (h : ∀ o ∈ ords ns.length, q (SA.rowO ns o) = p o) : nums q ns = ((ords ns.length).map p).map fun (n : Nat) => (n : Int) := by
  unfold nums rowsO
  rw [List.map_map, List.map_map]
  exact List.map_congr_left fun o ho => congrArg (fun (n : Nat) => (n : Int)) (h o ho)
theorem dues_01 (ns : List Int) : cnts ns.length (nums abvL ns) = cnts ns.length (nums fstL ns) := by
  rw [nums_map abvL (fun o => SA.abv (fun i => ns.getD i 0) 0 o) ns fun o _ => SA.rowO_abv ns o 0, nums_map fstL (fun o => SA.fst (fun i => ns.getD i 0) o) ns fun o _ => SA.rowO_fst ns o]
  exact cnts_perm ((SA.perm_abv_fst ns.length fun i => ns.getD i 0).map _)
theorem dues_23 (ns : List Int) (h : ns.length < 10) : cnts ns.length (nums nblL ns) = cnts ns.length (nums lstL ns) := by
  rw [nums_map nblL (fun o => SA.nbl (fun i => ns.getD i 0) 0 o) ns fun o _ => SA.rowO_nbl ns o 0, nums_map lstL (fun o => SA.lst (fun i => ns.getD i 0) o) ns fun o _ => SA.rowO_lst ns o]
  exact cnts_perm ((SA.perm_nbl_lst ns.length h fun i => ns.getD i 0).map _)
theorem cnts_len (n : Nat) (L : List Int) : (cnts n L).length = n + 1 := by simp [cnts]
theorem ok_tupI {n : Nat} {L : List Int} (h : L.length ≤ 1000) : okD (n + 2) (.tup (iD L)) = true := okD_tup (by simp [LIM]; omega) (okD_iD n L)
theorem ok_dues (ns : List Int) (h5 : ns.length ≤ 5) : okD 6 (vDues ns) = true := by
  have c : ∀ L, okD 5 (.tup (iD (cnts ns.length L))) = true := fun L => ok_tupI (n := 3) (by rw [cnts_len]; omega)
  exact okD_lst (show 4 ≤ LIM by decide) (okD_cons (c _) (okD_cons (c _) (okD_cons (c _) (okD_cons (c _) okD_nil))))
theorem all_map {α : Type} (n : Nat) (f : α → D) (l : List α) (h : ∀ x ∈ l, okD n (f x) = true) : (l.map f).all (okD n) = true := by
  rw [List.all_eq_true]
  intro y hy
  obtain ⟨x, hx, rfl⟩ := List.mem_map.mp hy
  exact h x hx
theorem ok_with (ns : List Int) (h5 : ns.length ≤ 5) (k : Int) : okD 6 (.tup (ordsWith ns k)) = true := by
  have hf := fac5 ns.length h5
  unfold ordsWith
  refine okD_tup ?_ (all_map 5 ordD _ fun o ho => ?_)
  · have := List.length_filter_le (fun o => decide (((abvL (SA.rowO ns o) : Nat) : Int) = k)) (ords ns.length)
    rw [List.length_map]
    simp [LIM]; omega
  · obtain ⟨lo, _⟩ := ord_lt (List.mem_filter.mp ho).1
    exact ok_tupI (n := 3) (by simp [oI, lo]; omega)
theorem zipD_maps {α : Type} (f g : α → D) : ∀ l : List α, zipD (l.map f) (l.map g) = l.map fun x => .tup [f x, g x]
  | [] => rfl
  | x :: r => by
    have ih := zipD_maps f g r
    unfold zipD at ih ⊢
    simp only [List.map_cons, List.zipWith_cons_cons, ih]
theorem zipAll_maps {α : Type} (fs : List (α → D)) (l : List α) : zipAll l.length (fs.map fun f => l.map f) = l.map fun x => .tup (fs.map fun f => f x) := by
  refine List.ext_getElem (by simp [zipAll]) fun i h1 h2 => ?_
  have h3 : i < l.length := by simpa [zipAll] using h1
  simp only [zipAll, List.getElem_map, List.getElem_range, List.map_map]
  congr 1
  refine List.map_congr_left fun f _ => ?_
  simp [List.getD_eq_getElem?_getD, h3]
/-- what is walked last -/
def tD (ns : List Int) (o : List Nat) : D := .tup [ordD o, rowD (SA.rowO ns o), .int (abvL (SA.rowO ns o)), .int (fstL (SA.rowO ns o)), .int (nblL (SA.rowO ns o)), .int (lstL (SA.rowO ns o))]
theorem iD_nums (q : List Int → Nat) (ns : List Int) : iD (nums q ns) = (ords ns.length).map fun o => D.int (q (SA.rowO ns o)) := by
  simp only [nums, rowsO, iD, List.map_map]; rfl
theorem rows_map (ns : List Int) : (rowsO ns).map rowD = (ords ns.length).map fun o => rowD (SA.rowO ns o) := by
  simp only [rowsO, List.map_map]; rfl
/-! ## how many different rows -/
theorem ptsOf_rows : ∀ l : List (List Int), ptsOf (l.map rowD) = some l
  | [] => rfl
  | r :: l => by
    have ih := ptsOf_rows l
    rw [List.map_cons]
    simp only [ptsOf, rowD, intsOf_iD, ih]
theorem ndist_inj (f : List Int → List Int) : ∀ l : List (List Int), (∀ a ∈ l, ∀ b ∈ l, f a = f b → a = b) → ndist (l.map f) = ndist l
  | [], _ => rfl
  | x :: r, h => by
    have ih := ndist_inj f r fun a ha b hb => h a (by simp [ha]) b (by simp [hb])
    simp only [List.map_cons, ndist, ih]
    have e : (f x ∈ r.map f) ↔ x ∈ r := by
      constructor
      · intro hm
        obtain ⟨y, hy, e⟩ := List.mem_map.mp hm
        rw [← h y (by simp [hy]) x (by simp) e]; exact hy
      · intro hm; exact List.mem_map.mpr ⟨x, hm, rfl⟩
    by_cases hx : x ∈ r
    · rw [if_pos hx, if_pos (e.mpr hx)]
    · rw [if_neg hx, if_neg fun z => hx (e.mp z)]
theorem fac4 (n : Nat) (h4 : n ≤ 4) : (ords n).length ≤ 24 := by
  have : ∀ n ≤ 4, (ords n).length ≤ 24 := by decide +kernel
  exact this n h4
section
variable (ns : List Int) (hr : Row ns) (h5 : ns.length ≤ 5) (m : MO) (x0 x1 x2 x3 x4 x5 x6 x7 x8 x9 x10 x11 x12 x13 x14 x15 x16 x17 x18 x19 x20 x21 : Option D)
include hr h5

theorem told_9 (nm : Bool) : m_u_law_is_told_s9 [some (.ref 0), some (vRow ns), some (.int ns.length), some (vOrd ns), some (vRows ns), x5, x6, some (vSums ns), x8, some (vNum abvL ns), x10, some (vNum nblL ns), some (vNum fstL ns), some (vNum lstL ns), some (vDues ns), some (.bl nm), x16, x17, x18, x19, x20, x21] [m] = .nx [some (.ref 0), some (vRow ns), some (.int ns.length), some (vOrd ns), some (vRows ns), x5, x6, some (vSums ns), x8, some (vNum abvL ns), x10, some (vNum nblL ns), some (vNum fstL ns), some (vNum lstL ns), some (vDues ns), some (.bl nm), some (vDues ns), x17, x18, x19, x20, x21] [m] := by
  refine set_ok (lst_ok (xs := [.tup (iD (cnts ns.length (nums abvL ns))), .tup (iD (cnts ns.length (nums fstL ns))), .tup (iD (cnts ns.length (nums nblL ns))), .tup (iD (cnts ns.length (nums lstL ns)))]) ?_ (show 4 ≤ LIM by decide))
  exact cons_ok (fn_of (one_ok (x := vRow ns) rfl) rfl (c_orders_above ns hr h5)) (cons_ok (fn_of (one_ok (x := vRow ns) rfl) rfl (c_orders_first ns hr h5)) (cons_ok (fn_of (one_ok (x := vRow ns) rfl) rfl (c_orders_not_below ns hr h5)) (one_ok (fn_of (one_ok (x := vRow ns) rfl) rfl (c_orders_last ns hr h5)))))
theorem told_10 (nm : Bool) : m_u_law_is_told_s10 [some (.ref 0), some (vRow ns), some (.int ns.length), some (vOrd ns), some (vRows ns), x5, x6, some (vSums ns), x8, some (vNum abvL ns), x10, some (vNum nblL ns), some (vNum fstL ns), some (vNum lstL ns), some (vDues ns), some (.bl nm), some (vDues ns), x17, x18, x19, x20, x21] [m] = .nx [some (.ref 0), some (vRow ns), some (.int ns.length), some (vOrd ns), some (vRows ns), x5, x6, some (vSums ns), x8, some (vNum abvL ns), x10, some (vNum nblL ns), some (vNum fstL ns), some (vNum lstL ns), some (vDues ns), some (.bl nm), some (vDues ns), x17, x18, x19, x20, x21] [m] := by
  cases nm with
  | false => exact sif_f (tru_ok (b := false) rfl)
  | true =>
    refine (sif_t (tru_ok (b := true) rfl)).trans (set_ok (lst_ok (xs := [.tup (iD (cnts ns.length (nums abvL ns))), .tup (iD (cnts ns.length (nums fstL ns))), .tup (iD (cnts ns.length (nums nblL ns))), .tup (iD (cnts ns.length (nums lstL ns)))]) ?_ (show 4 ≤ LIM by decide)))
    exact cons_ok (fnK_of nil_ok (one_ok (x := vRow ns) rfl) ⟨rfl, rfl⟩ (c_orders_above ns hr h5)) (cons_ok (fnK_of nil_ok (one_ok (x := vRow ns) rfl) ⟨rfl, rfl⟩ (c_orders_first ns hr h5)) (cons_ok (fnK_of nil_ok (one_ok (x := vRow ns) rfl) ⟨rfl, rfl⟩ (c_orders_not_below ns hr h5)) (one_ok (fnK_of nil_ok (one_ok (x := vRow ns) rfl) ⟨rfl, rfl⟩ (c_orders_last ns hr h5)))))
theorem told_11 (nm : Bool) : m_u_law_is_told_s11 [some (.ref 0), some (vRow ns), some (.int ns.length), some (vOrd ns), some (vRows ns), x5, x6, some (vSums ns), x8, some (vNum abvL ns), x10, some (vNum nblL ns), some (vNum fstL ns), some (vNum lstL ns), some (vDues ns), some (.bl nm), some (vDues ns), x17, x18, x19, x20, x21] [m] = .nx [some (.ref 0), some (vRow ns), some (.int ns.length), some (vOrd ns), some (vRows ns), x5, x6, some (vSums ns), x8, some (vNum abvL ns), x10, some (vNum nblL ns), some (vNum fstL ns), some (vNum lstL ns), some (vDues ns), some (.bl nm), some (vDues ns), x17, x18, x19, x20, x21] [m] := by
  have a1 : tnot (xtru (xfn 2 (D_u_law_same 6) (xcons (xvar 16) (xcons (xvar 14) (xpure []))))) [some (.ref 0), some (vRow ns), some (.int ns.length), some (vOrd ns), some (vRows ns), x5, x6, some (vSums ns), x8, some (vNum abvL ns), x10, some (vNum nblL ns), some (vNum fstL ns), some (vNum lstL ns), some (vDues ns), some (.bl nm), some (vDues ns), x17, x18, x19, x20, x21] [m] = .ok false [m] := tnot_ok (b := true) (tru_ok (fn_of (two_ok (x := vDues ns) (y := vDues ns) rfl rfl) rfl (c_same _ (ok_dues ns h5))))
  have ix : ∀ (i : Int) (d : D), atI [.tup (iD (cnts ns.length (nums abvL ns))), .tup (iD (cnts ns.length (nums fstL ns))), .tup (iD (cnts ns.length (nums nblL ns))), .tup (iD (cnts ns.length (nums lstL ns)))] i = some d → ixD (vDues ns) (.int i) [some (.ref 0), some (vRow ns), some (.int ns.length), some (vOrd ns), some (vRows ns), x5, x6, some (vSums ns), x8, some (vNum abvL ns), x10, some (vNum nblL ns), some (vNum fstL ns), some (vNum lstL ns), some (vDues ns), some (.bl nm), some (vDues ns), x17, x18, x19, x20, x21] [m] = .ok d [m] := fun i d h => by rw [vDues, ix_lst, h]
  have a2 : xbool (xop neD (xop ixD (xvar 14) (xpure (.int 0))) (xop ixD (xvar 14) (xpure (.int 1)))) [some (.ref 0), some (vRow ns), some (.int ns.length), some (vOrd ns), some (vRows ns), x5, x6, some (vSums ns), x8, some (vNum abvL ns), x10, some (vNum nblL ns), some (vNum fstL ns), some (vNum lstL ns), some (vDues ns), some (.bl nm), some (vDues ns), x17, x18, x19, x20, x21] [m] = .ok false [m] := bool_of (op_of (op_of (x := vDues ns) (y := .int 0) rfl rfl (ix 0 _ rfl)) (op_of (x := vDues ns) (y := .int 1) rfl rfl (ix 1 _ rfl)) (by rw [ne_ap, dues_01, eqO_tiD]; simp))
  have a3 : xbool (xop neD (xop ixD (xvar 14) (xpure (.int 2))) (xop ixD (xvar 14) (xpure (.int 3)))) [some (.ref 0), some (vRow ns), some (.int ns.length), some (vOrd ns), some (vRows ns), x5, x6, some (vSums ns), x8, some (vNum abvL ns), x10, some (vNum nblL ns), some (vNum fstL ns), some (vNum lstL ns), some (vDues ns), some (.bl nm), some (vDues ns), x17, x18, x19, x20, x21] [m] = .ok false [m] := bool_of (op_of (op_of (x := vDues ns) (y := .int 2) rfl rfl (ix 2 _ rfl)) (op_of (x := vDues ns) (y := .int 3) rfl rfl (ix 3 _ rfl)) (by rw [ne_ap, dues_23 ns (by omega), eqO_tiD]; simp))
  have b1 : xlst (xcons (xfn 1 (D_most_above) (xcons (xvar 1) (xpure []))) (xcons (xfn 1 (D_least_above) (xcons (xvar 1) (xpure []))) (xpure []))) [some (.ref 0), some (vRow ns), some (.int ns.length), some (vOrd ns), some (vRows ns), x5, x6, some (vSums ns), x8, some (vNum abvL ns), x10, some (vNum nblL ns), some (vNum fstL ns), some (vNum lstL ns), some (vDues ns), some (.bl nm), some (vDues ns), x17, x18, x19, x20, x21] [m] = .ok (.lst [.int (abvL (srt ns).reverse), .int (abvL (srt ns))]) [m] := lst_ok (two_ok (fn_of (one_ok (x := vRow ns) rfl) rfl (c_most ns hr)) (fn_of (one_ok (x := vRow ns) rfl) rfl (c_least ns hr))) (show 2 ≤ LIM by decide)
  have b2 : xlst (xcons (xcall (f1 maxD) (xcons (xvar 9) (xpure []))) (xcons (xcall (f1 minD) (xcons (xvar 9) (xpure []))) (xpure []))) [some (.ref 0), some (vRow ns), some (.int ns.length), some (vOrd ns), some (vRows ns), x5, x6, some (vSums ns), x8, some (vNum abvL ns), x10, some (vNum nblL ns), some (vNum fstL ns), some (vNum lstL ns), some (vDues ns), some (.bl nm), some (vDues ns), x17, x18, x19, x20, x21] [m] = .ok (.lst [.int (abvL (srt ns).reverse), .int (abvL (srt ns))]) [m] := lst_ok (two_ok (call_of (one_ok (x := vNum abvL ns) rfl) (by rw [f1_ap, max_iD, if_neg (nums_ne _ _), max_ups])) (call_of (one_ok (x := vNum abvL ns) rfl) (by rw [f1_ap, min_iD, if_neg (nums_ne _ _), min_ups]))) (show 2 ≤ LIM by decide)
  have a4 : tnot (xtru (xfn 2 (D_u_law_same 6) (xcons (xlst (xcons (xfn 1 (D_most_above) (xcons (xvar 1) (xpure []))) (xcons (xfn 1 (D_least_above) (xcons (xvar 1) (xpure []))) (xpure [])))) (xcons (xlst (xcons (xcall (f1 maxD) (xcons (xvar 9) (xpure []))) (xcons (xcall (f1 minD) (xcons (xvar 9) (xpure []))) (xpure [])))) (xpure []))))) [some (.ref 0), some (vRow ns), some (.int ns.length), some (vOrd ns), some (vRows ns), x5, x6, some (vSums ns), x8, some (vNum abvL ns), x10, some (vNum nblL ns), some (vNum fstL ns), some (vNum lstL ns), some (vDues ns), some (.bl nm), some (vDues ns), x17, x18, x19, x20, x21] [m] = .ok false [m] := tnot_ok (b := true) (tru_ok (fn_of (two_ok b1 b2) rfl (c_same _ rfl)))
  exact sif_f ((tor_f a1).trans ((tor_f a2).trans ((tor_f a3).trans a4)))
theorem told_13 (nm : Bool) (k : Int) (k0 : 0 ≤ k) (k1 : k ≤ ns.length) : m_u_law_is_told_s13 [some (.ref 0), some (vRow ns), some (.int ns.length), some (vOrd ns), some (vRows ns), some (.int k), x6, some (vSums ns), x8, some (vNum abvL ns), x10, some (vNum nblL ns), some (vNum fstL ns), some (vNum lstL ns), some (vDues ns), some (.bl nm), some (vDues ns), x17, x18, x19, x20, x21] [m] = .nx [some (.ref 0), some (vRow ns), some (.int ns.length), some (vOrd ns), some (vRows ns), some (.int k), x6, some (vSums ns), x8, some (vNum abvL ns), x10, some (vNum nblL ns), some (vNum fstL ns), some (vNum lstL ns), some (vDues ns), some (.bl nm), some (vDues ns), x17, x18, x19, x20, x21] [m] := by
  have q := cloop_rows (e := [some (.ref 0), some (vRow ns), some (.int ns.length), some (vOrd ns), some (vRows ns), some (.int k), none, some (vSums ns), x8, some (vNum abvL ns), x10, some (vNum nblL ns), some (vNum fstL ns), some (vNum lstL ns), some (vDues ns), some (.bl nm), some (vDues ns), none, x18, x19, x20, x21]) (st := [m]) (src := none) (items := (ords ns.length).map fun o => .tup [ordD o, .int (abvL (SA.rowO ns o))]) (gt := gtup 2 (gcons (gname 6) (gcons (gname 17) gnil))) (mt := m_u_law_is_told_t3) (me := xvar 6) (fun o => .tup [ordD o, .int (abvL (SA.rowO ns o))]) (fun o => decide (((abvL (SA.rowO ns o) : Nat) : Int) = k)) ordD rfl (ords ns.length) [] (fun o _ => ⟨[some (.ref 0), some (vRow ns), some (.int ns.length), some (vOrd ns), some (vRows ns), some (.int k), some (ordD o), some (vSums ns), x8, some (vNum abvL ns), x10, some (vNum nblL ns), some (vNum fstL ns), some (vNum lstL ns), some (vDues ns), some (.bl nm), some (vDues ns), some (.int (abvL (SA.rowO ns o))), x18, x19, x20, x21], rfl, bool_of (op_of (x := .int (abvL (SA.rowO ns o))) (y := .int k) rfl rfl (by rw [eq_ap, eqO_int])), fun _ => rfl⟩) (le_lim (fac5 ns.length h5))
  rw [List.nil_append] at q
  have hz : xzip (xvar 3) (xvar 9) [some (.ref 0), some (vRow ns), some (.int ns.length), some (vOrd ns), some (vRows ns), some (.int k), x6, some (vSums ns), x8, some (vNum abvL ns), x10, some (vNum nblL ns), some (vNum fstL ns), some (vNum lstL ns), some (vDues ns), some (.bl nm), some (vDues ns), x17, x18, x19, x20, x21] [m] = .ok ((ords ns.length).map fun o => .tup [ordD o, .int (abvL (SA.rowO ns o))], none) [m] := by
    rw [← zipD_maps, ← iD_nums]; rfl
  have h1 : xcall (f1 tupleD) (xcons (xcomp (xzip (xvar 3) (xvar 9)) [6, 17] (gtup 2 (gcons (gname 6) (gcons (gname 17) gnil))) m_u_law_is_told_t3 (xvar 6)) (xpure [])) [some (.ref 0), some (vRow ns), some (.int ns.length), some (vOrd ns), some (vRows ns), some (.int k), x6, some (vSums ns), x8, some (vNum abvL ns), x10, some (vNum nblL ns), some (vNum fstL ns), some (vNum lstL ns), some (vDues ns), some (.bl nm), some (vDues ns), x17, x18, x19, x20, x21] [m] = .ok (.tup (ordsWith ns k)) [m] := call_of (one_ok (comp_of hz q)) (by rw [f1_ap]; exact tuple_lst _)
  have h2 : xif (xtru (xvar 15)) (xfnK 0 [1, 0] 2 (D_orders_with) (xpure []) (xcons (xvar 5) (xcons (xvar 1) (xpure [])))) (xfn 2 (D_orders_with) (xcons (xvar 1) (xcons (xvar 5) (xpure [])))) [some (.ref 0), some (vRow ns), some (.int ns.length), some (vOrd ns), some (vRows ns), some (.int k), x6, some (vSums ns), x8, some (vNum abvL ns), x10, some (vNum nblL ns), some (vNum fstL ns), some (vNum lstL ns), some (vDues ns), some (.bl nm), some (vDues ns), x17, x18, x19, x20, x21] [m] = .ok (.tup (ordsWith ns k)) [m] := by
    cases nm with
    | true => exact if_t (tru_ok (b := true) rfl) (fnK_of nil_ok (two_ok (x := .int k) (y := vRow ns) rfl rfl) ⟨rfl, rfl⟩ (c_orders_with ns hr h5 k k0 k1))
    | false => exact if_f (tru_ok (b := false) rfl) (fn_of (two_ok (x := vRow ns) (y := .int k) rfl rfl) rfl (c_orders_with ns hr h5 k k0 k1))
  exact sif_f (tnot_ok (b := true) (tru_ok (fn_of (two_ok h2 h1) rfl (c_same _ (ok_with ns h5 k)))))
omit h5 in
theorem row_moved (r : List Int) (h : Row r) : Row (SA.moved id r) := by
  have p := SA.moved_perm id r
  exact ⟨by rw [p.length_eq]; exact h.1, by rw [p.length_eq]; exact h.2.1, fun x hx => h.2.2 x (p.mem_iff.mp hx)⟩
omit hr h5 in
theorem back_len (r : List Int) : (SA.back id r).Perm r := by
  have := SA.moved_perm id (SA.back id r)
  rw [SA.moved_back] at this
  exact this.symm
theorem told_b (nm : Bool) (k : Int) (o : List Nat) (ho : o ∈ ords ns.length) (r : List Int) (er : r = SA.rowO ns o) : m_u_law_is_told_b1 [some (.ref 0), some (vRow ns), some (.int ns.length), some (vOrd ns), some (vRows ns), some (.int k), some (ordD o), some (vSums ns), some (rowD r), some (vNum abvL ns), x10, some (vNum nblL ns), some (vNum fstL ns), some (vNum lstL ns), some (vDues ns), some (.bl nm), some (vDues ns), some (.int (abvL r)), some (.int (fstL r)), some (.int (nblL r)), some (.int (lstL r)), x21] [m] = .nx [some (.ref 0), some (vRow ns), some (.int ns.length), some (vOrd ns), some (vRows ns), some (.int k), some (ordD o), some (vSums ns), some (rowD r), some (vNum abvL ns), x10, some (vNum nblL ns), some (vNum fstL ns), some (vNum lstL ns), some (vDues ns), some (.bl nm), some (vDues ns), some (.int (abvL r)), some (.int (fstL r)), some (.int (nblL r)), some (.int (lstL r)), some (rowD (SA.moved id r))] [m] := by
  have hm : r ∈ rowsO ns := List.mem_map.mpr ⟨o, ho, er.symm⟩
  obtain ⟨rr, rp, rl⟩ := rowsO_row hm hr
  have rm := row_moved ns hr r rr
  have c1 : xbool (xop neD (xcall (f1 sortedD) (xcons (xvar 21) (xpure []))) (xcall (f1 sortedD) (xcons (xvar 1) (xpure [])))) [some (.ref 0), some (vRow ns), some (.int ns.length), some (vOrd ns), some (vRows ns), some (.int k), some (ordD o), some (vSums ns), some (rowD r), some (vNum abvL ns), x10, some (vNum nblL ns), some (vNum fstL ns), some (vNum lstL ns), some (vDues ns), some (.bl nm), some (vDues ns), some (.int (abvL r)), some (.int (fstL r)), some (.int (nblL r)), some (.int (lstL r)), some (rowD (SA.moved id r))] [m] = .ok false [m] := by
    refine bool_of (op_of (call_of (one_ok (x := rowD (SA.moved id r)) rfl) ((congrFun (congrFun (f1_ap _ _) _) _).trans (sorted_int_tup _))) (call_of (one_ok (x := vRow ns) rfl) ((congrFun (congrFun (f1_ap _ _) _) _).trans (sorted_int_tup _))) ?_)
    have es : srt (SA.moved id r) = srt ns := srt_of_perm ((SA.moved_perm id r).trans rp)
    unfold srt at es
    rw [es, ne_ap, eqO_lints]
    simp
  have f1' : callD D_first_highest [rowD (SA.moved id r)] [some (.ref 0), some (vRow ns), some (.int ns.length), some (vOrd ns), some (vRows ns), some (.int k), some (ordD o), some (vSums ns), some (rowD r), some (vNum abvL ns), x10, some (vNum nblL ns), some (vNum fstL ns), some (vNum lstL ns), some (vDues ns), some (.bl nm), some (vDues ns), some (.int (abvL r)), some (.int (fstL r)), some (.int (nblL r)), some (.int (lstL r)), some (rowD (SA.moved id r))] [m] = .ok (.int (abvL r)) [m] := by
    have := c_first (e := [some (.ref 0), some (vRow ns), some (.int ns.length), some (vOrd ns), some (vRows ns), some (.int k), some (ordD o), some (vSums ns), some (rowD r), some (vNum abvL ns), x10, some (vNum nblL ns), some (vNum fstL ns), some (vNum lstL ns), some (vDues ns), some (.bl nm), some (vDues ns), some (.int (abvL r)), some (.int (fstL r)), some (.int (nblL r)), some (.int (lstL r)), some (rowD (SA.moved id r))]) (st := [m]) (SA.moved id r) rm
    rw [show fstL (SA.moved id r) = abvL r from SA.fst_moved id r] at this
    exact this
  have f2' : callD D_moved_back [rowD (SA.moved id r)] [some (.ref 0), some (vRow ns), some (.int ns.length), some (vOrd ns), some (vRows ns), some (.int k), some (ordD o), some (vSums ns), some (rowD r), some (vNum abvL ns), x10, some (vNum nblL ns), some (vNum fstL ns), some (vNum lstL ns), some (vDues ns), some (.bl nm), some (vDues ns), some (.int (abvL r)), some (.int (fstL r)), some (.int (nblL r)), some (.int (lstL r)), some (rowD (SA.moved id r))] [m] = .ok (rowD r) [m] := by
    have := c_moved_back (e := [some (.ref 0), some (vRow ns), some (.int ns.length), some (vOrd ns), some (vRows ns), some (.int k), some (ordD o), some (vSums ns), some (rowD r), some (vNum abvL ns), x10, some (vNum nblL ns), some (vNum fstL ns), some (vNum lstL ns), some (vDues ns), some (.bl nm), some (vDues ns), some (.int (abvL r)), some (.int (fstL r)), some (.int (nblL r)), some (.int (lstL r)), some (rowD (SA.moved id r))]) (st := [m]) (SA.moved id r) rm
    rw [SA.back_moved] at this
    exact this
  have f3' : callD D_in_order [vRow ns, ordD o] [some (.ref 0), some (vRow ns), some (.int ns.length), some (vOrd ns), some (vRows ns), some (.int k), some (ordD o), some (vSums ns), some (rowD r), some (vNum abvL ns), x10, some (vNum nblL ns), some (vNum fstL ns), some (vNum lstL ns), some (vDues ns), some (.bl nm), some (vDues ns), some (.int (abvL r)), some (.int (fstL r)), some (.int (nblL r)), some (.int (lstL r)), some (rowD (SA.moved id r))] [m] = .ok (rowD r) [m] := by
    rw [er]
    exact c_in_order ns hr h5 o ho
  have l1 : xlst (xcons (xfn 1 (D_first_highest) (xcons (xvar 21) (xpure []))) (xcons (xfn 1 (D_moved_back) (xcons (xvar 21) (xpure []))) (xcons (xfn 2 (D_in_order) (xcons (xvar 1) (xcons (xvar 6) (xpure [])))) (xpure [])))) [some (.ref 0), some (vRow ns), some (.int ns.length), some (vOrd ns), some (vRows ns), some (.int k), some (ordD o), some (vSums ns), some (rowD r), some (vNum abvL ns), x10, some (vNum nblL ns), some (vNum fstL ns), some (vNum lstL ns), some (vDues ns), some (.bl nm), some (vDues ns), some (.int (abvL r)), some (.int (fstL r)), some (.int (nblL r)), some (.int (lstL r)), some (rowD (SA.moved id r))] [m] = .ok (.lst [.int (abvL r), rowD r, rowD r]) [m] :=
    lst_ok (cons_ok (fn_of (one_ok (x := rowD (SA.moved id r)) rfl) rfl f1') (cons_ok (fn_of (one_ok (x := rowD (SA.moved id r)) rfl) rfl f2') (one_ok (fn_of (two_ok (x := vRow ns) (y := ordD o) rfl rfl) rfl f3')))) (show 3 ≤ LIM by decide)
  have l2 : xlst (xcons (xvar 17) (xcons (xvar 8) (xcons (xvar 8) (xpure [])))) [some (.ref 0), some (vRow ns), some (.int ns.length), some (vOrd ns), some (vRows ns), some (.int k), some (ordD o), some (vSums ns), some (rowD r), some (vNum abvL ns), x10, some (vNum nblL ns), some (vNum fstL ns), some (vNum lstL ns), some (vDues ns), some (.bl nm), some (vDues ns), some (.int (abvL r)), some (.int (fstL r)), some (.int (nblL r)), some (.int (lstL r)), some (rowD (SA.moved id r))] [m] = .ok (.lst [.int (abvL r), rowD r, rowD r]) [m] := lst_ok (cons_ok (x := .int (abvL r)) rfl (two_ok (x := rowD r) (y := rowD r) rfl rfl)) (show 3 ≤ LIM by decide)
  have lr : r.length ≤ LIM := by have := rr.2.1; simp [LIM]; omega
  have okr : okD 5 (rowD r) = true := ok_row lr
  have oi : ∀ i : Int, okD 5 (.int i) = true := fun _ => rfl
  have c2 : tnot (xtru (xfn 2 (D_u_law_same 6) (xcons (xlst (xcons (xfn 1 (D_first_highest) (xcons (xvar 21) (xpure []))) (xcons (xfn 1 (D_moved_back) (xcons (xvar 21) (xpure []))) (xcons (xfn 2 (D_in_order) (xcons (xvar 1) (xcons (xvar 6) (xpure [])))) (xpure []))))) (xcons (xlst (xcons (xvar 17) (xcons (xvar 8) (xcons (xvar 8) (xpure []))))) (xpure []))))) [some (.ref 0), some (vRow ns), some (.int ns.length), some (vOrd ns), some (vRows ns), some (.int k), some (ordD o), some (vSums ns), some (rowD r), some (vNum abvL ns), x10, some (vNum nblL ns), some (vNum fstL ns), some (vNum lstL ns), some (vDues ns), some (.bl nm), some (vDues ns), some (.int (abvL r)), some (.int (fstL r)), some (.int (nblL r)), some (.int (lstL r)), some (rowD (SA.moved id r))] [m] = .ok false [m] :=
    tnot_ok (b := true) (tru_ok (fn_of (two_ok l1 l2) rfl (c_same _ (okD_lst (show 3 ≤ LIM by decide) (okD_cons (oi _) (okD_cons okr (okD_cons okr okD_nil)))))))
  have g5 : callD D_moved [rowD (SA.back id r)] [some (.ref 0), some (vRow ns), some (.int ns.length), some (vOrd ns), some (vRows ns), some (.int k), some (ordD o), some (vSums ns), some (rowD r), some (vNum abvL ns), x10, some (vNum nblL ns), some (vNum fstL ns), some (vNum lstL ns), some (vDues ns), some (.bl nm), some (vDues ns), some (.int (abvL r)), some (.int (fstL r)), some (.int (nblL r)), some (.int (lstL r)), some (rowD (SA.moved id r))] [m] = .ok (rowD r) [m] := by
    have bp := back_len r
    have := c_moved (e := [some (.ref 0), some (vRow ns), some (.int ns.length), some (vOrd ns), some (vRows ns), some (.int k), some (ordD o), some (vSums ns), some (rowD r), some (vNum abvL ns), x10, some (vNum nblL ns), some (vNum fstL ns), some (vNum lstL ns), some (vDues ns), some (.bl nm), some (vDues ns), some (.int (abvL r)), some (.int (fstL r)), some (.int (nblL r)), some (.int (lstL r)), some (rowD (SA.moved id r))]) (st := [m]) (SA.back id r) ⟨by rw [bp.length_eq]; exact rr.1, by rw [bp.length_eq]; exact rr.2.1, fun x hx => rr.2.2 x (bp.mem_iff.mp hx)⟩
    rw [SA.moved_back] at this
    exact this
  have l3 : xlst (xcons (xfn 1 (D_above) (xcons (xvar 8) (xpure []))) (xcons (xfn 1 (D_first_highest) (xcons (xvar 8) (xpure []))) (xcons (xfn 1 (D_not_below) (xcons (xvar 8) (xpure []))) (xcons (xfn 1 (D_last_highest) (xcons (xvar 8) (xpure []))) (xcons (xfn 1 (D_moved) (xcons (xfn 1 (D_moved_back) (xcons (xvar 8) (xpure []))) (xpure []))) (xpure [])))))) [some (.ref 0), some (vRow ns), some (.int ns.length), some (vOrd ns), some (vRows ns), some (.int k), some (ordD o), some (vSums ns), some (rowD r), some (vNum abvL ns), x10, some (vNum nblL ns), some (vNum fstL ns), some (vNum lstL ns), some (vDues ns), some (.bl nm), some (vDues ns), some (.int (abvL r)), some (.int (fstL r)), some (.int (nblL r)), some (.int (lstL r)), some (rowD (SA.moved id r))] [m] = .ok (.lst [.int (abvL r), .int (fstL r), .int (nblL r), .int (lstL r), rowD r]) [m] :=
    lst_ok (cons_ok (fn_of (one_ok (x := rowD r) rfl) rfl (c_above r rr)) (cons_ok (fn_of (one_ok (x := rowD r) rfl) rfl (c_first r rr)) (cons_ok (fn_of (one_ok (x := rowD r) rfl) rfl (c_not_below r rr)) (two_ok (fn_of (one_ok (x := rowD r) rfl) rfl (c_last r rr)) (fn_of (one_ok (fn_of (one_ok (x := rowD r) rfl) rfl (c_moved_back r rr))) rfl g5))))) (show 5 ≤ LIM by decide)
  have l4 : xlst (xcons (xvar 17) (xcons (xvar 18) (xcons (xvar 19) (xcons (xvar 20) (xcons (xvar 8) (xpure [])))))) [some (.ref 0), some (vRow ns), some (.int ns.length), some (vOrd ns), some (vRows ns), some (.int k), some (ordD o), some (vSums ns), some (rowD r), some (vNum abvL ns), x10, some (vNum nblL ns), some (vNum fstL ns), some (vNum lstL ns), some (vDues ns), some (.bl nm), some (vDues ns), some (.int (abvL r)), some (.int (fstL r)), some (.int (nblL r)), some (.int (lstL r)), some (rowD (SA.moved id r))] [m] = .ok (.lst [.int (abvL r), .int (fstL r), .int (nblL r), .int (lstL r), rowD r]) [m] := lst_ok (cons_ok (x := .int (abvL r)) rfl (cons_ok (x := .int (fstL r)) rfl (cons_ok (x := .int (nblL r)) rfl (two_ok (x := .int (lstL r)) (y := rowD r) rfl rfl)))) (show 5 ≤ LIM by decide)
  have c3 : tnot (xtru (xfn 2 (D_u_law_same 6) (xcons (xlst (xcons (xfn 1 (D_above) (xcons (xvar 8) (xpure []))) (xcons (xfn 1 (D_first_highest) (xcons (xvar 8) (xpure []))) (xcons (xfn 1 (D_not_below) (xcons (xvar 8) (xpure []))) (xcons (xfn 1 (D_last_highest) (xcons (xvar 8) (xpure []))) (xcons (xfn 1 (D_moved) (xcons (xfn 1 (D_moved_back) (xcons (xvar 8) (xpure []))) (xpure []))) (xpure []))))))) (xcons (xlst (xcons (xvar 17) (xcons (xvar 18) (xcons (xvar 19) (xcons (xvar 20) (xcons (xvar 8) (xpure []))))))) (xpure []))))) [some (.ref 0), some (vRow ns), some (.int ns.length), some (vOrd ns), some (vRows ns), some (.int k), some (ordD o), some (vSums ns), some (rowD r), some (vNum abvL ns), x10, some (vNum nblL ns), some (vNum fstL ns), some (vNum lstL ns), some (vDues ns), some (.bl nm), some (vDues ns), some (.int (abvL r)), some (.int (fstL r)), some (.int (nblL r)), some (.int (lstL r)), some (rowD (SA.moved id r))] [m] = .ok false [m] :=
    tnot_ok (b := true) (tru_ok (fn_of (two_ok l3 l4) rfl (c_same _ (okD_lst (show 5 ≤ LIM by decide) (okD_cons (oi _) (okD_cons (oi _) (okD_cons (oi _) (okD_cons (oi _) (okD_cons okr okD_nil)))))))))
  exact seq_of (set_ok (fn_of (one_ok (x := rowD r) rfl) rfl (c_moved r rr))) (seq_of (sif_f ((tor_f c1).trans c2)) (sif_f c3))
theorem told_loop (nm : Bool) (k : Int) (items : List D) : ∀ (os : List (List Nat)) (x6 x8 x17 x18 x19 x20 x21 : Option D), (∀ o ∈ os, o ∈ ords ns.length) → ∃ y6 y8 y17 y18 y19 y20 y21 : Option D, sloop none items (gtup 6 (gcons (gname 6) (gcons (gname 8) (gcons (gname 17) (gcons (gname 18) (gcons (gname 19) (gcons (gname 20) gnil))))))) m_u_law_is_told_b1 (os.map (tD ns)) [some (.ref 0), some (vRow ns), some (.int ns.length), some (vOrd ns), some (vRows ns), some (.int k), x6, some (vSums ns), x8, some (vNum abvL ns), x10, some (vNum nblL ns), some (vNum fstL ns), some (vNum lstL ns), some (vDues ns), some (.bl nm), some (vDues ns), x17, x18, x19, x20, x21] [m] = .nx [some (.ref 0), some (vRow ns), some (.int ns.length), some (vOrd ns), some (vRows ns), some (.int k), y6, some (vSums ns), y8, some (vNum abvL ns), x10, some (vNum nblL ns), some (vNum fstL ns), some (vNum lstL ns), some (vDues ns), some (.bl nm), some (vDues ns), y17, y18, y19, y20, y21] [m]
  | [], x6, x8, x17, x18, x19, x20, x21, _ => ⟨x6, x8, x17, x18, x19, x20, x21, by simp [sloop]⟩
  | o :: os, x6, x8, x17, x18, x19, x20, x21, h => by
    obtain ⟨y6, y8, y17, y18, y19, y20, y21, q⟩ := told_loop nm k items os _ _ _ _ _ _ _ fun o ho => h o (by simp [ho])
    exact ⟨y6, y8, y17, y18, y19, y20, y21, sloop_of rfl rfl (told_b ns hr h5 m x10 x21 nm k o (h o (by simp)) _ rfl) q⟩
theorem told_14 (nm : Bool) (k : Int) : ∃ y6 y8 y17 y18 y19 y20 y21 : Option D, m_u_law_is_told_s14 [some (.ref 0), some (vRow ns), some (.int ns.length), some (vOrd ns), some (vRows ns), some (.int k), x6, some (vSums ns), x8, some (vNum abvL ns), x10, some (vNum nblL ns), some (vNum fstL ns), some (vNum lstL ns), some (vDues ns), some (.bl nm), some (vDues ns), x17, x18, x19, x20, x21] [m] = .nx [some (.ref 0), some (vRow ns), some (.int ns.length), some (vOrd ns), some (vRows ns), some (.int k), y6, some (vSums ns), y8, some (vNum abvL ns), x10, some (vNum nblL ns), some (vNum fstL ns), some (vNum lstL ns), some (vDues ns), some (.bl nm), some (vDues ns), y17, y18, y19, y20, y21] [m] := by
  have fs : [(ords ns.length).map ordD, (rowsO ns).map rowD, iD (nums abvL ns), iD (nums fstL ns), iD (nums nblL ns), iD (nums lstL ns)] = ([ordD, fun o => rowD (SA.rowO ns o), fun o => D.int (abvL (SA.rowO ns o)), fun o => D.int (fstL (SA.rowO ns o)), fun o => D.int (nblL (SA.rowO ns o)), fun o => D.int (lstL (SA.rowO ns o))] : List (List Nat → D)).map fun f => (ords ns.length).map f := by
    rw [rows_map, iD_nums, iD_nums, iD_nums, iD_nums]; rfl
  have hf := fac5 ns.length h5
  have hz : (xlistZip 6 (xcons (xvar 3) (xcons (xvar 4) (xcons (xvar 9) (xcons (xvar 12) (xcons (xvar 11) (xcons (xvar 13) (xpure [])))))))) [some (.ref 0), some (vRow ns), some (.int ns.length), some (vOrd ns), some (vRows ns), some (.int k), x6, some (vSums ns), x8, some (vNum abvL ns), x10, some (vNum nblL ns), some (vNum fstL ns), some (vNum lstL ns), some (vDues ns), some (.bl nm), some (vDues ns), x17, x18, x19, x20, x21] [m] = .ok (.lst ((ords ns.length).map (tD ns))) [m] := by
    unfold xlistZip
    rw [ap_bind]
    have h2 : xcons (xvar 3) (xcons (xvar 4) (xcons (xvar 9) (xcons (xvar 12) (xcons (xvar 11) (xcons (xvar 13) (xpure [])))))) [some (.ref 0), some (vRow ns), some (.int ns.length), some (vOrd ns), some (vRows ns), some (.int k), x6, some (vSums ns), x8, some (vNum abvL ns), x10, some (vNum nblL ns), some (vNum fstL ns), some (vNum lstL ns), some (vDues ns), some (.bl nm), some (vDues ns), x17, x18, x19, x20, x21] [m] = .ok [vOrd ns, vRows ns, vNum abvL ns, vNum fstL ns, vNum nblL ns, vNum lstL ns] [m] := cons_ok rfl (cons_ok rfl (cons_ok rfl (cons_ok rfl (two_ok rfl rfl))))
    rw [h2]
    have h3 : stills [vOrd ns, vRows ns, vNum abvL ns, vNum fstL ns, vNum nblL ns, vNum lstL ns] = some [(ords ns.length).map ordD, (rowsO ns).map rowD, iD (nums abvL ns), iD (nums fstL ns), iD (nums nblL ns), iD (nums lstL ns)] := rfl
    simp only [h3]
    rw [if_pos ⟨rfl, by simp [LIM]; omega, by simp [nums]⟩]
    show RX.ok (D.lst (zipAll ((ords ns.length).map ordD).length _)) [m] = _
    rw [List.length_map, fs, zipAll_maps]
    rfl
  have hw : xwalk (xslice (xlistZip 6 (xcons (xvar 3) (xcons (xvar 4) (xcons (xvar 9) (xcons (xvar 12) (xcons (xvar 11) (xcons (xvar 13) (xpure [])))))))) (xpure none) (xpart (xpure (.int 40)))) [some (.ref 0), some (vRow ns), some (.int ns.length), some (vOrd ns), some (vRows ns), some (.int k), x6, some (vSums ns), x8, some (vNum abvL ns), x10, some (vNum nblL ns), some (vNum fstL ns), some (vNum lstL ns), some (vDues ns), some (.bl nm), some (vDues ns), x17, x18, x19, x20, x21] [m] = .ok (((ords ns.length).take 40).map (tD ns), none) [m] := by
    refine walk_of (d := .lst (((ords ns.length).take 40).map (tD ns))) ?_ rfl
    rw [ap_slice, ap_bind, hz]
    have := cut_to ((ords ns.length).map (tD ns)) 40
    rw [← List.map_take] at this
    rw [← this]
    rfl
  obtain ⟨y6, y8, y17, y18, y19, y20, y21, q⟩ := told_loop ns hr h5 m x10 nm k (((ords ns.length).take 40).map (tD ns)) ((ords ns.length).take 40) x6 x8 x17 x18 x19 x20 x21 fun o ho => List.mem_of_mem_take ho
  exact ⟨y6, y8, y17, y18, y19, y20, y21, for_of hw q⟩
theorem told_15 (nm : Bool) (k : Int) : m_u_law_is_told_s15 [some (.ref 0), some (vRow ns), some (.int ns.length), some (vOrd ns), some (vRows ns), some (.int k), x6, some (vSums ns), x8, some (vNum abvL ns), x10, some (vNum nblL ns), some (vNum fstL ns), some (vNum lstL ns), some (vDues ns), some (.bl nm), some (vDues ns), x17, x18, x19, x20, x21] [m] = .rt (.bl true) [m] := by
  refine ret_ok ?_
  have hl : ltD (.int ns.length) (.int 5) [some (.ref 0), some (vRow ns), some (.int ns.length), some (vOrd ns), some (vRows ns), some (.int k), x6, some (vSums ns), x8, some (vNum abvL ns), x10, some (vNum nblL ns), some (vNum fstL ns), some (vNum lstL ns), some (vDues ns), some (.bl nm), some (vDues ns), x17, x18, x19, x20, x21] [m] = .ok (.bl (decide ((ns.length : Int) < 5))) [m] := rfl
  by_cases h : (ns.length : Int) < 5
  · have h4 : ns.length ≤ 4 := by omega
    have q := cloop_rows (e := [some (.ref 0), some (vRow ns), some (.int ns.length), some (vOrd ns), some (vRows ns), some (.int k), x6, some (vSums ns), none, some (vNum abvL ns), x10, some (vNum nblL ns), some (vNum fstL ns), some (vNum lstL ns), some (vDues ns), some (.bl nm), some (vDues ns), x17, x18, x19, x20, x21]) (st := [m]) (src := none) (items := (rowsO ns).map rowD) (gt := gname 8) (mt := xpure true) (me := m_u_law_is_told_e8) rowD (fun _ => true) (fun r => rowD (SA.moved id r)) rfl (rowsO ns) [] (fun r hm => ⟨[some (.ref 0), some (vRow ns), some (.int ns.length), some (vOrd ns), some (vRows ns), some (.int k), x6, some (vSums ns), some (rowD r), some (vNum abvL ns), x10, some (vNum nblL ns), some (vNum fstL ns), some (vNum lstL ns), some (vDues ns), some (.bl nm), some (vDues ns), x17, x18, x19, x20, x21], rfl, rfl, fun _ => fn_of (one_ok (x := rowD r) rfl) rfl (c_moved r (rowsO_row hm hr).1)⟩) (le_lim (rowsO_len ns h5))
    rw [filter_yes, List.nil_append] at q
    have few : (rowsO ns).length < 64 := by simp; have := fac4 ns.length h4; omega
    have d1 : xlenSet (xcomp (xwalk (xvar 4)) [8] (gname 8) (xpure true) m_u_law_is_told_e8) [some (.ref 0), some (vRow ns), some (.int ns.length), some (vOrd ns), some (vRows ns), some (.int k), x6, some (vSums ns), x8, some (vNum abvL ns), x10, some (vNum nblL ns), some (vNum fstL ns), some (vNum lstL ns), some (vDues ns), some (.bl nm), some (vDues ns), x17, x18, x19, x20, x21] [m] = .ok (.int (ndist (rowsO ns))) [m] := by
      unfold xlenSet
      rw [ap_bind, comp_of (walk_of (d := vRows ns) rfl rfl) q]
      have e1 : ((rowsO ns).map fun r => rowD (SA.moved id r)) = ((rowsO ns).map (SA.moved id)).map rowD := by simp only [List.map_map]; rfl
      simp only [listOf, lstOf]
      rw [e1, ptsOf_rows]
      simp only [List.length_map]
      rw [if_pos (by simpa using few), ndist_inj _ _ fun a _ b _ h => SA.moved_inj id h]
    have d2 : xlenSet (xvar 4) [some (.ref 0), some (vRow ns), some (.int ns.length), some (vOrd ns), some (vRows ns), some (.int k), x6, some (vSums ns), x8, some (vNum abvL ns), x10, some (vNum nblL ns), some (vNum fstL ns), some (vNum lstL ns), some (vDues ns), some (.bl nm), some (vDues ns), x17, x18, x19, x20, x21] [m] = .ok (.int (ndist (rowsO ns))) [m] := by
      unfold xlenSet
      have hv : xvar 4 [some (.ref 0), some (vRow ns), some (.int ns.length), some (vOrd ns), some (vRows ns), some (.int k), x6, some (vSums ns), x8, some (vNum abvL ns), x10, some (vNum nblL ns), some (vNum fstL ns), some (vNum lstL ns), some (vDues ns), some (.bl nm), some (vDues ns), x17, x18, x19, x20, x21] [m] = .ok (vRows ns) [m] := rfl
      rw [ap_bind, hv]
      simp only [listOf, lstOf]
      rw [ptsOf_rows]
      simp only
      rw [if_pos few]
    refine if_t (bool_of ((op_of rfl rfl hl).trans (by rw [decide_eq_true h]))) (op_of d1 d2 ?_)
    rw [eq_ap, eqO_int]
    simp
  · exact if_f (bool_of ((op_of rfl rfl hl).trans (by rw [decide_eq_false h]))) rfl
end
end LS
end
section
set_option maxRecDepth 100000
set_option maxHeartbeats 4000000
namespace LS
open PySem PySem.Spec L2
variable {e : Nv} {st : Store}
theorem is_told_ok (ns : List Int) (hr : Row ns) (h5 : ns.length ≤ 5) (m : MO) (hm : Wl m) : ∃ m', Wl m' ∧ ∀ e : Nv, callD D_u_law_is_told [.ref 0, .tup (iD ns)] e [m] = .ok (.bl true) [m'] := by
  obtain ⟨d, m1, w1, d0, d1, q1⟩ := c_draw m hm 2 (by decide) (by decide)
  obtain ⟨k, m2, w2, k0, k1, q2⟩ := c_draw m1 w1 ((ns.length : Int) + 1) (by omega) (by have := hr.2.1; omega)
  refine ⟨m2, w2, fun e => callD1 (i := 0) rfl (by simp [argG, refsB]) rfl hm.mo (runF_w (st := []) (?_ : m_u_law_is_told [some (.ref 0), some (vRow ns), none, none, none, none, none, none, none, none, none, none, none, none, none, none, none, none, none, none, none, none] [m] = .rt (.bl true) (m2 :: [])) w2 rfl) w2.mo rfl⟩
  have s8 : ∀ (e : Nv), e[0]? = some (some (.ref 0)) → m_u_law_is_told_s8 e [m] = .nx (e.set 15 (some (.bl (decide (d = 0))))) [m1] := fun e he => by
    have h0 : xvar 0 e [m] = .ok (.ref 0) [m] := by rw [ap_var, he]
    exact set_ok (op_of (fn_of (two_ok h0 rfl) rfl (q1 e [])) rfl (by rw [eq_ap, eqO_int]))
  have s12 : ∀ (e : Nv), e[0]? = some (some (.ref 0)) → e[2]? = some (some (.int ns.length)) → m_u_law_is_told_s12 e [m1] = .nx (e.set 5 (some (.int k))) [m2] := fun e he h2 => by
    have h0 : xvar 0 e [m1] = .ok (.ref 0) [m1] := by rw [ap_var, he]
    have h3 : xop addD (xvar 2) (xpure (.int 1)) e [m1] = .ok (.int ((ns.length : Int) + 1)) [m1] := op_of (x := .int ns.length) (y := .int 1) (by rw [ap_var, h2]) rfl rfl
    exact set_ok (fn_of (two_ok h0 h3) rfl (q2 e []))
  obtain ⟨y6, y8, y17, y18, y19, y20, y21, q14⟩ := told_14 ns hr h5 m2 none none none none none none none none (decide (d = 0)) k
  unfold m_u_law_is_told
  exact seq_of (told_1 ns hr h5 m ..) (seq_of (told_2 ns hr h5 m ..) (seq_of (told_3 ns hr h5 m ..) (seq_of (told_4 ns hr h5 m ..) (seq_of (told_5 ns hr h5 m ..) (seq_of (told_6 ns hr h5 m ..) (seq_of (told_7 ns hr h5 m ..) (seq_of (s8 _ rfl) (seq_of (told_9 ns hr h5 m1 ..) (seq_of (told_10 ns hr h5 m1 ..) (seq_of (told_11 ns hr h5 m1 ..) (seq_of (s12 _ rfl rfl) (seq_of (told_13 ns hr h5 m2 (k0 := k0) (k1 := by omega) ..) (seq_of q14 (told_15 ns hr h5 m2 ..))))))))))))))
theorem right_turn (m : MO) (hm : Wl m) (n : Int) (h1 : 1 ≤ n) (h5 : n ≤ 5) (x2 x3 x4 : Option D) : ∃ m', Wl m' ∧ m_u_law_right_b1 [some (.ref 0), some (.int n), x2, x3, x4] [m] = .nx [some (.ref 0), some (.int n), x2, x3, x4] [m'] := by
  obtain ⟨ns, m1, w1, l1, l5, hb, q1⟩ := c_law_row m hm n h1 h5
  obtain ⟨m2, w2, q2⟩ := is_told_ok ns ⟨l1, by omega, hb⟩ (by omega) m1 w1
  exact ⟨m2, w2, sif_f (tnot_ok (b := true) (tru_ok (fn_of (two_ok (x := .ref 0) rfl (fn_of (two_ok (x := .ref 0) (y := .int n) rfl rfl) rfl (q1 _))) rfl (q2 _))))⟩
theorem right_loop (items : List D) (x2 x3 x4 : Option D) : ∀ (ns : List Int) (m : MO) (x1 : Option D), Wl m → (∀ n ∈ ns, 1 ≤ n ∧ n ≤ 5) → ∃ (m' : MO) (y : Option D), Wl m' ∧ sloop none items (gname 1) m_u_law_right_b1 (ns.map D.int) [some (.ref 0), x1, x2, x3, x4] [m] = .nx [some (.ref 0), y, x2, x3, x4] [m']
  | [], m, x1, w, _ => ⟨m, x1, w, by simp [sloop]⟩
  | n :: r, m, x1, w, h => by
    obtain ⟨m1, w1, q⟩ := right_turn m w n (h n (by simp)).1 (h n (by simp)).2 x2 x3 x4
    obtain ⟨m2, y, w2, q2⟩ := right_loop items x2 x3 x4 r m1 (some (.int n)) w1 fun k hk => h k (by simp [hk])
    exact ⟨m2, y, w2, sloop_of rfl rfl q q2⟩
/-! ## the last rows -/
theorem srt_day : srt [1, -2, 3] = [-2, 1, 3] := by
  refine perm_sorted (le := fun a b => decide (a ≤ b)) (fun x _ y _ a b => by simp at a b; omega) ((srt_perm _).trans (by decide)) ?_ (by decide)
  exact (srt_up _).imp fun h => by simpa using h
theorem d_day1 : cnts 3 (nums abvL [1, -2, 3]) = [0, 1, 2, 3] := by decide +kernel
theorem d_day2 : cnts 3 (nums fstL [1, -2, 3]) = [0, 1, 2, 3] := by decide +kernel
theorem d_duel1 : cnts 3 (nums nblL [1, 1, -1]) = [0, 0, 2, 4] := by decide +kernel
theorem d_duel2 : cnts 3 (nums lstL [1, 1, -1]) = [0, 0, 2, 4] := by decide +kernel
theorem d_with : ordsWith [1, -2] 1 = [.tup [.int 0, .int 1]] := by kernel_rfl
theorem d_moved : SA.moved id [1, -2, 3] = [(3 : Int), 1, -2] := by decide +kernel
theorem d_back : SA.back id [3, 1, -2] = [(1 : Int), -2, 3] := by decide +kernel
theorem d_most : abvL (srt [1, -2, 3]).reverse = 3 := by rw [srt_day]; decide +kernel
theorem d_least : abvL (srt [1, -2, 3]) = 1 := by rw [srt_day]; decide +kernel
def vDay : D := .tup (iD [1, -2, 3])
def vDuel : D := .tup (iD [1, 1, -1])
def vTold : D := .lst [.tup (iD [0, 1, 2, 3]), .tup (iD [0, 1, 2, 3]), .tup (iD [0, 0, 2, 4]), .tup (iD [0, 0, 2, 4]), .tup [.tup [.int 0, .int 1]], .tup (iD [3, 1, -2]), vDay, .int 3, .int 1]
theorem row_day : Row [1, -2, 3] := ⟨by decide, by decide, by decide⟩
theorem row_duel : Row [1, 1, -1] := ⟨by decide, by decide, by decide⟩
theorem row_two : Row [1, -2] := ⟨by decide, by decide, by decide⟩
theorem row_back : Row [3, 1, -2] := ⟨by decide, by decide, by decide⟩

theorem right_3 (y : Option D) (m : MO) : (sset 4 (xlst (xcons (xfn 1 (D_orders_above) (xcons (xvar 2) (xpure []))) (xcons (xfn 1 (D_orders_first) (xcons (xvar 2) (xpure []))) (xcons (xfn 1 (D_orders_not_below) (xcons (xvar 3) (xpure []))) (xcons (xfn 1 (D_orders_last) (xcons (xvar 3) (xpure []))) (xcons (xfn 2 (D_orders_with) (xcons (xtup (xcons (xpure (.int 1)) (xcons (xneg (xpure (.int 2))) (xpure [])))) (xcons (xpure (.int 1)) (xpure [])))) (xcons (xfn 1 (D_moved) (xcons (xvar 2) (xpure []))) (xcons (xfn 1 (D_moved_back) (xcons (xtup (xcons (xpure (.int 3)) (xcons (xpure (.int 1)) (xcons (xneg (xpure (.int 2))) (xpure []))))) (xpure []))) (xcons (xfn 1 (D_most_above) (xcons (xvar 2) (xpure []))) (xcons (xfn 1 (D_least_above) (xcons (xvar 2) (xpure []))) (xpure [])))))))))))) [some (.ref 0), y, some vDay, some vDuel, none] [m] = .nx [some (.ref 0), y, some vDay, some vDuel, some vTold] [m] := by
  have a1 : callD D_orders_above [vDay] [some (.ref 0), y, some vDay, some vDuel, none] [m] = .ok (.tup (iD [0, 1, 2, 3])) [m] := by
    have := c_orders_above (e := [some (.ref 0), y, some vDay, some vDuel, none]) (st := [m]) [1, -2, 3] row_day (by decide)
    rw [show ([1, -2, 3] : List Int).length = 3 from rfl, d_day1] at this
    exact this
  have a2 : callD D_orders_first [vDay] [some (.ref 0), y, some vDay, some vDuel, none] [m] = .ok (.tup (iD [0, 1, 2, 3])) [m] := by
    have := c_orders_first (e := [some (.ref 0), y, some vDay, some vDuel, none]) (st := [m]) [1, -2, 3] row_day (by decide)
    rw [show ([1, -2, 3] : List Int).length = 3 from rfl, d_day2] at this
    exact this
  have a3 : callD D_orders_not_below [vDuel] [some (.ref 0), y, some vDay, some vDuel, none] [m] = .ok (.tup (iD [0, 0, 2, 4])) [m] := by
    have := c_orders_not_below (e := [some (.ref 0), y, some vDay, some vDuel, none]) (st := [m]) [1, 1, -1] row_duel (by decide)
    rw [show ([1, 1, -1] : List Int).length = 3 from rfl, d_duel1] at this
    exact this
  have a4 : callD D_orders_last [vDuel] [some (.ref 0), y, some vDay, some vDuel, none] [m] = .ok (.tup (iD [0, 0, 2, 4])) [m] := by
    have := c_orders_last (e := [some (.ref 0), y, some vDay, some vDuel, none]) (st := [m]) [1, 1, -1] row_duel (by decide)
    rw [show ([1, 1, -1] : List Int).length = 3 from rfl, d_duel2] at this
    exact this
  have a5 : callD D_orders_with [.tup (iD [1, -2]), .int 1] [some (.ref 0), y, some vDay, some vDuel, none] [m] = .ok (.tup [.tup [.int 0, .int 1]]) [m] := by
    have := c_orders_with (e := [some (.ref 0), y, some vDay, some vDuel, none]) (st := [m]) [1, -2] row_two (by decide) 1 (by decide) (by decide)
    rw [d_with] at this
    exact this
  have a6 : callD D_moved [vDay] [some (.ref 0), y, some vDay, some vDuel, none] [m] = .ok (.tup (iD [3, 1, -2])) [m] := by
    have := c_moved (e := [some (.ref 0), y, some vDay, some vDuel, none]) (st := [m]) [1, -2, 3] row_day
    rw [d_moved] at this
    exact this
  have a7 : callD D_moved_back [.tup (iD [3, 1, -2])] [some (.ref 0), y, some vDay, some vDuel, none] [m] = .ok vDay [m] := by
    have := c_moved_back (e := [some (.ref 0), y, some vDay, some vDuel, none]) (st := [m]) [3, 1, -2] row_back
    rw [d_back] at this
    exact this
  have a8 : callD D_most_above [vDay] [some (.ref 0), y, some vDay, some vDuel, none] [m] = .ok (.int 3) [m] := by
    have := c_most (e := [some (.ref 0), y, some vDay, some vDuel, none]) (st := [m]) [1, -2, 3] row_day
    rw [d_most] at this
    exact this
  have a9 : callD D_least_above [vDay] [some (.ref 0), y, some vDay, some vDuel, none] [m] = .ok (.int 1) [m] := by
    have := c_least (e := [some (.ref 0), y, some vDay, some vDuel, none]) (st := [m]) [1, -2, 3] row_day
    rw [d_least] at this
    exact this
  have two : xtup (xcons (xpure (.int 1)) (xcons (xneg (xpure (.int 2))) (xpure []))) [some (.ref 0), y, some vDay, some vDuel, none] [m] = .ok (.tup (iD [1, -2])) [m] := tup_ok (two_ok rfl rfl) (show 2 ≤ LIM by decide)
  have bk : xtup (xcons (xpure (.int 3)) (xcons (xpure (.int 1)) (xcons (xneg (xpure (.int 2))) (xpure [])))) [some (.ref 0), y, some vDay, some vDuel, none] [m] = .ok (.tup (iD [3, 1, -2])) [m] := tup_ok (cons_ok rfl (two_ok rfl rfl)) (show 3 ≤ LIM by decide)
  refine set_ok (lst_ok (cons_ok (fn_of (one_ok (x := vDay) rfl) rfl a1) (cons_ok (fn_of (one_ok (x := vDay) rfl) rfl a2) (cons_ok (fn_of (one_ok (x := vDuel) rfl) rfl a3) (cons_ok (fn_of (one_ok (x := vDuel) rfl) rfl a4) (cons_ok (fn_of (two_ok two rfl) rfl a5) (cons_ok (fn_of (one_ok (x := vDay) rfl) rfl a6) (cons_ok (fn_of (one_ok bk) rfl a7) (two_ok (fn_of (one_ok (x := vDay) rfl) rfl a8) (fn_of (one_ok (x := vDay) rfl) rfl a9))))))))) (show 9 ≤ LIM by decide))
theorem right_4 (y : Option D) (m : MO) : (sret (xfn 2 (D_u_law_same 6) (xcons (xvar 4) (xcons (xlst (xcons (xtup (xcons (xpure (.int 0)) (xcons (xpure (.int 1)) (xcons (xpure (.int 2)) (xcons (xpure (.int 3)) (xpure [])))))) (xcons (xtup (xcons (xpure (.int 0)) (xcons (xpure (.int 1)) (xcons (xpure (.int 2)) (xcons (xpure (.int 3)) (xpure [])))))) (xcons (xtup (xcons (xpure (.int 0)) (xcons (xpure (.int 0)) (xcons (xpure (.int 2)) (xcons (xpure (.int 4)) (xpure [])))))) (xcons (xtup (xcons (xpure (.int 0)) (xcons (xpure (.int 0)) (xcons (xpure (.int 2)) (xcons (xpure (.int 4)) (xpure [])))))) (xcons (xtup (xcons (xtup (xcons (xpure (.int 0)) (xcons (xpure (.int 1)) (xpure [])))) (xpure []))) (xcons (xtup (xcons (xpure (.int 3)) (xcons (xpure (.int 1)) (xcons (xneg (xpure (.int 2))) (xpure []))))) (xcons (xvar 2) (xcons (xpure (.int 3)) (xcons (xpure (.int 1)) (xpure []))))))))))) (xpure []))))) [some (.ref 0), y, some vDay, some vDuel, some vTold] [m] = .rt (.bl true) [m] := by
  have t4 : ∀ a b c d : Int, xtup (xcons (xpure (.int a)) (xcons (xpure (.int b)) (xcons (xpure (.int c)) (xcons (xpure (.int d)) (xpure []))))) [some (.ref 0), y, some vDay, some vDuel, some vTold] [m] = .ok (.tup (iD [a, b, c, d])) [m] := fun _ _ _ _ => tup_ok (cons_ok rfl (cons_ok rfl (two_ok rfl rfl))) (show 4 ≤ LIM by decide)
  have bk : xtup (xcons (xpure (.int 3)) (xcons (xpure (.int 1)) (xcons (xneg (xpure (.int 2))) (xpure [])))) [some (.ref 0), y, some vDay, some vDuel, some vTold] [m] = .ok (.tup (iD [3, 1, -2])) [m] := tup_ok (cons_ok rfl (two_ok rfl rfl)) (show 3 ≤ LIM by decide)
  have one : xtup (xcons (xtup (xcons (xpure (.int 0)) (xcons (xpure (.int 1)) (xpure [])))) (xpure [])) [some (.ref 0), y, some vDay, some vDuel, some vTold] [m] = .ok (.tup [.tup [.int 0, .int 1]]) [m] := tup_ok (one_ok (tup_ok (two_ok rfl rfl) (show 2 ≤ LIM by decide))) (show 1 ≤ LIM by decide)
  refine ret_ok (fn_of (two_ok (x := vTold) (y := vTold) rfl (lst_ok (cons_ok (t4 0 1 2 3) (cons_ok (t4 0 1 2 3) (cons_ok (t4 0 0 2 4) (cons_ok (t4 0 0 2 4) (cons_ok one (cons_ok bk (cons_ok (x := vDay) rfl (two_ok rfl rfl)))))))) (show 9 ≤ LIM by decide))) rfl (c_same _ (by kernel_rfl)))
theorem right_2 (y : Option D) (m : MO) : (sasg (xtup (xcons (xtup (xcons (xpure (.int 1)) (xcons (xneg (xpure (.int 2))) (xcons (xpure (.int 3)) (xpure []))))) (xcons (xtup (xcons (xpure (.int 1)) (xcons (xpure (.int 1)) (xcons (xneg (xpure (.int 1))) (xpure []))))) (xpure [])))) (gtup 2 (gcons (gname 2) (gcons (gname 3) gnil)))) [some (.ref 0), y, none, none, none] [m] = .nx [some (.ref 0), y, some vDay, some vDuel, none] [m] := by
  have p : ∀ a b c : Int, ∀ mb mc : XM D, mb [some (.ref 0), y, none, none, none] [m] = .ok (.int b) [m] → mc [some (.ref 0), y, none, none, none] [m] = .ok (.int c) [m] → xtup (xcons (xpure (.int a)) (xcons mb (xcons mc (xpure [])))) [some (.ref 0), y, none, none, none] [m] = .ok (.tup (iD [a, b, c])) [m] := fun _ _ _ _ _ hb hc => tup_ok (cons_ok rfl (two_ok hb hc)) (show 3 ≤ LIM by decide)
  exact asg_ok (tup_ok (two_ok (p 1 (-2) 3 _ _ rfl rfl) (p 1 1 (-1) _ _ rfl rfl)) (show 2 ≤ LIM by decide)) rfl
theorem right_ok (m : MO) (hm : Wl m) : ∃ m', Wl m' ∧ D_u_law_right [m] [.ref 0] = .ok (.bl true) [m'] := by
  obtain ⟨m1, y, w1, q⟩ := right_loop [.int 1, .int 3, .int 4, .int 5] none none none [1, 3, 4, 5] m none hm (by decide)
  refine ⟨m1, w1, runF_w (st := []) (?_ : m_u_law_right [some (.ref 0), none, none, none, none] [m] = _) w1 rfl⟩
  unfold m_u_law_right
  refine seq_of (for_of (walk_of (lst_ok (cons_ok rfl (cons_ok rfl (two_ok rfl rfl))) (show 4 ≤ LIM by decide)) rfl) q) (seq_of (right_2 y m1) (seq_of (right_3 y m1) (right_4 y m1)))
theorem law_turn (ns : List Int) (hn : ns.length ≤ 63) (lap : Nat) (st : Store) : ∃ st2, m_law_b1 [some (.sq (iD ns)), some (.int (0 + (lap : Int)))] st = .nx [some (.sq (iD ns)), some (.int (0 + (lap : Int)))] st2 := by
  obtain ⟨m, w, q⟩ := c_pool ns (0 + (lap : Int)) (by omega) hn
  obtain ⟨m', w', q'⟩ := right_ok m w
  have h1 : ∀ e : Nv, callD D_u_law_right [.ref st.length] e (st ++ [m]) = .ok (.bl true) ((st ++ [m]).set st.length m') := fun e => callD1 (i := st.length) rfl (by simp [argG]) (by simp) w.mo q' w'.mo rfl
  refine ⟨(st ++ [m]).set st.length m', ?_⟩
  unfold m_law_b1
  refine sif_f (tnot_ok (b := true) (tru_ok ?_))
  rw [ap_fn, ap_cons, ap_bind, ap_fn]
  have h2 : (xcons (xvar 0) (xcons (xvar 1) (xpure []))) [some (.sq (iD ns)), some (.int (0 + (lap : Int)))] st = .ok [.sq (iD ns), .int (0 + (lap : Int))] st := by simp
  rw [h2]
  simp only [List.length_cons, List.length_nil, Nat.zero_add, if_true]
  rw [q]
  exact h1 [some (.sq (iD ns)), some (.int (0 + (lap : Int)))]
theorem law_ok (ns : List Int) (hn : ns.length ≤ 63) : D_law [] [.sq (iD ns)] = .ok (.bl true) [] := by
  obtain ⟨n, hn3, en⟩ : ∃ n : Nat, n ≤ 3 ∧ max (2 : Int) (min (ns.length : Int) 3) = (n : Int) := ⟨(max (2 : Int) (min (ns.length : Int) 3)).toNat, by omega, by omega⟩
  obtain ⟨e', st', q, y, he⟩ := sloop_inv (src := none) (items := rangeL 0 n) (gt := gname 1) (body := m_law_b1) (fun e _ => ∃ y, e = [some (.sq (iD ns)), y]) (fun _ _ _ => rfl) (rangeL 0 n) (by
    intro x hx e st ⟨y, he⟩
    subst he
    obtain ⟨i, hi, rfl⟩ := mem_rangeL hx
    obtain ⟨st2, q⟩ := law_turn ns hn i st
    exact ⟨_, _, rfl, _, st2, .inl q, _, rfl⟩) [some (.sq (iD ns)), none] [] ⟨_, rfl⟩
  refine runF_rt (st' := st') (d := .bl true) ?_ rfl
  show m_law [some (.sq (iD ns)), none] [] = _
  unfold m_law
  have rg : rngB (n : Int) = true := rngB_of (by omega) (by omega)
  have h1 : xrange1 (xcall (f2 max2D) (xcons (xpure (.int 2)) (xcons (xcall (f2 min2D) (xcons (xcall (f1 lenD) (xcons (xvar 0) (xpure []))) (xcons (xpure (.int 3)) (xpure [])))) (xpure [])))) [some (.sq (iD ns)), none] [] = .ok (rangeL 0 n, none) [] := by
    simp [en, rg]
  have h2 : sfor (xrange1 (xcall (f2 max2D) (xcons (xpure (.int 2)) (xcons (xcall (f2 min2D) (xcons (xcall (f1 lenD) (xcons (xvar 0) (xpure []))) (xcons (xpure (.int 3)) (xpure [])))) (xpure []))))) (gname 1) m_law_b1 [some (.sq (iD ns)), none] [] = .nx e' st' := by
    rw [ap_for, h1]
    exact q
  rw [seq_nx h2]
  rfl
end LS
end
section
namespace HD
open PySem PySem.Spec PyProof.Rows L2
theorem facts {P : Program} {w : World} {K : PySem.W.Frag} {h : Heap} {mg : Str → Option Value} (X : K.In h) (G : h.Ns mainGlobals mg) (c : He.SaysD fa fn K) (cx : (fx.all fun f => f K) = true) (base : Heap) : LS.GF ⟨P, w, K, mg, base⟩ where
    b_abs := He.free_ok X G (c.fact 56 (f := .free "abs") rfl)
    b_all := He.free_ok X G (c.fact 57 (f := .free "all") rfl)
    b_bool := He.free_ok X G (c.fact 58 (f := .free "bool") rfl)
    b_divmod := He.free_ok X G (c.fact 59 (f := .free "divmod") rfl)
    b_enumerate := He.free_ok X G (c.fact 60 (f := .free "enumerate") rfl)
    b_int := He.free_ok X G (c.fact 61 (f := .free "int") rfl)
    b_isinstance := He.free_ok X G (c.fact 62 (f := .free "isinstance") rfl)
    b_len := He.free_ok X G (c.fact 63 (f := .free "len") rfl)
    b_list := He.free_ok X G (c.fact 64 (f := .free "list") rfl)
    b_max := He.free_ok X G (c.fact 65 (f := .free "max") rfl)
    b_min := He.free_ok X G (c.fact 66 (f := .free "min") rfl)
    b_range := He.free_ok X G (c.fact 67 (f := .free "range") rfl)
    b_set := He.free_ok X G (c.fact 68 (f := .free "set") rfl)
    b_sorted := He.free_ok X G (c.fact 69 (f := .free "sorted") rfl)
    b_str := He.free_ok X G (c.fact 70 (f := .free "str") rfl)
    b_sum := He.free_ok X G (c.fact 71 (f := .free "sum") rfl)
    b_tuple := He.free_ok X G (c.fact 72 (f := .free "tuple") rfl)
    b_zip := He.free_ok X G (c.fact 73 (f := .free "zip") rfl)
    c_MOST_NUMBERS := He.int_ok X G (c.fact 74 (f := .int "MOST_NUMBERS" (8)) rfl)
    c_MOST_ORDERED := He.int_ok X G (c.fact 76 (f := .int "MOST_ORDERED" (6)) rfl)
    c_MOST_SIZE := He.int_ok X G (c.fact 75 (f := .int "MOST_SIZE" (9)) rfl)
    v_permutations := PySem.W.mg_of X G (He.eqO_ok (List.all_eq_true.mp cx _ (List.mem_of_getElem? (show fx[0]? = some _ from rfl))))
    d_u_law_orders := let ⟨fd, F⟩ := c.def_ 51 (d := df "_law_orders" 68) rfl; ⟨_, fd, He.glo_ok X G (c.fact 51 (f := .glo "_law_orders") rfl), F⟩
    d_u_law_sums := let ⟨fd, F⟩ := c.def_ 50 (d := df "_law_sums" 67) rfl; ⟨_, fd, He.glo_ok X G (c.fact 50 (f := .glo "_law_sums") rfl), F⟩
    d_u_law_counts := let ⟨fd, F⟩ := c.def_ 52 (d := df "_law_counts" 69) rfl; ⟨_, fd, He.glo_ok X G (c.fact 52 (f := .glo "_law_counts") rfl), F⟩
    d_u_law_draw := let ⟨fd, F⟩ := c.def_ 46 (d := df "_law_draw" 63) rfl; ⟨_, fd, He.glo_ok X G (c.fact 46 (f := .glo "_law_draw") rfl), F⟩
    d_is_whole := let ⟨fd, F⟩ := c.def_ 0 (d := df "is_whole" 8) rfl; ⟨_, fd, He.glo_ok X G (c.fact 0 (f := .glo "is_whole") rfl), F⟩
    d_is_between := let ⟨fd, F⟩ := c.def_ 1 (d := df "is_between" 9) rfl; ⟨_, fd, He.glo_ok X G (c.fact 1 (f := .glo "is_between") rfl), F⟩
    d_is_number := let ⟨fd, F⟩ := c.def_ 3 (d := df "is_number" 14) rfl; ⟨_, fd, He.glo_ok X G (c.fact 3 (f := .glo "is_number") rfl), F⟩
    d_wrong_in_row := let ⟨fd, F⟩ := c.def_ 4 (d := df "wrong_in_row" 15) rfl; ⟨_, fd, He.glo_ok X G (c.fact 4 (f := .glo "wrong_in_row") rfl), F⟩
    d_check_row := let ⟨fd, F⟩ := c.def_ 18 (d := df "check_row" 30) rfl; ⟨_, fd, He.glo_ok X G (c.fact 18 (f := .glo "check_row") rfl), F⟩
    d_check_few := let ⟨fd, F⟩ := c.def_ 21 (d := df "check_few" 33) rfl; ⟨_, fd, He.glo_ok X G (c.fact 21 (f := .glo "check_few") rfl), F⟩
    d_check_few_numbers := let ⟨fd, F⟩ := c.def_ 30 (d := df "check_few_numbers" 45) rfl; ⟨_, fd, He.glo_ok X G (c.fact 30 (f := .glo "check_few_numbers") rfl), F⟩
    d_counted := let ⟨fd, F⟩ := c.def_ 24 (d := df "counted" 37) rfl; ⟨_, fd, He.glo_ok X G (c.fact 24 (f := .glo "counted") rfl), F⟩
    d_all_orders := let ⟨fd, F⟩ := c.def_ 22 (d := df "all_orders" 35) rfl; ⟨_, fd, He.glo_ok X G (c.fact 22 (f := .glo "all_orders") rfl), F⟩
    d_in_order_by := let ⟨fd, F⟩ := c.def_ 13 (d := df "in_order_by" 24) rfl; ⟨_, fd, He.glo_ok X G (c.fact 13 (f := .glo "in_order_by") rfl), F⟩
    d_all_in_order := let ⟨fd, F⟩ := c.def_ 23 (d := df "all_in_order" 36) rfl; ⟨_, fd, He.glo_ok X G (c.fact 23 (f := .glo "all_in_order") rfl), F⟩
    d_sums_by := let ⟨fd, F⟩ := c.def_ 6 (d := df "sums_by" 17) rfl; ⟨_, fd, He.glo_ok X G (c.fact 6 (f := .glo "sums_by") rfl), F⟩
    d_above_by := let ⟨fd, F⟩ := c.def_ 7 (d := df "above_by" 18) rfl; ⟨_, fd, He.glo_ok X G (c.fact 7 (f := .glo "above_by") rfl), F⟩
    d_orders_above_by := let ⟨fd, F⟩ := c.def_ 25 (d := df "orders_above_by" 38) rfl; ⟨_, fd, He.glo_ok X G (c.fact 25 (f := .glo "orders_above_by") rfl), F⟩
    d_orders_above := let ⟨fd, F⟩ := c.def_ 31 (d := df "orders_above" 46) rfl; ⟨_, fd, He.glo_ok X G (c.fact 31 (f := .glo "orders_above") rfl), F⟩
    d_places_with := let ⟨fd, F⟩ := c.def_ 10 (d := df "places_with" 21) rfl; ⟨_, fd, He.glo_ok X G (c.fact 10 (f := .glo "places_with") rfl), F⟩
    d_highest_by := let ⟨fd, F⟩ := c.def_ 9 (d := df "highest_by" 20) rfl; ⟨_, fd, He.glo_ok X G (c.fact 9 (f := .glo "highest_by") rfl), F⟩
    d_first_highest_by := let ⟨fd, F⟩ := c.def_ 11 (d := df "first_highest_by" 22) rfl; ⟨_, fd, He.glo_ok X G (c.fact 11 (f := .glo "first_highest_by") rfl), F⟩
    d_orders_first_by := let ⟨fd, F⟩ := c.def_ 27 (d := df "orders_first_by" 40) rfl; ⟨_, fd, He.glo_ok X G (c.fact 27 (f := .glo "orders_first_by") rfl), F⟩
    d_orders_first := let ⟨fd, F⟩ := c.def_ 33 (d := df "orders_first" 48) rfl; ⟨_, fd, He.glo_ok X G (c.fact 33 (f := .glo "orders_first") rfl), F⟩
    d_not_below_by := let ⟨fd, F⟩ := c.def_ 8 (d := df "not_below_by" 19) rfl; ⟨_, fd, He.glo_ok X G (c.fact 8 (f := .glo "not_below_by") rfl), F⟩
    d_orders_not_below_by := let ⟨fd, F⟩ := c.def_ 26 (d := df "orders_not_below_by" 39) rfl; ⟨_, fd, He.glo_ok X G (c.fact 26 (f := .glo "orders_not_below_by") rfl), F⟩
    d_orders_not_below := let ⟨fd, F⟩ := c.def_ 32 (d := df "orders_not_below" 47) rfl; ⟨_, fd, He.glo_ok X G (c.fact 32 (f := .glo "orders_not_below") rfl), F⟩
    d_last_highest_by := let ⟨fd, F⟩ := c.def_ 12 (d := df "last_highest_by" 23) rfl; ⟨_, fd, He.glo_ok X G (c.fact 12 (f := .glo "last_highest_by") rfl), F⟩
    d_orders_last_by := let ⟨fd, F⟩ := c.def_ 28 (d := df "orders_last_by" 41) rfl; ⟨_, fd, He.glo_ok X G (c.fact 28 (f := .glo "orders_last_by") rfl), F⟩
    d_orders_last := let ⟨fd, F⟩ := c.def_ 34 (d := df "orders_last" 49) rfl; ⟨_, fd, He.glo_ok X G (c.fact 34 (f := .glo "orders_last") rfl), F⟩
    d_u_law_same := let ⟨fd, F⟩ := c.def_ 48 (d := df "_law_same" 65) rfl; ⟨_, fd, He.glo_ok X G (c.fact 48 (f := .glo "_law_same") rfl), F⟩
    d_most_above_by := let ⟨fd, F⟩ := c.def_ 14 (d := df "most_above_by" 25) rfl; ⟨_, fd, He.glo_ok X G (c.fact 14 (f := .glo "most_above_by") rfl), F⟩
    d_most_above := let ⟨fd, F⟩ := c.def_ 43 (d := df "most_above" 59) rfl; ⟨_, fd, He.glo_ok X G (c.fact 43 (f := .glo "most_above") rfl), F⟩
    d_least_above_by := let ⟨fd, F⟩ := c.def_ 15 (d := df "least_above_by" 26) rfl; ⟨_, fd, He.glo_ok X G (c.fact 15 (f := .glo "least_above_by") rfl), F⟩
    d_least_above := let ⟨fd, F⟩ := c.def_ 44 (d := df "least_above" 60) rfl; ⟨_, fd, He.glo_ok X G (c.fact 44 (f := .glo "least_above") rfl), F⟩
    d_check_number := let ⟨fd, F⟩ := c.def_ 20 (d := df "check_number" 32) rfl; ⟨_, fd, He.glo_ok X G (c.fact 20 (f := .glo "check_number") rfl), F⟩
    d_orders_with_by := let ⟨fd, F⟩ := c.def_ 29 (d := df "orders_with_by" 42) rfl; ⟨_, fd, He.glo_ok X G (c.fact 29 (f := .glo "orders_with_by") rfl), F⟩
    d_orders_with := let ⟨fd, F⟩ := c.def_ 35 (d := df "orders_with" 50) rfl; ⟨_, fd, He.glo_ok X G (c.fact 35 (f := .glo "orders_with") rfl), F⟩
    d_moved_by := let ⟨fd, F⟩ := c.def_ 16 (d := df "moved_by" 27) rfl; ⟨_, fd, He.glo_ok X G (c.fact 16 (f := .glo "moved_by") rfl), F⟩
    d_moved := let ⟨fd, F⟩ := c.def_ 41 (d := df "moved" 57) rfl; ⟨_, fd, He.glo_ok X G (c.fact 41 (f := .glo "moved") rfl), F⟩
    d_first_highest := let ⟨fd, F⟩ := c.def_ 38 (d := df "first_highest" 54) rfl; ⟨_, fd, He.glo_ok X G (c.fact 38 (f := .glo "first_highest") rfl), F⟩
    d_moved_back_by := let ⟨fd, F⟩ := c.def_ 17 (d := df "moved_back_by" 28) rfl; ⟨_, fd, He.glo_ok X G (c.fact 17 (f := .glo "moved_back_by") rfl), F⟩
    d_moved_back := let ⟨fd, F⟩ := c.def_ 42 (d := df "moved_back" 58) rfl; ⟨_, fd, He.glo_ok X G (c.fact 42 (f := .glo "moved_back") rfl), F⟩
    d_is_tuple_of := let ⟨fd, F⟩ := c.def_ 2 (d := df "is_tuple_of" 10) rfl; ⟨_, fd, He.glo_ok X G (c.fact 2 (f := .glo "is_tuple_of") rfl), F⟩
    d_is_order_by := let ⟨fd, F⟩ := c.def_ 5 (d := df "is_order_by" 16) rfl; ⟨_, fd, He.glo_ok X G (c.fact 5 (f := .glo "is_order_by") rfl), F⟩
    d_check_order := let ⟨fd, F⟩ := c.def_ 19 (d := df "check_order" 31) rfl; ⟨_, fd, He.glo_ok X G (c.fact 19 (f := .glo "check_order") rfl), F⟩
    d_in_order := let ⟨fd, F⟩ := c.def_ 40 (d := df "in_order" 56) rfl; ⟨_, fd, He.glo_ok X G (c.fact 40 (f := .glo "in_order") rfl), F⟩
    d_above := let ⟨fd, F⟩ := c.def_ 36 (d := df "above" 52) rfl; ⟨_, fd, He.glo_ok X G (c.fact 36 (f := .glo "above") rfl), F⟩
    d_not_below := let ⟨fd, F⟩ := c.def_ 37 (d := df "not_below" 53) rfl; ⟨_, fd, He.glo_ok X G (c.fact 37 (f := .glo "not_below") rfl), F⟩
    d_last_highest := let ⟨fd, F⟩ := c.def_ 39 (d := df "last_highest" 55) rfl; ⟨_, fd, He.glo_ok X G (c.fact 39 (f := .glo "last_highest") rfl), F⟩
    d_u_law_is_told := let ⟨fd, F⟩ := c.def_ 53 (d := df "_law_is_told" 70) rfl; ⟨_, fd, He.glo_ok X G (c.fact 53 (f := .glo "_law_is_told") rfl), F⟩
    d_u_law_pick := let ⟨fd, F⟩ := c.def_ 47 (d := df "_law_pick" 64) rfl; ⟨_, fd, He.glo_ok X G (c.fact 47 (f := .glo "_law_pick") rfl), F⟩
    d_u_law_row := let ⟨fd, F⟩ := c.def_ 49 (d := df "_law_row" 66) rfl; ⟨_, fd, He.glo_ok X G (c.fact 49 (f := .glo "_law_row") rfl), F⟩
    d_u_law_right := let ⟨fd, F⟩ := c.def_ 54 (d := df "_law_right" 71) rfl; ⟨_, fd, He.glo_ok X G (c.fact 54 (f := .glo "_law_right") rfl), F⟩
    d_u_law_pool := let ⟨fd, F⟩ := c.def_ 45 (d := df "_law_pool" 62) rfl; ⟨_, fd, He.glo_ok X G (c.fact 45 (f := .glo "_law_pool") rfl), F⟩
    d_law := let ⟨fd, F⟩ := c.def_ 55 (d := df "law" 72) rfl; ⟨_, fd, He.glo_ok X G (c.fact 55 (f := .glo "law") rfl), F⟩
theorem facts_law {P : Program} {w : World} {K : PySem.W.Frag} {h : Heap} {mg : Str → Option Value} {fl : Addr} (X : K.In h) (G : h.Ns mainGlobals mg) (hfa : mg ("law" : Str) = some (.ref fl)) (c : He.SaysD fa fn K) (cx : (fx.all fun f => f K) = true) :
    ∃ fd : FuncData, (∀ (s : Shared) (v : Value), BindsTo s fd ⟨[v], []⟩ [("script", v)]) ∧ ∀ base : Heap, K.In base → base.Ns mainGlobals mg → FnOk P w K mg base (L2.CX P w) 19 fl fd ["script"] (LS.spS ⟨P, w, K, mg, base⟩ 1 LS.D_law) := by
  obtain ⟨fd, F⟩ := c.def_ 55 (d := df "law" 72) rfl
  have e := hfa.symm.trans (He.glo_ok X G (c.fact 55 (f := .glo "law") rfl))
  cases e
  have b := FunD.bindsA (ps := ["script"]) F fun _ _ _ _ _ _ us hl => match us, hl with | [_], _ => rfl
  exact ⟨fd, fun s v => b s [v] rfl, fun base _ _ => LS.ok_law (facts X G c cx base) F⟩
end HD
end
theorem PySem.Challenge.cw_leadsums_k95_whole_orders_beside_moved_r_holds : PySem.Challenge.rw_leadsums_k95_whole_orders_beside_moved_r.Holds := by
  w_on; o_law
  refine HandSHeadRun.head_imp (r := PySem.W.OpenLaw.row PySem.Challenge.rw_leadsums_k95_whole_orders_beside_moved_r) (q := PySem.W.view (PySem.W.OpenLaw.row PySem.Challenge.rw_leadsums_k95_whole_orders_beside_moved_r).prog [0, 72]) (H := HD.hk) (ob := HD.ob) (M := 4000) (loose := HD.ls) (d := HandSHeadRun.topDef (PySem.W.OpenLaw.row PySem.Challenge.rw_leadsums_k95_whole_orders_beside_moved_r).prog 72) (kwd := []) HD.ob_eq
    HD.run (by kernel_rfl) (by kernel_rfl) (by kernel_rfl) (by rfl) (by first | assumption | decide +kernel) (by decide +kernel) ⟨rfl, rfl, rfl, rfl, rfl, by decide +kernel⟩ ?hw ?hc
  case hw => w_witness2
  case hc =>
    refine LS.walk_w (l := PySem.Challenge.rw_leadsums_k95_whole_orders_beside_moved_r) (n := 63) (k := 19) (x := "script") rfl (by decide) (by kernel_rfl) ⟨rfl, by decide, by decide⟩ ?_
    intro w mg fa h Y G hmg0
    obtain ⟨K, KX, c, cx⟩ := Y
    have hmg : mg ("law" : PySem.Str) = some (.ref fa) := by
      have e : (HandSHeadRun.topDef (PySem.W.OpenLaw.row PySem.Challenge.rw_leadsums_k95_whole_orders_beside_moved_r).prog 72).name = ("law" : PySem.Str) := by kernel_rfl
      rw [← e]
      exact hmg0
    obtain ⟨fd, hb, hF⟩ := HD.facts_law (P := (PySem.Challenge.rw_leadsums_k95_whole_orders_beside_moved_r).prog) (w := w) KX G hmg c cx
    exact ⟨K, fd, LS.D_law, KX, hb, LS.law_ok, hF⟩
