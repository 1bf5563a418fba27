import PyProof.Rows.All
import Wide.All
import OpenK.AllK
import Wide.FinOn
import HandS.ForExc
import HandS.Comp
import HandS.Flow
import HandS.IsInst
import HandS.Deep
import HandS.TupAny
import HandS.Wide
import HandS.SetKeys
import HandS.Sort
import HandS.Defaults
import HandS.Zip
import KE.GoesNew
import HandS.Style
import HandS.HeadEnd
import HandS.Dict
import HandS.More
import HandS.Star
import HandS.SortInts
import HandS.DictSub
import KE.SortData
import KE.KMathGC
import KE.DataFind
import KE.GoesEnum
import HandS.IterVal
import HandS.Conv
import HandS.Iter
import PyProof.ZipIter
import PyProof.CallType
import PyProof.Walk
import PyProof.WalkLemmas
import PyProof.RangeIter
import PyProof.RulesTry
import PyProof.TupleOfSeq
import HandS.RepeatKit
import KE.KRevSl
import KE.KStateDown
import Lean
import HandS.Base
import HandS.Call
import HandS.Ends
import HandS.Words
import HandS.WordsExc
import HandS.Head0
import HandS.Head1
import HandS.Head2
import HandS.Head3
import HandS.HeadHook1
import HandS.HeadHook2
import PySem.Challenge.RW_leadsums_k97_whole_turnings_trees_ballot
set_option Elab.async false
set_option linter.all false
set_option maxRecDepth 100000
set_option maxHeartbeats 0
section
namespace LS
open PySem PySem.Spec PyProof.Rows L2
def top (i : Nat) : Stmt := PySem.Challenge.pw_leadsums_k97_whole_turnings_trees_ballot.main.body.getD i (.Pass ⟨0, 0, 0, 0⟩)
end LS
namespace HD
open PySem PySem.Spec PyProof.Rows L2
def df (x : Str) (i : Nat) : He.DefD := ⟨(x, none), x, x, defArgs (LS.top i), defBody (LS.top i), defScope (LS.top i), [], []⟩
def fn0 : List He.DefD := [df "is_whole" 10, df "is_between" 11, df "is_number" 15, df "wrong_in_row" 16, df "sums_by" 17, df "above_by" 18, df "lowest_by" 19, df "falls_by" 20, df "leads_by" 21, df "stands_by" 22, df "check_row" 24, df "check_number" 25, df "turned_by" 27, df "all_turnings" 28, df "leading_turnings_by" 29, df "standing_turnings_by" 30, df "turnings_above_by" 31, df "turned" 33, df "leading_turnings" 34, df "standing_turnings" 35, df "turnings_above" 36, df "binomial" 39, df "count_leading_by" 41, df "count_standing_by" 42, df "ballot_of" 43, df "all_ballots_by" 44, df "check_votes" 49, df "check_enough" 50, df "count_leading" 51, df "count_standing" 52]
def fn1 : List He.DefD := [df "all_ballots" 53, df "total" 55, df "leads" 56, df "stands" 57, df "knots_up_to" 60, df "is_tree_by" 61, df "row_of_by" 62, df "places_against" 63, df "is_row_of_tree" 64, df "tree_of_by" 65, df "can_turn" 66, df "tree_turning_by" 67, df "check_tree" 69, df "is_tree" 70, df "row_of" 71, df "tree_of" 72, df "tree_turning" 73, df "_law_pool" 75, df "_law_draw" 76, df "_law_pick" 77, df "_law_same" 78, df "_law_row" 79, df "_law_sums" 80, df "_law_leads" 81, df "_law_stands" 82, df "_law_turned" 83, df "_law_is_tree" 84, df "_law_tree_row" 85, df "_law_tree" 86, df "_law_are_turnings_told" 87]
def fn2 : List He.DefD := [df "_law_is_tree_told" 88, df "_law_are_votes_told" 89, df "_law_more" 90, df "_law_right" 91, df "law" 92]
def fn : List He.DefD := fn0 ++ fn1 ++ fn2
def fa0 : List He.Fa := [.glo "is_whole", .glo "is_between", .glo "is_number", .glo "wrong_in_row", .glo "sums_by", .glo "above_by", .glo "lowest_by", .glo "falls_by", .glo "leads_by", .glo "stands_by", .glo "check_row", .glo "check_number", .glo "turned_by", .glo "all_turnings", .glo "leading_turnings_by", .glo "standing_turnings_by", .glo "turnings_above_by", .glo "turned", .glo "leading_turnings", .glo "standing_turnings", .glo "turnings_above", .glo "binomial", .glo "count_leading_by", .glo "count_standing_by", .glo "ballot_of", .glo "all_ballots_by", .glo "check_votes", .glo "check_enough", .glo "count_leading", .glo "count_standing"]
def fa1 : List He.Fa := [.glo "all_ballots", .glo "total", .glo "leads", .glo "stands", .glo "knots_up_to", .glo "is_tree_by", .glo "row_of_by", .glo "places_against", .glo "is_row_of_tree", .glo "tree_of_by", .glo "can_turn", .glo "tree_turning_by", .glo "check_tree", .glo "is_tree", .glo "row_of", .glo "tree_of", .glo "tree_turning", .glo "_law_pool", .glo "_law_draw", .glo "_law_pick", .glo "_law_same", .glo "_law_row", .glo "_law_sums", .glo "_law_leads", .glo "_law_stands", .glo "_law_turned", .glo "_law_is_tree", .glo "_law_tree_row", .glo "_law_tree", .glo "_law_are_turnings_told"]
def fa2 : List He.Fa := [.glo "_law_is_tree_told", .glo "_law_are_votes_told", .glo "_law_more", .glo "_law_right", .glo "law", .free "abs", .free "all", .free "bool", .free "divmod", .free "enumerate", .free "int", .free "isinstance", .free "len", .free "list", .free "max", .free "min", .free "range", .free "sorted", .free "str", .free "sum", .free "tuple", .int "MOST_NUMBERS" (8), .int "MOST_SIZE" (9), .int "UP" (1), .int "MOST_VOTES" (20), .int "MOST_WEIGHT" (9), .int "MOST_LISTED" (9), .int "MOST_KNOTS" (8)]
def fa : List He.Fa := fa0 ++ fa1 ++ fa2
def ls0 : List Str := ["combinations", "comb", "SumError", "InvalidTree", "InvalidNumber", "NotNow", "InvalidRow", "TooMany", "is_whole", "is_between", "MOST_NUMBERS", "MOST_SIZE", "is_number", "wrong_in_row", "sums_by", "above_by", "lowest_by", "falls_by", "leads_by", "stands_by", "check_row", "check_number", "turned_by", "all_turnings", "leading_turnings_by", "standing_turnings_by", "turnings_above_by", "turned", "leading_turnings", "standing_turnings"]
def ls1 : List Str := ["turnings_above", "UP", "binomial", "count_leading_by", "count_standing_by", "ballot_of", "all_ballots_by", "MOST_VOTES", "MOST_WEIGHT", "MOST_LISTED", "check_votes", "check_enough", "count_leading", "count_standing", "all_ballots", "total", "leads", "stands", "MOST_KNOTS", "knots_up_to", "is_tree_by", "row_of_by", "places_against", "is_row_of_tree", "tree_of_by", "can_turn", "tree_turning_by", "check_tree", "is_tree", "row_of"]
def ls2 : List Str := ["tree_of", "tree_turning", "_law_pool", "_law_draw", "_law_pick", "_law_same", "_law_row", "_law_sums", "_law_leads", "_law_stands", "_law_turned", "_law_is_tree", "_law_tree_row", "_law_tree", "_law_are_turnings_told", "_law_is_tree_told", "_law_are_votes_told", "_law_more", "_law_right"]
def ls : List Str := ls0 ++ ls1 ++ ls2
abbrev R : PySem.W.OpenRow := PySem.W.OpenLaw.row PySem.Challenge.rw_leadsums_k97_whole_turnings_trees_ballot
/-- further facts: any test of the part of the heap -/
def fx : List (PySem.W.Frag → Bool) := [fun K => He.eqO (PySem.W.nsIn K mainGlobals "combinations") (some (some (.type "itertools.combinations"))), fun K => He.eqO (PySem.W.nsIn K mainGlobals "comb") (some (some (.builtin "math.comb")))]
def hookX (n : Nat) (fa : List He.Fa) (fn : List He.DefD) (fx : List (PySem.W.Frag → Bool)) : PySem.W.Hook where
  α := He.AlD × Bool
  obs := fun s => (He.obsDG n fa fn s.heap.get?, fx.all fun f => f (He.frG s.heap.get? (He.asD s.heap.get? n)))
  val := fun _ => (He.valD fn, true)
  says := fun _ h => ∃ K : PySem.W.Frag, K.In h ∧ He.SaysD fa fn K ∧ (fx.all fun f => f K) = true
  of := fun _ _ e => ⟨_, He.frG_in, congrArg (fun z : He.AlD × Bool => z.1) e, congrArg (fun z : He.AlD × Bool => z.2) e⟩
  keeps := fun _ _ _ ⟨K, hK, c, d⟩ k => ⟨K, PySem.W.Frag.In.keeps hK k, c, d⟩
abbrev hk : PySem.W.Hook := hookX 2 fa fn fx
def ob (s : PySem.W.SharedT) : He.AlD × Bool := (He.obsDG 2 fa fn (HandSHeadRun.getT s), fx.all fun f => f (He.frG (HandSHeadRun.getT s) (He.asD (HandSHeadRun.getT s) 2)))
theorem ob_eq (s : PySem.W.SharedT) : ob s = hk.obs s.abs := by
  have e : HandSHeadRun.getT s = s.abs.heap.get? := funext (HandSHeadRun.getT_eq s)
  unfold ob
  rw [e] <;> rfl
theorem run (w : World) : HandSHeadRun.RunEqI R (PySem.W.view R.prog [0, 1, 92]) hk ob 4000 ls w := by
  show _ = _
  kernel_rfl
end HD
end
section
set_option maxRecDepth 100000
set_option maxHeartbeats 2000000
namespace LS
open PySem PySem.Spec PyProof.Rows L2

/-! ## data, stores, outcomes -/
/-- values as data: scalars, names of the top, tuples and lists that stand still, the i-th moving object -/
inductive D where
  | non | bl (b : Bool) | int (i : Int) | str (s : Str) | ty (n : String) | glo (x : Str)
  | tup (xs : List D) | lst (xs : List D) | sq (xs : List D) | ref (i : Nat)
  /-- a tuple that has no dict of its own, as a display makes it -/
  | tpz (xs : List D)
/-- moving objects -/
inductive MO where
  | lst (xs : List D)
  /-- a dict whose keys are ints and texts; the same while a loop walks it -/
  | dct (kvs : List (Key × D)) | lck (kvs : List (Key × D))
abbrev Store := List MO
abbrev Nv := List (Option D)
abbrev Pay := Option (Str × D)
/-- an expression's outcome -/
inductive RX (α : Type) where
  | ok (a : α) (st : Store) | exc (c : Str) (p : Pay) (st : Store) | stuck
/-- a statement's outcome -/
inductive RS where
  | nx (e : Nv) (st : Store) | rt (d : D) (st : Store) | bk (e : Nv) (st : Store) | ct (e : Nv) (st : Store) | exc (c : Str) (p : Pay) (e : Nv) (st : Store) | stuck
abbrev XM (α : Type) := Nv → Store → RX α
abbrev SM := Nv → Store → RS
@[reducible] def xpure {α : Type} (a : α) : XM α := fun _ st => .ok a st
def xbind {α β : Type} (m : XM α) (f : α → XM β) : XM β := fun e st => match m e st with
  | .ok a st' => f a e st'
  | .exc c p st' => .exc c p st'
  | .stuck => .stuck
/-- a value's operation that changes nothing -/
def xopt {α : Type} (o : Option α) : XM α := fun _ st => match o with
  | some a => .ok a st
  | none => .stuck

/-! ## what stands for what -/
section
variable (K : PySem.W.Frag) (mg : Str → Option Value)
mutual
inductive Rp (G : Hp) (as : List Addr) : V → D → Prop
  | non : Rp G as .non .non
  | bl (b : Bool) : Rp G as (.bl b) (.bl b)
  | int (i : Int) : Rp G as (.int i) (.int i)
  | str (x : Str) : Rp G as (.str x) (.str x)
  | ty (n : String) : Rp G as (.ty n) (.ty n)
  | glo (x : Str) (a : Addr) : mg x = some (.ref a) → Rp G as (.ref a) (.glo x)
  | tup {a : Addr} {vs : List V} {ds : List D} : SqT K G a vs → RpA G as vs ds → Rp G as (.ref a) (.tup ds)
  | lst {a : Addr} {vs : List V} {ds : List D} : G a = some (.lst vs) → RpA G as vs ds → Rp G as (.ref a) (.lst ds)
  | sq {a : Addr} {vs : List V} {ds : List D} : SqL K G a vs → RpA G as vs ds → Rp G as (.ref a) (.sq ds)
  | ref {a : Addr} {i : Nat} : as[i]? = some a → Rp G as (.ref a) (.ref i)
  | tpz {a : Addr} {ob : Obj} {vs : List V} {ds : List D} : G a = some (.frz ob (.tup vs)) → ob.dict = none → RpA G as vs ds → Rp G as (.ref a) (.tpz ds)
inductive RpA (G : Hp) (as : List Addr) : List V → List D → Prop
  | nil : RpA G as [] []
  | cons {v : V} {vs : List V} {d : D} {ds : List D} : Rp G as v d → RpA G as vs ds → RpA G as (v :: vs) (d :: ds)
end
/-- a moving object -/
inductive Ro (G : Hp) (as : List Addr) : HO → MO → Prop
  | lst {vs : List V} {ds : List D} : RpA K mg G as vs ds → Ro G as (.lst vs) (.lst ds)
  | dct {kvs : List (Key × V)} {kds : List (Key × D)} : kvs.map (·.1) = kds.map (·.1) → RpA K mg G as (kvs.map (·.2)) (kds.map (·.2)) → Ro G as (.dK kvs) (.dct kds)
  | lck {o : Obj} {kvs : List (Key × V)} {kds : List (Key × D)} : kvs.map (·.1) = kds.map (·.1) → RpA K mg G as (kvs.map (·.2)) (kds.map (·.2)) → Ro G as (.frz o (.dK kvs)) (.lck kds)
/-- the store -/
structure Ri (G H : Hp) (as : List Addr) (st : Store) : Prop where
  sub : ∀ a o, G a = some o → H a = some o
  len : as.length = st.length
  nd : as.Nodup
  out : ∀ a ∈ as, G a = none
  obj : ∀ (i : Nat) a o, as[i]? = some a → st[i]? = some o → ∃ ho, H a = some ho ∧ Ro K mg G as ho o
/-- the names -/
structure Rn (G : Hp) (as : List Addr) (σ : L2.St) (e : Nv) : Prop where
  len : σ.length = e.length
  at_ : ∀ (i : Nat) x, e[i]? = some (some x) → ∃ v, σ[i]? = some (some v) ∧ Rp K mg G as v x
end
/-- what comes later -/
structure Ext (G H : Hp) (as : List Addr) (G' H' : Hp) (as' : List Addr) : Prop where
  sub : ∀ a o, G a = some o → G' a = some o
  pre : as <+: as'
  keep : ∀ a o, H a = some o → a ∉ as → H' a = some o
  frG : ∀ a, G a = none → H a ≠ none → G' a = none
  frA : ∀ a ∈ as', a ∉ as → H a = none
  dom : ∀ a, H a ≠ none → H' a ≠ none
  lk : ∀ a o kvs, H a = some (.frz o (.dK kvs)) → H' a = some (.frz o (.dK kvs))

section
variable {K : PySem.W.Frag} {mg : Str → Option Value} {G H G' H' G1 H1 : Hp} {as as' as1 : List Addr} {σ : L2.St} {e : Nv} {st st' : Store}
theorem Ext.refl : Ext G H as G H as := ⟨fun _ _ h => h, List.prefix_refl _, fun _ _ h _ => h, fun _ h _ => h, fun a h h' => absurd h h', fun _ h => h, fun _ _ _ h => h⟩
theorem Ext.trans (a : Ext G H as G1 H1 as1) (b : Ext G1 H1 as1 G' H' as') : Ext G H as G' H' as' where
  sub := fun x o h => b.sub x o (a.sub x o h)
  pre := a.pre.trans b.pre
  keep := fun x o h n => by
    refine b.keep x o (a.keep x o h n) fun m => ?_
    have := a.frA x m n
    rw [h] at this; cases this
  frG := fun x g h => b.frG x (a.frG x g h) (a.dom x h)
  frA := fun x m n => by
    by_cases q : x ∈ as1
    · exact a.frA x q n
    · have h1 := b.frA x m q
      cases h : H x with
      | none => rfl
      | some o => exact absurd h1 (a.dom x (by rw [h]; exact fun z => nomatch z))
  dom := fun x h => b.dom x (a.dom x h)
  lk := fun x o kvs h => b.lk x o kvs (a.lk x o kvs h)
theorem sqL_sub (h : ∀ a o, G a = some o → G' a = some o) {a : Addr} {vs : List V} (s : SqL K G a vs) : SqL K G' a vs := by
  rcases s with (s | ⟨o, s⟩) | s
  · exact .inl (.inl (h _ _ s))
  · exact .inl (.inr ⟨o, h _ _ s⟩)
  · exact .inr s
theorem sqT_sub (h : ∀ a o, G a = some o → G' a = some o) {a : Addr} {vs : List V} (s : SqT K G a vs) : SqT K G' a vs := by
  rcases s with (s | ⟨o, s⟩) | s
  · exact .inl (.inl (h _ _ s))
  · exact .inl (.inr ⟨o, h _ _ s⟩)
  · exact .inr s
theorem pre_get {α : Type} {as as' : List α} (h : as <+: as') {i : Nat} {a : α} (q : as[i]? = some a) : as'[i]? = some a := by
  obtain ⟨t, rfl⟩ := h
  rw [List.getElem?_append_left (List.getElem?_eq_some_iff.mp q).1]
  exact q
mutual
theorem Rp.mono (hs : ∀ a o, G a = some o → G' a = some o) (hp : as <+: as') : ∀ {d : D} {v : V}, Rp K mg G as v d → Rp K mg G' as' v d
  | .non, _, h => by cases h; exact .non
  | .bl _, _, h => by cases h; exact .bl _
  | .int _, _, h => by cases h; exact .int _
  | .str _, _, h => by cases h; exact .str _
  | .ty _, _, h => by cases h; exact .ty _
  | .glo _, _, h => by cases h; rename_i a q; exact .glo _ _ q
  | .tup ds, _, h => by cases h with | tup s r => exact .tup (sqT_sub hs s) (RpA.mono hs hp r)
  | .lst ds, _, h => by cases h with | lst s r => exact .lst (hs _ _ s) (RpA.mono hs hp r)
  | .sq ds, _, h => by cases h with | sq s r => exact .sq (sqL_sub hs s) (RpA.mono hs hp r)
  | .ref i, _, h => by cases h with | ref q => exact .ref (pre_get hp q)
  | .tpz ds, _, h => by cases h with | tpz s z r => exact .tpz (hs _ _ s) z (RpA.mono hs hp r)
theorem RpA.mono (hs : ∀ a o, G a = some o → G' a = some o) (hp : as <+: as') : ∀ {ds : List D} {vs : List V}, RpA K mg G as vs ds → RpA K mg G' as' vs ds
  | [], _, h => by cases h; exact .nil
  | d :: ds, _, h => by cases h with | cons a b => exact .cons (Rp.mono hs hp a) (RpA.mono hs hp b)
end
theorem Rp.ext (x : Ext G H as G' H' as') {d : D} {v : V} (h : Rp K mg G as v d) : Rp K mg G' as' v d := h.mono x.sub x.pre
theorem RpA.ext (x : Ext G H as G' H' as') {d : List D} {v : List V} (h : RpA K mg G as v d) : RpA K mg G' as' v d := h.mono x.sub x.pre
theorem Rn.ext (x : Ext G H as G' H' as') (h : Rn K mg G as σ e) : Rn K mg G' as' σ e :=
  ⟨h.len, fun i d q => let ⟨v, a, r⟩ := h.at_ i d q; ⟨v, a, r.ext x⟩⟩
theorem Ro.ext (x : Ext G H as G' H' as') {ho : HO} {o : MO} (h : Ro K mg G as ho o) : Ro K mg G' as' ho o := by
  cases h with
  | lst r => exact .lst (r.ext x)
  | dct e r => exact .dct e (r.ext x)
  | lck e r => exact .lck e (r.ext x)
theorem RpA.len : ∀ {vs : List V} {ds : List D}, RpA K mg G as vs ds → vs.length = ds.length
  | _, _, .nil => rfl
  | _, _, .cons _ t => congrArg (· + 1) t.len
theorem RpA.get : ∀ {vs : List V} {ds : List D} {i : Nat} {d : D}, RpA K mg G as vs ds → ds[i]? = some d → ∃ v, vs[i]? = some v ∧ Rp K mg G as v d
  | _, _, _, _, .nil, h => by simp at h
  | _, _, 0, _, .cons r _, h => by simp at h; subst h; exact ⟨_, rfl, r⟩
  | _, _, i + 1, _, .cons _ t, h => by
    obtain ⟨v, a, b⟩ := t.get (i := i) (by simpa using h)
    exact ⟨v, by simpa using a, b⟩
theorem RpA.getV : ∀ {vs : List V} {ds : List D} {i : Nat} {v : V}, RpA K mg G as vs ds → vs[i]? = some v → ∃ d, ds[i]? = some d ∧ Rp K mg G as v d
  | _, _, _, _, .nil, h => by simp at h
  | _, _, 0, _, .cons r _, h => by simp at h; subst h; exact ⟨_, rfl, r⟩
  | _, _, i + 1, _, .cons _ t, h => by
    obtain ⟨v, a, b⟩ := t.getV (i := i) (by simpa using h)
    exact ⟨v, by simpa using a, b⟩
theorem RpA.append : ∀ {vs ws : List V} {ds es : List D}, RpA K mg G as vs ds → RpA K mg G as ws es → RpA K mg G as (vs ++ ws) (ds ++ es)
  | _, _, _, _, .nil, h => h
  | _, _, _, _, .cons r t, h => .cons r (t.append h)
theorem RpA.take : ∀ {vs : List V} {ds : List D} (n : Nat), RpA K mg G as vs ds → RpA K mg G as (vs.take n) (ds.take n)
  | _, _, 0, _ => .nil
  | _, _, _ + 1, .nil => .nil
  | _, _, n + 1, .cons r t => .cons r (t.take n)
theorem RpA.drop : ∀ {vs : List V} {ds : List D} (n : Nat), RpA K mg G as vs ds → RpA K mg G as (vs.drop n) (ds.drop n)
  | _, _, 0, h => h
  | _, _, _ + 1, .nil => .nil
  | _, _, n + 1, .cons r t => t.drop n
theorem RpA.set : ∀ {vs : List V} {ds : List D} (n : Nat) {v : V} {d : D}, RpA K mg G as vs ds → Rp K mg G as v d → RpA K mg G as (vs.set n v) (ds.set n d)
  | _, _, _, _, _, .nil, _ => .nil
  | _, _, 0, _, _, .cons _ t, q => .cons q t
  | _, _, n + 1, _, _, .cons r t, q => .cons r (t.set n q)
theorem RpA.reverse {vs : List V} {ds : List D} (h : RpA K mg G as vs ds) : RpA K mg G as vs.reverse ds.reverse := by
  induction vs generalizing ds with
  | nil => cases h; exact .nil
  | cons v vs ih =>
    cases h with
    | cons r t =>
      rw [List.reverse_cons, List.reverse_cons]
      exact (ih t).append (.cons r .nil)
theorem RpA.ints : ∀ (ns : List Int) {vs : List V}, RpA K mg G as vs (ns.map D.int) → vs = ns.map V.int
  | [], _, h => by cases h; rfl
  | n :: ns, _, h => by
    cases h with
    | cons r t =>
      cases r
      rw [RpA.ints ns t] <;> rfl
theorem RpA.of_ints : ∀ (ns : List Int), RpA K mg G as (ns.map V.int) (ns.map D.int)
  | [] => .nil
  | n :: ns => .cons (.int n) (RpA.of_ints ns)
theorem RpA.bls : ∀ (bs : List Bool) {vs : List V}, RpA K mg G as vs (bs.map D.bl) → vs = bs.map V.bl
  | [], _, h => by cases h; rfl
  | n :: ns, _, h => by
    cases h with
    | cons r t =>
      cases r
      rw [RpA.bls ns t] <;> rfl

/-- a new object that stands still -/
theorem Ri.still {p : Addr} {o : HO} (R : Ri K mg G H as st) (n : H p = none) : Ri K mg (upd G p o) (upd H p o) as st ∧ Ext G H as (upd G p o) (upd H p o) as := by
  have gn : G p = none := by
    cases q : G p with
    | none => rfl
    | some u => rw [R.sub _ _ q] at n; cases n
  have na : ∀ a ∈ as, a ≠ p := fun a ha z => by
    subst z
    obtain ⟨i, hi, e⟩ := List.getElem_of_mem ha
    have hi' : i < st.length := by rw [← R.len]; exact hi
    obtain ⟨ho, q, _⟩ := R.obj i a st[i] (by rw [List.getElem?_eq_getElem hi, e]) (List.getElem?_eq_getElem hi')
    rw [n] at q; cases q
  have x : Ext G H as (upd G p o) (upd H p o) as := by
    refine ⟨fun a u h => ?_, List.prefix_refl _, fun a u h _ => ?_, fun a g h => ?_, fun a h h' => absurd h h', fun a h => ?_, fun a u kvs h => by rw [upd_ne (ne_of_none h n)]; exact h⟩
    · rw [upd_ne (ne_of_none h gn)]; exact h
    · rw [upd_ne (ne_of_none h n)]; exact h
    · have : a ≠ p := fun z => by subst z; exact h n
      rw [upd_ne this]; exact g
    · by_cases z : a = p
      · subst z; rw [upd_same]; exact fun z => nomatch z
      · rw [upd_ne z]; exact h
  refine ⟨⟨fun a u h => ?_, R.len, R.nd, fun a ha => ?_, fun i a u ha hu => ?_⟩, x⟩
  · by_cases z : a = p
    · subst z; rw [upd_same] at h ⊢; exact h
    · rw [upd_ne z] at h ⊢; exact R.sub _ _ h
  · rw [upd_ne (na a ha)]; exact R.out a ha
  · obtain ⟨ho, q, r⟩ := R.obj i a u ha hu
    refine ⟨ho, ?_, r.ext x⟩
    rw [upd_ne (na a (List.mem_of_getElem? ha))]; exact q
/-- a new moving object -/
theorem Ri.moving {p : Addr} {o : HO} {m : MO} (R : Ri K mg G H as st) (n : H p = none) (r : Ro K mg G as o m) : Ri K mg G (upd H p o) (as ++ [p]) (st ++ [m]) ∧ Ext G H as G (upd H p o) (as ++ [p]) := by
  have gn : G p = none := by
    cases q : G p with
    | none => rfl
    | some u => rw [R.sub _ _ q] at n; cases n
  have na : ∀ a ∈ as, a ≠ p := fun a ha z => by
    subst z
    obtain ⟨i, hi, e⟩ := List.getElem_of_mem ha
    have hi' : i < st.length := by rw [← R.len]; exact hi
    obtain ⟨ho, q, _⟩ := R.obj i a st[i] (by rw [List.getElem?_eq_getElem hi, e]) (List.getElem?_eq_getElem hi')
    rw [n] at q; cases q
  have x : Ext G H as G (upd H p o) (as ++ [p]) := by
    refine ⟨fun _ _ h => h, List.prefix_append _ _, fun a u h _ => ?_, fun _ g _ => g, fun a h h' => ?_, fun a h => ?_, fun a u kvs h => by rw [upd_ne (ne_of_none h n)]; exact h⟩
    · rw [upd_ne (ne_of_none h n)]; exact h
    · rcases List.mem_append.mp h with h | h
      · exact absurd h h'
      · have : a = p := by simpa using h
        subst this; exact n
    · by_cases z : a = p
      · subst z; rw [upd_same]; exact fun z => nomatch z
      · rw [upd_ne z]; exact h
  refine ⟨⟨fun a u h => ?_, by simp [R.len], ?_, fun a ha => ?_, fun i a u ha hu => ?_⟩, x⟩
  · rw [upd_ne (ne_of_none h gn)]; exact R.sub _ _ h
  · rw [List.nodup_append]
    refine ⟨R.nd, by simp, fun a ha b hb => ?_⟩
    have : b = p := by simpa using hb
    rw [this]; exact na a ha
  · rcases List.mem_append.mp ha with ha | ha
    · exact R.out a ha
    · have : a = p := by simpa using ha
      subst this; exact gn
  · by_cases hi : i < as.length
    · rw [List.getElem?_append_left hi] at ha
      rw [List.getElem?_append_left (by rw [← R.len]; exact hi)] at hu
      obtain ⟨ho, q, r⟩ := R.obj i a u ha hu
      refine ⟨ho, ?_, r.ext x⟩
      rw [upd_ne (na a (List.mem_of_getElem? ha))]; exact q
    · rw [List.getElem?_append_right (by omega)] at ha
      rw [List.getElem?_append_right (by rw [← R.len]; omega)] at hu
      have h0 : i - as.length = 0 := by
        have := (List.getElem?_eq_some_iff.mp ha).1
        simp at this; omega
      have h1 : i - st.length = 0 := by rw [← R.len]; exact h0
      rw [h0] at ha; rw [h1] at hu
      simp at ha hu
      subst ha hu
      exact ⟨o, upd_same, r.ext x⟩
/-- a moving object changes -/
theorem Ri.change {i : Nat} {a : Addr} {o : HO} {m : MO} (R : Ri K mg G H as st) (ha : as[i]? = some a) (r : Ro K mg G as o m) (hz : ∀ u kvs, H a ≠ some (.frz u (.dK kvs))) : Ri K mg G (upd H a o) as (st.set i m) ∧ Ext G H as G (upd H a o) as := by
  have hm : a ∈ as := List.mem_of_getElem? ha
  have gn := R.out a hm
  refine ⟨⟨fun b u h => ?_, by simp [R.len], R.nd, R.out, fun j b u hb hu => ?_⟩, ⟨fun _ _ h => h, List.prefix_refl _, fun b u h n => ?_, fun _ g _ => g, fun b h h' => absurd h h', fun b h => ?_, fun b u kvs h => by
    have : b ≠ a := fun z => hz u kvs (z ▸ h)
    rw [upd_ne this]; exact h⟩⟩
  · rw [upd_ne (ne_of_none h gn)]; exact R.sub _ _ h
  · by_cases z : j = i
    · subst z
      rw [ha] at hb; cases hb
      have hj : j < st.length := by rw [← R.len]; exact (List.getElem?_eq_some_iff.mp ha).1
      rw [List.getElem?_set_self hj] at hu; cases hu
      exact ⟨o, upd_same, r⟩
    · rw [List.getElem?_set_ne (Ne.symm z)] at hu
      obtain ⟨ho, q, r'⟩ := R.obj j b u hb hu
      refine ⟨ho, ?_, r'⟩
      have : b ≠ a := fun z' => z (by
        subst z'
        obtain ⟨h1, e1⟩ := List.getElem?_eq_some_iff.mp hb
        obtain ⟨h2, e2⟩ := List.getElem?_eq_some_iff.mp ha
        exact (List.getElem_inj R.nd).mp (e1.trans e2.symm))
      rw [upd_ne this]; exact q
  · have : b ≠ a := fun z => n (z ▸ hm)
    rw [upd_ne this]; exact h
  · by_cases z : b = a
    · subst z; rw [upd_same]; exact fun z => nomatch z
    · rw [upd_ne z]; exact h
theorem Ri.at_ {i : Nat} {a : Addr} {m : MO} (R : Ri K mg G H as st) (ha : as[i]? = some a) (hm : st[i]? = some m) : ∃ ho, H a = some ho ∧ Ro K mg G as ho m := R.obj i a m ha hm
end

/-! ## what is wanted of an outcome -/
/-- an exception's value -/
def ExR (K : PySem.W.Frag) (mg : Str → Option Value) (G H : Hp) (as : List Addr) (c : Str) (p : Pay) (cls : Value) (d : Option Addr) : Prop :=
  mg c = some cls ∧ (∃ C, cls = .ref C) ∧ match p with
    | none => d = none
    | some (f, x) => ∃ dx v, d = some dx ∧ H dx = some (.xd [(f, v)]) ∧ dx ∉ as ∧ Rp K mg G as v x
def PX (K : PySem.W.Frag) (mg : Str → Option Value) (W : WX) (G H : Hp) (as : List Addr) (σ : L2.St) (r : RX D) (Q : VK) : Prop := match r with
  | .ok x st' => ∀ v G' H' as', Ri K mg G' H' as' st' → Ext G H as G' H' as' → Rp K mg G' as' v x → Q v H'
  | .exc c p st' => ∀ cls d G' H' as', Ri K mg G' H' as' st' → Ext G H as G' H' as' → ExR K mg G' H' as' c p cls d → W cls d σ H'
  | .stuck => False
def PXB (K : PySem.W.Frag) (mg : Str → Option Value) (W : WX) (G H : Hp) (as : List Addr) (σ : L2.St) (r : RX Bool) (Q : Bool → Hp → Prop) : Prop := match r with
  | .ok x st' => ∀ G' H' as', Ri K mg G' H' as' st' → Ext G H as G' H' as' → Q x H'
  | .exc c p st' => ∀ cls d G' H' as', Ri K mg G' H' as' st' → Ext G H as G' H' as' → ExR K mg G' H' as' c p cls d → W cls d σ H'
  | .stuck => False
def PXA (K : PySem.W.Frag) (mg : Str → Option Value) (W : WX) (G H : Hp) (as : List Addr) (σ : L2.St) (r : RX (List D)) (Q : List V → Hp → Prop) : Prop := match r with
  | .ok x st' => ∀ v G' H' as', Ri K mg G' H' as' st' → Ext G H as G' H' as' → RpA K mg G' as' v x → Q v H'
  | .exc c p st' => ∀ cls d G' H' as', Ri K mg G' H' as' st' → Ext G H as G' H' as' → ExR K mg G' H' as' c p cls d → W cls d σ H'
  | .stuck => False
def PS_ (K : PySem.W.Frag) (mg : Str → Option Value) (W : WX) (G H : Hp) (as : List Addr) (n : Nat) (r : RS) (E : Ends) : Prop := match r with
  | .nx e st' => ∀ σ' G' H' as', Ri K mg G' H' as' st' → Rn K mg G' as' σ' e → Ext G H as G' H' as' → E.nx σ' H'
  | .bk e st' => ∀ σ' G' H' as', Ri K mg G' H' as' st' → Rn K mg G' as' σ' e → Ext G H as G' H' as' → E.bk σ' H'
  | .ct e st' => ∀ σ' G' H' as', Ri K mg G' H' as' st' → Rn K mg G' as' σ' e → Ext G H as G' H' as' → E.ct σ' H'
  | .rt x st' => ∀ v G' H' as', Ri K mg G' H' as' st' → Ext G H as G' H' as' → Rp K mg G' as' v x → E.rt v H'
  | .exc c p e st' => ∀ σ' cls d G' H' as', Ri K mg G' H' as' st' → Rn K mg G' as' σ' e → Ext G H as G' H' as' → ExR K mg G' H' as' c p cls d → W cls d σ' H'
  | .stuck => False
end LS
end
section
set_option maxRecDepth 100000
set_option maxHeartbeats 2000000
namespace LS
open PySem PySem.Spec L2

/-! ## families of contexts, judgements -/
structure Gb where
  P : Program
  w : World
  K : PySem.W.Frag
  mg : Str → Option Value
  base : Heap
structure Fam (g : Gb) where
  k : Nat
  N : List Str
  sc : Scope
  nd : N.Nodup
  own : Str → Bool
  mem : WX → Cx → Prop
  prog : ∀ {W X}, mem W X → X.prog = g.P
  w : ∀ {W X}, mem W X → X.w = g.w
  hK : ∀ {W X}, mem W X → X.K = g.K
  hmg : ∀ {W X}, mem W X → X.mg = g.mg
  base : ∀ {W X}, mem W X → X.base = g.base
  hN : ∀ {W X}, mem W X → X.N = N
  hsc : ∀ {W X}, mem W X → X.env.scope = sc
  calm : ∀ {W X}, mem W X → X.calm = true
  room : ∀ {W X}, mem W X → Room k X.A
  takes : ∀ {W X}, mem W X → Takes X W
  pass : ∀ {W X}, mem W X → PassesOwn (model X.prog X.w) X.A X.env X.xe
  fn : ∀ {W X}, mem W X → ∀ x, own x = true → Loc sc x → X.fn x = true ∨ X.env.scope.names.lookup x = some .local

section
variable {g : Gb}
def SE (g : Gb) (t : WX → TE) (m : XM D) : Prop := ∀ (W : WX) (G H : Hp) (as : List Addr) (st : Store) (σ : L2.St) (e : Nv) (Q : VK), Ri g.K g.mg G H as st → Rn g.K g.mg G as σ e → PX g.K g.mg W G H as σ (m e st) Q → t W σ H Q
def ST (g : Gb) (t : WX → TT) (m : XM Bool) : Prop := ∀ (W : WX) (G H : Hp) (as : List Addr) (st : Store) (σ : L2.St) (e : Nv) (Q : Bool → Hp → Prop), Ri g.K g.mg G H as st → Rn g.K g.mg G as σ e → PXB g.K g.mg W G H as σ (m e st) Q → t W σ H Q
def SA (g : Gb) (t : WX → TA) (m : XM (List D)) : Prop := ∀ (W : WX) (G H : Hp) (as : List Addr) (st : Store) (σ : L2.St) (e : Nv) (Q : List V → Hp → Prop), Ri g.K g.mg G H as st → Rn g.K g.mg G as σ e → PXA g.K g.mg W G H as σ (m e st) Q → t W σ H Q
def SS (g : Gb) (t : WX → TS) (m : SM) : Prop := ∀ (W : WX) (G H : Hp) (as : List Addr) (st : Store) (σ : L2.St) (e : Nv) (E : Ends), Ri g.K g.mg G H as st → Rn g.K g.mg G as σ e → PS_ g.K g.mg W G H as e.length (m e st) E → t W E σ H
variable (F : Fam g)
def JE (ex : Expr) (m : XM D) : Prop := ∃ t : WX → TE, (∀ W X, F.mem W X → PE X ex (t W)) ∧ SE g t m
def JT (ex : Expr) (m : XM Bool) : Prop := ∃ t : WX → TT, (∀ W X, F.mem W X → PT X ex (t W)) ∧ ST g t m
def JA (ex : List Expr) (m : XM (List D)) : Prop := ∃ t : WX → TA, (∀ W X, F.mem W X → PA X ex (t W)) ∧ SA g t m
def JS (s : Stmt) (m : SM) : Prop := ∃ t : WX → TS, (∀ W X, F.mem W X → L2.PS X s (t W)) ∧ SS g t m
def JSs (s : List Stmt) (m : SM) : Prop := ∃ t : WX → TS, (∀ W X, F.mem W X → PSs X s (t W)) ∧ SS g t m
end

/-! ## carrying what is wanted -/
section
variable {K : PySem.W.Frag} {mg : Str → Option Value} {W : WX} {G H G1 H1 : Hp} {as as1 : List Addr} {σ : L2.St} {e : Nv} {st : Store} {n : Nat}
theorem PX.ext {r : RX D} {Q : VK} (h : PX K mg W G H as σ r Q) (x : Ext G H as G1 H1 as1) : PX K mg W G1 H1 as1 σ r Q := by
  cases r with
  | ok d st' => exact fun v G' H' as' R y => h v G' H' as' R (x.trans y)
  | exc c p st' => exact fun cls d G' H' as' R y => h cls d G' H' as' R (x.trans y)
  | stuck => exact h
theorem PXB.ext {r : RX Bool} {Q : Bool → Hp → Prop} (h : PXB K mg W G H as σ r Q) (x : Ext G H as G1 H1 as1) : PXB K mg W G1 H1 as1 σ r Q := by
  cases r with
  | ok d st' => exact fun G' H' as' R y => h G' H' as' R (x.trans y)
  | exc c p st' => exact fun cls d G' H' as' R y => h cls d G' H' as' R (x.trans y)
  | stuck => exact h
theorem PXA.ext {r : RX (List D)} {Q : List V → Hp → Prop} (h : PXA K mg W G H as σ r Q) (x : Ext G H as G1 H1 as1) : PXA K mg W G1 H1 as1 σ r Q := by
  cases r with
  | ok d st' => exact fun v G' H' as' R y => h v G' H' as' R (x.trans y)
  | exc c p st' => exact fun cls d G' H' as' R y => h cls d G' H' as' R (x.trans y)
  | stuck => exact h
theorem PS_.ext {r : RS} {E : Ends} (h : PS_ K mg W G H as n r E) (x : Ext G H as G1 H1 as1) : PS_ K mg W G1 H1 as1 n r E := by
  cases r with
  | nx e st' => exact fun σ G' H' as' R N y => h σ G' H' as' R N (x.trans y)
  | bk e st' => exact fun σ G' H' as' R N y => h σ G' H' as' R N (x.trans y)
  | ct e st' => exact fun σ G' H' as' R N y => h σ G' H' as' R N (x.trans y)
  | rt d st' => exact fun v G' H' as' R y => h v G' H' as' R (x.trans y)
  | exc c p e st' => exact fun σ cls d G' H' as' R N y => h σ cls d G' H' as' R N (x.trans y)
  | stuck => exact h
end
/-! the first part of a row of parts -/
section
variable {g : Gb} {W : WX} {G H : Hp} {as : List Addr} {σ : L2.St} {e : Nv} {st : Store}
theorem SE.one {t : WX → TE} {m : XM D} {f : D → XM D} {Q Q1 : VK} (s : SE g t m) (R : Ri g.K g.mg G H as st) (N : Rn g.K g.mg G as σ e) (h : PX g.K g.mg W G H as σ (xbind m f e st) Q)
    (k : ∀ x st1 v G1 H1 as1, Ri g.K g.mg G1 H1 as1 st1 → Ext G H as G1 H1 as1 → Rn g.K g.mg G1 as1 σ e → Rp g.K g.mg G1 as1 v x → PX g.K g.mg W G1 H1 as1 σ (f x e st1) Q → Q1 v H1) : t W σ H Q1 := by
  refine s W G H as st σ e Q1 R N ?_
  unfold xbind at h
  cases q : m e st with
  | ok x st1 =>
    rw [q] at h
    exact fun v G1 H1 as1 R1 X1 rv => k x st1 v G1 H1 as1 R1 X1 (N.ext X1) rv (PX.ext (r := f x e st1) h X1)
  | exc c p st1 => rw [q] at h; exact h
  | stuck => rw [q] at h; exact h.elim
theorem SE.oneA {t : WX → TE} {m : XM D} {f : D → XM (List D)} {Q : List V → Hp → Prop} {Q1 : VK} (s : SE g t m) (R : Ri g.K g.mg G H as st) (N : Rn g.K g.mg G as σ e) (h : PXA g.K g.mg W G H as σ (xbind m f e st) Q)
    (k : ∀ x st1 v G1 H1 as1, Ri g.K g.mg G1 H1 as1 st1 → Ext G H as G1 H1 as1 → Rn g.K g.mg G1 as1 σ e → Rp g.K g.mg G1 as1 v x → PXA g.K g.mg W G1 H1 as1 σ (f x e st1) Q → Q1 v H1) : t W σ H Q1 := by
  refine s W G H as st σ e Q1 R N ?_
  unfold xbind at h
  cases q : m e st with
  | ok x st1 =>
    rw [q] at h
    exact fun v G1 H1 as1 R1 X1 rv => k x st1 v G1 H1 as1 R1 X1 (N.ext X1) rv (PXA.ext (r := f x e st1) h X1)
  | exc c p st1 => rw [q] at h; exact h
  | stuck => rw [q] at h; exact h.elim
theorem SE.oneB {t : WX → TE} {m : XM D} {f : D → XM Bool} {Q : Bool → Hp → Prop} {Q1 : VK} (s : SE g t m) (R : Ri g.K g.mg G H as st) (N : Rn g.K g.mg G as σ e) (h : PXB g.K g.mg W G H as σ (xbind m f e st) Q)
    (k : ∀ x st1 v G1 H1 as1, Ri g.K g.mg G1 H1 as1 st1 → Ext G H as G1 H1 as1 → Rn g.K g.mg G1 as1 σ e → Rp g.K g.mg G1 as1 v x → PXB g.K g.mg W G1 H1 as1 σ (f x e st1) Q → Q1 v H1) : t W σ H Q1 := by
  refine s W G H as st σ e Q1 R N ?_
  unfold xbind at h
  cases q : m e st with
  | ok x st1 =>
    rw [q] at h
    exact fun v G1 H1 as1 R1 X1 rv => k x st1 v G1 H1 as1 R1 X1 (N.ext X1) rv (PXB.ext (r := f x e st1) h X1)
  | exc c p st1 => rw [q] at h; exact h
  | stuck => rw [q] at h; exact h.elim
theorem ST.one {t : WX → TT} {m : XM Bool} {f : Bool → XM D} {Q : VK} {Q1 : Bool → Hp → Prop} (s : ST g t m) (R : Ri g.K g.mg G H as st) (N : Rn g.K g.mg G as σ e) (h : PX g.K g.mg W G H as σ (xbind m f e st) Q)
    (k : ∀ x st1 G1 H1 as1, Ri g.K g.mg G1 H1 as1 st1 → Ext G H as G1 H1 as1 → Rn g.K g.mg G1 as1 σ e → PX g.K g.mg W G1 H1 as1 σ (f x e st1) Q → Q1 x H1) : t W σ H Q1 := by
  refine s W G H as st σ e Q1 R N ?_
  unfold xbind at h
  cases q : m e st with
  | ok x st1 =>
    rw [q] at h
    exact fun G1 H1 as1 R1 X1 => k x st1 G1 H1 as1 R1 X1 (N.ext X1) (PX.ext (r := f x e st1) h X1)
  | exc c p st1 => rw [q] at h; exact h
  | stuck => rw [q] at h; exact h.elim
theorem ST.oneB {t : WX → TT} {m : XM Bool} {f : Bool → XM Bool} {Q Q1 : Bool → Hp → Prop} (s : ST g t m) (R : Ri g.K g.mg G H as st) (N : Rn g.K g.mg G as σ e) (h : PXB g.K g.mg W G H as σ (xbind m f e st) Q)
    (k : ∀ x st1 G1 H1 as1, Ri g.K g.mg G1 H1 as1 st1 → Ext G H as G1 H1 as1 → Rn g.K g.mg G1 as1 σ e → PXB g.K g.mg W G1 H1 as1 σ (f x e st1) Q → Q1 x H1) : t W σ H Q1 := by
  refine s W G H as st σ e Q1 R N ?_
  unfold xbind at h
  cases q : m e st with
  | ok x st1 =>
    rw [q] at h
    exact fun G1 H1 as1 R1 X1 => k x st1 G1 H1 as1 R1 X1 (N.ext X1) (PXB.ext (r := f x e st1) h X1)
  | exc c p st1 => rw [q] at h; exact h
  | stuck => rw [q] at h; exact h.elim
theorem SA.one {t : WX → TA} {m : XM (List D)} {f : List D → XM D} {Q : VK} {Q1 : List V → Hp → Prop} (s : SA g t m) (R : Ri g.K g.mg G H as st) (N : Rn g.K g.mg G as σ e) (h : PX g.K g.mg W G H as σ (xbind m f e st) Q)
    (k : ∀ x st1 v G1 H1 as1, Ri g.K g.mg G1 H1 as1 st1 → Ext G H as G1 H1 as1 → Rn g.K g.mg G1 as1 σ e → RpA g.K g.mg G1 as1 v x → PX g.K g.mg W G1 H1 as1 σ (f x e st1) Q → Q1 v H1) : t W σ H Q1 := by
  refine s W G H as st σ e Q1 R N ?_
  unfold xbind at h
  cases q : m e st with
  | ok x st1 =>
    rw [q] at h
    exact fun v G1 H1 as1 R1 X1 rv => k x st1 v G1 H1 as1 R1 X1 (N.ext X1) rv (PX.ext (r := f x e st1) h X1)
  | exc c p st1 => rw [q] at h; exact h
  | stuck => rw [q] at h; exact h.elim
theorem SA.oneA {t : WX → TA} {m : XM (List D)} {f : List D → XM (List D)} {Q Q1 : List V → Hp → Prop} (s : SA g t m) (R : Ri g.K g.mg G H as st) (N : Rn g.K g.mg G as σ e) (h : PXA g.K g.mg W G H as σ (xbind m f e st) Q)
    (k : ∀ x st1 v G1 H1 as1, Ri g.K g.mg G1 H1 as1 st1 → Ext G H as G1 H1 as1 → Rn g.K g.mg G1 as1 σ e → RpA g.K g.mg G1 as1 v x → PXA g.K g.mg W G1 H1 as1 σ (f x e st1) Q → Q1 v H1) : t W σ H Q1 := by
  refine s W G H as st σ e Q1 R N ?_
  unfold xbind at h
  cases q : m e st with
  | ok x st1 =>
    rw [q] at h
    exact fun v G1 H1 as1 R1 X1 rv => k x st1 v G1 H1 as1 R1 X1 (N.ext X1) rv (PXA.ext (r := f x e st1) h X1)
  | exc c p st1 => rw [q] at h; exact h
  | stuck => rw [q] at h; exact h.elim

end
section
variable {K : PySem.W.Frag} {mg : Str → Option Value} {W : WX} {G H : Hp} {as : List Addr} {σ : L2.St} {st : Store}
/-- the end of a pure row -/
theorem PX.pure {d : D} {v : V} {Q : VK} (R : Ri K mg G H as st) (r : Rp K mg G as v d) (h : PX K mg W G H as σ (.ok d st) Q) : Q v H := h v G H as R Ext.refl r
/-- .. of a new thing that stands still -/
theorem PX.still {d : D} {Q : VK} {p : Addr} {o : HO} (R : Ri K mg G H as st) (n : H p = none) (r : Rp K mg (upd G p o) as (.ref p) d) (h : PX K mg W G H as σ (.ok d st) Q) : Q (.ref p) (upd H p o) :=
  let ⟨R', x⟩ := R.still (o := o) n; h _ _ _ as R' x r
end
end LS
end
section
set_option maxRecDepth 100000
set_option maxHeartbeats 2000000
namespace LS
open PySem PySem.Spec L2

def LIM : Nat := 1000000
theorem lim_le {n : Nat} (h : n ≤ LIM) : n ≤ sizeLine := Nat.le_trans h (by rw [sizeLine_eq]; decide)
theorem lim_lt {n : Nat} (h : n < LIM) : n < sizeLine := Nat.lt_of_lt_of_le h (by rw [sizeLine_eq]; decide)

/-! ## lists and rows -/
def lstOf (st : Store) : D → Option (List D)
  | .lst xs => some xs
  | .ref i => match st[i]? with
    | some (.lst xs) => some xs
    | _ => none
  | _ => none
def seqOf (st : Store) : D → Option (List D)
  | .tup xs => some xs
  | .sq xs => some xs
  | .tpz xs => some xs
  | d => lstOf st d
section
variable {K : PySem.W.Frag} {mg : Str → Option Value} {G H : Hp} {as : List Addr} {st : Store} {v : V} {d : D} {xs : List D}
theorem sqL_H (R : Ri K mg G H as st) {a : Addr} {vs : List V} (h : SqL K G a vs) : SqL K H a vs := sqL_sub R.sub h
theorem sqT_H (R : Ri K mg G H as st) {a : Addr} {vs : List V} (h : SqT K G a vs) : SqT K H a vs := sqT_sub R.sub h
theorem lstOf_ok (R : Ri K mg G H as st) (r : Rp K mg G as v d) (h : lstOf st d = some xs) : ∃ a vs, v = .ref a ∧ H a = some (.lst vs) ∧ RpA K mg G as vs xs := by
  cases r with
  | lst s q =>
    have e : _ = xs := Option.some.inj h
    subst e
    exact ⟨_, _, rfl, R.sub _ _ s, q⟩
  | ref q =>
    rename_i a i
    unfold lstOf at h
    cases hs : st[i]? with
    | none => simp [hs] at h
    | some m =>
      cases m with
      | lst ys =>
        simp only [hs, Option.some.injEq] at h
        subst h
        obtain ⟨ho, e, o⟩ := R.at_ q hs
        cases o with | lst r => exact ⟨_, _, rfl, e, r⟩
      | _ => simp [hs] at h
  | _ => cases h
theorem seqOf_ok (R : Ri K mg G H as st) (r : Rp K mg G as v d) (h : seqOf st d = some xs) : ∃ a vs, v = .ref a ∧ (SqL K H a vs ∨ SqT K H a vs) ∧ RpA K mg G as vs xs := by
  cases r with
  | tup s q =>
    have e : _ = xs := Option.some.inj h
    subst e
    exact ⟨_, _, rfl, .inr (sqT_H R s), q⟩
  | sq s q =>
    have e : _ = xs := Option.some.inj h
    subst e
    exact ⟨_, _, rfl, .inl (sqL_H R s), q⟩
  | tpz s z q =>
    have e : _ = xs := Option.some.inj h
    subst e
    exact ⟨_, _, rfl, .inr (.inl (.inr ⟨_, R.sub _ _ s⟩)), q⟩
  | lst s q =>
    obtain ⟨a, vs, e, h1, h2⟩ := lstOf_ok R (Rp.lst s q) h
    exact ⟨a, vs, e, .inl (.of h1), h2⟩
  | ref q =>
    obtain ⟨a, vs, e, h1, h2⟩ := lstOf_ok R (Rp.ref q) h
    exact ⟨a, vs, e, .inl (.of h1), h2⟩
  | _ => cases h
end

/-! ## names and constants -/
section
variable {g : Gb} {F : Fam g} {pos : Pos}
def xvar (i : Nat) : XM D := fun e st => match e[i]? with
  | some (some d) => .ok d st
  | _ => .stuck
theorem je_var (i : Nat) {x : Str} (hN : F.N[i]? = some x) (hv : Vis F.sc x) (hd : (x == ("__debug__" : Str)) = false := by decide) (hcd : (x == ("__classdict__" : Str)) = false := by decide) : JE F (.Name x pos) (xvar i) := by
  refine ⟨fun _ => tVar i, fun W X m => pe_var (by rw [F.hN m]; exact hN) (by rw [F.hsc m]; exact hv) hd hcd, ?_⟩
  intro W G H as st σ e Q R N h
  unfold xvar at h
  split at h
  · rename_i d q
    obtain ⟨v, e1, r⟩ := N.at_ _ _ q
    exact ⟨v, e1, h.pure R r⟩
  · exact h.elim
theorem je_c {v : V} {d : D} {ex : Expr} (hp : ∀ X : Cx, PE X ex (tC v)) (hr : ∀ G as, Rp g.K g.mg G as v d) : JE F ex (xpure d) :=
  ⟨fun _ => tC v, fun _ X _ => hp X, fun W G H as st σ e Q R N h => h.pure R (hr G as)⟩
theorem je_int {i : Int} {j} : JE F (.Constant (.int i) j pos) (xpure (.int i)) := je_c (fun _ => pe_int) fun _ _ => .int i
theorem je_bl {b : Bool} {j} : JE F (.Constant (.bool b) j pos) (xpure (.bl b)) := je_c (fun _ => pe_bl) fun _ _ => .bl b
theorem je_non {j} : JE F (.Constant .none j pos) (xpure .non) := je_c (fun _ => pe_non) fun _ _ => .non
theorem je_str {x : Str} {j} : JE F (.Constant (.str x) j pos) (xpure (.str x)) := je_c (fun _ => pe_str) fun _ _ => .str x
theorem je_gint {x : Str} {i : Int} (hg : F.sc.names.lookup x = some .globalImplicit) (hm : ∃ t, g.mg x = some (.int i t)) (hd : (x == ("__debug__" : Str)) = false := by decide) : JE F (.Name x pos) (xpure (.int i)) := by
  obtain ⟨t, hm⟩ := hm
  refine ⟨fun _ => tC (.int i), fun W X m => pe_glob (u := .int i t) (by show X.env.scope.names.lookup x = _; rw [F.hsc m]; exact hg) (by rw [F.hmg m]; exact hm) ⟨t, rfl⟩ hd, ?_⟩
  exact fun W G H as st σ e Q R N h => h.pure R (.int i)
theorem je_gstr {x : Str} {z : Str} (hg : F.sc.names.lookup x = some .globalImplicit) (hm : ∃ t, g.mg x = some (.str z t)) (hd : (x == ("__debug__" : Str)) = false := by decide) : JE F (.Name x pos) (xpure (.str z)) := by
  obtain ⟨t, hm⟩ := hm
  refine ⟨fun _ => tC (.str z), fun W X m => pe_glob (u := .str z t) (by show X.env.scope.names.lookup x = _; rw [F.hsc m]; exact hg) (by rw [F.hmg m]; exact hm) ⟨t, rfl⟩ hd, ?_⟩
  exact fun W G H as st σ e Q R N h => h.pure R (.str z)
theorem je_gfn {x : Str} {a : Addr} (hg : F.sc.names.lookup x = some .globalImplicit) (hm : g.mg x = some (.ref a)) (hd : (x == ("__debug__" : Str)) = false := by decide) : JE F (.Name x pos) (xpure (.glo x)) := by
  refine ⟨fun _ => tC (.ref a), fun W X m => pe_glob (u := .ref a) (by show X.env.scope.names.lookup x = _; rw [F.hsc m]; exact hg) (by rw [F.hmg m]; exact hm) rfl hd, ?_⟩
  exact fun W G H as st σ e Q R N h => h.pure R (.glo x a hm)
/-- a built-in class by its name -/
theorem je_gty {x : Str} {n : String} (hg : F.sc.names.lookup x = some .globalImplicit) (hm : g.mg x = none) (hv : bootBuiltins x = some (.type n)) (hn : x ≠ "__name__" := by decide) (hd : (x == ("__debug__" : Str)) = false := by decide) : JE F (.Name x pos) (xpure (.ty n)) := by
  refine ⟨fun _ => tC (.ty n), fun W X m => pe_bltn (u := .type n) (by show X.env.scope.names.lookup x = _; rw [F.hsc m]; exact hg) (by rw [F.hmg m]; exact hm) hv rfl hn hd, ?_⟩
  exact fun W G H as st σ e Q R N h => h.pure R (.ty n)

/-! ## arguments, displays -/
theorem ja_nil : JA F [] (xpure []) := ⟨fun _ => tNil, fun _ _ _ => pa_nil, fun W G H as st σ e Q R N h => h [] G H as R Ext.refl .nil⟩
def xcons (m : XM D) (ms : XM (List D)) : XM (List D) := xbind m fun x => xbind ms fun xs => xpure (x :: xs)
theorem ja_cons {ex : Expr} {es : List Expr} {m : XM D} {ms : XM (List D)} (h : JE F ex m) (hs : JA F es ms) (hst : ∀ env, starEach (ex :: es) env = (false, eval ex env) :: starEach es env := by intro _; rfl) : JA F (ex :: es) (xcons m ms) := by
  obtain ⟨t, p, s⟩ := h
  obtain ⟨ts, ps, ss⟩ := hs
  refine ⟨fun W => tCons (t W) (ts W), fun W X m => pa_cons (p W X m) (ps W X m) (hst _), ?_⟩
  intro W G H as st σ e Q R N h
  refine s.oneA R N h fun x st1 v G1 H1 as1 R1 X1 N1 rv h1 => ?_
  refine ss.oneA R1 N1 h1 fun xs st2 vs G2 H2 as2 R2 X2 N2 rvs h2 => ?_
  exact h2 _ _ _ _ R2 Ext.refl (.cons (rv.ext X2) rvs)
def xtup (ms : XM (List D)) : XM D := xbind ms fun xs => fun _ st => if xs.length ≤ LIM then .ok (.tup xs) st else .stuck
theorem je_tup {es : List Expr} {k : Nat} {ms : XM (List D)} (hs : JA F es ms) : JE F (.Tuple es k pos) (xtup ms) := by
  obtain ⟨ts, ps, ss⟩ := hs
  refine ⟨fun W => tTup (ts W), fun W X m => pe_tup (ps W X m), ?_⟩
  intro W G H as st σ e Q R N h
  refine ss.one R N h fun xs st1 vs G1 H1 as1 R1 X1 N1 rv h1 => ?_
  by_cases hl : xs.length ≤ LIM
  · rw [if_pos hl] at h1
    refine ⟨by rw [rv.len]; exact lim_le hl, fun p hp => ?_⟩
    exact PX.still R1 hp (.tup (.inl (.inl upd_same)) (rv.ext (R1.still (o := .tup vs) hp).2)) h1
  · rw [if_neg hl] at h1; exact h1.elim
/-- a list that stands still from now on -/
def xlst (ms : XM (List D)) : XM D := xbind ms fun xs => fun _ st => if xs.length ≤ LIM then .ok (.lst xs) st else .stuck
theorem je_lst {es : List Expr} {ms : XM (List D)} (hs : JA F es ms) : JE F (.List es pos) (xlst ms) := by
  obtain ⟨ts, ps, ss⟩ := hs
  refine ⟨fun W => tLst (ts W), fun W X m => pe_lst (ps W X m), ?_⟩
  intro W G H as st σ e Q R N h
  refine ss.one R N h fun xs st1 vs G1 H1 as1 R1 X1 N1 rv h1 => ?_
  by_cases hl : xs.length ≤ LIM
  · rw [if_pos hl] at h1
    refine ⟨by rw [rv.len]; exact lim_le hl, fun p hp => ?_⟩
    exact PX.still R1 hp (.lst upd_same (rv.ext (R1.still (o := .lst vs) hp).2)) h1
  · rw [if_neg hl] at h1; exact h1.elim
/-- a list that will move -/
def xlstM (ms : XM (List D)) : XM D := xbind ms fun xs => fun _ st => if xs.length ≤ LIM then .ok (.ref st.length) (st ++ [.lst xs]) else .stuck
theorem je_lstM {es : List Expr} {ms : XM (List D)} (hs : JA F es ms) : JE F (.List es pos) (xlstM ms) := by
  obtain ⟨ts, ps, ss⟩ := hs
  refine ⟨fun W => tLst (ts W), fun W X m => pe_lst (ps W X m), ?_⟩
  intro W G H as st σ e Q R N h
  refine ss.one R N h fun xs st1 vs G1 H1 as1 R1 X1 N1 rv h1 => ?_
  by_cases hl : xs.length ≤ LIM
  · rw [if_pos hl] at h1
    refine ⟨by rw [rv.len]; exact lim_le hl, fun p hp => ?_⟩
    obtain ⟨R2, X2⟩ := R1.moving (o := .lst vs) hp (.lst rv)
    refine h1 _ _ _ _ R2 X2 (.ref ?_)
    rw [← R1.len, List.getElem?_append_right (Nat.le_refl _), Nat.sub_self]; rfl
  · rw [if_neg hl] at h1; exact h1.elim

/-! ## operators on values -/
def OpS (F : Fam g) (f : Value → Value → Sem Value) (fop : D → D → XM D) : Prop := ∃ r : R2, (∀ W X, F.mem W X → OpR X f r) ∧
  ∀ (W : WX) (G H : Hp) (as : List Addr) (st : Store) (σ : L2.St) (e : Nv) (x y : D) (v w : V) (Q : VK), Ri g.K g.mg G H as st → Rp g.K g.mg G as v x → Rp g.K g.mg G as w y → PX g.K g.mg W G H as σ (fop x y e st) Q → r v w H Q
def xop (fop : D → D → XM D) (ma mb : XM D) : XM D := xbind ma fun x => xbind mb fun y => fop x y
theorem je_op {a b : Expr} {op : Operator} {ma mb : XM D} {fop : D → D → XM D} (ho : OpS F (binaryOp op) fop) (ha : JE F a ma) (hb : JE F b mb) : JE F (.BinOp a op b pos) (xop fop ma mb) := by
  obtain ⟨r, hr, hv⟩ := ho
  obtain ⟨ta, pa, sa⟩ := ha
  obtain ⟨tb, pb, sb⟩ := hb
  refine ⟨fun W => tOp r (ta W) (tb W), fun W X m => pe_op (hr W X m) (pa W X m) (pb W X m), ?_⟩
  intro W G H as st σ e Q R N h
  refine sa.one R N h fun x st1 v G1 H1 as1 R1 X1 N1 rv h1 => ?_
  refine sb.one R1 N1 h1 fun y st2 w G2 H2 as2 R2 X2 N2 rw' h2 => ?_
  exact hv W G2 H2 as2 st2 σ e x y v w Q R2 (rv.ext X2) rw' h2
theorem je_cmp {a b : Expr} {op : CmpOp} {ma mb : XM D} {fop : D → D → XM D} (ho : OpS F (compareOp op) fop) (ha : JE F a ma) (hb : JE F b mb) (hm : behindInMarks op b = false) : JE F (.Compare a [op] [b] pos) (xop fop ma mb) := by
  obtain ⟨r, hr, hv⟩ := ho
  obtain ⟨ta, pa, sa⟩ := ha
  obtain ⟨tb, pb, sb⟩ := hb
  refine ⟨fun W => tOp r (ta W) (tb W), fun W X m => pe_cmpR (hr W X m) (pa W X m) (pb W X m) hm, ?_⟩
  intro W G H as st σ e Q R N h
  refine sa.one R N h fun x st1 v G1 H1 as1 R1 X1 N1 rv h1 => ?_
  refine sb.one R1 N1 h1 fun y st2 w G2 H2 as2 R2 X2 N2 rw' h2 => ?_
  exact hv W G2 H2 as2 st2 σ e x y v w Q R2 (rv.ext X2) rw' h2
/-- a bool asked for -/
def xbool (m : XM D) : XM Bool := xbind m fun x => fun _ st => match x with
  | .bl b => .ok b st
  | _ => .stuck
theorem SE.bool {t : WX → TE} {m : XM D} (s : SE g t m) : ST g (fun W => tTest (t W)) (xbool m) := by
  intro W G H as st σ e Q R N h
  refine s.oneB R N h fun x st1 v G1 H1 as1 R1 X1 N1 rv h1 => ?_
  cases rv with
  | bl b => exact ⟨b, rfl, h1 G1 H1 as1 R1 Ext.refl⟩
  | _ => exact h1.elim
theorem jt_cmp {a b : Expr} {op : CmpOp} {ma mb : XM D} {fop : D → D → XM D} (ho : OpS F (compareOp op) fop) (ha : JE F a ma) (hb : JE F b mb) (hm : behindInMarks op b = false) : JT F (.Compare a [op] [b] pos) (xbool (xop fop ma mb)) := by
  obtain ⟨r, hr, hv⟩ := ho
  obtain ⟨ta, pa, sa⟩ := ha
  obtain ⟨tb, pb, sb⟩ := hb
  refine ⟨fun W => tTest (tOp r (ta W) (tb W)), fun W X m => pt_cmpR (hr W X m) (pa W X m) (pb W X m) hm, SE.bool (t := fun W => tOp r (ta W) (tb W)) ?_⟩
  intro W G H as st σ e Q R N h
  refine sa.one R N h fun x st1 v G1 H1 as1 R1 X1 N1 rv h1 => ?_
  refine sb.one R1 N1 h1 fun y st2 w G2 H2 as2 R2 X2 N2 rw' h2 => ?_
  exact hv W G2 H2 as2 st2 σ e x y v w Q R2 (rv.ext X2) rw' h2
/-- a op b op' c -/
def xchain (f f' : D → D → XM D) (ma mb mc : XM D) : XM D := xbind ma fun x => xbind mb fun y => xbind (f x y) fun z => match z with
  | .bl true => xbind mc fun w => f' y w
  | .bl false => xpure (.bl false)
  | _ => fun _ _ => .stuck
theorem chain_SE {r r' : R2} {ta tb tc : WX → TE} {ma mb mc : XM D} {f f' : D → D → XM D}
    (hv : ∀ (W : WX) (G H : Hp) (as : List Addr) (st : Store) (σ : L2.St) (e : Nv) (x y : D) (v w : V) (Q : VK), Ri g.K g.mg G H as st → Rp g.K g.mg G as v x → Rp g.K g.mg G as w y → PX g.K g.mg W G H as σ (f x y e st) Q → r v w H Q)
    (hv' : ∀ (W : WX) (G H : Hp) (as : List Addr) (st : Store) (σ : L2.St) (e : Nv) (x y : D) (v w : V) (Q : VK), Ri g.K g.mg G H as st → Rp g.K g.mg G as v x → Rp g.K g.mg G as w y → PX g.K g.mg W G H as σ (f' x y e st) Q → r' v w H Q)
    (sa : SE g ta ma) (sb : SE g tb mb) (sc : SE g tc mc) : SE g (fun W => tChain r r' (ta W) (tb W) (tc W)) (xchain f f' ma mb mc) := by
  intro W G H as st σ e Q R N h
  refine sa.one R N h fun x st1 v G1 H1 as1 R1 X1 N1 rv h1 => ?_
  refine sb.one R1 N1 h1 fun y st2 w G2 H2 as2 R2 X2 N2 rw' h2 => ?_
  refine hv W G2 H2 as2 st2 σ e x y v w _ R2 (rv.ext X2) rw' ?_
  unfold xbind at h2
  cases q : f x y e st2 with
  | stuck => rw [q] at h2; exact h2.elim
  | exc c p st3 => rw [q] at h2; exact h2
  | ok z st3 =>
    rw [q] at h2
    intro u G3 H3 as3 R3 X3 ru
    cases ru with
    | bl b =>
      cases b with
      | false => exact ⟨false, rfl, iteF ((PX.ext (r := .ok (.bl false) st3) h2 X3).pure R3 (.bl false))⟩
      | true =>
        refine ⟨true, rfl, iteT ?_⟩
        have h3 : PX g.K g.mg W G3 H3 as3 σ (xbind mc (fun w => f' y w) e st3) Q := PX.ext (r := xbind mc (fun w => f' y w) e st3) h2 X3
        refine sc.one R3 ((N2.ext X3)) h3 fun w' st4 z' G4 H4 as4 R4 X4 N4 rz h4 => ?_
        exact hv' W G4 H4 as4 st4 σ e y w' w z' Q R4 ((rw'.ext X3).ext X4) rz h4
    | _ => exact h2.elim
theorem je_chain {a b c : Expr} {op op' : CmpOp} {ma mb mc : XM D} {f f' : D → D → XM D} (ho : OpS F (compareOp op) f) (ho' : OpS F (compareOp op') f') (ha : JE F a ma) (hb : JE F b mb) (hc : JE F c mc) (hm : lastMarks [op, op'] [b, c] = false := by with_unfolding_all rfl) :
    JE F (.Compare a [op, op'] [b, c] pos) (xchain f f' ma mb mc) := by
  obtain ⟨r, hr, hv⟩ := ho
  obtain ⟨r', hr', hv'⟩ := ho'
  obtain ⟨ta, pa, sa⟩ := ha
  obtain ⟨tb, pb, sb⟩ := hb
  obtain ⟨tc, pc, sc⟩ := hc
  exact ⟨fun W => tChain r r' (ta W) (tb W) (tc W), fun W X m => pe_chain (hr W X m) (hr' W X m) (pa W X m) (pb W X m) (pc W X m) hm, chain_SE hv hv' sa sb sc⟩
theorem jt_chain {a b c : Expr} {op op' : CmpOp} {ma mb mc : XM D} {f f' : D → D → XM D} (ho : OpS F (compareOp op) f) (ho' : OpS F (compareOp op') f') (ha : JE F a ma) (hb : JE F b mb) (hc : JE F c mc) (hm : lastMarks [op, op'] [b, c] = false := by with_unfolding_all rfl) :
    JT F (.Compare a [op, op'] [b, c] pos) (xbool (xchain f f' ma mb mc)) := by
  obtain ⟨r, hr, hv⟩ := ho
  obtain ⟨r', hr', hv'⟩ := ho'
  obtain ⟨ta, pa, sa⟩ := ha
  obtain ⟨tb, pb, sb⟩ := hb
  obtain ⟨tc, pc, sc⟩ := hc
  exact ⟨fun W => tTest (tChain r r' (ta W) (tb W) (tc W)), fun W X m => pt_chain (hr W X m) (hr' W X m) (pa W X m) (pb W X m) (pc W X m) hm, SE.bool (chain_SE hv hv' sa sb sc)⟩

/-! ## tests -/
/-- an expression as a test, by its truth -/
def truD (st : Store) : D → Option Bool
  | .non => some false
  | .bl b => some b
  | .int i => some (i != 0)
  | .str s => if s.length ≤ LIM then some ((s.length : Int) != 0) else none
  | d => (seqOf st d).map fun xs => !xs.isEmpty
def xtru (m : XM D) : XM Bool := xbind m fun x => fun _ st => match truD st x with
  | some b => .ok b st
  | none => .stuck
theorem isEmpty_rp {K : PySem.W.Frag} {mg : Str → Option Value} {G : Hp} {as : List Addr} {vs : List V} {xs : List D} (h : RpA K mg G as vs xs) : vs.isEmpty = xs.isEmpty := by cases h <;> rfl
theorem truD_ok {K : PySem.W.Frag} {mg : Str → Option Value} {G H : Hp} {as : List Addr} {st : Store} {v : V} {x : D} {b : Bool} (R : Ri K mg G H as st) (r : Rp K mg G as v x) (h : truD st x = some b) : TruV K v H b := by
  have sq : ∀ xs, seqOf st x = some xs → b = !xs.isEmpty → TruV K v H b := fun xs h1 e => by
    obtain ⟨a, vs, rfl, h2, h3⟩ := seqOf_ok R r h1
    rw [e, ← isEmpty_rp h3]
    rcases h2 with h2 | h2
    · exact .inl ⟨vs, h2, rfl⟩
    · exact .inr (.inl ⟨vs, h2, rfl⟩)
  have sq' : (seqOf st x).map (fun xs => !xs.isEmpty) = some b → TruV K v H b := fun h1 => by
    obtain ⟨xs, h2, h3⟩ := Option.map_eq_some_iff.mp h1
    exact sq xs h2 h3.symm
  cases r with
  | non => exact (Option.some.inj h).symm
  | bl b' => exact (Option.some.inj h).symm
  | int i => exact (Option.some.inj h).symm
  | str s =>
    unfold truD at h
    by_cases hl : s.length ≤ LIM
    · simp only [hl, if_true, Option.some.injEq] at h
      exact ⟨lim_le hl, h.symm⟩
    · simp [hl] at h
  | ty n => cases h
  | glo x a q => cases h
  | tup s q => exact sq' h
  | lst s q => exact sq' h
  | sq s q => exact sq' h
  | ref q => exact sq' h
  | tpz s z q => exact sq' h
theorem jt_tru {ex : Expr} {m : XM D} (h : JE F ex m) (he : ∀ env whole, isTrue ex env whole = (do let v ← whole; standAt ex.pos; holding [v] (truthy v)) := by intro _ _; rfl) : JT F ex (xtru m) := by
  obtain ⟨t, p, s⟩ := h
  refine ⟨fun W => fun σ H Q => t W σ H fun x H' => ∃ k, TruV g.K x H' k ∧ Q k H', fun W X m => by have := pt_truth (p W X m) (he _); rw [F.hK m] at this; exact this, ?_⟩
  intro W G H as st σ e Q R N h
  refine s.oneB R N h fun x st1 v G1 H1 as1 R1 X1 N1 rv h1 => ?_
  cases q : truD st1 x with
  | none => simp [q] at h1; exact h1.elim
  | some b =>
    simp only [q] at h1
    exact ⟨b, truD_ok R1 rv q, h1 _ _ _ R1 Ext.refl⟩
def tnot (m : XM Bool) : XM Bool := xbind m fun b => xpure (!b)
theorem jt_not {a : Expr} {m : XM Bool} (h : JT F a m) : JT F (.UnaryOp .Not a pos) (tnot m) := by
  obtain ⟨t, p, s⟩ := h
  refine ⟨fun W => tNot (t W), fun W X m => pt_not (p W X m), ?_⟩
  intro W G H as st σ e Q R N h
  refine s.oneB R N h fun b st1 G1 H1 as1 R1 X1 N1 h1 => ?_
  exact h1 _ _ _ R1 Ext.refl
def tand (m n : XM Bool) : XM Bool := xbind m fun b => if b = true then n else xpure false
def tor (m n : XM Bool) : XM Bool := xbind m fun b => if b = true then xpure true else n
/-- a row of and | or as a test -/
def JW (F : Fam g) (ex : Expr) (m : XM Bool) : Prop := ∃ t : WX → TT, (∀ W X, F.mem W X → PW X ex (t W)) ∧ ST g t m
theorem JW.jt {ex : Expr} {m : XM Bool} (h : JW F ex m) : JT F ex m := let ⟨t, p, s⟩ := h; ⟨t, fun W X m => (p W X m).pt, s⟩
theorem jw_and1 {a : Expr} {m : XM Bool} (h : JT F a m) : JW F (.BoolOp .And [a] pos) m := let ⟨t, p, s⟩ := h; ⟨t, fun W X m => pw_and1 (p W X m), s⟩
theorem jw_or1 {a : Expr} {m : XM Bool} (h : JT F a m) : JW F (.BoolOp .Or [a] pos) m := let ⟨t, p, s⟩ := h; ⟨t, fun W X m => pw_or1 (p W X m), s⟩
theorem jw_and {a b : Expr} {rest : List Expr} {m n : XM Bool} (h : JT F a m) (h' : JW F (.BoolOp .And (b :: rest) pos) n) : JW F (.BoolOp .And (a :: b :: rest) pos) (tand m n) := by
  obtain ⟨t, p, s⟩ := h
  obtain ⟨t', p', s'⟩ := h'
  refine ⟨fun W => tAnd (t W) (t' W), fun W X m => pw_and (p W X m) (p' W X m), ?_⟩
  intro W G H as st σ e Q R N h
  refine s.oneB R N h fun b st1 G1 H1 as1 R1 X1 N1 h1 => ?_
  cases b with
  | true => exact iteT (s' W G1 H1 as1 st1 σ e Q R1 N1 h1)
  | false => exact iteF (h1 _ _ _ R1 Ext.refl)
theorem jw_or {a b : Expr} {rest : List Expr} {m n : XM Bool} (h : JT F a m) (h' : JW F (.BoolOp .Or (b :: rest) pos) n) : JW F (.BoolOp .Or (a :: b :: rest) pos) (tor m n) := by
  obtain ⟨t, p, s⟩ := h
  obtain ⟨t', p', s'⟩ := h'
  refine ⟨fun W => tOr (t W) (t' W), fun W X m => pw_or (p W X m) (p' W X m), ?_⟩
  intro W G H as st σ e Q R N h
  refine s.oneB R N h fun b st1 G1 H1 as1 R1 X1 N1 h1 => ?_
  cases b with
  | true => exact iteT (h1 _ _ _ R1 Ext.refl)
  | false => exact iteF (s' W G1 H1 as1 st1 σ e Q R1 N1 h1)

/-! ## and, or, not as values; a if t else b -/
theorem je_one {a : Expr} {op} {m : XM D} (h : JE F a m) : JE F (.BoolOp op [a] pos) m := let ⟨t, p, s⟩ := h; ⟨t, fun W X m => pe_one (p W X m), s⟩
def xand (m n : XM D) : XM D := xbind m fun x => fun e st => match truD st x with
  | some true => n e st
  | some false => .ok x st
  | none => .stuck
def xor' (m n : XM D) : XM D := xbind m fun x => fun e st => match truD st x with
  | some false => n e st
  | some true => .ok x st
  | none => .stuck
theorem je_and {a b : Expr} {rest : List Expr} {m n : XM D} (h : JE F a m) (h' : JE F (.BoolOp .And (b :: rest) pos) n) : JE F (.BoolOp .And (a :: b :: rest) pos) (xand m n) := by
  obtain ⟨t, p, s⟩ := h
  obtain ⟨t', p', s'⟩ := h'
  refine ⟨fun W => tAndT g.K (t W) (t' W), fun W X m => by have := pe_andT (p W X m) (p' W X m); rw [F.hK m] at this; exact this, ?_⟩
  intro W G H as st σ e Q R N h
  refine s.one R N h fun x st1 v G1 H1 as1 R1 X1 N1 rv h1 => ?_
  cases q : truD st1 x with
  | none => simp [q] at h1; exact h1.elim
  | some b =>
    refine ⟨b, truD_ok R1 rv q, ?_⟩
    cases b with
    | true => exact iteT (s' W G1 H1 as1 st1 σ e Q R1 N1 (by simpa only [q] using h1))
    | false => exact iteF (PX.pure R1 rv (σ := σ) (W := W) (by simpa only [q] using h1))
theorem je_or {a b : Expr} {rest : List Expr} {m n : XM D} (h : JE F a m) (h' : JE F (.BoolOp .Or (b :: rest) pos) n) : JE F (.BoolOp .Or (a :: b :: rest) pos) (xor' m n) := by
  obtain ⟨t, p, s⟩ := h
  obtain ⟨t', p', s'⟩ := h'
  refine ⟨fun W => tOrT g.K (t W) (t' W), fun W X m => by have := pe_orT (p W X m) (p' W X m); rw [F.hK m] at this; exact this, ?_⟩
  intro W G H as st σ e Q R N h
  refine s.one R N h fun x st1 v G1 H1 as1 R1 X1 N1 rv h1 => ?_
  cases q : truD st1 x with
  | none => simp [q] at h1; exact h1.elim
  | some b =>
    refine ⟨b, truD_ok R1 rv q, ?_⟩
    cases b with
    | false => exact iteF (s' W G1 H1 as1 st1 σ e Q R1 N1 (by simpa only [q] using h1))
    | true => exact iteT (PX.pure R1 rv (σ := σ) (W := W) (by simpa only [q] using h1))
def xnot (m : XM D) : XM D := xbind m fun x => fun _ st => match truD st x with
  | some b => .ok (.bl (!b)) st
  | none => .stuck
theorem je_not {a : Expr} {m : XM D} (h : JE F a m) : JE F (.UnaryOp .Not a pos) (xnot m) := by
  obtain ⟨t, p, s⟩ := h
  refine ⟨fun W => tNotT g.K (t W), fun W X m => by have := pe_notT (pos := pos) (p W X m); rw [F.hK m] at this; exact this, ?_⟩
  intro W G H as st σ e Q R N h
  refine s.one R N h fun x st1 v G1 H1 as1 R1 X1 N1 rv h1 => ?_
  cases q : truD st1 x with
  | none => simp [q] at h1; exact h1.elim
  | some b => exact ⟨b, truD_ok R1 rv q, PX.pure R1 (.bl (!b)) (σ := σ) (W := W) (by simpa only [q] using h1)⟩
def xif (c : XM Bool) (m n : XM D) : XM D := xbind c fun b => if b = true then m else n
theorem je_if {c a b : Expr} {mc : XM Bool} {m n : XM D} (hc : JT F c mc) (ha : JE F a m) (hb : JE F b n) : JE F (.IfExp c a b pos) (xif mc m n) := by
  obtain ⟨tc, pc, sc⟩ := hc
  obtain ⟨ta, pa, sa⟩ := ha
  obtain ⟨tb, pb, sb⟩ := hb
  refine ⟨fun W => tIf (tc W) (ta W) (tb W), fun W X m => pe_ifExp (pc W X m) (pa W X m) (pb W X m), ?_⟩
  intro W G H as st σ e Q R N h
  refine sc.one R N h fun b st1 G1 H1 as1 R1 X1 N1 h1 => ?_
  cases b with
  | true => exact iteT (sa W G1 H1 as1 st1 σ e Q R1 N1 h1)
  | false => exact iteF (sb W G1 H1 as1 st1 σ e Q R1 N1 h1)
/-- a minus ahead -/
def xneg (m : XM D) : XM D := xbind m fun x => fun _ st => match x with
  | .int i => .ok (.int (-i)) st
  | _ => .stuck
theorem je_neg {a : Expr} {m : XM D} (h : JE F a m) : JE F (.UnaryOp .USub a pos) (xneg m) := by
  obtain ⟨t, p, s⟩ := h
  refine ⟨fun W => tUn (rU fun i => .int (-i)) (t W), fun W X m => pe_un un_neg (p W X m), ?_⟩
  intro W G H as st σ e Q R N h
  refine s.one R N h fun x st1 v G1 H1 as1 R1 X1 N1 rv h1 => ?_
  cases rv with
  | int i => exact ⟨i, rfl, PX.pure R1 (.int (-i)) h1⟩
  | _ => exact h1.elim
end
end LS
end
section
set_option maxRecDepth 100000
set_option maxHeartbeats 2000000
namespace LS
open PySem PySem.Spec L2

/-! ## data as the library's data -/
mutual
def pyD : D → Option PyData
  | .non => some .none
  | .bl b => some (.bool b)
  | .int i => some (.int i)
  | .str s => some (.str s)
  | .tup xs => (pyDs xs).map .tuple
  | .lst xs => (pyDs xs).map .list
  | .sq xs => (pyDs xs).map .list
  | _ => none
def pyDs : List D → Option (List PyData)
  | [] => some []
  | d :: ds => match pyD d, pyDs ds with
    | some p, some ps => some (p :: ps)
    | _, _ => none
end
def pyOf (st : Store) : D → Option PyData
  | .ref i => match st[i]? with
    | some (.lst xs) => (pyDs xs).map .list
    | _ => none
  | d => pyD d
section
variable {K : PySem.W.Frag} {mg : Str → Option Value} {G H : Hp} {as : List Addr} {st : Store}
mutual
theorem pyD_ok (R : Ri K mg G H as st) : ∀ {d : D} {v : V} {p : PyData}, Rp K mg G as v d → pyD d = some p → Dp K H v p
  | .non, _, _, r, h => by cases r; cases h; exact .non
  | .bl _, _, _, r, h => by cases r; cases h; exact .bl _
  | .int _, _, _, r, h => by cases r; cases h; exact .int _
  | .str _, _, _, r, h => by cases r; cases h; exact .str _
  | .ty _, _, _, _, h => by cases h
  | .glo _, _, _, _, h => by cases h
  | .ref _, _, _, _, h => by cases h
  | .tup xs, _, _, r, h => by
    cases r with
    | tup s q =>
      obtain ⟨ps, e, rfl⟩ := Option.map_eq_some_iff.mp (show (pyDs xs).map PyData.tuple = some _ from h)
      exact .tup (sqT_H R s) (pyDs_ok R q e)
  | .lst xs, _, _, r, h => by
    cases r with
    | lst s q =>
      obtain ⟨ps, e, rfl⟩ := Option.map_eq_some_iff.mp (show (pyDs xs).map PyData.list = some _ from h)
      exact .lst (.of (R.sub _ _ s)) (pyDs_ok R q e)
  | .sq xs, _, _, r, h => by
    cases r with
    | sq s q =>
      obtain ⟨ps, e, rfl⟩ := Option.map_eq_some_iff.mp (show (pyDs xs).map PyData.list = some _ from h)
      exact .lst (sqL_H R s) (pyDs_ok R q e)
theorem pyDs_ok (R : Ri K mg G H as st) : ∀ {ds : List D} {vs : List V} {ps : List PyData}, RpA K mg G as vs ds → pyDs ds = some ps → DpAll K H vs ps
  | [], _, _, r, h => by cases r; cases h; exact .nil
  | d :: ds, _, _, r, h => by
    cases r with
    | cons a b =>
      unfold pyDs at h
      split at h
      · rename_i p qs e1 e2
        cases h
        exact .cons (pyD_ok R a e1) (pyDs_ok R b e2)
      · cases h
end
theorem pyOf_ok (R : Ri K mg G H as st) {d : D} {v : V} {p : PyData} (r : Rp K mg G as v d) (h : pyOf st d = some p) : Dp K H v p := by
  cases r with
  | ref q =>
    rename_i a i
    unfold pyOf at h
    cases hs : st[i]? with
    | none => simp [hs] at h
    | some m =>
      cases m with
      | lst ys =>
        simp only [hs] at h
        obtain ⟨ps, e, rfl⟩ := Option.map_eq_some_iff.mp h
        obtain ⟨ho, e1, o⟩ := R.at_ q hs
        cases o with | lst r' => exact .lst (.of e1) (pyDs_ok R r' e)
      | _ => simp [hs] at h
  | non => exact pyD_ok R .non h
  | bl b => exact pyD_ok R (.bl b) h
  | int i => exact pyD_ok R (.int i) h
  | str i => exact pyD_ok R (.str i) h
  | ty n => cases h
  | glo x a q => cases h
  | tup s q => exact pyD_ok R (.tup s q) h
  | lst s q => exact pyD_ok R (.lst s q) h
  | sq s q => exact pyD_ok R (.sq s q) h
  | tpz s z q => cases h
end
def intsOf : List D → Option (List Int)
  | [] => some []
  | .int i :: r => (intsOf r).map (i :: ·)
  | _ => none
def blsOf : List D → Option (List Bool)
  | [] => some []
  | .bl i :: r => (blsOf r).map (i :: ·)
  | _ => none
theorem intsOf_eq : ∀ {ds : List D} {ns : List Int}, intsOf ds = some ns → ds = ns.map D.int
  | [], _, h => by cases h; rfl
  | .int i :: r, _, h => by
    obtain ⟨ps, e, rfl⟩ := Option.map_eq_some_iff.mp (show (intsOf r).map (i :: ·) = some _ from h)
    rw [intsOf_eq e]; rfl
theorem intsOf_map : ∀ ns : List Int, intsOf (ns.map D.int) = some ns
  | [] => rfl
  | n :: ns => by show (intsOf (ns.map D.int)).map (n :: ·) = _; rw [intsOf_map ns]; rfl
theorem blsOf_eq : ∀ {ds : List D} {ns : List Bool}, blsOf ds = some ns → ds = ns.map D.bl
  | [], _, h => by cases h; rfl
  | .bl i :: r, _, h => by
    obtain ⟨ps, e, rfl⟩ := Option.map_eq_some_iff.mp (show (blsOf r).map (i :: ·) = some _ from h)
    rw [blsOf_eq e]; rfl
theorem blsOf_map : ∀ ns : List Bool, blsOf (ns.map D.bl) = some ns
  | [] => rfl
  | n :: ns => by show (blsOf (ns.map D.bl)).map (n :: ·) = _; rw [blsOf_map ns]; rfl

/-! ## operators -/
section
variable {g : Gb} {F : Fam g}
abbrev dpure (o : Option D) : XM D := fun _ st => match o with
  | some d => .ok d st
  | none => .stuck
def addD (x y : D) : XM D := fun _ st => match x, y with
  | .int i, .int j => .ok (.int (i + j)) st
  | .str a, .str b => if a.length + b.length ≤ LIM then .ok (.str (a ++ b)) st else .stuck
  | .tup xs, .tup ys => if xs.length + ys.length ≤ LIM then .ok (.tup (xs ++ ys)) st else .stuck
  | x, y => match lstOf st x, lstOf st y with
    | some xs, some ys => if xs.length + ys.length ≤ LIM then .ok (.lst (xs ++ ys)) st else .stuck
    | _, _ => .stuck
theorem or1 {f : Value → Value → Sem Value} {X : Cx} {r r' : R2} (h : OpR X f r) (h' : OpR X f r') : OpR X f (fun x y H Q => r x y H Q ∨ r' x y H Q) := h.or h'
theorem addD_lst {K : PySem.W.Frag} {mg : Str → Option Value} {W : WX} {G H : Hp} {as : List Addr} {st : Store} {σ : L2.St} {x y : D} {v w : V} {Q : VK} (R : Ri K mg G H as st) (rx : Rp K mg G as v x) (ry : Rp K mg G as w y)
    (h : PX K mg W G H as σ (match lstOf st x, lstOf st y with | some xs, some ys => if xs.length + ys.length ≤ LIM then .ok (.lst (xs ++ ys)) st else .stuck | _, _ => .stuck) Q) : rCat v w H Q := by
  cases e1 : lstOf st x with
  | none => simp [e1] at h; exact h.elim
  | some xs =>
    cases e2 : lstOf st y with
    | none => simp [e1, e2] at h; exact h.elim
    | some ys =>
      simp only [e1, e2] at h
      by_cases hl : xs.length + ys.length ≤ LIM
      · rw [if_pos hl] at h
        obtain ⟨a, vs, rfl, h1, r1⟩ := lstOf_ok R rx e1
        obtain ⟨b, ws, rfl, h2, r2⟩ := lstOf_ok R ry e2
        refine ⟨a, b, vs, ws, rfl, rfl, h1, h2, by rw [r1.len, r2.len]; exact lim_le hl, fun p hp => ?_⟩
        obtain ⟨R', x'⟩ := R.still (o := .lst (vs ++ ws)) hp
        exact h _ _ _ _ R' x' (.lst upd_same ((r1.append r2).ext x'))
      · rw [if_neg hl] at h; exact h.elim
theorem os_add : OpS F (binaryOp .Add) addD := by
  refine ⟨fun x y H Q => rI0 (fun i j => .int (i + j)) x y H Q ∨ (∃ i j, x = .str i ∧ y = .str j ∧ i.length + j.length ≤ sizeLine ∧ Q (.str (i ++ j)) H) ∨ rCatA g.K x y H Q ∨ rCat x y H Q,
    fun W X m => op_add.or (op_add_str.or (OpR.or (by have := op_catA (X := X); rw [F.hK m] at this; exact this) op_cat)), ?_⟩
  intro W G H as st σ e x y v w Q R rx ry h
  unfold addD at h
  split at h
  · cases rx; cases ry; exact .inl ⟨_, _, rfl, rfl, h.pure R (.int _)⟩
  · rename_i a b
    cases rx; cases ry
    by_cases hl : a.length + b.length ≤ LIM
    · rw [if_pos hl] at h
      exact .inr (.inl ⟨_, _, rfl, rfl, lim_le hl, h.pure R (.str _)⟩)
    · rw [if_neg hl] at h; exact h.elim
  · rename_i xs ys
    by_cases hl : xs.length + ys.length ≤ LIM
    · rw [if_pos hl] at h
      cases rx with
      | tup s1 r1 =>
        cases ry with
        | tup s2 r2 =>
          rename_i a vs b ws
          refine .inr (.inr (.inl ⟨a, b, vs, ws, rfl, rfl, sqT_H R s1, sqT_H R s2, by rw [r1.len, r2.len]; exact lim_le hl, fun z => ?_, fun _ z => ?_, fun _ _ p hp => ?_⟩))
          · subst z; cases r1
            exact h.pure R (.tup s2 r2)
          · subst z; cases r2
            rw [List.append_nil] at h
            exact h.pure R (.tup s1 r1)
          · obtain ⟨R', x'⟩ := R.still (o := .tup (vs ++ ws)) hp
            exact h _ _ _ _ R' x' (.tup (.inl (.inl upd_same)) ((r1.append r2).ext x'))
    · rw [if_neg hl] at h; exact h.elim
  · exact .inr (.inr (.inr (addD_lst R rx ry h)))
def i2 (c : Int → Int → Bool) (f : Int → Int → D) (x y : D) : XM D := fun _ st => match x, y with
  | .int i, .int j => if c i j = true then .ok (f i j) st else .stuck
  | _, _ => .stuck
theorem os_i2 {fv : Value → Value → Sem Value} {C : Int → Int → Prop} {c : Int → Int → Bool} {f : Int → Int → D} {fV : Int → Int → V} (h : ∀ X : Cx, OpR X fv (rI C fV)) (hc : ∀ i j, c i j = true → C i j) (hf : ∀ i j G as, Rp g.K g.mg G as (fV i j) (f i j)) : OpS F fv (i2 c f) := by
  refine ⟨rI C fV, fun W X m => h X, ?_⟩
  intro W G H as st σ e x y v w Q R rx ry q
  unfold i2 at q
  split at q
  · rename_i i j
    cases rx; cases ry
    by_cases hl : c i j = true
    · rw [if_pos hl] at q
      exact ⟨i, j, rfl, rfl, hc i j hl, q.pure R (hf i j _ _)⟩
    · rw [if_neg hl] at q; exact q.elim
  · exact q.elim
theorem op_of0 {fv : Value → Value → Sem Value} {X : Cx} {fV : Int → Int → V} (h : OpR X fv (rI0 fV)) : OpR X fv (rI (fun _ _ => True) fV) := by
  intro pins s σ H x y v u Q I rx ry q
  obtain ⟨i, j, e1, e2, _, q⟩ := q
  exact h pins s σ H x y v u Q I rx ry ⟨i, j, e1, e2, q⟩
abbrev subD : D → D → XM D := i2 (fun _ _ => true) fun i j => .int (i - j)
theorem os_sub : OpS F (binaryOp .Sub) subD := os_i2 (fun _ => op_of0 op_sub) (fun _ _ _ => trivial) fun _ _ _ _ => .int _
def mulC (i j : Int) : Bool := decide (i.natAbs < 2 ^ 64) || decide (j.natAbs < 2 ^ 64) || decide (i.natAbs.log2 + j.natAbs.log2 < 1000000)
abbrev mulD : D → D → XM D := i2 mulC fun i j => .int (i * j)
theorem op_mulA {X : Cx} : OpR X (binaryOp .Mult) (rI (fun i j => mulC i j = true) fun i j => .int (i * j)) := by
  intro pins s σ H x y v u Q I rx ry q
  obtain ⟨i, j, e1, e2, c, q⟩ := q
  unfold mulC at c
  simp only [Bool.or_eq_true, decide_eq_true_eq] at c
  rcases c with (c | c) | c
  · exact op_mul pins s σ H x y v u Q I rx ry ⟨i, j, e1, e2, .inl (by omega), q⟩
  · exact op_mul pins s σ H x y v u Q I rx ry ⟨i, j, e1, e2, .inr (by omega), q⟩
  · exact op_mulW pins s σ H x y v u Q I rx ry ⟨i, j, e1, e2, c, q⟩
theorem os_mul : OpS F (binaryOp .Mult) mulD := os_i2 (fun _ => op_mulA) (fun _ _ h => h) fun _ _ _ _ => .int _
def divC (_ j : Int) : Bool := decide (0 < j) && (decide (j.natAbs < 1073741824) || decide (j.natAbs.log2 < 9000))
abbrev divD : D → D → XM D := i2 divC fun i j => .int (i / j)
theorem op_divA {X : Cx} : OpR X (binaryOp .FloorDiv) (rI (fun i j => divC i j = true) fun i j => .int (i / j)) := by
  intro pins s σ H x y v u Q I rx ry q
  obtain ⟨i, j, e1, e2, c, q⟩ := q
  unfold divC at c
  simp only [Bool.and_eq_true, Bool.or_eq_true, decide_eq_true_eq] at c
  rcases c with ⟨c0, c | c⟩
  · exact op_fdiv pins s σ H x y v u Q I rx ry ⟨i, j, e1, e2, ⟨c0, by omega⟩, q⟩
  · exact op_fdivW pins s σ H x y v u Q I rx ry ⟨i, j, e1, e2, ⟨c0, c⟩, q⟩
theorem os_div : OpS F (binaryOp .FloorDiv) divD := os_i2 (fun _ => op_divA) (fun _ _ h => h) fun _ _ _ _ => .int _
abbrev modD : D → D → XM D := i2 (fun _ j => decide (0 < j)) fun i j => .int (i % j)
theorem os_mod : OpS F (binaryOp .Mod) modD := os_i2 (fun _ => op_mod) (fun _ _ h => of_decide_eq_true h) fun _ _ _ _ => .int _
def powC (i j : Int) : Bool := decide (0 ≤ j) && decide (j ≤ 1000000) && decide (i.natAbs < 2 ^ 64)
theorem powC_ok {i j : Int} (h : powC i j = true) : CPow i j := by
  unfold powC at h
  simp only [Bool.and_eq_true, decide_eq_true_eq] at h
  exact ⟨h.1.1, h.1.2, h.2⟩
abbrev powD : D → D → XM D := i2 powC fun i j => .int (i ^ j.toNat)
theorem os_pow : OpS F (binaryOp .Pow) powD := os_i2 (fun _ => op_pow) (fun _ _ h => powC_ok h) fun _ _ _ _ => .int _
abbrev shlD : D → D → XM D := i2 powC fun i j => .int (i * 2 ^ j.toNat)
theorem os_shl : OpS F (binaryOp .LShift) shlD := os_i2 (fun _ => op_shl) (fun _ _ h => powC_ok h) fun _ _ _ _ => .int _

/-! ### comparisons -/
def eqO (st : Store) (x y : D) : Option Bool := match pyOf st x, pyOf st y with
  | some p, some q => if (SeqAt.shaped p && SeqAt.shaped q) = true then some (PyData.eqv p q) else none
  | _, _ => none
def eqD (x y : D) : XM D := fun _ st => match eqO st x y with
  | some b => .ok (.bl b) st
  | none => .stuck
def neD (x y : D) : XM D := fun _ st => match eqO st x y with
  | some b => .ok (.bl (!b)) st
  | none => .stuck
theorem eqO_ok {K : PySem.W.Frag} {mg : Str → Option Value} {G H : Hp} {as : List Addr} {st : Store} {x y : D} {v w : V} {b : Bool} (R : Ri K mg G H as st) (rx : Rp K mg G as v x) (ry : Rp K mg G as w y) (h : eqO st x y = some b) :
    ∃ p q, Dp K H v p ∧ Dp K H w q ∧ SeqAt.shaped p = true ∧ SeqAt.shaped q = true ∧ PyData.eqv p q = b := by
  unfold eqO at h
  split at h
  · rename_i p q e1 e2
    by_cases hs : (SeqAt.shaped p && SeqAt.shaped q) = true
    · rw [if_pos hs] at h
      have hs' := Bool.and_eq_true_iff.mp hs
      exact ⟨p, q, pyOf_ok R rx e1, pyOf_ok R ry e2, hs'.1, hs'.2, Option.some.inj h⟩
    · rw [if_neg hs] at h; cases h
  · cases h
theorem os_eq : OpS F (compareOp .Eq) eqD := by
  refine ⟨rEqD g.K, fun W X m => by have := op_eqD (X := X) (F.room m).units; rw [F.hK m] at this; exact this, ?_⟩
  intro W G H as st σ e x y v w Q R rx ry h
  unfold eqD at h
  cases q : eqO st x y with
  | none => simp [q] at h; exact h.elim
  | some b =>
    simp only [q] at h
    obtain ⟨p, p', d1, d2, s1, s2, e1⟩ := eqO_ok R rx ry q
    exact ⟨p, p', d1, d2, s1, s2, by rw [e1]; exact h.pure R (.bl b)⟩
theorem os_ne : OpS F (compareOp .NotEq) neD := by
  refine ⟨rNeD g.K, fun W X m => by have := op_neD (X := X) (F.room m).units; rw [F.hK m] at this; exact this, ?_⟩
  intro W G H as st σ e x y v w Q R rx ry h
  unfold neD at h
  cases q : eqO st x y with
  | none => simp [q] at h; exact h.elim
  | some b =>
    simp only [q] at h
    obtain ⟨p, p', d1, d2, s1, s2, e1⟩ := eqO_ok R rx ry q
    exact ⟨p, p', d1, d2, s1, s2, by rw [e1]; exact h.pure R (.bl (!b))⟩
def ltD (x y : D) : XM D := fun _ st => match x, y with
  | .int i, .int j => .ok (.bl (decide (i < j))) st
  | .tup xs, .tup ys => match intsOf xs, intsOf ys with
    | some ns, some ms => .ok (.bl (HT.lexLt ns ms)) st
    | _, _ => .stuck
  | _, _ => .stuck
theorem os_lt : OpS F (compareOp .Lt) ltD := by
  refine ⟨fun x y H Q => rI0 (fun i j => .bl (decide (i < j))) x y H Q ∨ rLtT g.K x y H Q, fun W X m => op_lt.or (by have := op_ltT (X := X) (F.room m).units0; rw [F.hK m] at this; exact this), ?_⟩
  intro W G H as st σ e x y v w Q R rx ry h
  unfold ltD at h
  split at h
  · cases rx; cases ry; exact .inl ⟨_, _, rfl, rfl, h.pure R (.bl _)⟩
  · split at h
    · rename_i xs ys ns ms e1 e2
      cases intsOf_eq e1; cases intsOf_eq e2
      cases rx with
      | tup s1 r1 =>
        cases ry with
        | tup s2 r2 =>
          cases RpA.ints _ r1
          cases RpA.ints _ r2
          exact .inr ⟨_, _, ns, ms, rfl, rfl, sqT_H R s1, sqT_H R s2, h.pure R (.bl _)⟩
    · exact h.elim
  · exact h.elim
abbrev leD : D → D → XM D := i2 (fun _ _ => true) fun i j => .bl (decide (i ≤ j))
theorem os_le : OpS F (compareOp .LtE) leD := os_i2 (fun _ => op_of0 op_le) (fun _ _ _ => trivial) fun _ _ _ _ => .bl _
abbrev gtD : D → D → XM D := i2 (fun _ _ => true) fun i j => .bl (decide (j < i))
theorem os_gt : OpS F (compareOp .Gt) gtD := os_i2 (fun _ => op_of0 op_gt) (fun _ _ _ => trivial) fun _ _ _ _ => .bl _
abbrev geD : D → D → XM D := i2 (fun _ _ => true) fun i j => .bl (decide (j ≤ i))
theorem os_ge : OpS F (compareOp .GtE) geD := os_i2 (fun _ => op_of0 op_ge) (fun _ _ _ => trivial) fun _ _ _ _ => .bl _
def isN : D → Bool
  | .non => true
  | _ => false
def isD (x y : D) : XM D := fun _ st => match y with
  | .non => .ok (.bl (isN x)) st
  | _ => .stuck
def isntD (x y : D) : XM D := fun _ st => match y with
  | .non => .ok (.bl (!isN x)) st
  | _ => .stuck
theorem isN_ok {K : PySem.W.Frag} {mg : Str → Option Value} {G : Hp} {as : List Addr} {x : D} {v : V} (r : Rp K mg G as v x) : decide (v = .non) = isN x := by
  cases r <;> first | rfl | exact decide_eq_false (fun z => nomatch z)
theorem os_is : OpS F (compareOp .Is) isD := by
  refine ⟨fun x y H Q => y = .non ∧ Q (.bl (decide (x = .non))) H, fun W X m => op_isN, ?_⟩
  intro W G H as st σ e x y v w Q R rx ry h
  cases ry with
  | non => exact ⟨rfl, by rw [isN_ok rx]; exact PX.pure R (.bl _) h⟩
  | _ => exact h.elim
theorem os_isnt : OpS F (compareOp .IsNot) isntD := by
  refine ⟨fun x y H Q => y = .non ∧ Q (.bl (!decide (x = .non))) H, fun W X m => op_notN, ?_⟩
  intro W G H as st σ e x y v w Q R rx ry h
  cases ry with
  | non => exact ⟨rfl, by rw [isN_ok rx]; exact PX.pure R (.bl _) h⟩
  | _ => exact h.elim
/-- x in a list, a tuple -/
def rInA (K : PySem.W.Frag) : R2 := fun x y H Q => ∃ d ds, Dp K H x d ∧ (Dp K H y (.list ds) ∨ Dp K H y (.tuple ds)) ∧ SeqAt.shaped d = true ∧ SeqAt.shaped (.list ds) = true ∧ Q (.bl (ds.any fun z => PyData.eqv z d)) H
def rNotInA (K : PySem.W.Frag) : R2 := fun x y H Q => ∃ d ds, Dp K H x d ∧ (Dp K H y (.list ds) ∨ Dp K H y (.tuple ds)) ∧ SeqAt.shaped d = true ∧ SeqAt.shaped (.list ds) = true ∧ Q (.bl (!ds.any fun z => PyData.eqv z d)) H
theorem room_in {A : Around} {ds : List PyData} {d : PyData} (h : SeqAt.shaped d = true) (hu : A.units + 65 < cLine) : A.units + 1 + min (PyData.depthAll ds) d.depth < cLine := by
  have h1 := SeqAt.depth_of_shaped h
  have h2 : min (PyData.depthAll ds) d.depth ≤ d.depth := Nat.min_le_right _ _
  omega
theorem op_inA {X : Cx} (hu : X.A.units + 65 < cLine) : OpR X (compareOp .In) (rInA X.K) := by
  intro pins s σ H x y v u Q I rx ry h
  obtain ⟨d, ds, hd, he, sd, se, q⟩ := h
  obtain ⟨as, r1⟩ := Dp.reads I d x v hd rx
  rcases he with he | he
  · obtain ⟨bs, r2⟩ := Dp.reads I (.list ds) y u he ry
    exact SeqAt.in_list_reads r2 r1 (SeqAt.canLay_of_shaped se) (SeqAt.canLay_of_shaped sd) (room_in sd hu) ⟨.bl _, H, I, rfl, q⟩
  · obtain ⟨bs, r2⟩ := Dp.reads I (.tuple ds) y u he ry
    exact SeqAt.in_tuple_reads r2 r1 (SeqAt.canLay_of_shaped se) (SeqAt.canLay_of_shaped sd) (room_in sd hu) ⟨.bl _, H, I, rfl, q⟩
theorem op_notInA {X : Cx} (hu : X.A.units + 65 < cLine) : OpR X (compareOp .NotIn) (rNotInA X.K) := by
  intro pins s σ H x y v u Q I rx ry h
  obtain ⟨d, ds, hd, he, sd, se, q⟩ := h
  obtain ⟨as, r1⟩ := Dp.reads I d x v hd rx
  rcases he with he | he
  · obtain ⟨bs, r2⟩ := Dp.reads I (.list ds) y u he ry
    exact SeqAt.notIn_list_reads r2 r1 (SeqAt.canLay_of_shaped se) (SeqAt.canLay_of_shaped sd) (room_in sd hu) ⟨.bl _, H, I, rfl, q⟩
  · obtain ⟨bs, r2⟩ := Dp.reads I (.tuple ds) y u he ry
    exact SeqAt.notIn_tuple_reads r2 r1 (SeqAt.canLay_of_shaped se) (SeqAt.canLay_of_shaped sd) (room_in sd hu) ⟨.bl _, H, I, rfl, q⟩
def inO (st : Store) (x y : D) : Option Bool := match pyOf st x, pyOf st y with
  | some p, some (.list qs) => if (SeqAt.shaped p && SeqAt.shaped (.list qs)) = true then some (qs.any fun z => PyData.eqv z p) else none
  | some p, some (.tuple qs) => if (SeqAt.shaped p && SeqAt.shaped (.list qs)) = true then some (qs.any fun z => PyData.eqv z p) else none
  | _, _ => none
def inD (x y : D) : XM D := fun _ st => match inO st x y with
  | some b => .ok (.bl b) st
  | none => .stuck
def notInD (x y : D) : XM D := fun _ st => match inO st x y with
  | some b => .ok (.bl (!b)) st
  | none => .stuck
theorem inO_ok {K : PySem.W.Frag} {mg : Str → Option Value} {G H : Hp} {as : List Addr} {st : Store} {x y : D} {v w : V} {b : Bool} (R : Ri K mg G H as st) (rx : Rp K mg G as v x) (ry : Rp K mg G as w y) (h : inO st x y = some b) :
    ∃ d ds, Dp K H v d ∧ (Dp K H w (.list ds) ∨ Dp K H w (.tuple ds)) ∧ SeqAt.shaped d = true ∧ SeqAt.shaped (.list ds) = true ∧ (ds.any fun z => PyData.eqv z d) = b := by
  unfold inO at h
  split at h
  · rename_i p qs e1 e2
    by_cases hs : (SeqAt.shaped p && SeqAt.shaped (.list qs)) = true
    · rw [if_pos hs] at h
      have hs' := Bool.and_eq_true_iff.mp hs
      exact ⟨p, qs, pyOf_ok R rx e1, .inl (pyOf_ok R ry e2), hs'.1, hs'.2, Option.some.inj h⟩
    · rw [if_neg hs] at h; cases h
  · rename_i p qs e1 e2
    by_cases hs : (SeqAt.shaped p && SeqAt.shaped (.list qs)) = true
    · rw [if_pos hs] at h
      have hs' := Bool.and_eq_true_iff.mp hs
      exact ⟨p, qs, pyOf_ok R rx e1, .inr (pyOf_ok R ry e2), hs'.1, hs'.2, Option.some.inj h⟩
    · rw [if_neg hs] at h; cases h
  · cases h
theorem units65 {k : Nat} {A : Around} (r : Room k A) : A.units + 65 < cLine := by have := r.un; omega
theorem os_in : OpS F (compareOp .In) inD := by
  refine ⟨rInA g.K, fun W X m => by have := op_inA (X := X) (units65 (F.room m)); rw [F.hK m] at this; exact this, ?_⟩
  intro W G H as st σ e x y v w Q R rx ry h
  unfold inD at h
  cases q : inO st x y with
  | none => simp [q] at h; exact h.elim
  | some b =>
    simp only [q] at h
    obtain ⟨d, ds, h1, h2, h3, h4, h5⟩ := inO_ok R rx ry q
    exact ⟨d, ds, h1, h2, h3, h4, by rw [h5]; exact h.pure R (.bl b)⟩
theorem os_notin : OpS F (compareOp .NotIn) notInD := by
  refine ⟨rNotInA g.K, fun W X m => by have := op_notInA (X := X) (units65 (F.room m)); rw [F.hK m] at this; exact this, ?_⟩
  intro W G H as st σ e x y v w Q R rx ry h
  unfold notInD at h
  cases q : inO st x y with
  | none => simp [q] at h; exact h.elim
  | some b =>
    simp only [q] at h
    obtain ⟨d, ds, h1, h2, h3, h4, h5⟩ := inO_ok R rx ry q
    exact ⟨d, ds, h1, h2, h3, h4, by rw [h5]; exact h.pure R (.bl (!b))⟩

/-! ## items and slices -/
variable {pos : Pos}
def ixD (x y : D) : XM D := fun _ st => match y with
  | .int i => (match seqOf st x with
    | some xs => (match atI xs i with
      | some d => .ok d st
      | none => .stuck)
    | none => .stuck)
  | _ => .stuck
theorem atI_rp {K : PySem.W.Frag} {mg : Str → Option Value} {G : Hp} {as : List Addr} {vs : List V} {xs : List D} {i : Int} {d : D} (r : RpA K mg G as vs xs) (h : atI xs i = some d) : ∃ v, atI vs i = some v ∧ Rp K mg G as v d := by
  unfold atI at h ⊢
  rw [r.len]
  cases q : ixN xs.length i with
  | none => rw [q] at h; cases h
  | some j =>
    rw [q] at h
    exact r.get (by simpa using h)
theorem je_ix {a b : Expr} {ma mb : XM D} (ha : JE F a ma) (hb : JE F b mb) (hs : PlainIx b := by intro _ _; rfl) : JE F (.Subscript a b pos) (xop ixD ma mb) := by
  obtain ⟨ta, pa, sa⟩ := ha
  obtain ⟨tb, pb, sb⟩ := hb
  refine ⟨fun W => tOp (fun x y H Q => rIxL g.K x y H Q ∨ rIxT g.K x y H Q) (ta W) (tb W), fun W X m => by have := pe_ix (pos := pos) ((ix_list (X := X)).or ix_tup) (pa W X m) (pb W X m) hs; rw [F.hK m] at this; exact this, ?_⟩
  intro W G H as st σ e Q R N h
  refine sa.one R N h fun x st1 v G1 H1 as1 R1 X1 N1 rv h1 => ?_
  refine sb.one R1 N1 h1 fun y st2 w G2 H2 as2 R2 X2 N2 rw' h2 => ?_
  have rv2 := rv.ext X2
  unfold ixD at h2
  cases rw' with
  | int i =>
    cases q : seqOf st2 x with
    | none => simp [q] at h2; exact h2.elim
    | some xs =>
      cases q2 : atI xs i with
      | none => simp [q, q2] at h2; exact h2.elim
      | some d =>
        simp only [q, q2] at h2
        obtain ⟨a', vs, rfl, s, r⟩ := seqOf_ok R2 rv2 q
        obtain ⟨u, e1, ru⟩ := atI_rp r q2
        rcases s with s | s
        · exact .inl ⟨a', vs, i, u, rfl, rfl, s, e1, h2.pure R2 ru⟩
        · exact .inr ⟨a', vs, i, u, rfl, rfl, s, e1, h2.pure R2 ru⟩
  | _ => exact h2.elim
def JO (F : Fam g) (ex : Option Expr) (m : XM (Option Int)) : Prop := ∃ t : WX → TO, (∀ W X, F.mem W X → PO X ex (t W)) ∧
  ∀ (W : WX) (G H : Hp) (as : List Addr) (st : Store) (σ : L2.St) (e : Nv) (f : Option Int → XM D) (Q : VK) (Q1 : Option Int → Hp → Prop), Ri g.K g.mg G H as st → Rn g.K g.mg G as σ e → PX g.K g.mg W G H as σ (xbind m f e st) Q →
    (∀ x st1 G1 H1 as1, Ri g.K g.mg G1 H1 as1 st1 → Ext G H as G1 H1 as1 → Rn g.K g.mg G1 as1 σ e → PX g.K g.mg W G1 H1 as1 σ (f x e st1) Q → Q1 x H1) → t W σ H Q1
theorem jo_none : JO F none (xpure none) := ⟨fun _ => tNoPart, fun _ _ _ => po_none, fun W G H as st σ e f Q Q1 R N h k => k none st G H as R Ext.refl N h⟩
def xpart (m : XM D) : XM (Option Int) := xbind m fun x => fun _ st => match x with
  | .int i => .ok (some i) st
  | _ => .stuck
theorem jo_some {ex : Expr} {m : XM D} (h : JE F ex m) : JO F (some ex) (xpart m) := by
  obtain ⟨t, p, s⟩ := h
  refine ⟨fun W => tPart (t W), fun W X m => po_some (p W X m), ?_⟩
  intro W G H as st σ e f Q Q1 R N h k
  have h' : PX g.K g.mg W G H as σ (xbind m (fun x => xbind (fun _ st => match x with | .int i => .ok (some i) st | _ => .stuck) f) e st) Q := by
    refine Eq.mp (congrArg (fun r => PX g.K g.mg W G H as σ r Q) ?_) h
    unfold xpart xbind
    cases q : m e st <;> rfl
  refine s.one R N h' fun x st1 v G1 H1 as1 R1 X1 N1 rv h1 => ?_
  cases rv with
  | int i => exact ⟨i, rfl, k (some i) st1 G1 H1 as1 R1 X1 N1 h1⟩
  | _ => exact h1.elim
def cutD (xs : List D) (lo hi : Option Int) : List D := (xs.drop (HT.sIx xs.length 0 lo)).take (HT.sIx xs.length xs.length hi - HT.sIx xs.length 0 lo)
theorem cut_rp {K : PySem.W.Frag} {mg : Str → Option Value} {G : Hp} {as : List Addr} {vs : List V} {xs : List D} (r : RpA K mg G as vs xs) (lo hi : Option Int) : RpA K mg G as (cutV vs lo hi) (cutD xs lo hi) := by
  unfold cutV cutD
  rw [r.len]
  exact (r.drop _).take _
def slD (x : D) (lo hi : Option Int) : XM D := fun _ st => match x with
  | .tup xs => .ok (.tup (cutD xs lo hi)) st
  | .sq xs => .ok (.lst (cutD xs lo hi)) st
  | x => match lstOf st x with
    | some xs => .ok (.lst (cutD xs lo hi)) st
    | none => .stuck
def xslice (m : XM D) (ml mh : XM (Option Int)) : XM D := xbind m fun x => xbind ml fun l => xbind mh fun h => slD x l h
theorem je_slice {ex : Expr} {lo hi : Option Expr} {p2 : Pos} {m : XM D} {ml mh : XM (Option Int)} (he : JE F ex m) (hl : JO F lo ml) (hh : JO F hi mh) : JE F (.Subscript ex (.Slice lo hi none p2) pos) (xslice m ml mh) := by
  obtain ⟨t, p, s⟩ := he
  obtain ⟨tl, pl, sl⟩ := hl
  obtain ⟨th, ph, sh⟩ := hh
  refine ⟨fun W => tSl (fun x lo hi H Q => rSlA g.K x lo hi H Q ∨ rSlL g.K x lo hi H Q) (t W) (tl W) (th W), fun W X m => by have := pe_slice (pos := pos) (p2 := p2) ((sl_tupA (X := X)).or sl_list) (p W X m) (pl W X m) (ph W X m); rw [F.hK m] at this; exact this, ?_⟩
  intro W G H as st σ e Q R N h
  refine s.one R N h fun x st1 v G1 H1 as1 R1 X1 N1 rv h1 => ?_
  refine sl W G1 H1 as1 st1 σ e _ Q _ R1 N1 h1 fun l st2 G2 H2 as2 R2 X2 N2 h2 => ?_
  refine sh W G2 H2 as2 st2 σ e _ Q _ R2 N2 h2 fun u st3 G3 H3 as3 R3 X3 N3 h3 => ?_
  have rv3 := (rv.ext X2).ext X3
  have lists : ∀ xs, (∃ a vs, v = .ref a ∧ SqL g.K H3 a vs ∧ RpA g.K g.mg G3 as3 vs xs) → PX g.K g.mg W G3 H3 as3 σ (.ok (.lst (cutD xs l u)) st3) Q → rSlL g.K v l u H3 Q := fun xs ⟨a, vs, e1, s1, r1⟩ q => by
    refine ⟨a, vs, e1, s1, fun p hp => ?_⟩
    obtain ⟨R', x'⟩ := R3.still (o := .lst (cutV vs l u)) hp
    exact q _ _ _ _ R' x' (.lst upd_same ((cut_rp r1 l u).ext x'))
  have lists2 : PX g.K g.mg W G3 H3 as3 σ (match lstOf st3 x with | some xs => .ok (.lst (cutD xs l u)) st3 | none => .stuck) Q → rSlL g.K v l u H3 Q := fun q => by
    cases q2 : lstOf st3 x with
    | none => simp [q2] at q; exact q.elim
    | some xs =>
      simp only [q2] at q
      obtain ⟨a, vs, e1, s1, r1⟩ := lstOf_ok R3 rv3 q2
      exact lists xs ⟨a, vs, e1, .of s1, r1⟩ q
  unfold slD at h3
  split at h3
  · cases rv3 with
    | tup s1 r1 =>
      refine .inl ⟨_, _, rfl, sqT_H R3 s1, fun z => ?_, fun _ p hp => ?_⟩
      · rename_i xs _ _
        have e1 : cutD xs l u = xs := by
          unfold cutD
          rw [← r1.len, z.1, z.2, Nat.sub_zero, List.drop_zero, r1.len]
          exact List.take_length
        rw [e1] at h3
        exact h3.pure R3 (.tup s1 r1)
      · obtain ⟨R', x'⟩ := R3.still hp
        exact h3 _ _ _ _ R' x' (.tup (.inl (.inl upd_same)) ((cut_rp r1 l u).ext x'))
  · cases rv3 with
    | sq s1 r1 => exact .inr (lists _ ⟨_, _, rfl, sqL_H R3 s1, r1⟩ h3)
  · exact .inr (lists2 h3)
end
end LS
end
section
set_option maxRecDepth 100000
set_option maxHeartbeats 2000000
namespace LS
open PySem PySem.Spec L2

/-! ## calls of built-ins, by values -/
section
variable {g : Gb} {F : Fam g} {pos : Pos}
def CallS (F : Fam g) (fv : Value) (fop : List D → XM D) : Prop := ∃ r : List V → Hp → VK → Prop, (∀ W X, F.mem W X → CallR X fv r) ∧
  ∀ (W : WX) (G H : Hp) (as : List Addr) (st : Store) (σ : L2.St) (e : Nv) (xs : List D) (vs : List V) (Q : VK), Ri g.K g.mg G H as st → RpA g.K g.mg G as vs xs → PX g.K g.mg W G H as σ (fop xs e st) Q → r vs H Q
def xcall (fop : List D → XM D) (ms : XM (List D)) : XM D := xbind ms fop
theorem callS_SE {r : List V → Hp → VK → Prop} {ts : WX → TA} {ms : XM (List D)} {fop : List D → XM D} (ss : SA g ts ms)
    (hv : ∀ (W : WX) (G H : Hp) (as : List Addr) (st : Store) (σ : L2.St) (e : Nv) (xs : List D) (vs : List V) (Q : VK), Ri g.K g.mg G H as st → RpA g.K g.mg G as vs xs → PX g.K g.mg W G H as σ (fop xs e st) Q → r vs H Q) : SE g (fun W => tCB r (ts W)) (xcall fop ms) := by
  intro W G H as st σ e Q R N h
  refine ss.one R N h fun xs st1 vs G1 H1 as1 R1 X1 N1 rv h1 => ?_
  exact hv W G1 H1 as1 st1 σ e xs vs Q R1 rv h1
theorem je_callB {x : Str} {id : String} {p : Pos} {a : Expr} {es : List Expr} {ms : XM (List D)} {fop : List D → XM D} (hc : CallS F (.builtin id) fop) (hg : F.sc.names.lookup x = some .globalImplicit) (hm : g.mg x = none) (hv : bootBuiltins x = some (.builtin id)) (ha : JA F (a :: es) ms)
    (hn : x ≠ "__name__" := by decide) (hdb : (x == ("__debug__" : Str)) = false := by decide) (he : ∀ env, starEach (a :: es) env = (false, eval a env) :: starEach es env := by intro _; rfl) (hpl : ∀ env, (backTo pos (starEach es env)).any (·.1) = false := by intro _; rfl) :
    JE F (.Call (.Name x p) (a :: es) [] pos) (xcall fop ms) := by
  obtain ⟨r, hr, hv'⟩ := hc
  obtain ⟨ts, ps, ss⟩ := ha
  exact ⟨fun W => tCB r (ts W), fun W X m => pe_callB (hr W X m) (by show X.env.scope.names.lookup x = _; rw [F.hsc m]; exact hg) (by rw [F.hmg m]; exact hm) hv (ps W X m) hn hdb (he _) (hpl _), callS_SE ss hv'⟩
theorem je_callTy {x : Str} {T : String} {p : Pos} {a : Expr} {es : List Expr} {ms : XM (List D)} {fop : List D → XM D} (hc : CallS F (.type T) fop) (hg : F.sc.names.lookup x = some .globalImplicit) (hm : g.mg x = none) (hv : bootBuiltins x = some (.type T)) (ha : JA F (a :: es) ms)
    (hn : x ≠ "__name__" := by decide) (hdb : (x == ("__debug__" : Str)) = false := by decide) (he : ∀ env, starEach (a :: es) env = (false, eval a env) :: starEach es env := by intro _; rfl) (hpl : ∀ env, (backTo pos (starEach es env)).any (·.1) = false := by intro _; rfl) :
    JE F (.Call (.Name x p) (a :: es) [] pos) (xcall fop ms) := by
  obtain ⟨r, hr, hv'⟩ := hc
  obtain ⟨ts, ps, ss⟩ := ha
  exact ⟨fun W => tCB r (ts W), fun W X m => pe_callTy (hr W X m) (by show X.env.scope.names.lookup x = _; rw [F.hsc m]; exact hg) (by rw [F.hmg m]; exact hm) hv (ps W X m) hn hdb (he _) (hpl _), callS_SE ss hv'⟩

/-! ### one argument -/
theorem rp1 {K : PySem.W.Frag} {mg : Str → Option Value} {G : Hp} {as : List Addr} {vs : List V} {x : D} (h : RpA K mg G as vs [x]) : ∃ v, vs = [v] ∧ Rp K mg G as v x := by
  cases h with | cons a b => cases b; exact ⟨_, rfl, a⟩
theorem rp2 {K : PySem.W.Frag} {mg : Str → Option Value} {G : Hp} {as : List Addr} {vs : List V} {x y : D} (h : RpA K mg G as vs [x, y]) : ∃ v w, vs = [v, w] ∧ Rp K mg G as v x ∧ Rp K mg G as w y := by
  cases h with | cons a b => cases b with | cons c d => cases d; exact ⟨_, _, rfl, a, c⟩
def f1 (f : D → XM D) : List D → XM D
  | [x] => f x
  | _ => fun _ _ => .stuck
def f2 (f : D → D → XM D) : List D → XM D
  | [x, y] => f x y
  | _ => fun _ _ => .stuck
theorem cs_1 {fv : Value} {f : D → XM D} {r : List V → Hp → VK → Prop} (hr : ∀ W X, F.mem W X → CallR X fv r)
    (h : ∀ (W : WX) (G H : Hp) (as : List Addr) (st : Store) (σ : L2.St) (e : Nv) (x : D) (v : V) (Q : VK), Ri g.K g.mg G H as st → Rp g.K g.mg G as v x → PX g.K g.mg W G H as σ (f x e st) Q → r [v] H Q) : CallS F fv (f1 f) := by
  refine ⟨r, hr, ?_⟩
  intro W G H as st σ e xs vs Q R rv q
  match xs, q with
  | [x], q =>
    obtain ⟨v, rfl, rx⟩ := rp1 rv
    exact h W G H as st σ e x v Q R rx q
theorem cs_2 {fv : Value} {f : D → D → XM D} {r : List V → Hp → VK → Prop} (hr : ∀ W X, F.mem W X → CallR X fv r)
    (h : ∀ (W : WX) (G H : Hp) (as : List Addr) (st : Store) (σ : L2.St) (e : Nv) (x y : D) (v w : V) (Q : VK), Ri g.K g.mg G H as st → Rp g.K g.mg G as v x → Rp g.K g.mg G as w y → PX g.K g.mg W G H as σ (f x y e st) Q → r [v, w] H Q) : CallS F fv (f2 f) := by
  refine ⟨r, hr, ?_⟩
  intro W G H as st σ e xs vs Q R rv q
  match xs, q with
  | [x, y], q =>
    obtain ⟨v, w, rfl, rx, ry⟩ := rp2 rv
    exact h W G H as st σ e x y v w Q R rx ry q
def lenD (x : D) : XM D := fun _ st => match x with
  | .str s => if s.length ≤ LIM then .ok (.int s.length) st else .stuck
  | x => match seqOf st x with
    | some xs => .ok (.int xs.length) st
    | none => .stuck
theorem seq_px {K : PySem.W.Frag} {mg : Str → Option Value} {W : WX} {G H : Hp} {as : List Addr} {st : Store} {σ : L2.St} {x : D} {v : V} {Q : VK} {f : List D → RX D} (R : Ri K mg G H as st) (rx : Rp K mg G as v x)
    (h : PX K mg W G H as σ (match seqOf st x with | some xs => f xs | none => .stuck) Q) : ∃ xs a vs, v = .ref a ∧ (SqL K H a vs ∨ SqT K H a vs) ∧ RpA K mg G as vs xs ∧ PX K mg W G H as σ (f xs) Q := by
  cases q : seqOf st x with
  | none => simp [q] at h; exact h.elim
  | some xs =>
    simp only [q] at h
    obtain ⟨a, vs, e, s, r⟩ := seqOf_ok R rx q
    exact ⟨xs, a, vs, e, s, r, h⟩
theorem cs_len : CallS F (.builtin "len") (f1 lenD) := by
  refine cs_1 (r := fun xs H Q => (∃ p ys, xs = [.ref p] ∧ (SqL g.K H p ys ∨ SqT g.K H p ys) ∧ Q (.int ys.length) H) ∨ (∃ z, xs = [.str z] ∧ z.length ≤ sizeLine ∧ Q (.int z.length) H))
    (fun W X m => by have := (call_len_seq (X := X)).or call_len_str; rw [F.hK m] at this; exact this) ?_
  intro W G H as st σ e x v Q R rx h
  unfold lenD at h
  split at h
  · rename_i s
    cases rx
    by_cases hl : s.length ≤ LIM
    · rw [if_pos hl] at h; exact .inr ⟨s, rfl, lim_le hl, h.pure R (.int _)⟩
    · rw [if_neg hl] at h; exact h.elim
  · obtain ⟨xs, a, vs, rfl, s, r, h'⟩ := seq_px R rx h
    refine .inl ⟨a, vs, rfl, s, ?_⟩
    rw [r.len]
    exact h'.pure R (.int _)
def absD (x : D) : XM D := fun _ st => match x with
  | .int i => .ok (.int i.natAbs) st
  | _ => .stuck
theorem cs_abs : CallS F (.builtin "abs") (f1 absD) := by
  refine cs_1 (fun W X m => call_abs) ?_
  intro W G H as st σ e x v Q R rx h
  cases rx with
  | int i =>
    refine ⟨i, rfl, ?_⟩
    rw [show (if i < 0 then -i else i) = (i.natAbs : Int) by split <;> omega]
    exact PX.pure R (.int _) h
  | _ => exact h.elim
def intD (x : D) : XM D := fun _ st => match x with
  | .int i => .ok (.int i) st
  | .bl b => .ok (.int (if b then 1 else 0)) st
  | _ => .stuck
theorem cs_int : CallS F (.type "int") (f1 intD) := by
  refine cs_1 (fun W X m => call_int1) ?_
  intro W G H as st σ e x v Q R rx h
  cases rx with
  | int i => exact .inl ⟨i, rfl, PX.pure R (.int _) h⟩
  | bl i => exact .inr ⟨i, rfl, PX.pure R (.int _) h⟩
  | _ => exact h.elim
def max2D (x y : D) : XM D := fun _ st => match x, y with
  | .int i, .int j => .ok (.int (max i j)) st
  | _, _ => .stuck
def min2D (x y : D) : XM D := fun _ st => match x, y with
  | .int i, .int j => .ok (.int (min i j)) st
  | _, _ => .stuck
theorem cs_max2 : CallS F (.builtin "max") (f2 max2D) := by
  refine cs_2 (fun W X m => call_max2 (F.calm m)) ?_
  intro W G H as st σ e x y v w Q R rx ry h
  unfold max2D at h
  split at h
  · rename_i i j
    cases rx; cases ry
    refine ⟨i, j, rfl, ?_⟩
    rw [show (if j > i then j else i) = max i j by split <;> omega]
    exact h.pure R (.int _)
  · exact h.elim
theorem cs_min2 : CallS F (.builtin "min") (f2 min2D) := by
  refine cs_2 (fun W X m => call_min2 (F.calm m)) ?_
  intro W G H as st σ e x y v w Q R rx ry h
  unfold min2D at h
  split at h
  · rename_i i j
    cases rx; cases ry
    refine ⟨i, j, rfl, ?_⟩
    rw [show (if j < i then j else i) = min i j by split <;> omega]
    exact h.pure R (.int _)
  · exact h.elim
def divmodD (x y : D) : XM D := fun _ st => match x, y with
  | .int i, .int j => if 0 < j ∧ j < 1073741824 then .ok (.tup [.int (i / j), .int (i % j)]) st else .stuck
  | _, _ => .stuck
theorem cs_divmod : CallS F (.builtin "divmod") (f2 divmodD) := by
  refine cs_2 (fun W X m => call_divmod) ?_
  intro W G H as st σ e x y v w Q R rx ry h
  unfold divmodD at h
  split at h
  · rename_i i j
    cases rx; cases ry
    by_cases hc : 0 < j ∧ j < 1073741824
    · rw [if_pos hc] at h
      refine ⟨i, j, rfl, hc, fun p hp => ?_⟩
      exact PX.still R hp (.tup (.inl (.inl upd_same)) (.cons (.int _) (.cons (.int _) .nil))) h
    · rw [if_neg hc] at h; exact h.elim
  · exact h.elim
/-! ### lists and rows of ints, of bools -/
section raw
open PyProof.Rows
variable {prog : Program} {w : World} {A : Around} {E : Value → Shared → Prop} {s : Shared} {l : Addr} {its : List Value} {ns : List Int} {Q : Value → Shared → Prop}
theorem iter_intTup {xs : Array (Int × Tok)} (hl : s.heap.IsTuple l (intItems xs))
    (h : ∀ s₂ : Shared, s₂ = { s with heap := s.heap.push { cls := .type "tuple_iterator", data := .fields #[.ref l, .int 0 0] } } →
      (s₂.heap.IsTupleIter s.heap.objs.size l 0 ∧ s₂.heap.IsTuple l (intItems xs)) → (∀ b ∈ [s.heap.objs.size, l], b < s₂.heap.objs.size) → l ≠ s.heap.objs.size → Q (.ref s.heap.objs.size) s₂) :
    wpAny (model prog w) A (pyIter (.ref l)) Q E s := by
  have hlt : l < s.heap.objs.size := by obtain ⟨_, e, _⟩ := hl; exact Heap.lt_size e
  refine wpAny_pyIter_tuple hl (h _ rfl ⟨⟨_, Heap.get?_push_size _ rfl, rfl, rfl⟩, hl.at fun o e => Heap.get?_push_of_some _ e⟩ (fun b hb => ?_) (Nat.ne_of_lt hlt))
  show b < (s.heap.push _).objs.size
  rw [Heap.size_push]
  rcases List.mem_cons.mp hb with rfl | hb
  · exact Nat.lt_succ_self _
  · rcases List.mem_cons.mp hb with rfl | hb
    · exact Nat.lt_succ_of_lt hlt
    · cases hb
theorem old_keptT {h' : Heap} (hk : ∀ b o, b ∉ [s.heap.objs.size] → (s.heap.push { cls := .type "tuple_iterator", data := .fields #[.ref l, .int 0 0] }).get? b = some o → h'.get? b = some o) :
    ∀ b o, s.heap.get? b = some o → h'.get? b = some o := fun b o e => by
  refine hk b o (fun hm => ?_) (Heap.get?_push_of_some _ e)
  rcases List.mem_cons.mp hm with e1 | hm
  · exact absurd (e1 ▸ Heap.lt_size e) (Nat.lt_irrefl _)
  · cases hm
theorem sum_rawT (hh : A.handled = none) (hl : s.heap.IsTuple l its.toArray) (hi : IntsAre its ns)
    (h : ∀ h' tk t', (∀ b o, s.heap.get? b = some o → h'.get? b = some o) → Q (.int ns.sum t') { s with heap := h', toks := tk }) : wpAny (model prog w) A (call (.builtin "sum") [.ref l]) Q E s := by
  obtain ⟨xs, e⟩ := hi.allInts.items
  have hn : numsOf (intItems xs).toList = ns := by rw [← e]; exact hi.numsOf
  rw [nums_intItems] at hn
  rw [e] at hl
  refine call_sum_walkG (iter_intTup hl fun s₂ e st hfp hlI => ?_)
  subst e
  refine ⟨_, _, _, _, _, _, numAt xs, rfl, Walks.tuple (A := A.in1) hh _ l hlI (intItems xs), st, hfp, (fun _ _ => intItems_at), fun h' tk t' hk => ?_⟩
  have := h h' tk t' (old_keptT hk)
  rw [show (intItems xs).size = xs.size by simp [intItems], preSum_eq, List.take_of_length_le (by simp), hn]; exact this
theorem max_rawT (hh : A.handled = none) (hl : s.heap.IsTuple l its.toArray) (hi : IntsAre its ns) (hne : 0 < ns.length)
    (h : ∀ h' tk M t', (∀ b o, s.heap.get? b = some o → h'.get? b = some o) → M ∈ ns → (∀ a, a ∈ ns → a ≤ M) → Q (.int M t') { s with heap := h', toks := tk }) : wpAny (model prog w) A (call (.builtin "max") [.ref l]) Q E s := by
  obtain ⟨xs, e⟩ := hi.allInts.items
  have hn : numsOf (intItems xs).toList = ns := by rw [← e]; exact hi.numsOf
  rw [nums_intItems] at hn
  subst hn
  rw [e] at hl
  have hsz : 0 < xs.size := by simpa using hne
  refine call_max_walk (iter_intTup hl fun s₂ e st hfp hlI => ?_)
  subst e
  refine ⟨_, _, _, _, _, _, _, rfl, Walks.tuple (A := A.in1) hh _ l hlI (intItems xs), st, hfp, by simpa [intItems] using hsz, CmpOf.ints_gt (numAt xs) (fun _ _ => intItems_at), fun v h' tk hP hk => ?_⟩
  have hv : (intItems xs)[argBest (fun i j => decide (numAt xs i > numAt xs j)) (xs.size - 1)]? = some v := by simpa [intItems] using hP
  obtain ⟨t, rfl⟩ := intItems_at hv
  obtain ⟨h1, h2⟩ := argBest_gt (numAt xs) (xs.size - 1)
  refine h h' tk _ t (old_keptT hk) ?_ fun a ha => ?_
  · rw [numAt_eq]; exact PySem.getD_mem (by rw [List.length_map, Array.length_toList]; omega)
  · obtain ⟨j, hj, rfl⟩ := mem_getD ha
    rw [List.length_map, Array.length_toList] at hj
    rw [← numAt_eq]; exact h2 j (by omega)
theorem min_rawT (hh : A.handled = none) (hl : s.heap.IsTuple l its.toArray) (hi : IntsAre its ns) (hne : 0 < ns.length)
    (h : ∀ h' tk M t', (∀ b o, s.heap.get? b = some o → h'.get? b = some o) → M ∈ ns → (∀ a, a ∈ ns → M ≤ a) → Q (.int M t') { s with heap := h', toks := tk }) : wpAny (model prog w) A (call (.builtin "min") [.ref l]) Q E s := by
  obtain ⟨xs, e⟩ := hi.allInts.items
  have hn : numsOf (intItems xs).toList = ns := by rw [← e]; exact hi.numsOf
  rw [nums_intItems] at hn
  subst hn
  rw [e] at hl
  have hsz : 0 < xs.size := by simpa using hne
  refine call_min_walk (iter_intTup hl fun s₂ e st hfp hlI => ?_)
  subst e
  refine ⟨_, _, _, _, _, _, _, rfl, Walks.tuple (A := A.in1) hh _ l hlI (intItems xs), st, hfp, by simpa [intItems] using hsz, CmpOf.ints_lt (numAt xs) (fun _ _ => intItems_at), fun v h' tk hP hk => ?_⟩
  have hv : (intItems xs)[argBest (fun i j => decide (numAt xs i < numAt xs j)) (xs.size - 1)]? = some v := by simpa [intItems] using hP
  obtain ⟨t, rfl⟩ := intItems_at hv
  obtain ⟨h1, h2⟩ := argBest_lt (numAt xs) (xs.size - 1)
  refine h h' tk _ t (old_keptT hk) ?_ fun a ha => ?_
  · rw [numAt_eq]; exact PySem.getD_mem (by rw [List.length_map, Array.length_toList]; omega)
  · obtain ⟨j, hj, rfl⟩ := mem_getD ha
    rw [List.length_map, Array.length_toList] at hj
    rw [← numAt_eq]; exact h2 j (by omega)
end raw
/-- greatest, least -/
def maxL : List Int → Int
  | [] => 0
  | [x] => x
  | x :: r => max x (maxL r)
def minL : List Int → Int
  | [] => 0
  | [x] => x
  | x :: r => min x (minL r)
theorem maxL_le : ∀ {ns : List Int} {y : Int}, y ∈ ns → y ≤ maxL ns
  | [x], y, h => by simp at h; subst h; exact Int.le_refl _
  | x :: z :: r, y, h => by
    show y ≤ max x (maxL (z :: r))
    rcases List.mem_cons.mp h with rfl | h
    · exact Int.le_max_left _ _
    · exact Int.le_trans (maxL_le h) (Int.le_max_right _ _)
theorem maxL_mem : ∀ {ns : List Int}, 0 < ns.length → maxL ns ∈ ns
  | [x], _ => by simp [maxL]
  | x :: z :: r, _ => by
    show max x (maxL (z :: r)) ∈ _
    have := maxL_mem (ns := z :: r) (by simp)
    by_cases h : maxL (z :: r) ≤ x
    · rw [Int.max_eq_left h]; exact List.mem_cons_self
    · rw [Int.max_eq_right (by omega)]; exact List.mem_cons_of_mem _ this
theorem minL_le : ∀ {ns : List Int} {y : Int}, y ∈ ns → minL ns ≤ y
  | [x], y, h => by simp at h; subst h; exact Int.le_refl _
  | x :: z :: r, y, h => by
    show min x (minL (z :: r)) ≤ y
    rcases List.mem_cons.mp h with rfl | h
    · exact Int.min_le_left _ _
    · exact Int.le_trans (Int.min_le_right _ _) (minL_le h)
theorem minL_mem : ∀ {ns : List Int}, 0 < ns.length → minL ns ∈ ns
  | [x], _ => by simp [minL]
  | x :: z :: r, _ => by
    show min x (minL (z :: r)) ∈ _
    have := minL_mem (ns := z :: r) (by simp)
    by_cases h : x ≤ minL (z :: r)
    · rw [Int.min_eq_left h]; exact List.mem_cons_self
    · rw [Int.min_eq_right (by omega)]; exact List.mem_cons_of_mem _ this
/-- a function of a row of ints -/
def intsD (c : List Int → Bool) (f : List Int → D) (x : D) : XM D := fun _ st => match seqOf st x with
  | some xs => (match intsOf xs with
    | some ns => if c ns = true then .ok (f ns) st else .stuck
    | none => .stuck)
  | none => .stuck
theorem ints_px {K : PySem.W.Frag} {mg : Str → Option Value} {W : WX} {G H : Hp} {as : List Addr} {st : Store} {σ : L2.St} {e : Nv} {x : D} {v : V} {Q : VK} {c : List Int → Bool} {f : List Int → D} (R : Ri K mg G H as st) (rx : Rp K mg G as v x)
    (h : PX K mg W G H as σ (intsD c f x e st) Q) : ∃ ns a, v = .ref a ∧ (SqL K H a (ns.map V.int) ∨ SqT K H a (ns.map V.int)) ∧ c ns = true ∧ PX K mg W G H as σ (.ok (f ns) st) Q := by
  obtain ⟨xs, a, vs, e1, s, r, h'⟩ := seq_px R rx h
  cases q : intsOf xs with
  | none => simp [q] at h'; exact h'.elim
  | some ns =>
    simp only [q] at h'
    cases intsOf_eq q
    cases RpA.ints _ r
    by_cases hc : c ns = true
    · rw [if_pos hc] at h'; exact ⟨ns, a, e1, s, hc, h'⟩
    · rw [if_neg hc] at h'; exact h'.elim
def rSeqI (K : PySem.W.Frag) (P : List Int → (V → Prop) → Prop) : List V → Hp → VK → Prop := fun vs H Q => ∃ (a : Addr) (ns : List Int), vs = [V.ref a] ∧ (SqL K H a (ns.map V.int) ∨ SqT K H a (ns.map V.int)) ∧ P ns fun v => Q v H
theorem cr_sumA {X : Cx} (hc : X.calm = true) : CallR X (.builtin "sum") (rSeqI X.K fun ns Q => Q (.int ns.sum)) := by
  intro pins s σ H vs us Q I r h
  obtain ⟨a, ns, rfl, hs | hs, q⟩ := h
  · exact cr_sum hc pins s σ H _ us Q I r ⟨a, ns, rfl, hs, q⟩
  · obtain ⟨its, rv, hl, _⟩ := I.tuple hs
    rw [Vals.ref1 r]
    exact sum_rawT (I.ok.hd hc) (show s.heap.IsTuple a its.toArray from hl) rv.ints fun h' tk t' hk => ⟨.int _, H, I.kept hk, ⟨_, rfl⟩, q⟩
theorem cr_maxA {X : Cx} (hc : X.calm = true) : CallR X (.builtin "max") (rSeqI X.K fun ns Q => 0 < ns.length ∧ Q (.int (maxL ns))) := by
  intro pins s σ H vs us Q I r h
  have uq : ∀ (ns : List Int) (m : Int), 0 < ns.length → m ∈ ns → (∀ y, y ∈ ns → y ≤ m) → m = maxL ns := fun ns m h0 h1 h2 => Int.le_antisymm (maxL_le h1) (h2 _ (maxL_mem h0))
  obtain ⟨a, ns, rfl, hs | hs, hne, q⟩ := h
  · exact cr_max hc pins s σ H _ us Q I r ⟨a, ns, rfl, hs, hne, fun m h1 h2 => by rw [uq ns m hne h1 h2]; exact q⟩
  · obtain ⟨its, rv, hl, _⟩ := I.tuple hs
    rw [Vals.ref1 r]
    exact max_rawT (I.ok.hd hc) (show s.heap.IsTuple a its.toArray from hl) rv.ints hne fun h' tk m t' hk h1 h2 => ⟨.int _, H, I.kept hk, ⟨_, rfl⟩, by rw [uq ns m hne h1 h2]; exact q⟩
theorem cr_minA {X : Cx} (hc : X.calm = true) : CallR X (.builtin "min") (rSeqI X.K fun ns Q => 0 < ns.length ∧ Q (.int (minL ns))) := by
  intro pins s σ H vs us Q I r h
  have uq : ∀ (ns : List Int) (m : Int), 0 < ns.length → m ∈ ns → (∀ y, y ∈ ns → m ≤ y) → m = minL ns := fun ns m h0 h1 h2 => Int.le_antisymm (h2 _ (minL_mem h0)) (minL_le h1)
  obtain ⟨a, ns, rfl, hs | hs, hne, q⟩ := h
  · exact cr_min hc pins s σ H _ us Q I r ⟨a, ns, rfl, hs, hne, fun m h1 h2 => by rw [uq ns m hne h1 h2]; exact q⟩
  · obtain ⟨its, rv, hl, _⟩ := I.tuple hs
    rw [Vals.ref1 r]
    exact min_rawT (I.ok.hd hc) (show s.heap.IsTuple a its.toArray from hl) rv.ints hne fun h' tk m t' hk h1 h2 => ⟨.int _, H, I.kept hk, ⟨_, rfl⟩, by rw [uq ns m hne h1 h2]; exact q⟩
abbrev sumD : D → XM D := intsD (fun _ => true) fun ns => .int ns.sum
abbrev maxD : D → XM D := intsD (fun ns => !ns.isEmpty) fun ns => .int (maxL ns)
abbrev minD : D → XM D := intsD (fun ns => !ns.isEmpty) fun ns => .int (minL ns)
theorem cs_sum : CallS F (.builtin "sum") (f1 sumD) := by
  refine cs_1 (r := rSeqI g.K fun ns Q => Q (.int ns.sum)) (fun W X m => by have := cr_sumA (F.calm m); rw [F.hK m] at this; exact this) ?_
  intro W G H as st σ e x v Q R rx h
  obtain ⟨ns, a, rfl, s, _, h'⟩ := ints_px R rx h
  exact ⟨a, ns, rfl, s, h'.pure R (.int _)⟩
theorem ne_pos {ns : List Int} (h : (!ns.isEmpty) = true) : 0 < ns.length := by
  cases ns with
  | nil => cases h
  | cons _ _ => simp
theorem cs_max : CallS F (.builtin "max") (f1 maxD) := by
  refine cs_1 (r := rSeqI g.K fun ns Q => 0 < ns.length ∧ Q (.int (maxL ns))) (fun W X m => by have := cr_maxA (F.calm m); rw [F.hK m] at this; exact this) ?_
  intro W G H as st σ e x v Q R rx h
  obtain ⟨ns, a, rfl, s, c, h'⟩ := ints_px R rx h
  exact ⟨a, ns, rfl, s, ne_pos c, h'.pure R (.int _)⟩
theorem cs_min : CallS F (.builtin "min") (f1 minD) := by
  refine cs_1 (r := rSeqI g.K fun ns Q => 0 < ns.length ∧ Q (.int (minL ns))) (fun W X m => by have := cr_minA (F.calm m); rw [F.hK m] at this; exact this) ?_
  intro W G H as st σ e x v Q R rx h
  obtain ⟨ns, a, rfl, s, c, h'⟩ := ints_px R rx h
  exact ⟨a, ns, rfl, s, ne_pos c, h'.pure R (.int _)⟩
/-- all, any of a list of bools -/
def blsD (f : List Bool → Bool) (x : D) : XM D := fun _ st => match lstOf st x with
  | some xs => (match blsOf xs with
    | some bs => .ok (.bl (f bs)) st
    | none => .stuck)
  | none => .stuck
theorem bls_px {K : PySem.W.Frag} {mg : Str → Option Value} {W : WX} {G H : Hp} {as : List Addr} {st : Store} {σ : L2.St} {e : Nv} {x : D} {v : V} {Q : VK} {f : List Bool → Bool} (R : Ri K mg G H as st) (rx : Rp K mg G as v x)
    (h : PX K mg W G H as σ (blsD f x e st) Q) : ∃ bs a, v = .ref a ∧ SqL K H a (bs.map V.bl) ∧ Q (.bl (f bs)) H := by
  unfold blsD at h
  cases q0 : lstOf st x with
  | none => simp [q0] at h; exact h.elim
  | some xs =>
    obtain ⟨a, vs, e1, s, r⟩ := lstOf_ok R rx q0
    cases q : blsOf xs with
    | none => simp [q0, q] at h; exact h.elim
    | some bs =>
      simp only [q0, q] at h
      cases blsOf_eq q
      cases RpA.bls _ r
      exact ⟨bs, a, e1, .of s, h.pure R (.bl _)⟩
abbrev allD : D → XM D := blsD fun bs => bs.all id
abbrev anyD : D → XM D := blsD fun bs => bs.any id
theorem cs_all : CallS F (.builtin "all") (f1 allD) := by
  refine cs_1 (r := rAll g.K) (fun W X m => by have := cr_all (X := X) (F.calm m); rw [F.hK m] at this; exact this) ?_
  intro W G H as st σ e x v Q R rx h
  obtain ⟨bs, a, rfl, s, q⟩ := bls_px R rx h
  exact ⟨a, bs, rfl, s, q⟩
theorem cs_any : CallS F (.builtin "any") (f1 anyD) := by
  refine cs_1 (r := rAny g.K) (fun W X m => by have := cr_any (X := X) (F.calm m); rw [F.hK m] at this; exact this) ?_
  intro W G H as st σ e x v Q R rx h
  obtain ⟨bs, a, rfl, s, q⟩ := bls_px R rx h
  exact ⟨a, bs, rfl, s, q⟩
/-! ### list(x), tuple(x) -/
def listD (x : D) : XM D := fun _ st => match seqOf st x with
  | some xs => .ok (.lst xs) st
  | none => .stuck
def tupleD (x : D) : XM D := fun _ st => match seqOf st x with
  | some xs => .ok (.tup xs) st
  | none => .stuck
theorem cs_list : CallS F (.type "list") (f1 listD) := by
  refine cs_1 (r := fun xs H Q => ∃ p ys, xs = [.ref p] ∧ (SqL g.K H p ys ∨ SqT g.K H p ys) ∧ ∀ l, H l = none → Q (.ref l) (upd H l (.lst ys))) (fun W X m => by have := call_list_of (X := X); rw [F.hK m] at this; exact this) ?_
  intro W G H as st σ e x v Q R rx h
  obtain ⟨xs, a, vs, rfl, s, r, h'⟩ := seq_px (f := fun xs => .ok (.lst xs) st) R rx h
  refine ⟨a, vs, rfl, s, fun p hp => ?_⟩
  exact PX.still R hp (.lst upd_same (r.ext (R.still hp).2)) h'
theorem cs_tuple : CallS F (.type "tuple") (f1 tupleD) := by
  refine cs_1 (r := fun xs H Q => ∃ p ys, xs = [.ref p] ∧ ((SqL g.K H p ys ∧ ∀ l, H l = none → Q (.ref l) (upd H l (.tup ys))) ∨ (SqT g.K H p ys ∧ Q (.ref p) H))) (fun W X m => by have := call_tuple_of (X := X); rw [F.hK m] at this; exact this) ?_
  intro W G H as st σ e x v Q R rx h
  have new : ∀ xs a vs, SqL g.K H a vs → RpA g.K g.mg G as vs xs → PX g.K g.mg W G H as σ (.ok (.tup xs) st) Q → ∀ l, H l = none → Q (.ref l) (upd H l (.tup vs)) := fun xs a vs s r q p hp =>
    PX.still R hp (.tup (.inl (.inl upd_same)) (r.ext (R.still hp).2)) q
  have mov : (match lstOf st x with | some xs => (.ok (.tup xs) st : RX D) | none => .stuck) = tupleD x e st → ∃ p ys, [v] = [V.ref p] ∧ ((SqL g.K H p ys ∧ ∀ l, H l = none → Q (.ref l) (upd H l (.tup ys))) ∨ (SqT g.K H p ys ∧ Q (.ref p) H)) := fun e' => by
    rw [← e'] at h
    cases q0 : lstOf st x with
    | none => simp [q0] at h; exact h.elim
    | some xs =>
      simp only [q0] at h
      obtain ⟨a, vs, rfl, s, r⟩ := lstOf_ok R rx q0
      exact ⟨a, vs, rfl, .inl ⟨.of s, new xs a vs (.of s) r h⟩⟩
  cases rx with
  | tup s q => exact ⟨_, _, rfl, .inr ⟨sqT_H R s, PX.pure R (.tup s q) h⟩⟩
  | tpz s z q => exact ⟨_, _, rfl, .inr ⟨sqT_H R (.inl (.inr ⟨_, s⟩)), PX.pure R (.tup (.inl (.inr ⟨_, s⟩)) q) h⟩⟩
  | sq s q => exact ⟨_, _, rfl, .inl ⟨sqL_H R s, new _ _ _ (sqL_H R s) q h⟩⟩
  | lst s q => exact mov rfl
  | ref q => exact mov rfl
  | _ => exact h.elim

/-! ### isinstance -/
def tyNm : D → Option String
  | .non => some "NoneType"
  | .bl _ => some "bool"
  | .int _ => some "int"
  | .str _ => some "str"
  | .tup _ => some "tuple"
  | .lst _ => some "list"
  | .sq _ => some "list"
  | .ref _ => some "list"
  | _ => none
def knownTy (n : String) : Bool := n == "int" || n == "bool" || n == "str" || n == "tuple" || n == "list" || n == "dict"
def isiB (a n : String) : Bool := a == n || (a == "bool" && n == "int")
def isiO (x : D) (n : String) : Option Bool := match tyNm x with
  | some a => if knownTy n = true then some (isiB a n) else none
  | none => none
theorem known_cases {n : String} (h : knownTy n = true) : n = "int" ∨ n = "bool" ∨ n = "str" ∨ n = "tuple" ∨ n = "list" ∨ n = "dict" := by
  unfold knownTy at h
  simp only [Bool.or_eq_true, beq_iff_eq] at h
  rcases h with ((((h | h) | h) | h) | h) | h <;> simp [h]
theorem kit_cases {K : PySem.W.Frag} {a n : String} (ha : a = "NoneType" ∨ a = "bool" ∨ a = "int" ∨ a = "str" ∨ a = "tuple" ∨ a = "list") (h : knownTy n = true) : PySem.W.kitOne K (.type a) (.type n) = some (isiB a n) := by
  rcases ha with rfl | rfl | rfl | rfl | rfl | rfl <;> rcases known_cases h with rfl | rfl | rfl | rfl | rfl | rfl <;> exact kit_ty (by decide +kernel)
theorem tyX_of {K : PySem.W.Frag} {mg : Str → Option Value} {G H : Hp} {as : List Addr} {st : Store} {x : D} {v : V} {a : String} (R : Ri K mg G H as st) (r : Rp K mg G as v x) (h : tyNm x = some a) (hr : ∀ i, x = .ref i → ∃ xs, lstOf st x = some xs) :
    TyX K H v (.type a) ∧ (a = "NoneType" ∨ a = "bool" ∨ a = "int" ∨ a = "str" ∨ a = "tuple" ∨ a = "list") := by
  have sqL : ∀ {a : Addr} {vs : List V}, SqL K H a vs → TyX K H (.ref a) (.type "list") := fun {a vs} s => by
    rcases s with (s | ⟨o, s⟩) | ⟨o, its, n, hk, hc, _⟩
    · exact .base (.lst s)
    · exact .base (.frz s)
    · exact .kList hk hc
  have sqT : ∀ {a : Addr} {vs : List V}, SqT K H a vs → TyX K H (.ref a) (.type "tuple") := fun {a vs} s => by
    rcases s with (s | ⟨o, s⟩) | ⟨o, its, n, hk, hc, _⟩
    · exact .base (.tup s)
    · exact .fTuple s
    · exact .kTuple hk hc
  cases r with
  | non => cases h; exact ⟨.base .non, by simp⟩
  | bl b => cases h; exact ⟨.base (.bl b), by simp⟩
  | int b => cases h; exact ⟨.base (.int b), by simp⟩
  | str b => cases h; exact ⟨.base (.str b), by simp⟩
  | ty n => cases h
  | glo x a q => cases h
  | tup s q => cases h; exact ⟨sqT (sqT_H R s), by simp⟩
  | lst s q => cases h; exact ⟨sqL (.of (R.sub _ _ s)), by simp⟩
  | sq s q => cases h; exact ⟨sqL (sqL_H R s), by simp⟩
  | tpz s z q => cases h
  | ref q =>
    cases h
    obtain ⟨xs, e⟩ := hr _ rfl
    obtain ⟨b, vs, e1, s, _⟩ := lstOf_ok R (.ref q) e
    cases e1
    exact ⟨sqL (.of s), by simp⟩
def refOk (st : Store) (x : D) : Bool := match x with
  | .ref i => (lstOf st (.ref i)).isSome
  | _ => true
theorem refOk_ok {st : Store} {x : D} (h : refOk st x = true) : ∀ i, x = .ref i → ∃ xs, lstOf st x = some xs := fun i e => by
  subst e
  exact Option.isSome_iff_exists.mp h
def isiD (x y : D) : XM D := fun _ st => match y with
  | .ty n => (match isiO x n with
    | some b => if refOk st x = true then .ok (.bl b) st else .stuck
    | none => .stuck)
  | _ => .stuck
theorem cs_isi : CallS F (.builtin "isinstance") (f2 isiD) := by
  refine cs_2 (r := rIsi g.K) (fun W X m => by have := call_isi (X := X); rw [F.hK m] at this; exact this) ?_
  intro W G H as st σ e x y v w Q R rx ry h
  cases ry with
  | ty n =>
    unfold isiD at h
    cases q : isiO x n with
    | none => simp [q] at h; exact h.elim
    | some b =>
      simp only [q] at h
      by_cases hr : refOk st x = true
      · rw [if_pos hr] at h
        unfold isiO at q
        cases q1 : tyNm x with
        | none => simp [q1] at q
        | some a =>
          simp only [q1] at q
          by_cases hk : knownTy n = true
          · rw [if_pos hk] at q
            cases q
            obtain ⟨t, c⟩ := tyX_of R rx q1 (refOk_ok hr)
            exact ⟨v, .ty n, .type a, .type n, isiB a n, rfl, .ty n, t, kit_cases c hk, h.pure R (.bl _)⟩
          · rw [if_neg hk] at q; cases q
      · rw [if_neg hr] at h; exact h.elim
  | _ => exact h.elim
/-- isinstance(x, (T1, T2)) -/
def isi2D (n1 n2 : String) (x : D) : XM D := fun _ st => match isiO x n1, isiO x n2 with
  | some a, some b => if refOk st x = true then .ok (.bl (a || b)) st else .stuck
  | _, _ => .stuck
theorem je_isi2 {x : Str} {p p2 pa pb : Pos} {k : Nat} {a : Expr} {m : XM D} {x1 x2 : Str} {n1 n2 : String} (hg : F.sc.names.lookup x = some .globalImplicit) (hm : g.mg x = none) (hv : bootBuiltins x = some (.builtin "isinstance")) (ha : JE F a m)
    (hg1 : F.sc.names.lookup x1 = some .globalImplicit) (hm1 : g.mg x1 = none) (hv1 : bootBuiltins x1 = some (.type n1)) (hg2 : F.sc.names.lookup x2 = some .globalImplicit) (hm2 : g.mg x2 = none) (hv2 : bootBuiltins x2 = some (.type n2))
    (hn : x ≠ "__name__" := by decide) (hdb : (x == ("__debug__" : Str)) = false := by decide) (hn1 : x1 ≠ "__name__" := by decide) (hd1 : (x1 == ("__debug__" : Str)) = false := by decide) (hn2 : x2 ≠ "__name__" := by decide) (hd2 : (x2 == ("__debug__" : Str)) = false := by decide)
    (he : ∀ env, starEach [a, .Tuple [.Name x1 pa, .Name x2 pb] k p2] env = (false, eval a env) :: starEach [.Tuple [.Name x1 pa, .Name x2 pb] k p2] env := by intro _; rfl) (hpl : ∀ env, (backTo pos (starEach [.Tuple [.Name x1 pa, .Name x2 pb] k p2] env)).any (·.1) = false := by intro _; rfl) :
    JE F (.Call (.Name x p) [a, .Tuple [.Name x1 pa, .Name x2 pb] k p2] [] pos) (xbind m (isi2D n1 n2)) := by
  obtain ⟨t, p', s⟩ := ha
  refine ⟨fun W => tCB (rIsiT g.K) (tCons (t W) (tCons (tTup (tCons (tC (.ty n1)) (tCons (tC (.ty n2)) tNil))) tNil)), fun W X m => ?_, ?_⟩
  · have gl : ∀ y, F.sc.names.lookup y = some .globalImplicit → Gl X y := fun y hy => by show X.env.scope.names.lookup y = _; rw [F.hsc m]; exact hy
    have mg' : ∀ y, g.mg y = none → X.mg y = none := fun y hy => by rw [F.hmg m]; exact hy
    have c := call_isiT (X := X)
    rw [F.hK m] at c
    exact pe_callB c (gl x hg) (mg' x hm) hv (pa_cons (p' W X m) (pa_cons (pe_tup (pa_cons (pe_bltn (gl x1 hg1) (mg' x1 hm1) hv1 rfl hn1 hd1) (pa_cons (pe_bltn (gl x2 hg2) (mg' x2 hm2) hv2 rfl hn2 hd2) pa_nil))) pa_nil) (he _)) hn hdb (he _) (hpl _)
  · intro W G H as st σ e Q R N h
    refine s.one R N h fun d st1 v G1 H1 as1 R1 X1 N1 rv h1 => ?_
    unfold isi2D at h1
    cases q1 : isiO d n1 with
    | none => simp [q1] at h1; exact h1.elim
    | some b1 =>
      cases q2 : isiO d n2 with
      | none => simp [q1, q2] at h1; exact h1.elim
      | some b2 =>
        simp only [q1, q2] at h1
        by_cases hr : refOk st1 d = true
        · rw [if_pos hr] at h1
          unfold isiO at q1 q2
          cases q3 : tyNm d with
          | none => simp [q3] at q1
          | some ty =>
            simp only [q3] at q1 q2
            by_cases hk1 : knownTy n1 = true
            · by_cases hk2 : knownTy n2 = true
              · rw [if_pos hk1] at q1
                rw [if_pos hk2] at q2
                cases q1; cases q2
                refine ⟨by show 2 ≤ sizeLine; decide, fun tp htp => ?_⟩
                obtain ⟨R2, X2⟩ := R1.still (o := .tup [V.ty n1, V.ty n2]) htp
                obtain ⟨tx, c⟩ := tyX_of R2 (rv.ext X2) q3 (refOk_ok hr)
                refine ⟨v, tp, [.ty n1, .ty n2], .type ty, [.type n1, .type n2], isiB ty n1 || isiB ty n2, rfl, upd_same, .cons (.ty n1) (.cons (.ty n2) .nil), tx, ?_, h1 _ _ _ _ R2 X2 (.bl _)⟩
                refine kitAny_cons (b := isiB ty n1) (kit_cases c hk1) (fun z => ?_) (fun z => by rw [z]; rfl)
                rw [z, Bool.false_or]
                exact kitAny_cons (b := isiB ty n2) (kit_cases c hk2) (fun z2 => by rw [z2]; exact kitAny_nil) (fun z2 => z2)
              · rw [if_neg hk2] at q2; cases q2
            · rw [if_neg hk1] at q1; cases q1
        · rw [if_neg hr] at h1; exact h1.elim
end
end LS
end
section
set_option maxRecDepth 100000
set_option maxHeartbeats 2000000
namespace LS
open PySem PySem.Spec L2

/-! ## statements -/
section
variable {g : Gb} {F : Fam g} {pos : Pos}
def snext : SM := fun e st => .nx e st
def sseq (m n : SM) : SM := fun e st => match m e st with
  | .nx e' st' => n e' st'
  | r => r
theorem jss_nil : JSs F [] snext := ⟨fun _ => tNext, fun _ _ _ => pss_nil, fun W G H as st σ e E R N h => h σ G H as R N Ext.refl⟩
theorem jss_one {s : Stmt} {m : SM} (h : JS F s m) : JSs F [s] m := let ⟨t, p, q⟩ := h; ⟨t, fun W X m => pss_one (p W X m), q⟩
theorem PS_.ends {K : PySem.W.Frag} {mg : Str → Option Value} {W : WX} {G H : Hp} {as : List Addr} {n : Nat} {m : RS} {E E' : Ends} (h : PS_ K mg W G H as n m E) (hr : E'.rt = E.rt) (hb : E'.bk = E.bk) (hc : E'.ct = E.ct)
    (hn : ∀ e st, m = .nx e st → ∀ σ G' H' as', Ri K mg G' H' as' st → Rn K mg G' as' σ e → Ext G H as G' H' as' → E'.nx σ H') : PS_ K mg W G H as n m E' := by
  cases m with
  | nx e st => exact hn e st rfl
  | rt d st => intro v G' H' as' R x r; rw [hr]; exact h v G' H' as' R x r
  | bk e st => intro σ G' H' as' R N x; rw [hb]; exact h σ G' H' as' R N x
  | ct e st => intro σ G' H' as' R N x; rw [hc]; exact h σ G' H' as' R N x
  | exc c p e st => exact h
  | stuck => exact h
theorem jss_cons {s : Stmt} {r : List Stmt} {m n : SM} (h : JS F s m) (h' : JSs F r n) : JSs F (s :: r) (sseq m n) := by
  obtain ⟨t, p, q⟩ := h
  obtain ⟨t', p', q'⟩ := h'
  refine ⟨fun W => tSeq (t W) (t' W), fun W X mm => pss_cons (p W X mm) (p' W X mm), ?_⟩
  intro W G H as st σ e E R N h
  refine q W G H as st σ e _ R N ?_
  unfold sseq at h
  cases hm : m e st with
  | nx e1 st1 =>
    rw [hm] at h
    exact fun σ1 G1 H1 as1 R1 N1 X1 => q' W G1 H1 as1 st1 σ1 e1 E R1 N1 (PS_.ext (n := e.length) h X1)
  | rt d st1 => rw [hm] at h; exact h
  | bk e1 st1 => rw [hm] at h; exact h
  | ct e1 st1 => rw [hm] at h; exact h
  | exc c p e1 st1 => rw [hm] at h; exact h
  | stuck => rw [hm] at h; exact h
theorem js_pass : JS F (.Pass pos) snext := ⟨fun _ => tNext, fun _ _ _ => ps_pass, fun W G H as st σ e E R N h => h σ G H as R N Ext.refl⟩
def sbreak : SM := fun e st => .bk e st
def scont : SM := fun e st => .ct e st
theorem js_break : JS F (.Break pos) sbreak := ⟨fun _ => tBreak, fun _ _ _ => ps_break, fun W G H as st σ e E R N h => h σ G H as R N Ext.refl⟩
theorem js_cont : JS F (.Continue pos) scont := ⟨fun _ => tCont, fun _ _ _ => ps_continue, fun W G H as st σ e E R N h => h σ G H as R N Ext.refl⟩
/-- an expression's outcome ahead of a statement's rest -/
def sbind (m : XM D) (f : D → SM) : SM := fun e st => match m e st with
  | .ok d st' => f d e st'
  | .exc c p st' => .exc c p e st'
  | .stuck => .stuck
theorem SE.oneS {t : WX → TE} {m : XM D} {f : D → SM} {W : WX} {G H : Hp} {as : List Addr} {σ : L2.St} {e : Nv} {st : Store} {E : Ends} {Q1 : VK} (s : SE g t m) (R : Ri g.K g.mg G H as st) (N : Rn g.K g.mg G as σ e) (h : PS_ g.K g.mg W G H as e.length (sbind m f e st) E)
    (k : ∀ x st1 v G1 H1 as1, Ri g.K g.mg G1 H1 as1 st1 → Ext G H as G1 H1 as1 → Rn g.K g.mg G1 as1 σ e → Rp g.K g.mg G1 as1 v x → PS_ g.K g.mg W G1 H1 as1 e.length (f x e st1) E → Q1 v H1) : t W σ H Q1 := by
  refine s W G H as st σ e Q1 R N ?_
  unfold sbind at h
  cases q : m e st with
  | ok x st1 =>
    rw [q] at h
    exact fun v G1 H1 as1 R1 X1 rv => k x st1 v G1 H1 as1 R1 X1 (N.ext X1) rv (PS_.ext (r := f x e st1) h X1)
  | exc c p st1 =>
    rw [q] at h
    exact fun cls d G1 H1 as1 R1 X1 x => h σ cls d G1 H1 as1 R1 (N.ext X1) X1 x
  | stuck => rw [q] at h; exact h.elim
def sbindB (m : XM Bool) (f : Bool → SM) : SM := fun e st => match m e st with
  | .ok d st' => f d e st'
  | .exc c p st' => .exc c p e st'
  | .stuck => .stuck
theorem ST.oneS {t : WX → TT} {m : XM Bool} {f : Bool → SM} {W : WX} {G H : Hp} {as : List Addr} {σ : L2.St} {e : Nv} {st : Store} {E : Ends} {Q1 : Bool → Hp → Prop} (s : ST g t m) (R : Ri g.K g.mg G H as st) (N : Rn g.K g.mg G as σ e) (h : PS_ g.K g.mg W G H as e.length (sbindB m f e st) E)
    (k : ∀ x st1 G1 H1 as1, Ri g.K g.mg G1 H1 as1 st1 → Ext G H as G1 H1 as1 → Rn g.K g.mg G1 as1 σ e → PS_ g.K g.mg W G1 H1 as1 e.length (f x e st1) E → Q1 x H1) : t W σ H Q1 := by
  refine s W G H as st σ e Q1 R N ?_
  unfold sbindB at h
  cases q : m e st with
  | ok x st1 =>
    rw [q] at h
    exact fun G1 H1 as1 R1 X1 => k x st1 G1 H1 as1 R1 X1 (N.ext X1) (PS_.ext (r := f x e st1) h X1)
  | exc c p st1 =>
    rw [q] at h
    exact fun cls d G1 H1 as1 R1 X1 x => h σ cls d G1 H1 as1 R1 (N.ext X1) X1 x
  | stuck => rw [q] at h; exact h.elim
def sdrop (m : XM D) : SM := sbind m fun _ => snext
theorem js_expr {ex : Expr} {m : XM D} (h : JE F ex m) (hs : ∀ env, swapsWith ex none pos.line env = pure false := by intro _; rfl) : JS F (.Expr ex pos) (sdrop m) := by
  obtain ⟨t, p, s⟩ := h
  refine ⟨fun W => tDrop (t W), fun W X m => ps_expr (p W X m) (hs _), ?_⟩
  intro W G H as st σ e E R N h
  exact s.oneS R N h fun x st1 v G1 H1 as1 R1 X1 N1 rv h1 => h1 σ G1 H1 as1 R1 N1 Ext.refl
def sret (m : XM D) : SM := sbind m fun d => fun _ st => .rt d st
theorem js_ret {ex : Expr} {m : XM D} (h : JE F ex m) : JS F (.Return (some ex) pos) (sret m) := by
  obtain ⟨t, p, s⟩ := h
  refine ⟨fun W => tRet (t W), fun W X m => ps_ret (p W X m), ?_⟩
  intro W G H as st σ e E R N h
  exact s.oneS R N h fun x st1 v G1 H1 as1 R1 X1 N1 rv h1 => h1 v G1 H1 as1 R1 Ext.refl rv
def sretN : SM := fun _ st => .rt .non st
theorem js_retN : JS F (.Return none pos) sretN := ⟨fun _ => tRetN, fun _ _ _ => ps_retN, fun W G H as st σ e E R N h => h .non G H as R Ext.refl .non⟩
def sif (c : XM Bool) (m n : SM) : SM := sbindB c fun b => if b = true then m else n
theorem js_if {c : Expr} {a b : List Stmt} {mc : XM Bool} {m n : SM} (hc : JT F c mc) (ha : JSs F a m) (hb : JSs F b n) : JS F (.If c a b pos) (sif mc m n) := by
  obtain ⟨tc, pc, sc⟩ := hc
  obtain ⟨ta, pa, sa⟩ := ha
  obtain ⟨tb, pb, sb⟩ := hb
  refine ⟨fun W => tIfS (tc W) (ta W) (tb W), fun W X m => ps_if (pc W X m) (pa W X m) (pb W X m), ?_⟩
  intro W G H as st σ e E R N h
  refine sc.oneS R N h fun b st1 G1 H1 as1 R1 X1 N1 h1 => ?_
  cases b with
  | true => exact iteT (sa W G1 H1 as1 st1 σ e E R1 N1 h1)
  | false => exact iteF (sb W G1 H1 as1 st1 σ e E R1 N1 h1)

/-! ## targets -/
abbrev MG := D → Nv → Store → Option (Nv × Store)
def JG (F : Fam g) (target : Expr) (m : MG) : Prop := ∃ t : WX → TG, (∀ W X, F.mem W X → PG X target (t W)) ∧
  ∀ (W : WX) (G H : Hp) (as : List Addr) (st : Store) (σ : L2.St) (e : Nv) (v : V) (x : D) (e' : Nv) (st' : Store) (Q : L2.St → Hp → Prop), Ri g.K g.mg G H as st → Rn g.K g.mg G as σ e → Rp g.K g.mg G as v x → m x e st = some (e', st') →
    (∀ σ' G' H' as', Ri g.K g.mg G' H' as' st' → Rn g.K g.mg G' as' σ' e' → Ext G H as G' H' as' → Q σ' H') → t W v σ H Q
theorem Rn.set {K : PySem.W.Frag} {mg : Str → Option Value} {G : Hp} {as : List Addr} {σ : L2.St} {e : Nv} {v : V} {x : D} (N : Rn K mg G as σ e) (i : Nat) (r : Rp K mg G as v x) : Rn K mg G as (σ.set i (some v)) (e.set i (some x)) := by
  refine ⟨by simp [N.len], fun j y h => ?_⟩
  by_cases hj : j = i
  · subst hj
    have hl : j < e.length := by
      have := (List.getElem?_eq_some_iff.mp h).1
      simpa using this
    rw [List.getElem?_set_self hl] at h
    cases h
    exact ⟨v, List.getElem?_set_self (by rw [N.len]; exact hl), r⟩
  · rw [List.getElem?_set_ne (Ne.symm hj)] at h
    obtain ⟨u, e1, r1⟩ := N.at_ j y h
    exact ⟨u, by rw [List.getElem?_set_ne (Ne.symm hj)]; exact e1, r1⟩
def gname (i : Nat) : MG := fun x e st => some (e.set i (some x), st)
theorem jg_name (i : Nat) {x : Str} (hi : F.N[i]? = some x) (hx : Loc F.sc x) (hw : F.own x = true := by rfl) : JG F (.Name x pos) (gname i) := by
  refine ⟨fun _ => gName i, fun W X m => pg_name (by rw [F.hN m]; exact F.nd) (by rw [F.hN m]; exact hi) (by rw [F.hsc m]; exact hx) (F.fn m x hw hx), ?_⟩
  intro W G H as st σ e v x e' st' Q R N r h k
  cases h
  exact k _ G H as R (N.set i r) Ext.refl
/-- several targets -/
abbrev MGs := List D → Nv → Store → Option (Nv × Store)
def JGs (F : Fam g) (ts : List Expr) (m : MGs) : Prop := ∃ t : WX → TGs, (∀ W X, F.mem W X → PGs X ts (t W)) ∧
  ∀ (W : WX) (G H : Hp) (as : List Addr) (st : Store) (σ : L2.St) (e : Nv) (vs : List V) (xs : List D) (e' : Nv) (st' : Store) (Q : L2.St → Hp → Prop), Ri g.K g.mg G H as st → Rn g.K g.mg G as σ e → RpA g.K g.mg G as vs xs → m xs e st = some (e', st') →
    (∀ σ' G' H' as', Ri g.K g.mg G' H' as' st' → Rn g.K g.mg G' as' σ' e' → Ext G H as G' H' as' → Q σ' H') → t W vs σ H Q
def gnil : MGs := fun xs e st => match xs with
  | [] => some (e, st)
  | _ => none
def gcons (m : MG) (ms : MGs) : MGs := fun xs e st => match xs with
  | x :: r => (match m x e st with
    | some (e', st') => ms r e' st'
    | none => none)
  | [] => none
theorem jgs_nil : JGs F [] gnil := by
  refine ⟨fun _ => gNil, fun _ _ _ => pgs_nil, ?_⟩
  intro W G H as st σ e vs xs e' st' Q R N r h k
  cases r with
  | nil => cases h; exact ⟨rfl, k _ G H as R N Ext.refl⟩
  | cons _ _ => cases h
theorem jgs_cons {ex : Expr} {es : List Expr} {m : MG} {ms : MGs} (h : JG F ex m) (hs : JGs F es ms) (ha : ∀ env, (assignEach (ex :: es) env).map (·.2) = assign ex env :: (assignEach es env).map (·.2) := by intro _; rfl) : JGs F (ex :: es) (gcons m ms) := by
  obtain ⟨t, p, s⟩ := h
  obtain ⟨ts, ps, ss⟩ := hs
  refine ⟨fun W => gCons (t W) (ts W), fun W X m => pgs_cons (p W X m) (ps W X m) (ha _), ?_⟩
  intro W G H as st σ e vs xs e' st' Q R N r h k
  cases r with
  | nil => cases h
  | cons r rr =>
    rename_i v vr x xr
    unfold gcons at h
    cases q : m x e st with
    | none => simp [q] at h
    | some z =>
      obtain ⟨e1, st1⟩ := z
      simp only [q] at h
      refine ⟨v, vr, rfl, s W G H as st σ e v x e1 st1 _ R N r q fun σ1 G1 H1 as1 R1 N1 X1 => ?_⟩
      exact ss W G1 H1 as1 st1 σ1 e1 vr xr e' st' Q R1 N1 (rr.ext X1) h fun σ2 G2 H2 as2 R2 N2 X2 => k σ2 G2 H2 as2 R2 N2 (X1.trans X2)
def gtup (n : Nat) (ms : MGs) : MG := fun x e st => match x with
  | .tup xs => if xs.length = n then ms xs e st else none
  | _ => none
theorem jg_tup {es : List Expr} {k n : Nat} {ms : MGs} (hs : JGs F es ms) (hn : ∀ env, (assignEach es env).length = n := by intro _; rfl) (hst : ∀ env, (assignEach es env).findIdx? (·.1) = none := by intro _; rfl) : JG F (.Tuple es k pos) (gtup n ms) := by
  obtain ⟨ts, ps, ss⟩ := hs
  refine ⟨fun W => gTup g.K n (ts W), fun W X m => by have := pg_tup (k := k) (pos := pos) (F.calm m) (ps W X m) (hn _) (hst _); rw [F.hK m] at this; exact this, ?_⟩
  intro W G H as st σ e v x e' st' Q R N r h k
  cases r with
  | tup s q =>
    rename_i a vs xs
    unfold gtup at h
    by_cases hl : xs.length = n
    · simp only [hl, if_true] at h
      exact ⟨a, vs, rfl, sqT_H R s, q.len.trans hl, ss W G H as st σ e vs xs e' st' Q R N q h k⟩
    · simp [hl] at h
  | _ => cases h
/-- o[i] = .. of a moving list; o and i by parts that change nothing -/
def gsub (mo mi : XM D) : MG := fun x e st => match mo e st, mi e st with
  | .ok (.ref k) _, .ok (.int i) _ => (match st[k]? with
    | some (.lst xs) => (match ixN xs.length i with
      | some j => some (e, st.set k (.lst (xs.set j x)))
      | none => none)
    | _ => none)
  | _, _ => none
/-- parts that change nothing -/
def Quiet (m : XM D) : Prop := ∀ e st d st', m e st = .ok d st' → st' = st
theorem quiet_var (i : Nat) : Quiet (xvar i) := fun e st d st' h => by
  unfold xvar at h
  split at h
  · cases h; rfl
  · cases h
theorem quiet_pure (d : D) : Quiet (xpure d) := fun _ _ _ _ h => by cases h; rfl
theorem jg_sub {o i : Expr} {mo mi : XM D} (ho : JE F o mo) (hi : JE F i mi) (qo : Quiet mo) (qi : Quiet mi)
    (ha : ∀ (env : Env) v, assign (.Subscript o i pos) env v = (do
      let ov ← holding [v] (eval o env)
      let iv ← holding [v, ov] (eval i env)
      standAt pos
      holding [v, ov, iv] (setItem ov iv v)
      release [v, ov, iv] []) := by intro _ _; rfl) : JG F (.Subscript o i pos) (gsub mo mi) := by
  obtain ⟨t, p, s⟩ := ho
  obtain ⟨ti, pi, si⟩ := hi
  refine ⟨fun W => gSub (t W) (ti W) rSetL, fun W X m => pg_sub (p W X m) (pi W X m) set_list (ha _), ?_⟩
  intro W G H as st σ e v x e' st' Q R N r h k
  unfold gsub at h
  cases q1 : mo e st with
  | exc c p st1 => simp [q1] at h
  | stuck => simp [q1] at h
  | ok d st1 =>
    cases q2 : mi e st with
    | exc c p st1 => simp [q1, q2] at h
    | stuck => simp [q1, q2] at h
    | ok d2 st2 =>
      cases qo _ _ _ _ q1
      cases qi _ _ _ _ q2
      rw [q1, q2] at h
      cases d with
      | ref kk =>
        cases d2 with
        | int ii =>
          simp only at h
          cases q3 : st[kk]? with
          | none => simp [q3] at h
          | some mo' =>
            cases mo' with
            | lst xs =>
              simp only [q3] at h
              cases q4 : ixN xs.length ii with
              | none => simp [q4] at h
              | some j =>
                simp only [q4] at h
                cases h
                refine s W G H as st σ e _ R N ?_
                rw [q1]
                intro ov G1 H1 as1 R1 X1 ro
                refine si W G1 H1 as1 st σ e _ R1 (N.ext X1) ?_
                rw [q2]
                intro iv G2 H2 as2 R2 X2 ri
                have ro2 := ro.ext X2
                cases ri
                cases ro2 with
                | ref qa =>
                  rename_i a
                  obtain ⟨ho', e1, oo⟩ := R2.at_ qa q3
                  cases oo with
                  | lst rr =>
                    rename_i vs
                    obtain ⟨R3, X3⟩ := R2.change (o := .lst (vs.set j v)) (m := .lst (xs.set j x)) qa (.lst (rr.set j ((r.ext X1).ext X2))) (fun u kvs z => by rw [e1] at z; cases z)
                    exact ⟨a, vs, ii, j, rfl, rfl, e1, by rw [rr.len]; exact q4, k _ _ _ _ R3 (((N.ext X1).ext X2).ext X3) ((X1.trans X2).trans X3)⟩
            | _ => simp [q3] at h
        | _ => simp at h
      | _ => simp at h
/-! ## assignments -/
def sasg (m : XM D) (gt : MG) : SM := sbind m fun x => fun e st => match gt x e st with
  | some (e', st') => .nx e' st'
  | none => .stuck
theorem js_asg {tg ex : Expr} {m : XM D} {gt : MG} (h : JE F ex m) (hg : JG F tg gt) (hs : ∀ env, swapsWithSole [tg] ex pos.line env = pure false := by intro _; rfl) (hw : ∀ env, swappedStores [tg] ex env = pure none := by intro _; rfl)
    (h1 : ∀ env, (assignEach [tg] env).map (·.2) = [assign tg env] := by intro _; rfl) : JS F (.Assign [tg] ex pos) (sasg m gt) := by
  obtain ⟨t, p, s⟩ := h
  obtain ⟨tg', pg', sg'⟩ := hg
  refine ⟨fun W => tAsg (t W) (tg' W), fun W X m => ps_asg (p W X m) (pg' W X m) (hs _) (hw _) (h1 _), ?_⟩
  intro W G H as st σ e E R N h
  refine s.oneS R N h fun x st1 v G1 H1 as1 R1 X1 N1 rv h1 => ?_
  cases q : gt x e st1 with
  | none => simp [q] at h1; exact h1.elim
  | some z =>
    obtain ⟨e', st'⟩ := z
    simp only [q] at h1
    exact sg' W G1 H1 as1 st1 σ e v x e' st' _ R1 N1 rv q fun σ2 G2 H2 as2 R2 N2 X2 => h1 σ2 G2 H2 as2 R2 N2 X2
/-- the same, what hangs on the context told of the family -/
theorem js_asgF {tg ex : Expr} {m : XM D} {gt : MG} (h : JE F ex m) (hg : JG F tg gt) (hs : ∀ env, swapsWithSole [tg] ex pos.line env = pure false) (hw : ∀ W X, F.mem W X → swappedStores [tg] ex X.env = pure none)
    (h1 : ∀ env, (assignEach [tg] env).map (·.2) = [assign tg env] := by intro _; rfl) : JS F (.Assign [tg] ex pos) (sasg m gt) := by
  obtain ⟨t, p, s⟩ := h
  obtain ⟨tg', pg', sg'⟩ := hg
  refine ⟨fun W => tAsg (t W) (tg' W), fun W X m => ps_asg (p W X m) (pg' W X m) (hs _) (hw W X m) (h1 _), ?_⟩
  intro W G H as st σ e E R N h
  refine s.oneS R N h fun x st1 v G1 H1 as1 R1 X1 N1 rv h1 => ?_
  cases q : gt x e st1 with
  | none => simp [q] at h1; exact h1.elim
  | some z =>
    obtain ⟨e', st'⟩ := z
    simp only [q] at h1
    exact sg' W G1 H1 as1 st1 σ e v x e' st' _ R1 N1 rv q fun σ2 G2 H2 as2 R2 N2 X2 => h1 σ2 G2 H2 as2 R2 N2 X2
def sset (i : Nat) (m : XM D) : SM := sbind m fun x => fun e st => .nx (e.set i (some x)) st
theorem js_set (i : Nat) {x : Str} {ex : Expr} {m : XM D} {pos' : Pos} (hi : F.N[i]? = some x) (hx : Loc F.sc x) (h : JE F ex m) (hs : ∀ env, swapsWith ex (some (.Name x pos')) pos.line env = pure false := by intro _; rfl) (hw : F.own x = true := by rfl) : JS F (.Assign [.Name x pos'] ex pos) (sset i m) := by
  obtain ⟨t, p, s⟩ := h
  refine ⟨fun W => tAsg (t W) (gName i), fun W X m => ps_set (by rw [F.hN m]; exact F.nd) (by rw [F.hN m]; exact hi) (by rw [F.hsc m]; exact hx) (p W X m) (hs _) (F.fn m x hw hx), ?_⟩
  intro W G H as st σ e E R N h
  exact s.oneS R N h fun x st1 v G1 H1 as1 R1 X1 N1 rv h1 => h1 _ G1 H1 as1 R1 (N1.set i rv) Ext.refl
/-- .. where the value is a comprehension and the name a cell: the context told of the family -/
theorem js_setF (i : Nat) {x : Str} {ex : Expr} {m : XM D} {pos' : Pos} (hi : F.N[i]? = some x) (hx : Loc F.sc x) (h : JE F ex m) (hs : ∀ W X, F.mem W X → swapsWith ex (some (.Name x pos')) pos.line X.env = pure false) (hw : F.own x = true := by rfl) : JS F (.Assign [.Name x pos'] ex pos) (sset i m) := by
  obtain ⟨t, p, s⟩ := h
  refine ⟨fun W => tAsg (t W) (gName i), fun W X m => ps_set (by rw [F.hN m]; exact F.nd) (by rw [F.hN m]; exact hi) (by rw [F.hsc m]; exact hx) (p W X m) (hs W X m) (F.fn m x hw hx), ?_⟩
  intro W G H as st σ e E R N h
  exact s.oneS R N h fun x st1 v G1 H1 as1 R1 X1 N1 rv h1 => h1 _ G1 H1 as1 R1 (N1.set i rv) Ext.refl
/-- a, b = x, y -/
def spar2 (i j : Nat) (ma mb : XM D) : SM := sbind ma fun x => sbind mb fun y => fun e st => .nx ((e.set i (some x)).set j (some y)) st
theorem js_par2 (i j : Nat) {x y : Str} {a b : Expr} {ma mb : XM D} {px py pt : Pos} {kt k2 pt2} (hi : F.N[i]? = some x) (hj : F.N[j]? = some y) (hij : i ≠ j) (hx : F.sc.names.lookup x = some .local) (hy : F.sc.names.lookup y = some .local) (ha : JE F a ma) (hb : JE F b mb)
    (hw : ∀ W X, F.mem W X → swappedStores [.Tuple [.Name x px, .Name y py] kt pt] (.Tuple [a, b] k2 pt2) X.env = pure (some [x, y]))
    (he : ∀ env, starEach [a, b] env = (false, eval a env) :: starEach [b] env := by intro _; rfl) (he2 : ∀ env, starEach [b] env = (false, eval b env) :: starEach [] env := by intro _; rfl)
    (hs : ∀ env, swapsWithSole [.Tuple [.Name x px, .Name y py] kt pt] (.Tuple [a, b] k2 pt2) pos.line env = pure false := by intro _; rfl) :
    JS F (.Assign [.Tuple [.Name x px, .Name y py] kt pt] (.Tuple [a, b] k2 pt2) pos) (spar2 i j ma mb) := by
  obtain ⟨ta, pa, sa⟩ := ha
  obtain ⟨tb, pb, sb⟩ := hb
  refine ⟨fun W => tPar i j (tCons (ta W) (tCons (tb W) tNil)), fun W X m => ps_par (F.calm m) (by rw [F.hN m]; exact F.nd) (by rw [F.hN m]; exact hi) (by rw [F.hN m]; exact hj) hij (by rw [F.hsc m]; exact hx) (by rw [F.hsc m]; exact hy) (pa_cons (pa W X m) (pa_cons (pb W X m) pa_nil (he2 _)) (he _)) (hw W X m) (hs _), ?_⟩
  intro W G H as st σ e E R N h
  refine sa.oneS R N h fun x st1 v G1 H1 as1 R1 X1 N1 rv h1 => ?_
  refine sb.oneS R1 N1 h1 fun y st2 w G2 H2 as2 R2 X2 N2 rw' h2 => ?_
  exact ⟨v, w, rfl, h2 _ G2 H2 as2 R2 ((N2.set i (rv.ext X2)).set j rw') Ext.refl⟩
/-- xs.append(e) of a moving list -/
def isLst (st : Store) (k : Nat) : Bool := match st[k]? with
  | some (.lst _) => true
  | _ => false
def xappend (mo me : XM D) : XM D := xbind mo fun o => match o with
  | .ref k => fun e st => if isLst st k = true then (match me e st with
    | .ok x st' => (match st'[k]? with
      | some (.lst xs) => if xs.length < LIM then .ok .non (st'.set k (.lst (xs ++ [x]))) else .stuck
      | _ => .stuck)
    | .exc c p st' => .exc c p st'
    | .stuck => .stuck) else .stuck
  | _ => fun _ _ => .stuck
theorem isLst_at {st : Store} {k : Nat} (h : isLst st k = true) : ∃ xs, st[k]? = some (.lst xs) := by
  unfold isLst at h
  split at h
  · rename_i xs q; exact ⟨xs, q⟩
  · cases h
theorem ty_ref {K : PySem.W.Frag} {mg : Str → Option Value} {G H : Hp} {as : List Addr} {st : Store} {v : V} {kk : Nat} (R : Ri K mg G H as st) (r : Rp K mg G as v (.ref kk)) (h : isLst st kk = true) : tyV K "list" v H := by
  cases r with
  | ref q =>
    obtain ⟨xs, e⟩ := isLst_at h
    obtain ⟨ho, e1, oo⟩ := R.at_ q e
    cases oo
    exact .inl ⟨rfl, _, .inl (.inl e1)⟩
theorem je_append {o ex : Expr} {mo me : XM D} {apos : Pos} (ho : JE F o mo) (he : JE F ex me) (h1 : ∀ env, attributeBase o "append" env (eval o env) = eval o env := by intro _; rfl) (h2 : (apos.endLine == pos.line) = true := by rfl)
    (hst : ∀ env, starEach [ex] env = (false, eval ex env) :: starEach [] env := by intro _; rfl)
    (hfew : ∀ env, ((backTo pos (starEach [ex] env)).all (fun x => !x.1) && (backToKw pos (keywordEach [] env)).all (fun x => x.1.isSome)
      && decide ([ex].length + ([] : List Keyword).length + (if ([] : List Keyword).isEmpty then 0 else 1) < 30)) = true := by intro _; rfl) : JE F (.Call (.Attribute o "append" apos) [ex] [] pos) (xappend mo me) := by
  obtain ⟨t, p, s⟩ := ho
  obtain ⟨te, pe, se⟩ := he
  refine ⟨fun W => tBM g.K "list" rAppend (t W) (tCons (te W) tNil), fun W X m => ?_, ?_⟩
  · have := pe_bm (cpos := pos) (apos := apos) PySem.F.plainAttrs_list PySem.F.slot_list_append PySem.F.type_list_append (mt_append (X := X)) (p W X m) (pa_cons (pe W X m) pa_nil (hst _)) (h1 _) (hfew _) h2 (hst _) rfl
    rw [F.hK m] at this
    exact this
  · intro W G H as st σ e Q R N h
    refine s.one R N h fun x st1 v G1 H1 as1 R1 X1 N1 rv h1 => ?_
    cases x with
    | ref kk =>
      simp only at h1
      by_cases hk : isLst st1 kk = true
      · rw [if_pos hk] at h1
        refine ⟨ty_ref R1 rv hk, ?_⟩
        refine se W G1 H1 as1 st1 σ e _ R1 N1 ?_
        cases q2 : me e st1 with
        | stuck => simp only [q2] at h1; exact h1.elim
        | exc c p st2 => simp only [q2] at h1; exact h1
        | ok y st2 =>
          simp only [q2] at h1
          intro w G2 H2 as2 R2 X2 rw'
          have rv2 := rv.ext X2
          cases q3 : st2[kk]? with
          | none => simp [q3] at h1; exact h1.elim
          | some mo' =>
            cases mo' with
            | lst xs =>
              simp only [q3] at h1
              by_cases hl : xs.length < LIM
              · rw [if_pos hl] at h1
                cases rv2 with
                | ref qa =>
                  rename_i a
                  obtain ⟨ho', e1, oo⟩ := R2.at_ qa q3
                  cases oo with
                  | lst rr =>
                    rename_i vs
                    obtain ⟨R3, X3⟩ := R2.change (o := .lst (vs ++ [w])) (m := .lst (xs ++ [y])) qa (.lst (rr.append (.cons rw' .nil))) (fun u kvs z => by rw [e1] at z; cases z)
                    exact ⟨a, vs, w, rfl, rfl, e1, by rw [rr.len]; exact lim_lt hl, h1 _ _ _ _ R3 (X2.trans X3) .non⟩
              · rw [if_neg hl] at h1; exact h1.elim
            | _ => simp [q3] at h1; exact h1.elim
      · rw [if_neg hk] at h1; exact h1.elim
    | _ => exact h1.elim
end
end LS
end
section
set_option maxRecDepth 100000
set_option maxHeartbeats 2000000
namespace LS
open PySem PySem.Spec L2

/-! ## equal data -/
mutual
def eqb : D → D → Bool
  | .non, .non => true
  | .bl a, .bl b => a == b
  | .int a, .int b => a == b
  | .str a, .str b => decide (a = b)
  | .ty a, .ty b => decide (a = b)
  | .glo a, .glo b => decide (a = b)
  | .tup a, .tup b => eqbs a b
  | .lst a, .lst b => eqbs a b
  | .sq a, .sq b => eqbs a b
  | .tpz a, .tpz b => eqbs a b
  | .ref a, .ref b => a == b
  | _, _ => false
def eqbs : List D → List D → Bool
  | [], [] => true
  | a :: r, b :: s => eqb a b && eqbs r s
  | _, _ => false
end
mutual
theorem eqb_eq : ∀ {a b : D}, eqb a b = true → a = b
  | .non, b, h => by cases b <;> first | rfl | (simp [eqb] at h)
  | .bl x, b, h => by cases b <;> first | (simp [eqb] at h; done) | (simp [eqb] at h; rw [h])
  | .int x, b, h => by cases b <;> first | (simp [eqb] at h; done) | (simp [eqb] at h; rw [h])
  | .str x, b, h => by cases b <;> first | (simp [eqb] at h; done) | (simp [eqb] at h; rw [h])
  | .ty x, b, h => by cases b <;> first | (simp [eqb] at h; done) | (simp [eqb] at h; rw [h])
  | .glo x, b, h => by cases b <;> first | (simp [eqb] at h; done) | (simp [eqb] at h; rw [h])
  | .ref x, b, h => by cases b <;> first | (simp [eqb] at h; done) | (simp [eqb] at h; rw [h])
  | .tup x, b, h => by
    cases b with
    | tup y => rw [eqbs_eq (a := x) (b := y) (by simpa [eqb] using h)]
    | _ => simp [eqb] at h
  | .lst x, b, h => by
    cases b with
    | lst y => rw [eqbs_eq (a := x) (b := y) (by simpa [eqb] using h)]
    | _ => simp [eqb] at h
  | .sq x, b, h => by
    cases b with
    | sq y => rw [eqbs_eq (a := x) (b := y) (by simpa [eqb] using h)]
    | _ => simp [eqb] at h
  | .tpz x, b, h => by
    cases b with
    | tpz y => rw [eqbs_eq (a := x) (b := y) (by simpa [eqb] using h)]
    | _ => simp [eqb] at h
theorem eqbs_eq : ∀ {a b : List D}, eqbs a b = true → a = b
  | [], b, h => by cases b <;> first | rfl | (simp [eqbs] at h)
  | x :: r, b, h => by
    cases b with
    | nil => simp [eqbs] at h
    | cons y s =>
      simp only [eqbs, Bool.and_eq_true] at h
      rw [eqb_eq h.1, eqbs_eq h.2]
end
/-- the moving list that is walked stands as it stood -/
def srcOk (src : Option Nat) (xs : List D) (st : Store) : Bool := match src with
  | none => true
  | some i => match st[i]? with
    | some (.lst ys) => eqbs ys xs
    | _ => false

/-! ## what is walked -/
section
variable {g : Gb} {F : Fam g} {pos : Pos}
structure Yl (g : Gb) (G0 H0 : Hp) (as0 : List Addr) (src : Option Nat) (xs : List D) (J : It) : Prop where
  go : ∀ i G H as st, i < xs.length → Ri g.K g.mg G H as st → (∀ a o, G0 a = some o → G a = some o) → as0 <+: as → (∀ a o kvs, H0 a = some (.frz o (.dK kvs)) → H a = some (.frz o (.dK kvs))) → srcOk src xs st = true → J.go i H
  stop : ∀ G H as st, Ri g.K g.mg G H as st → (∀ a o, G0 a = some o → G a = some o) → as0 <+: as → (∀ a o kvs, H0 a = some (.frz o (.dK kvs)) → H a = some (.frz o (.dK kvs))) → srcOk src xs st = true → J.stop xs.length H
  yld : ∀ i G H as st v H' x, Ri g.K g.mg G H as st → (∀ a o, G0 a = some o → G a = some o) → as0 <+: as → (∀ a o kvs, H0 a = some (.frz o (.dK kvs)) → H a = some (.frz o (.dK kvs))) → srcOk src xs st = true → xs[i]? = some x → J.yld i H v H' → ∃ G', Ri g.K g.mg G' H' as st ∧ Ext G H as G' H' as ∧ Rp g.K g.mg G' as v x
def PXI (g : Gb) (W : WX) (G H : Hp) (as : List Addr) (σ : L2.St) (r : RX (List D × Option Nat)) (R : It → Hp → Prop) : Prop := match r with
  | .ok (xs, src) st' => srcOk src xs st' = true ∧ ∀ J G' H' as', Ri g.K g.mg G' H' as' st' → Ext G H as G' H' as' → Yl g G' H' as' src xs J → R J H'
  | .exc c p st' => ∀ cls d G' H' as', Ri g.K g.mg G' H' as' st' → Ext G H as G' H' as' → ExR g.K g.mg G' H' as' c p cls d → W cls d σ H'
  | .stuck => False
def JI (F : Fam g) (tg iter : Expr) (m : XM (List D × Option Nat)) : Prop := ∃ wi : WX → TI, (∀ W X, F.mem W X → PI X tg iter (wi W)) ∧
  ∀ (W : WX) (G H : Hp) (as : List Addr) (st : Store) (σ : L2.St) (e : Nv) (R : It → Hp → Prop), Ri g.K g.mg G H as st → Rn g.K g.mg G as σ e → PXI g W G H as σ (m e st) R → wi W σ H R
/-- a list or a tuple -/
def iSeq (K : PySem.W.Frag) (tl : TE) : TI := fun σ H R => tl σ H fun x H1 => ∃ a, x = .ref a ∧ (((∃ xs, SqL K H1 a xs) ∧ R (Itl K a) H1) ∨ ((∃ xs, SqT K H1 a xs) ∧ R (Itt K a) H1))
theorem pi_seq {X : Cx} {tg l : Expr} {tl : TE} (hl : PE X l tl) : PI X tg l (iSeq X.K tl) := by
  refine ⟨fun pins s σ H R I h => ?_⟩
  refine thn (hl.run pins s σ H _ I h) fun v s1 ⟨x, H1, I1, r1, q1⟩ => ?_
  obtain ⟨a, e, q | q⟩ := q1
  · obtain ⟨⟨xs, hq⟩, q⟩ := q
    subst e
    cases r1
    obtain ⟨its, rv, p, hz⟩ := I1.list hq
    refine wpAny_pyIter_list p.isList ?_
    refine ⟨s1.heap.objs.size, [s1.heap.objs.size], _, _, H1, rfl, I1.kept (t' := s1.toks) fun b o e => Heap.get?_push_of_some _ e, turn_list a _, ⟨_, Heap.get?_push_size _ rfl, rfl, rfl⟩, fun b hb => ?_, q⟩
    have e : b = s1.heap.objs.size := by simpa using hb
    subst e
    exact I1.fpOk (Nat.le_refl _) (I1.hok.fresh (Nat.le_refl _))
  · obtain ⟨⟨xs, hq⟩, q⟩ := q
    subst e
    cases r1
    obtain ⟨its, rv, p, hz⟩ := I1.tuple hq
    refine wpAny_pyIter_tuple (show s1.heap.IsTuple a its.toArray from p) ?_
    refine ⟨s1.heap.objs.size, [s1.heap.objs.size], _, _, H1, rfl, I1.kept (t' := s1.toks) fun b o e => Heap.get?_push_of_some _ e, turn_tuple a _, ⟨_, Heap.get?_push_size _ rfl, rfl, rfl⟩, fun b hb => ?_, q⟩
    have e : b = s1.heap.objs.size := by simpa using hb
    subst e
    exact I1.fpOk (Nat.le_refl _) (I1.hok.fresh (Nat.le_refl _))
def seqSrc (st : Store) (x : D) : Option (List D × Option Nat) := match x with
  | .ref i => (lstOf st x).map fun xs => (xs, some i)
  | x => (seqOf st x).map fun xs => (xs, none)
def xwalk (m : XM D) : XM (List D × Option Nat) := xbind m fun x => fun _ st => match seqSrc st x with
  | some r => .ok r st
  | none => .stuck
theorem eqbs_refl_of {a b : List D} (h : a = b) : eqbs a b = true := by
  subst h
  have r : ∀ d : D, eqb d d = true := by
    intro d
    exact D.rec (motive_1 := fun d => eqb d d = true) (motive_2 := fun l => eqbs l l = true) (by simp [eqb]) (by simp [eqb]) (by simp [eqb]) (by simp [eqb]) (by simp [eqb]) (by simp [eqb]) (fun _ h => by simpa [eqb] using h) (fun _ h => by simpa [eqb] using h) (fun _ h => by simpa [eqb] using h) (by simp [eqb]) (fun _ h => by simpa [eqb] using h) (by simp [eqbs]) (fun _ _ h1 h2 => by simp [eqbs, h1, h2]) d
  induction a with
  | nil => rfl
  | cons x l ih => simp [eqbs, r x, ih]
theorem yl_list {G0 H0 : Hp} {as0 : List Addr} {a : Addr} {vs : List V} {xs : List D} (s : SqL g.K G0 a vs) (r : RpA g.K g.mg G0 as0 vs xs) : Yl g G0 H0 as0 none xs (Itl g.K a) where
  go := fun i G H as st hi R hs hp hl _ => by
    have hv : i < vs.length := by rw [r.len]; exact hi
    exact ⟨vs, vs[i], sqL_H R (sqL_sub hs s), List.getElem?_eq_getElem hv⟩
  stop := fun G H as st R hs hp hl _ => ⟨vs, sqL_H R (sqL_sub hs s), by rw [r.len]; exact Nat.le_refl _⟩
  yld := fun i G H as st v H' x R hs hp hl _ hx y => by
    obtain ⟨e, y⟩ := y
    subst e
    obtain ⟨u, e1, ru⟩ := r.get hx
    have e2 := y vs (sqL_H R (sqL_sub hs s))
    rw [e1] at e2; cases e2
    exact ⟨G, R, Ext.refl, ru.mono hs hp⟩
theorem yl_tup {G0 H0 : Hp} {as0 : List Addr} {a : Addr} {vs : List V} {xs : List D} (s : SqT g.K G0 a vs) (r : RpA g.K g.mg G0 as0 vs xs) : Yl g G0 H0 as0 none xs (Itt g.K a) where
  go := fun i G H as st hi R hs hp hl _ => by
    have hv : i < vs.length := by rw [r.len]; exact hi
    exact ⟨vs, vs[i], sqT_H R (sqT_sub hs s), List.getElem?_eq_getElem hv⟩
  stop := fun G H as st R hs hp hl _ => ⟨vs, sqT_H R (sqT_sub hs s), by rw [r.len]; exact Nat.le_refl _⟩
  yld := fun i G H as st v H' x R hs hp hl _ hx y => by
    obtain ⟨e, y⟩ := y
    subst e
    obtain ⟨u, e1, ru⟩ := r.get hx
    have e2 := y vs (sqT_H R (sqT_sub hs s))
    rw [e1] at e2; cases e2
    exact ⟨G, R, Ext.refl, ru.mono hs hp⟩
theorem src_at {K : PySem.W.Frag} {mg : Str → Option Value} {G H : Hp} {as : List Addr} {st : Store} {i : Nat} {a : Addr} {xs : List D} (R : Ri K mg G H as st) (ha : as[i]? = some a) (h : srcOk (some i) xs st = true) : ∃ vs, H a = some (.lst vs) ∧ RpA K mg G as vs xs := by
  unfold srcOk at h
  cases q : st[i]? with
  | none => simp [q] at h
  | some m =>
    cases m with
    | lst ys =>
      simp only [q] at h
      cases eqbs_eq h
      obtain ⟨ho, e1, oo⟩ := R.at_ ha q
      cases oo with | lst r => exact ⟨_, e1, r⟩
    | _ => simp [q] at h
theorem yl_ref {G0 H0 : Hp} {as0 : List Addr} {a : Addr} {k : Nat} {xs : List D} (ha : as0[k]? = some a) : Yl g G0 H0 as0 (some k) xs (Itl g.K a) where
  go := fun i G H as st hi R hs hp hl ok => by
    obtain ⟨vs, e, r⟩ := src_at R (pre_get hp ha) ok
    have hv : i < vs.length := by rw [r.len]; exact hi
    exact ⟨vs, vs[i], .of e, List.getElem?_eq_getElem hv⟩
  stop := fun G H as st R hs hp hl ok => by
    obtain ⟨vs, e, r⟩ := src_at R (pre_get hp ha) ok
    exact ⟨vs, .of e, by rw [r.len]; exact Nat.le_refl _⟩
  yld := fun i G H as st v H' x R hs hp hl ok hx y => by
    obtain ⟨e, y⟩ := y
    subst e
    obtain ⟨vs, e0, r⟩ := src_at R (pre_get hp ha) ok
    obtain ⟨u, e1, ru⟩ := r.get hx
    have e2 := y vs (.of e0)
    rw [e1] at e2; cases e2
    exact ⟨G, R, Ext.refl, ru⟩
theorem ji_seq {tg l : Expr} {m : XM D} (h : JE F l m) : JI F tg l (xwalk m) := by
  obtain ⟨t, p, s⟩ := h
  refine ⟨fun W => iSeq g.K (t W), fun W X m => by have := pi_seq (tg := tg) (p W X m); rw [F.hK m] at this; exact this, ?_⟩
  intro W G H as st σ e R' R N h
  refine s W G H as st σ e _ R N ?_
  unfold xwalk xbind at h
  cases q : m e st with
  | stuck => rw [q] at h; exact h
  | exc c p st1 => rw [q] at h; exact h
  | ok x st1 =>
    simp only [q] at h
    intro v G1 H1 as1 R1 X1 rv
    cases q2 : seqSrc st1 x with
    | none => simp only [q2] at h; exact h.elim
    | some z =>
      obtain ⟨xs, src⟩ := z
      simp only [q2] at h
      obtain ⟨ok, k⟩ := h
      have still : ∀ ys, seqOf st1 x = some ys → (∀ i, x ≠ .ref i) → xs = ys → src = none → ∃ a, v = .ref a ∧ (((∃ xs, SqL g.K H1 a xs) ∧ R' (Itl g.K a) H1) ∨ ((∃ xs, SqT g.K H1 a xs) ∧ R' (Itt g.K a) H1)) := by
        intro ys e1 nr e2 e3
        subst e2 e3
        cases rv with
        | tup s0 r0 => cases e1; exact ⟨_, rfl, .inr ⟨⟨_, sqT_H R1 s0⟩, k _ G1 H1 as1 R1 X1 (yl_tup s0 r0)⟩⟩
        | tpz s0 z0 r0 => cases e1; exact ⟨_, rfl, .inr ⟨⟨_, sqT_H R1 (.inl (.inr ⟨_, s0⟩))⟩, k _ G1 H1 as1 R1 X1 (yl_tup (.inl (.inr ⟨_, s0⟩)) r0)⟩⟩
        | sq s0 r0 => cases e1; exact ⟨_, rfl, .inl ⟨⟨_, sqL_H R1 s0⟩, k _ G1 H1 as1 R1 X1 (yl_list s0 r0)⟩⟩
        | lst s0 r0 => cases e1; exact ⟨_, rfl, .inl ⟨⟨_, .of (R1.sub _ _ s0)⟩, k _ G1 H1 as1 R1 X1 (yl_list (.of s0) r0)⟩⟩
        | ref q0 => exact absurd rfl (nr _)
        | _ => cases e1
      cases x with
      | ref i =>
        obtain ⟨ys, e1, e2⟩ := Option.map_eq_some_iff.mp (show (lstOf st1 (.ref i)).map (fun xs => (xs, some i)) = some (xs, src) from q2)
        cases e2
        obtain ⟨a, vs, rfl, e3, r3⟩ := lstOf_ok R1 rv e1
        cases rv with
        | ref q0 => exact ⟨a, rfl, .inl ⟨⟨vs, .of e3⟩, k _ G1 H1 as1 R1 X1 (yl_ref q0)⟩⟩
      | tup ys =>
        obtain ⟨ys', e1, e2⟩ := Option.map_eq_some_iff.mp (show (seqOf st1 (.tup ys)).map (fun xs => (xs, none)) = some (xs, src) from q2)
        cases e2; exact still _ e1 (fun _ z => nomatch z) rfl rfl
      | tpz ys =>
        obtain ⟨ys', e1, e2⟩ := Option.map_eq_some_iff.mp (show (seqOf st1 (.tpz ys)).map (fun xs => (xs, none)) = some (xs, src) from q2)
        cases e2; exact still _ e1 (fun _ z => nomatch z) rfl rfl
      | sq ys =>
        obtain ⟨ys', e1, e2⟩ := Option.map_eq_some_iff.mp (show (seqOf st1 (.sq ys)).map (fun xs => (xs, none)) = some (xs, src) from q2)
        cases e2; exact still _ e1 (fun _ z => nomatch z) rfl rfl
      | lst ys =>
        obtain ⟨ys', e1, e2⟩ := Option.map_eq_some_iff.mp (show (seqOf st1 (.lst ys)).map (fun xs => (xs, none)) = some (xs, src) from q2)
        cases e2; exact still _ e1 (fun _ z => nomatch z) rfl rfl
      | _ => cases q2
/-- range(n), range(a, b) -/
def rangeL (lo : Int) (n : Nat) : List D := (List.range n).map fun (i : Nat) => .int (lo + (i : Int))
theorem yl_range {G0 H0 : Hp} {as0 : List Addr} {lo : Int} {n : Nat} : Yl g G0 H0 as0 none (rangeL lo n) (Itr lo n) where
  go := fun i G H as st hi R hs hp hl _ => by
    have : i < n := by simpa [rangeL] using hi
    exact this
  stop := fun G H as st R hs hp hl _ => by show n ≤ (rangeL lo n).length; simp [rangeL]
  yld := fun i G H as st v H' x R hs hp hl _ hx y => by
    obtain ⟨e, y⟩ := y
    subst e y
    unfold rangeL at hx
    rw [List.getElem?_map] at hx
    obtain ⟨j, e1, e2⟩ := Option.map_eq_some_iff.mp hx
    have := List.getElem?_eq_some_iff.mp e1
    obtain ⟨h1, h2⟩ := this
    have ej : j = i := by rw [← h2]; simp
    subst ej
    cases e2
    exact ⟨G, R, Ext.refl, .int _⟩
def xrange1 (m : XM D) : XM (List D × Option Nat) := xbind m fun x => fun _ st => match x with
  | .int j => if -(2 ^ 62) ≤ j ∧ j < 2 ^ 62 then .ok (rangeL 0 j.toNat, none) st else .stuck
  | _ => .stuck
theorem ji_range1 {tg a : Expr} {m : XM D} {p : Pos} (hg : F.sc.names.lookup ("range" : Str) = some .globalImplicit) (hm : g.mg "range" = none) (ha : JE F a m) (hs : ∀ env, starEach [a] env = [(false, eval a env)] := by intro _; rfl) : JI F tg (.Call (.Name "range" p) [a] [] pos) (xrange1 m) := by
  obtain ⟨t, p', s⟩ := ha
  refine ⟨fun W => iRng1 (tCons (t W) tNil), fun W X m => pi_range1 (by show X.env.scope.names.lookup _ = _; rw [F.hsc m]; exact hg) (by rw [F.hmg m]; exact hm) (pa_cons (p' W X m) pa_nil (hs _)) (hs _), ?_⟩
  intro W G H as st σ e R' R N h
  refine s W G H as st σ e _ R N ?_
  unfold xrange1 xbind at h
  cases q : m e st with
  | stuck => rw [q] at h; exact h
  | exc c p st1 => rw [q] at h; exact h
  | ok x st1 =>
    simp only [q] at h
    intro v G1 H1 as1 R1 X1 rv
    cases rv with
    | int j =>
      by_cases hc : -(2 ^ 62) ≤ j ∧ j < 2 ^ 62
      · simp only [hc, and_self, if_true] at h
        exact ⟨j, rfl, hc.1, hc.2, h.2 _ G1 H1 as1 R1 X1 yl_range⟩
      · simp only [hc, if_false] at h; exact h.elim
    | _ => exact h.elim
def xrange2 (ma mb : XM D) : XM (List D × Option Nat) := xbind ma fun x => xbind mb fun y => fun _ st => match x, y with
  | .int i, .int j => if -(2 ^ 62) ≤ i ∧ i < 2 ^ 62 ∧ -(2 ^ 62) ≤ j ∧ j < 2 ^ 62 then .ok (rangeL i (j - i).toNat, none) st else .stuck
  | _, _ => .stuck
theorem ji_range2 {tg a b : Expr} {ma mb : XM D} {p : Pos} (hg : F.sc.names.lookup ("range" : Str) = some .globalImplicit) (hm : g.mg "range" = none) (ha : JE F a ma) (hb : JE F b mb)
    (hs : ∀ env, starEach [a, b] env = [(false, eval a env), (false, eval b env)] := by intro _; rfl) (hs2 : ∀ env, starEach [b] env = [(false, eval b env)] := by intro _; rfl) : JI F tg (.Call (.Name "range" p) [a, b] [] pos) (xrange2 ma mb) := by
  obtain ⟨t, p', s⟩ := ha
  obtain ⟨t2, p2, s2⟩ := hb
  refine ⟨fun W => iRng2 (tCons (t W) (tCons (t2 W) tNil)), fun W X m => pi_range2 (by show X.env.scope.names.lookup _ = _; rw [F.hsc m]; exact hg) (by rw [F.hmg m]; exact hm) (pa_cons (p' W X m) (pa_cons (p2 W X m) pa_nil (hs2 _)) (by rw [hs, hs2])) (hs _) (hs2 _), ?_⟩
  intro W G H as st σ e R' R N h
  refine s W G H as st σ e _ R N ?_
  unfold xrange2 xbind at h
  cases q : ma e st with
  | stuck => rw [q] at h; exact h
  | exc c p st1 => rw [q] at h; exact h
  | ok x st1 =>
    simp only [q] at h
    intro v G1 H1 as1 R1 X1 rv
    refine s2 W G1 H1 as1 st1 σ e _ R1 (N.ext X1) ?_
    cases q2 : mb e st1 with
    | stuck => simp only [q2] at h; exact h
    | exc c p st2 =>
      simp only [q2] at h
      exact fun cls d G2 H2 as2 R2 X2 x2 => h cls d G2 H2 as2 R2 (X1.trans X2) x2
    | ok y st2 =>
      simp only [q2] at h
      intro w G2 H2 as2 R2 X2 rw'
      cases rv with
      | int i =>
        cases rw' with
        | int j =>
          by_cases hc : -(2 ^ 62) ≤ i ∧ i < 2 ^ 62 ∧ -(2 ^ 62) ≤ j ∧ j < 2 ^ 62
          · simp only [hc, and_self, if_true] at h
            exact ⟨i, j, rfl, hc, h.2 _ G2 H2 as2 R2 (X1.trans X2) yl_range⟩
          · simp only [hc, if_false] at h; exact h.elim
        | _ => exact h.elim
      | _ => cases rw' <;> exact h.elim
/-! ## for -/
def sloop (src : Option Nat) (items : List D) (gt : MG) (body : SM) : List D → Nv → Store → RS
  | [], e, st => if srcOk src items st = true then .nx e st else .stuck
  | x :: r, e, st => if srcOk src items st = true then (match gt x e st with
    | none => .stuck
    | some (e1, st1) => match body e1 st1 with
      | .nx e2 st2 => sloop src items gt body r e2 st2
      | .ct e2 st2 => sloop src items gt body r e2 st2
      | .bk e2 st2 => .nx e2 st2
      | r => r) else .stuck
def sfor (mi : XM (List D × Option Nat)) (gt : MG) (body : SM) : SM := fun e st => match mi e st with
  | .ok (xs, src) st1 => sloop src xs gt body xs e st1
  | .exc c p st' => .exc c p e st'
  | .stuck => .stuck
theorem js_for {tg iter : Expr} {body : List Stmt} {mi : XM (List D × Option Nat)} {gt : MG} {mb : SM} (hi : JI F tg iter mi) (hg : JG F tg gt) (hb : JSs F body mb) (hs : ∀ env x, foldedSetIterable iter env x = pure x := by intro _ _; rfl) : JS F (.For tg iter body [] pos) (sfor mi gt mb) := by
  obtain ⟨wi, pi, si⟩ := hi
  obtain ⟨tg', pg', sg'⟩ := hg
  obtain ⟨tb, pb, sb⟩ := hb
  refine ⟨fun W => tFor (wi W) (tg' W) (tb W), fun W X m => ps_for (F.pass m) (F.calm m) (pi W X m) (pg' W X m) (pb W X m) (hs _), ?_⟩
  intro W G H as st σ e E R N h
  refine si W G H as st σ e _ R N ?_
  unfold sfor at h
  cases q : mi e st with
  | stuck => rw [q] at h; exact h
  | exc c p st1 => rw [q] at h; exact fun cls d G1 H1 as1 R1 X1 x => h σ cls d G1 H1 as1 R1 (N.ext X1) X1 x
  | ok z st1 =>
    obtain ⟨xs, src⟩ := z
    simp only [q] at h
    have ok : srcOk src xs st1 = true := by
      cases hx : srcOk src xs st1 with
      | true => rfl
      | false =>
        exfalso
        cases xs with
        | nil => simp [sloop, hx] at h; exact h
        | cons x r => simp [sloop, hx] at h; exact h
    refine ⟨ok, fun J G1 H1 as1 R1 X1 Y => ?_⟩
    refine ⟨fun i m σ' H' => i ≤ xs.length ∧ m = xs.length - i ∧ ∃ G' as' st' e', Ri g.K g.mg G' H' as' st' ∧ Rn g.K g.mg G' as' σ' e' ∧ Ext G1 H1 as1 G' H' as' ∧ PS_ g.K g.mg W G' H' as' e.length (sloop src xs gt mb (xs.drop i) e' st') E,
      ⟨xs.length, Nat.zero_le _, by simp, G1, as1, st1, e, R1, N.ext X1, Ext.refl, PS_.ext (n := e.length) h X1⟩, ?_⟩
    rintro i m σ2 H2 ⟨hle, rfl, G2, as2, st2, e2, R2, N2, X2, h2⟩
    have hs0 := X2.sub
    have hp0 := X2.pre
    by_cases hi : i < xs.length
    · have hd : xs.drop i = xs[i] :: xs.drop (i + 1) := List.drop_eq_getElem_cons hi
      rw [hd] at h2
      unfold sloop at h2
      by_cases hok : srcOk src xs st2 = true
      · simp only [hok, if_true] at h2
        refine .inr ⟨Y.go i G2 H2 as2 st2 hi R2 hs0 hp0 X2.lk hok, ?_⟩
        refine ⟨fun σ' H' => i + 1 ≤ xs.length ∧ ∃ G' as' st' e', Ri g.K g.mg G' H' as' st' ∧ Rn g.K g.mg G' as' σ' e' ∧ Ext G1 H1 as1 G' H' as' ∧ PS_ g.K g.mg W G' H' as' e.length (sloop src xs gt mb (xs.drop (i + 1)) e' st') E,
          fun σ' H' ⟨a, b⟩ => ⟨xs.length - (i + 1), by omega, a, rfl, b⟩, fun v H3 y => ?_⟩
        obtain ⟨G3, R3, X3, rv⟩ := Y.yld i G2 H2 as2 st2 v H3 xs[i] R2 hs0 hp0 X2.lk hok (List.getElem?_eq_getElem hi) y
        cases q3 : gt xs[i] e2 st2 with
        | none => simp only [q3] at h2; exact h2.elim
        | some z =>
          obtain ⟨e3, st3⟩ := z
          simp only [q3] at h2
          refine sg' W G3 H3 as2 st2 σ2 e2 v xs[i] e3 st3 _ R3 (N2.ext X3) rv q3 fun σ4 G4 H4 as4 R4 N4 X4 => ?_
          refine sb W G4 H4 as4 st3 σ4 e3 _ R4 N4 ?_
          have X24 := X3.trans X4
          cases q4 : mb e3 st3 with
          | nx e5 st5 =>
            simp only [q4] at h2
            exact fun σ5 G5 H5 as5 R5 N5 X5 => ⟨hi, G5, as5, st5, e5, R5, N5, (X2.trans X24).trans X5, PS_.ext (n := e.length) h2 (X24.trans X5)⟩
          | ct e5 st5 =>
            simp only [q4] at h2
            exact fun σ5 G5 H5 as5 R5 N5 X5 => ⟨hi, G5, as5, st5, e5, R5, N5, (X2.trans X24).trans X5, PS_.ext (n := e.length) h2 (X24.trans X5)⟩
          | bk e5 st5 =>
            simp only [q4] at h2
            exact fun σ5 G5 H5 as5 R5 N5 X5 => h2 σ5 G5 H5 as5 R5 N5 (X24.trans X5)
          | rt d st5 =>
            simp only [q4] at h2
            exact fun v G5 H5 as5 R5 X5 => h2 v G5 H5 as5 R5 (X24.trans X5)
          | exc c p e5 st5 =>
            simp only [q4] at h2
            exact fun σ5 cls d G5 H5 as5 R5 N5 X5 => h2 σ5 cls d G5 H5 as5 R5 N5 (X24.trans X5)
          | stuck => simp only [q4] at h2; exact h2
      · simp only [hok] at h2; exact h2.elim
    · have ei : i = xs.length := by omega
      subst ei
      rw [List.drop_length] at h2
      unfold sloop at h2
      by_cases hok : srcOk src xs st2 = true
      · simp only [hok, if_true] at h2
        exact .inl ⟨Y.stop G2 H2 as2 st2 R2 hs0 hp0 X2.lk hok, h2 σ2 G2 H2 as2 R2 N2 Ext.refl⟩
      · simp only [hok] at h2; exact h2.elim
/-! ## while -/
def swhile (c : XM Bool) (body : SM) : Nat → SM
  | 0 => fun _ _ => .stuck
  | n + 1 => sbindB c fun b => if b = true then (fun e st => match body e st with
    | .nx e2 st2 => swhile c body n e2 st2
    | .ct e2 st2 => swhile c body n e2 st2
    | .bk e2 st2 => .nx e2 st2
    | r => r) else snext
theorem js_while (n : Nat) {c : Expr} {body : List Stmt} {mc : XM Bool} {mb : SM} (hc : JT F c mc) (hb : JSs F body mb) : JS F (.While c body [] pos) (swhile mc mb n) := by
  obtain ⟨tc, pc, sc⟩ := hc
  obtain ⟨tb, pb, sb⟩ := hb
  refine ⟨fun W => tWhile (tc W) (tb W), fun W X m => ps_while (F.pass m) (pc W X m) (pb W X m), ?_⟩
  intro W G H as st σ e E R N h
  refine ⟨fun m σ' H' => ∃ G' as' st' e', Ri g.K g.mg G' H' as' st' ∧ Rn g.K g.mg G' as' σ' e' ∧ Ext G H as G' H' as' ∧ PS_ g.K g.mg W G' H' as' e.length (swhile mc mb m e' st') E, ⟨n, G, as, st, e, R, N, Ext.refl, h⟩, ?_⟩
  rintro m σ2 H2 ⟨G2, as2, st2, e2, R2, N2, X2, h2⟩
  cases m with
  | zero => exact h2.elim
  | succ m =>
    unfold swhile at h2
    refine sc.oneS (e := e2) (E := E) R2 N2 h2 fun b st3 G3 H3 as3 R3 X3 N3 h3 => ?_
    cases b with
    | false => exact iteF (h3 σ2 G3 H3 as3 R3 N3 Ext.refl)
    | true =>
      refine iteT ⟨fun σ' H' => ∃ G' as' st' e', Ri g.K g.mg G' H' as' st' ∧ Rn g.K g.mg G' as' σ' e' ∧ Ext G H as G' H' as' ∧ PS_ g.K g.mg W G' H' as' e.length (swhile mc mb m e' st') E, fun σ' H' q => ⟨m, Nat.lt_succ_self _, q⟩, ?_⟩
      refine sb W G3 H3 as3 st3 σ2 e2 _ R3 N3 ?_
      simp only [if_true] at h3
      cases q4 : mb e2 st3 with
      | nx e5 st5 =>
        simp only [q4] at h3
        exact fun σ5 G5 H5 as5 R5 N5 X5 => ⟨G5, as5, st5, e5, R5, N5, (X2.trans X3).trans X5, PS_.ext (n := e.length) h3 X5⟩
      | ct e5 st5 =>
        simp only [q4] at h3
        exact fun σ5 G5 H5 as5 R5 N5 X5 => ⟨G5, as5, st5, e5, R5, N5, (X2.trans X3).trans X5, PS_.ext (n := e.length) h3 X5⟩
      | bk e5 st5 => simp only [q4] at h3; exact h3
      | rt d st5 => simp only [q4] at h3; exact h3
      | exc c p e5 st5 => simp only [q4] at h3; exact h3
      | stuck => simp only [q4] at h3; exact h3
end
end LS
end
section
set_option maxRecDepth 100000
set_option maxHeartbeats 2000000
namespace LS
open PySem PySem.Spec L2

/-! ## an object by the side: neither still nor moving -/
section
variable {K : PySem.W.Frag} {mg : Str → Option Value} {G H G1 H1 : Hp} {as as1 : List Addr} {st : Store} {p : Addr}
theorem Ri.none_of (R : Ri K mg G H as st) (n : H p = none) : G p = none ∧ p ∉ as := by
  constructor
  · cases q : G p with
    | none => rfl
    | some u => rw [R.sub _ _ q] at n; cases n
  · intro ha
    obtain ⟨i, hi, e⟩ := List.getElem_of_mem ha
    have hi' : i < st.length := by rw [← R.len]; exact hi
    obtain ⟨ho, q, _⟩ := R.obj i p st[i] (by rw [List.getElem?_eq_getElem hi, e]) (List.getElem?_eq_getElem hi')
    rw [n] at q; cases q
theorem Ri.touch {o : HO} (R : Ri K mg G H as st) (gn : G p = none) (na : p ∉ as) : Ri K mg G (upd H p o) as st :=
  ⟨fun a u h => by rw [upd_ne (ne_of_none h gn)]; exact R.sub _ _ h, R.len, R.nd, R.out, fun i a u ha hu => by
    obtain ⟨ho, q, r⟩ := R.obj i a u ha hu
    refine ⟨ho, ?_, r⟩
    have : a ≠ p := fun z => na (z ▸ List.mem_of_getElem? ha)
    rw [upd_ne this]; exact q⟩
theorem Ext.touch {o : HO} (X : Ext G1 H1 as1 G H as) (n : H1 p = none) : Ext G1 H1 as1 G (upd H p o) as :=
  ⟨X.sub, X.pre, fun a u h m => by rw [upd_ne (ne_of_none h n)]; exact X.keep a u h m, X.frG, X.frA, fun a h => by
    by_cases z : a = p
    · subst z; exact absurd n h
    · rw [upd_ne z]; exact X.dom a h, fun a u kvs h => by have h2 := X.lk a u kvs h; rw [upd_ne (ne_of_none h n)]; exact h2⟩
/-- it stands beside still behind what follows -/
theorem Ext.beside (X : Ext G H as G1 H1 as1) {o : HO} (h : H p = some o) (gn : G p = none) (na : p ∉ as) : G1 p = none ∧ p ∉ as1 ∧ H1 p = some o := by
  refine ⟨X.frG p gn (by rw [h]; exact fun z => nomatch z), fun m => ?_, X.keep p o h na⟩
  have := X.frA p m na
  rw [h] at this; cases this
theorem Ri.freeze {o : HO} (R : Ri K mg G H as st) (h : H p = some o) (gn : G p = none) (na : p ∉ as) : Ri K mg (upd G p o) H as st := by
  have hs : ∀ a u, G a = some u → upd G p o a = some u := fun a u e => by rw [upd_ne (ne_of_none e gn)]; exact e
  refine ⟨fun a u e => ?_, R.len, R.nd, fun a ha => ?_, fun i a u ha hu => ?_⟩
  · by_cases z : a = p
    · subst z; rw [upd_same] at e; cases e; exact h
    · rw [upd_ne z] at e; exact R.sub _ _ e
  · have : a ≠ p := fun z => na (z ▸ ha)
    rw [upd_ne this]; exact R.out a ha
  · obtain ⟨ho, q, r⟩ := R.obj i a u ha hu
    refine ⟨ho, q, ?_⟩
    cases r with
    | lst r => exact .lst (r.mono hs (List.prefix_refl _))
    | dct e r => exact .dct e (r.mono hs (List.prefix_refl _))
    | lck e r => exact .lck e (r.mono hs (List.prefix_refl _))
theorem Ext.freeze {o : HO} (X : Ext G1 H1 as1 G H as) (n : H1 p = none) (gn : G p = none) : Ext G1 H1 as1 (upd G p o) H as :=
  ⟨fun a u h => by rw [upd_ne (ne_of_none (X.sub a u h) gn)]; exact X.sub a u h, X.pre, X.keep, fun a g h => by
    have : a ≠ p := fun z => by subst z; exact h n
    rw [upd_ne this]; exact X.frG a g h, X.frA, X.dom, X.lk⟩
theorem Ri.adopt {o : HO} {m : MO} (R : Ri K mg G H as st) (h : H p = some o) (gn : G p = none) (na : p ∉ as) (r : Ro K mg G as o m) : Ri K mg G H (as ++ [p]) (st ++ [m]) := by
  have hp : as <+: as ++ [p] := List.prefix_append _ _
  have mono : ∀ {ho : HO} {mo : MO}, Ro K mg G as ho mo → Ro K mg G (as ++ [p]) ho mo := fun r => by
    cases r with
    | lst r => exact .lst (r.mono (fun _ _ h => h) hp)
    | dct e r => exact .dct e (r.mono (fun _ _ h => h) hp)
    | lck e r => exact .lck e (r.mono (fun _ _ h => h) hp)
  refine ⟨R.sub, by simp [R.len], ?_, fun a ha => ?_, fun i a u ha hu => ?_⟩
  · rw [List.nodup_append]
    refine ⟨R.nd, by simp, fun a ha b hb z => ?_⟩
    have : b = p := by simpa using hb
    subst this; subst z; exact na ha
  · rcases List.mem_append.mp ha with ha | ha
    · exact R.out a ha
    · have : a = p := by simpa using ha
      subst this; exact gn
  · by_cases hi : i < as.length
    · rw [List.getElem?_append_left hi] at ha
      rw [List.getElem?_append_left (by rw [← R.len]; exact hi)] at hu
      obtain ⟨ho, q, r⟩ := R.obj i a u ha hu
      exact ⟨ho, q, mono r⟩
    · rw [List.getElem?_append_right (by omega)] at ha
      rw [List.getElem?_append_right (by rw [← R.len]; omega)] at hu
      have h0 : i - as.length = 0 := by
        have := (List.getElem?_eq_some_iff.mp ha).1
        simp at this; omega
      have h1 : i - st.length = 0 := by rw [← R.len]; exact h0
      rw [h0] at ha; rw [h1] at hu
      simp at ha hu
      subst ha hu
      exact ⟨o, h, mono r⟩
theorem Ext.adopt (X : Ext G1 H1 as1 G H as) (n : H1 p = none) : Ext G1 H1 as1 G H (as ++ [p]) :=
  ⟨X.sub, X.pre.trans (List.prefix_append _ _), X.keep, X.frG, fun a m n' => by
    rcases List.mem_append.mp m with m | m
    · exact X.frA a m n'
    · have : a = p := by simpa using m
      subst this; exact n, X.dom, X.lk⟩
end

/-! ## the block of a comprehension -/
theorem wipe_at {σ : L2.St} {i : Nat} : ∀ (vs : List Nat), (wipe σ vs)[i]? = if i ∈ vs ∧ i < σ.length then some none else σ[i]?
  | [] => by simp [wipe]
  | v :: vs => by
    unfold wipe
    have ih := wipe_at (σ := σ) (i := i) vs
    have hl := wipe_length σ vs
    by_cases hv : v = i
    · subst hv
      by_cases hl' : v < σ.length
      · rw [List.getElem?_set_self (by rw [hl]; exact hl'), if_pos ⟨List.mem_cons_self, hl'⟩]
      · rw [if_neg (fun z => hl' z.2), List.getElem?_eq_none (by simp [hl]; omega), List.getElem?_eq_none (by omega)]
    · rw [List.getElem?_set_ne hv, ih]
      by_cases hm : i ∈ vs ∧ i < σ.length
      · rw [if_pos hm, if_pos ⟨List.mem_cons_of_mem _ hm.1, hm.2⟩]
      · rw [if_neg hm, if_neg (fun z => hm ⟨(List.mem_cons.mp z.1).resolve_left (fun q => hv q.symm), z.2⟩)]
theorem wipe_set {σ : L2.St} {i : Nat} {x : Option V} {vs : List Nat} (h : i ∈ vs) : wipe (σ.set i x) vs = wipe σ vs := by
  apply List.ext_getElem?
  intro j
  rw [wipe_at, wipe_at, List.length_set]
  by_cases hj : j ∈ vs ∧ j < σ.length
  · rw [if_pos hj, if_pos hj]
  · rw [if_neg hj, if_neg hj]
    by_cases z : i = j
    · subst z
      have : ¬ i < σ.length := fun q => hj ⟨h, q⟩
      rw [List.getElem?_eq_none (by simp; omega), List.getElem?_eq_none (by omega)]
    · rw [List.getElem?_set_ne z]
theorem wipe_wipe {σ : L2.St} {vs : List Nat} : wipe (wipe σ vs) vs = wipe σ vs := by
  apply List.ext_getElem?
  intro j
  rw [wipe_at, wipe_length, wipe_at]
  by_cases hj : j ∈ vs ∧ j < σ.length
  · rw [if_pos hj, if_pos hj]
  · rw [if_neg hj, if_neg hj]
def wipeE (e : Nv) : List Nat → Nv
  | [] => e
  | v :: vs => (wipeE e vs).set v none
section
variable {K : PySem.W.Frag} {mg : Str → Option Value} {G : Hp} {as : List Addr} {σ : L2.St} {e : Nv}
theorem Rn.unset (N : Rn K mg G as σ e) (i : Nat) : Rn K mg G as (σ.set i none) (e.set i none) := by
  refine ⟨by simp [N.len], fun j y h => ?_⟩
  by_cases hj : j = i
  · subst hj
    have hl : j < e.length := by
      have := (List.getElem?_eq_some_iff.mp h).1
      simpa using this
    rw [List.getElem?_set_self hl] at h
    cases h
  · rw [List.getElem?_set_ne (Ne.symm hj)] at h
    obtain ⟨u, e1, r1⟩ := N.at_ j y h
    exact ⟨u, by rw [List.getElem?_set_ne (Ne.symm hj)]; exact e1, r1⟩
theorem Rn.wipe (N : Rn K mg G as σ e) : ∀ vs : List Nat, Rn K mg G as (wipe σ vs) (wipeE e vs)
  | [] => N
  | v :: vs => (Rn.wipe N vs).unset v
end
section
variable {g : Gb} {F : Fam g} {pos : Pos}
abbrev W0 : WX := fun _ _ _ _ => False
def blkOwn (scope : Scope) (x : Str) : Bool := decide (scope.names.lookup x = some .cell) || decide (scope.names.lookup x = some .local)
def famC (F : Fam g) (scope : Scope) : Fam g where
  k := F.k
  N := F.N
  sc := relS scope F.sc
  nd := F.nd
  own := blkOwn scope
  mem := fun W X' => W = W0 ∧ ∃ (W1 : WX) (X : Cx) (s : Shared) (H : Hp) (C : Addr) (cl : List (Str × Addr)) (fp : List Addr), F.mem W1 X ∧ X' = X.blk s H scope (compEnvC scope cl C X.env) fp
  prog := fun {W X} ⟨_, W1, X1, s, H, C, cl, fp, h, e⟩ => by subst e; exact (F.prog (X := X1) h :)
  w := fun {W X} ⟨_, W1, X1, s, H, C, cl, fp, h, e⟩ => by subst e; exact (F.w (X := X1) h :)
  hK := fun {W X} ⟨_, W1, X1, s, H, C, cl, fp, h, e⟩ => by subst e; exact (F.hK (X := X1) h :)
  hmg := fun {W X} ⟨_, W1, X1, s, H, C, cl, fp, h, e⟩ => by subst e; exact (F.hmg (X := X1) h :)
  base := fun {W X} ⟨_, W1, X1, s, H, C, cl, fp, h, e⟩ => by subst e; exact (F.base (X := X1) h :)
  hN := fun {W X} ⟨_, W1, X1, s, H, C, cl, fp, h, e⟩ => by subst e; exact (F.hN (X := X1) h :)
  hsc := fun {W X} ⟨_, W1, X1, s, H, C, cl, fp, h, e⟩ => by
    subst e
    show relS scope X1.env.scope = _
    rw [F.hsc h]
  calm := fun {W X} ⟨_, W1, X1, s, H, C, cl, fp, h, e⟩ => by subst e; exact (F.calm (X := X1) h :)
  room := fun {W X} ⟨_, W1, X1, s, H, C, cl, fp, h, e⟩ => by subst e; exact (F.room (X := X1) h :)
  takes := fun {W X} ⟨eW, _⟩ => by subst eW; exact takes0
  pass := fun {W X} ⟨_, W1, X1, s, H, C, cl, fp, h, e⟩ => by subst e; exact PassesOwn.never
  fn := fun {W X} ⟨_, W1, X1, s, H, C, cl, fp, h, e⟩ x hx hl => by
    subst e
    unfold blkOwn at hx
    simp only [Bool.or_eq_true, decide_eq_true_eq] at hx
    rcases hx with hx | hx
    · exact .inl (by show (scope.names.lookup x == some .cell) = true; rw [hx]; rfl)
    · exact .inr (lookup_relS_keep (by decide) hx)
/-- a target that stores the block's own names alone -/
def JC (F : Fam g) (vs : List Nat) (target : Expr) (m : MG) : Prop := ∃ t : TG, (∀ W X, F.mem W X → PG X target t) ∧
  ∀ (G H : Hp) (as : List Addr) (st : Store) (σ : L2.St) (e : Nv) (v : V) (x : D) (e' : Nv) (st' : Store) (Q : L2.St → Hp → Prop), Ri g.K g.mg G H as st → Rn g.K g.mg G as σ e → Rp g.K g.mg G as v x → m x e st = some (e', st') →
    (∀ σ', wipe σ' vs = wipe σ vs → Rn g.K g.mg G as σ' e' → st' = st → Q σ' H) → t v σ H Q
def JCs (F : Fam g) (vs : List Nat) (ts : List Expr) (m : MGs) : Prop := ∃ t : TGs, (∀ W X, F.mem W X → PGs X ts t) ∧
  ∀ (G H : Hp) (as : List Addr) (st : Store) (σ : L2.St) (e : Nv) (vs' : List V) (xs : List D) (e' : Nv) (st' : Store) (Q : L2.St → Hp → Prop), Ri g.K g.mg G H as st → Rn g.K g.mg G as σ e → RpA g.K g.mg G as vs' xs → m xs e st = some (e', st') →
    (∀ σ', wipe σ' vs = wipe σ vs → Rn g.K g.mg G as σ' e' → st' = st → Q σ' H) → t vs' σ H Q
theorem jc_name (i : Nat) {x : Str} {vs : List Nat} (hi : F.N[i]? = some x) (hx : Loc F.sc x) (hv : i ∈ vs) (hw : F.own x = true := by rfl) : JC F vs (.Name x pos) (gname i) := by
  refine ⟨gName i, fun W X m => pg_name (by rw [F.hN m]; exact F.nd) (by rw [F.hN m]; exact hi) (by rw [F.hsc m]; exact hx) (F.fn m x hw hx), ?_⟩
  intro G H as st σ e v x e' st' Q R N r h k
  cases h
  exact k _ (wipe_set hv) (N.set i r) rfl
theorem jcs_nil {vs : List Nat} : JCs F vs [] gnil := by
  refine ⟨gNil, fun _ _ _ => pgs_nil, ?_⟩
  intro G H as st σ e vs xs e' st' Q R N r h k
  cases r with
  | nil => cases h; exact ⟨rfl, k σ rfl N rfl⟩
  | cons _ _ => cases h
theorem jcs_cons {ex : Expr} {es : List Expr} {m : MG} {ms : MGs} {vs : List Nat} (h : JC F vs ex m) (hs : JCs F vs es ms) (ha : ∀ env, (assignEach (ex :: es) env).map (·.2) = assign ex env :: (assignEach es env).map (·.2) := by intro _; rfl) : JCs F vs (ex :: es) (gcons m ms) := by
  obtain ⟨t, p, s⟩ := h
  obtain ⟨ts, ps, ss⟩ := hs
  refine ⟨gCons t ts, fun W X m => pgs_cons (p W X m) (ps W X m) (ha _), ?_⟩
  intro G H as st σ e vs xs e' st' Q R N r h k
  cases r with
  | nil => cases h
  | cons r rr =>
    rename_i v vr x xr
    unfold gcons at h
    cases q : m x e st with
    | none => simp [q] at h
    | some z =>
      obtain ⟨e1, st1⟩ := z
      simp only [q] at h
      refine ⟨v, vr, rfl, s G H as st σ e v x e1 st1 _ R N r q fun σ1 w1 N1 e1' => ?_⟩
      subst e1'
      exact ss G H as st1 σ1 e1 vr xr e' st' Q R N1 rr h fun σ2 w2 N2 e2 => k σ2 (w2.trans w1) N2 e2
theorem jc_tup {es : List Expr} {k n : Nat} {ms : MGs} {vs : List Nat} (hs : JCs F vs es ms) (hn : ∀ env, (assignEach es env).length = n := by intro _; rfl) (hst : ∀ env, (assignEach es env).findIdx? (·.1) = none := by intro _; rfl) : JC F vs (.Tuple es k pos) (gtup n ms) := by
  obtain ⟨ts, ps, ss⟩ := hs
  refine ⟨gTup g.K n ts, fun W X m => by have := pg_tup (k := k) (pos := pos) (F.calm m) (ps W X m) (hn _) (hst _); rw [F.hK m] at this; exact this, ?_⟩
  intro G H as st σ e v x e' st' Q R N r h k
  cases r with
  | tup s q =>
    rename_i a vs xs
    unfold gtup at h
    by_cases hl : xs.length = n
    · simp only [hl, if_true] at h
      exact ⟨a, vs, rfl, sqT_H R s, q.len.trans hl, ss G H as st σ e vs xs e' st' Q R N q h k⟩
    · simp [hl] at h
  | _ => cases h
/-- the tests of a comprehension -/
def JTs (F : Fam g) (ifs : List Expr) (m : XM Bool) : Prop := ∃ t : WX → TT, (∀ W X, F.mem W X → PTs X ifs (t W)) ∧ ST g t m
theorem jts_nil : JTs F [] (xpure true) := ⟨fun _ => tYes, fun _ _ _ => pts_nil, fun W G H as st σ e Q R N h => h G H as R Ext.refl⟩
theorem jts_one {c : Expr} {m : XM Bool} (h : JT F c m) : JTs F [c] m := let ⟨t, p, s⟩ := h; ⟨t, fun W X m => pts_one (p W X m), s⟩
def cloop (src : Option Nat) (items : List D) (gt : MG) (mt : XM Bool) (me : XM D) (e : Nv) : List D → List D → Store → RX (List D)
  | [], acc, st => if srcOk src items st = true then .ok acc st else .stuck
  | x :: r, acc, st => if srcOk src items st = true then (match gt x e st with
    | none => .stuck
    | some (e1, st1) => match mt e1 st1 with
      | .ok true st2 => (match me e1 st2 with
        | .ok d st3 => if acc.length < LIM then cloop src items gt mt me e r (acc ++ [d]) st3 else .stuck
        | _ => .stuck)
      | .ok false st2 => cloop src items gt mt me e r acc st2
      | _ => .stuck) else .stuck
def xcompL (mi : XM (List D × Option Nat)) (vs : List Nat) (gt : MG) (mt : XM Bool) (me : XM D) : XM (List D) := fun e st => match mi e st with
  | .ok (xs, src) st1 => cloop src xs gt mt me (wipeE e vs) xs [] st1
  | .exc c p st' => .exc c p st'
  | .stuck => .stuck
/-- the new list stands still | will move -/
def xcomp (mi : XM (List D × Option Nat)) (vs : List Nat) (gt : MG) (mt : XM Bool) (me : XM D) : XM D := xbind (xcompL mi vs gt mt me) fun ds => xpure (.lst ds)
def xcompM (mi : XM (List D × Option Nat)) (vs : List Nat) (gt : MG) (mt : XM Bool) (me : XM D) : XM D := xbind (xcompL mi vs gt mt me) fun ds => fun _ st => .ok (.ref st.length) (st ++ [.lst ds])
theorem comp_read {wi : WX → TI} {gt0 : TG} {tt : WX → TT} {te : WX → TE} {mi : XM (List D × Option Nat)} {vs : List Nat} {gt : MG} {mt : XM Bool} {me : XM D}
    (si : ∀ (W : WX) (G H : Hp) (as : List Addr) (st : Store) (σ : L2.St) (e : Nv) (R : It → Hp → Prop), Ri g.K g.mg G H as st → Rn g.K g.mg G as σ e → PXI g W G H as σ (mi e st) R → wi W σ H R)
    (sg : ∀ (G H : Hp) (as : List Addr) (st : Store) (σ : L2.St) (e : Nv) (v : V) (x : D) (e' : Nv) (st' : Store) (Q : L2.St → Hp → Prop), Ri g.K g.mg G H as st → Rn g.K g.mg G as σ e → Rp g.K g.mg G as v x → gt x e st = some (e', st') →
      (∀ σ', wipe σ' vs = wipe σ vs → Rn g.K g.mg G as σ' e' → st' = st → Q σ' H) → gt0 v σ H Q)
    (stt : ST g tt mt) (se : SE g te me) (W : WX) (G H : Hp) (as : List Addr) (st : Store) (σ : L2.St) (e : Nv) (Q : VK) (R : Ri g.K g.mg G H as st) (N : Rn g.K g.mg G as σ e) (f : List D → Store → RX D)
    (h : PX g.K g.mg W G H as σ (match xcompL mi vs gt mt me e st with | .ok ds st' => f ds st' | .exc c p st' => .exc c p st' | .stuck => .stuck) Q)
    (fin : ∀ (ds : List D) (st' : Store) (G1 H1 : Hp) (as1 : List Addr) (G2 H2 : Hp) (as2 : List Addr) (us : List V) (p : Addr), Ri g.K g.mg G1 H1 as1 st' → RpA g.K g.mg G1 as1 us ds → H1 p = some (.lst us) → G1 p = none → p ∉ as1 → Ext G2 H2 as2 G1 H1 as1 → H2 p = none → PX g.K g.mg W G2 H2 as2 σ (f ds st') Q → Q (.ref p) H1) :
    tLc (wi W) gt0 (tt W0) (te W0) vs σ H Q := by
  refine si W G H as st σ e _ R N ?_
  unfold xcompL at h
  cases q : mi e st with
  | stuck => rw [q] at h; exact h
  | exc c p st1 => rw [q] at h; exact h
  | ok z st1 =>
    obtain ⟨xs, src⟩ := z
    simp only [q] at h
    have ok : srcOk src xs st1 = true := by
      cases hx : srcOk src xs st1 with
      | true => rfl
      | false =>
        exfalso
        cases xs with
        | nil => simp [cloop, hx] at h; exact h
        | cons x r => simp [cloop, hx] at h; exact h
    refine ⟨ok, fun J G1 H1 as1 R1 X1 Y => ?_⟩
    intro D0 hD
    have hd0 := R1.none_of hD
    have h1 := PX.ext (K := g.K) (mg := g.mg) h X1
    refine ⟨fun i m H' => i ≤ xs.length ∧ m = xs.length - i ∧ ∃ G' as' st' us acc, Ri g.K g.mg G' H' as' st' ∧ Ext G1 H1 as1 G' H' as' ∧ H' D0 = some (.lst us) ∧ G' D0 = none ∧ D0 ∉ as' ∧ RpA g.K g.mg G' as' us acc ∧
        PX g.K g.mg W G1 H1 as1 σ (match cloop src xs gt mt me (wipeE e vs) (xs.drop i) acc st' with | .ok ds st' => f ds st' | .exc c p st' => .exc c p st' | .stuck => .stuck) Q,
      ⟨xs.length, Nat.zero_le _, by simp, G1, as1, st1, [], [], R1.touch hd0.1 hd0.2, Ext.refl.touch hD, upd_same, hd0.1, hd0.2, .nil, h1⟩, ?_⟩
    rintro i m H2 ⟨hle, rfl, G2, as2, st2, us, acc, R2, X2, hL, hg, ha, ru, h2⟩
    by_cases hi : i < xs.length
    · have hd : xs.drop i = xs[i] :: xs.drop (i + 1) := List.drop_eq_getElem_cons hi
      rw [hd] at h2
      unfold cloop at h2
      by_cases hok : srcOk src xs st2 = true
      · simp only [hok, if_true] at h2
        refine .inr ⟨Y.go i G2 H2 as2 st2 hi R2 X2.sub X2.pre X2.lk hok, ?_⟩
        refine ⟨fun H' => i + 1 ≤ xs.length ∧ ∃ G' as' st' us acc, Ri g.K g.mg G' H' as' st' ∧ Ext G1 H1 as1 G' H' as' ∧ H' D0 = some (.lst us) ∧ G' D0 = none ∧ D0 ∉ as' ∧ RpA g.K g.mg G' as' us acc ∧
            PX g.K g.mg W G1 H1 as1 σ (match cloop src xs gt mt me (wipeE e vs) (xs.drop (i + 1)) acc st' with | .ok ds st' => f ds st' | .exc c p st' => .exc c p st' | .stuck => .stuck) Q,
          fun H' ⟨a, b⟩ => ⟨xs.length - (i + 1), by omega, a, rfl, b⟩, fun v H3 y => ?_⟩
        obtain ⟨G3, R3, X3, rv⟩ := Y.yld i G2 H2 as2 st2 v H3 xs[i] R2 X2.sub X2.pre X2.lk hok (List.getElem?_eq_getElem hi) y
        have b3 := X3.beside hL hg ha
        cases q3 : gt xs[i] (wipeE e vs) st2 with
        | none => simp only [q3] at h2; exact h2.elim
        | some z =>
          obtain ⟨e3, st3⟩ := z
          simp only [q3] at h2
          have Nw : Rn g.K g.mg G3 as2 (wipe σ vs) (wipeE e vs) := (((N.ext X1).ext X2).ext X3).wipe vs
          refine sg G3 H3 as2 st2 (wipe σ vs) (wipeE e vs) v xs[i] e3 st3 _ R3 Nw rv q3 fun σ4 w4 N4 es => ?_
          subst es
          refine ⟨w4.trans wipe_wipe, ?_⟩
          refine stt W0 G3 H3 as2 st3 σ4 e3 _ R3 N4 ?_
          cases q4 : mt e3 st3 with
          | stuck => simp only [q4] at h2; exact h2
          | exc c p st4 => simp only [q4] at h2; exact h2.elim
          | ok b st4 =>
            intro G4 H4 as4 R4 X4
            have b4 := X4.beside b3.2.2 b3.1 b3.2.1
            have X14 := (X2.trans X3).trans X4
            cases b with
            | false =>
              simp only [q4] at h2
              exact iteF ⟨hi, G4, as4, st4, us, acc, R4, X14, b4.2.2, b4.1, b4.2.1, (ru.ext X3).ext X4, h2⟩
            | true =>
              refine iteT ?_
              refine se W0 G4 H4 as4 st4 σ4 e3 _ R4 (N4.ext X4) ?_
              cases q5 : me e3 st4 with
              | stuck => simp only [q4, q5] at h2; exact h2
              | exc c p st5 => simp only [q4, q5] at h2; exact h2.elim
              | ok d st5 =>
                simp only [q4, q5] at h2
                intro w G5 H5 as5 R5 X5 rw'
                have b5 := X5.beside b4.2.2 b4.1 b4.2.1
                have ru5 := ((ru.ext X3).ext X4).ext X5
                by_cases hl : acc.length < LIM
                · rw [if_pos hl] at h2
                  refine ⟨us, b5.2.2, by rw [ru5.len]; exact lim_lt hl, hi, G5, as5, st5, us ++ [w], acc ++ [d], R5.touch b5.1 b5.2.1, (X14.trans X5).touch hD, upd_same, b5.1, b5.2.1, ru5.append (.cons rw' .nil), h2⟩
                · rw [if_neg hl] at h2; exact h2.elim
      · simp only [hok] at h2; exact h2.elim
    · have ei : i = xs.length := by omega
      subst ei
      rw [List.drop_length] at h2
      unfold cloop at h2
      by_cases hok : srcOk src xs st2 = true
      · simp only [hok, if_true] at h2
        exact .inl ⟨Y.stop G2 H2 as2 st2 R2 X2.sub X2.pre X2.lk hok, fin acc st2 G2 H2 as2 G1 H1 as1 us D0 R2 ru hL hg ha X2 hD h2⟩
      · simp only [hok] at h2; exact h2.elim
theorem je_lc {elt tg iter : Expr} {ifs : List Expr} {scope : Scope} (own : List (Str × Nat)) {mi : XM (List D × Option Nat)} {gt : MG} {mt : XM Bool} {me : XM D} (hi : JI F tg iter mi) (ok : blkC F.N F.sc scope own = true) (hg : JC (famC F scope) (own.map (·.2)) tg gt)
    (ht : JTs (famC F scope) ifs mt) (he : JE (famC F scope) elt me) (hs : ∀ env x, foldedSetIterable iter env x = pure x := by intro _ _; rfl) : JE F (.ListComp elt [⟨tg, iter, ifs, 0⟩] scope pos) (xcomp mi (own.map (·.2)) gt mt me) := by
  obtain ⟨wi, pi, si⟩ := hi
  obtain ⟨tg', pg', sg'⟩ := hg
  obtain ⟨tt, pt, stt⟩ := ht
  obtain ⟨te, pe, se⟩ := he
  refine ⟨fun W => tLc (wi W) tg' (tt W0) (te W0) (own.map (·.2)), fun W X m => ?_, ?_⟩
  · have hm : ∀ (s : Shared) (H : Hp) (C : Addr) (cl : List (Str × Addr)) (fp : List Addr), (famC F scope).mem W0 (X.blk s H scope (compEnvC scope cl C X.env) fp) := fun s H C cl fp => ⟨rfl, W, X, s, H, C, cl, fp, m, rfl⟩
    exact pe_lc (F.calm m) (by rw [F.hN m]; exact F.nd) (pi W X m) (by rw [F.hN m, F.hsc m]; exact blkOk_by ok) (fun s H C cl fp => pg' _ _ (hm s H C cl fp)) (fun s H C cl fp => pt _ _ (hm s H C cl fp)) (fun s H C cl fp => pe _ _ (hm s H C cl fp)) (hs _)
  · intro W G H as st σ e Q R N h
    refine comp_read si sg' stt se W G H as st σ e Q R N (fun ds st' => .ok (.lst ds) st') ?_ ?_
    · refine Eq.mp (congrArg (fun r => PX g.K g.mg W G H as σ r Q) ?_) h
      unfold xcomp xbind xpure
      cases xcompL mi (own.map (·.2)) gt mt me e st <;> rfl
    · intro ds st' G1 H1 as1 G2 H2 as2 us p R1 ru hp gn na X1 hn hq
      refine hq _ _ H1 as1 (R1.freeze hp gn na) (X1.freeze hn gn) (.lst upd_same (ru.mono (fun a u e => ?_) (List.prefix_refl _)))
      rw [upd_ne (ne_of_none e gn)]; exact e
theorem je_lcM {elt tg iter : Expr} {ifs : List Expr} {scope : Scope} (own : List (Str × Nat)) {mi : XM (List D × Option Nat)} {gt : MG} {mt : XM Bool} {me : XM D} (hi : JI F tg iter mi) (ok : blkC F.N F.sc scope own = true) (hg : JC (famC F scope) (own.map (·.2)) tg gt)
    (ht : JTs (famC F scope) ifs mt) (he : JE (famC F scope) elt me) (hs : ∀ env x, foldedSetIterable iter env x = pure x := by intro _ _; rfl) : JE F (.ListComp elt [⟨tg, iter, ifs, 0⟩] scope pos) (xcompM mi (own.map (·.2)) gt mt me) := by
  obtain ⟨wi, pi, si⟩ := hi
  obtain ⟨tg', pg', sg'⟩ := hg
  obtain ⟨tt, pt, stt⟩ := ht
  obtain ⟨te, pe, se⟩ := he
  refine ⟨fun W => tLc (wi W) tg' (tt W0) (te W0) (own.map (·.2)), fun W X m => ?_, ?_⟩
  · have hm : ∀ (s : Shared) (H : Hp) (C : Addr) (cl : List (Str × Addr)) (fp : List Addr), (famC F scope).mem W0 (X.blk s H scope (compEnvC scope cl C X.env) fp) := fun s H C cl fp => ⟨rfl, W, X, s, H, C, cl, fp, m, rfl⟩
    exact pe_lc (F.calm m) (by rw [F.hN m]; exact F.nd) (pi W X m) (by rw [F.hN m, F.hsc m]; exact blkOk_by ok) (fun s H C cl fp => pg' _ _ (hm s H C cl fp)) (fun s H C cl fp => pt _ _ (hm s H C cl fp)) (fun s H C cl fp => pe _ _ (hm s H C cl fp)) (hs _)
  · intro W G H as st σ e Q R N h
    refine comp_read si sg' stt se W G H as st σ e Q R N (fun ds st' => .ok (.ref st'.length) (st' ++ [.lst ds])) ?_ ?_
    · refine Eq.mp (congrArg (fun r => PX g.K g.mg W G H as σ r Q) ?_) h
      unfold xcompM xbind
      cases xcompL mi (own.map (·.2)) gt mt me e st <;> rfl
    · intro ds st' G1 H1 as1 G2 H2 as2 us p R1 ru hp gn na X1 hn hq
      refine hq _ _ H1 _ (R1.adopt hp gn na (.lst ru)) (X1.adopt hn) (.ref ?_)
      rw [← R1.len, List.getElem?_append_right (Nat.le_refl _), Nat.sub_self]; rfl
/-- name = [..] on one line, the name a local -/
theorem js_setLc (i : Nat) {y : Str} {py spos : Pos} {elt tg iter : Expr} {ifs : List Expr} {scope : Scope} (own : List (Str × Nat)) {mi : XM (List D × Option Nat)} {gt : MG} {mt : XM Bool} {me : XM D} (hy : F.N[i]? = some y) (hyl : F.sc.names.lookup y = some .local) (hk : F.sc.kind = .function) (hl : (py.line == pos.line) = true)
    (hna : (scope.names.any fun (n, k) => n == y && (k == .local || k == .cell)) = false) (hi : JI F tg iter mi) (ok : blkC F.N F.sc scope own = true) (hg : JC (famC F scope) (own.map (·.2)) tg gt)
    (ht : JTs (famC F scope) ifs mt) (he : JE (famC F scope) elt me) (hs : ∀ env x, foldedSetIterable iter env x = pure x := by intro _ _; rfl) :
    JS F (.Assign [.Name y py] (.ListComp elt [⟨tg, iter, ifs, 0⟩] scope pos) spos) (sset i (xcomp mi (own.map (·.2)) gt mt me)) := by
  obtain ⟨wi, pi, si⟩ := hi
  obtain ⟨tg', pg', sg'⟩ := hg
  obtain ⟨tt, pt, stt⟩ := ht
  obtain ⟨te, pe, se⟩ := he
  refine ⟨fun W => tAsg (tLc (wi W) tg' (tt W0) (te W0) (own.map (·.2))) (gName i), fun W X m => ?_, ?_⟩
  · have hm : ∀ (s : Shared) (H : Hp) (C : Addr) (cl : List (Str × Addr)) (fp : List Addr), (famC F scope).mem W0 (X.blk s H scope (compEnvC scope cl C X.env) fp) := fun s H C cl fp => ⟨rfl, W, X, s, H, C, cl, fp, m, rfl⟩
    exact ps_setLc (F.calm m) (by rw [F.hN m]; exact F.nd) (by rw [F.hN m]; exact hy) (by rw [F.hsc m]; exact hyl) (sw_true (by rw [F.hsc m]; exact hk) (by rw [F.hsc m]; exact hyl) hl hna) (pi W X m) (by rw [F.hN m, F.hsc m]; exact blkOk_by ok)
      (fun s H C cl fp => pg' _ _ (hm s H C cl fp)) (fun s H C cl fp => pt _ _ (hm s H C cl fp)) (fun s H C cl fp => pe _ _ (hm s H C cl fp)) (hs _)
  · intro W G H as st σ e E R N h
    have h' : PX g.K g.mg W G H as σ (xcomp mi (own.map (·.2)) gt mt me e st) (fun x H1 => gName i x σ H1 E.nx) := by
      unfold sset sbind at h
      cases q : xcomp mi (own.map (·.2)) gt mt me e st with
      | stuck => rw [q] at h; exact h
      | exc c p st1 => rw [q] at h; exact fun cls d G1 H1 as1 R1 X1 x => h σ cls d G1 H1 as1 R1 (N.ext X1) X1 x
      | ok d st1 => rw [q] at h; exact fun v G1 H1 as1 R1 X1 rv => h _ G1 H1 as1 R1 ((N.ext X1).set i rv) X1
    refine comp_read si sg' stt se W G H as st σ e _ R N (fun ds st' => .ok (.lst ds) st') ?_ ?_
    · refine Eq.mp (congrArg (fun r => PX g.K g.mg W G H as σ r _) ?_) h'
      unfold xcomp xbind xpure
      cases xcompL mi (own.map (·.2)) gt mt me e st <;> rfl
    · intro ds st' G1 H1 as1 G2 H2 as2 us p R1 ru hp gn na X1 hn hq
      refine hq _ _ H1 as1 (R1.freeze hp gn na) (X1.freeze hn gn) (.lst upd_same (ru.mono (fun a u e => ?_) (List.prefix_refl _)))
      rw [upd_ne (ne_of_none e gn)]; exact e
end
end LS
end
section
set_option maxRecDepth 100000
set_option maxHeartbeats 2000000
namespace LS
open PySem PySem.Spec L2

/-! ## what leaves a def -/
mutual
def refsB (n : Nat) : D → Bool
  | .ref i => decide (i < n)
  | .tup xs => refsBs n xs
  | .lst xs => refsBs n xs
  | .sq xs => refsBs n xs
  | .tpz xs => refsBs n xs
  | _ => true
def refsBs (n : Nat) : List D → Bool
  | [] => true
  | d :: r => refsB n d && refsBs n r
end
def moB (n : Nat) : MO → Bool
  | .lst xs => refsBs n xs
  | .dct kvs => refsBs n (kvs.map (·.2))
  | .lck _ => false
def stB (n : Nat) (st : Store) : Bool := (st.take n).all (moB n)
def payB (n : Nat) : Pay → Bool
  | none => true
  | some (_, d) => refsB n d
def outD (n : Nat) (d : D) (st : Store) : RX D := if stB n st = true then (match d with
  | .ref k => if k < n then .ok (.ref k) (st.take n) else (match st[k]? with
    | some (.lst xs) => if refsBs n xs = true then .ok (.lst xs) (st.take n) else .stuck
    | _ => .stuck)
  | d => if refsB n d = true then .ok d (st.take n) else .stuck) else .stuck
/-- .. a new moving list -/
def outM (n : Nat) (d : D) (st : Store) : RX D := if stB n st = true then (match d with
  | .ref k => if k < n then .stuck else (match st[k]? with
    | some (.lst xs) => if refsBs n xs = true then .ok (.ref n) (st.take n ++ [.lst xs]) else .stuck
    | _ => .stuck)
  | _ => .stuck) else .stuck
/-- .. everything that was made -/
def outG (_ : Nat) (d : D) (st : Store) : RX D := .ok d st
def outF (out : Nat → D → Store → RX D) (n : Nat) : RS → RX D
  | .rt d st => out n d st
  | .nx _ st => out n .non st
  | .exc c p _ st => if stB n st = true then (if payB n p = true then .exc c p (st.take n) else .stuck) else .stuck
  | _ => .stuck
abbrev DF := Store → List D → RX D
def runF (nm : Nat) (body : SM) : DF := fun st ds => outF outD st.length (body (ds.map some ++ List.replicate (nm - ds.length) none) st)
def runG (nm : Nat) (body : SM) : DF := fun st ds => outF outG st.length (body (ds.map some ++ List.replicate (nm - ds.length) none) st)
def runM (nm : Nat) (body : SM) : DF := fun st ds => outF outM st.length (body (ds.map some ++ List.replicate (nm - ds.length) none) st)
section
variable {K : PySem.W.Frag} {mg : Str → Option Value} {G H G1 H1 : Hp} {as as1 : List Addr} {st st1 : Store} {n : Nat}
mutual
theorem Rp.shrink (hn : ∀ i, i < n → as[i]? = as1[i]?) : ∀ {d : D} {v : V}, refsB n d = true → Rp K mg G as v d → Rp K mg G as1 v d
  | .non, _, _, h => by cases h; exact .non
  | .bl _, _, _, h => by cases h; exact .bl _
  | .int _, _, _, h => by cases h; exact .int _
  | .str _, _, _, h => by cases h; exact .str _
  | .ty _, _, _, h => by cases h; exact .ty _
  | .glo _, _, _, h => by cases h; rename_i a q; exact .glo _ _ q
  | .tup ds, _, b, h => by cases h with | tup s r => exact .tup s (RpA.shrink hn (by simpa [refsB] using b) r)
  | .lst ds, _, b, h => by cases h with | lst s r => exact .lst s (RpA.shrink hn (by simpa [refsB] using b) r)
  | .sq ds, _, b, h => by cases h with | sq s r => exact .sq s (RpA.shrink hn (by simpa [refsB] using b) r)
  | .tpz ds, _, b, h => by cases h with | tpz s z r => exact .tpz s z (RpA.shrink hn (by simpa [refsB] using b) r)
  | .ref i, _, b, h => by cases h with | ref q => exact .ref (by rw [← hn i (by simpa [refsB] using b)]; exact q)
theorem RpA.shrink (hn : ∀ i, i < n → as[i]? = as1[i]?) : ∀ {ds : List D} {vs : List V}, refsBs n ds = true → RpA K mg G as vs ds → RpA K mg G as1 vs ds
  | [], _, _, h => by cases h; exact .nil
  | d :: ds, _, b, h => by
    cases h with
    | cons x y =>
      have b' : refsB n d = true ∧ refsBs n ds = true := by simpa [refsBs] using b
      exact .cons (Rp.shrink hn b'.1 x) (RpA.shrink hn b'.2 y)
end
theorem Ro.shrink (hn : ∀ i, i < n → as[i]? = as1[i]?) {ho : HO} {m : MO} (b : moB n m = true) (h : Ro K mg G as ho m) : Ro K mg G as1 ho m := by
  cases h with
  | lst r => exact .lst (r.shrink hn (by simpa [moB] using b))
  | dct e r => exact .dct e (r.shrink hn (by simpa [moB] using b))
  | lck e r => simp [moB] at b
/-- the store of a def's caller -/
theorem Ri.back (R : Ri K mg G1 H1 as1 st1) (X : Ext G H as G1 H1 as1) (hn : as.length = n) (b : stB n st1 = true) : Ri K mg G1 H1 as (st1.take n) ∧ Ext G H as G1 H1 as ∧ ∀ i, i < n → as1[i]? = as[i]? := by
  obtain ⟨t, e⟩ := X.pre
  have hl : n ≤ as1.length := by rw [← e, List.length_append]; omega
  have same : ∀ i, i < n → as1[i]? = as[i]? := fun i hi => by rw [← e, List.getElem?_append_left (by omega)]
  refine ⟨⟨R.sub, by rw [hn, List.length_take, ← R.len]; omega, ?_, fun a ha => R.out a (e ▸ List.mem_append_left _ ha), fun i a o ha ho => ?_⟩, ⟨X.sub, List.prefix_refl _, X.keep, X.frG, fun a h h' => absurd h h', X.dom, X.lk⟩, same⟩
  · have := R.nd
    rw [← e, List.nodup_append] at this
    exact this.1
  · have hi : i < n := by
      have := (List.getElem?_eq_some_iff.mp ha).1
      omega
    have ho' : st1[i]? = some o := by
      rw [List.getElem?_take, if_pos hi] at ho
      exact ho
    obtain ⟨u, q, r⟩ := R.obj i a o (by rw [same i hi]; exact ha) ho'
    refine ⟨u, q, r.shrink same ?_⟩
    unfold stB at b
    exact List.all_eq_true.mp b o (List.mem_of_getElem? ho)
theorem outD_ok {W : WX} {σ : L2.St} {d : D} {v : V} {Q : VK} (R : Ri K mg G1 H1 as1 st1) (X : Ext G H as G1 H1 as1) (hn : as.length = n) (r : Rp K mg G1 as1 v d) (h : PX K mg W G H as σ (outD n d st1) Q) : Q v H1 := by
  unfold outD at h
  by_cases b : stB n st1 = true
  · rw [if_pos b] at h
    obtain ⟨R', X', same⟩ := R.back X hn b
    have plain : refsB n d = true → PX K mg W G H as σ (.ok d (st1.take n)) Q → Q v H1 := fun bd q => q v G1 H1 as R' X' (r.shrink same bd)
    cases d with
    | ref k =>
      simp only at h
      by_cases hk : k < n
      · rw [if_pos hk] at h
        exact plain (by simp [refsB, hk]) h
      · rw [if_neg hk] at h
        cases q : st1[k]? with
        | none => simp [q] at h; exact h.elim
        | some m =>
          cases m with
          | lst xs =>
            simp only [q] at h
            by_cases bx : refsBs n xs = true
            · rw [if_pos bx] at h
              cases r with
              | ref qa =>
                rename_i a
                obtain ⟨ho, e1, oo⟩ := R.at_ qa q
                cases oo with
                | lst ra =>
                  rename_i vs
                  have ga : G1 a = none := R.out a (List.mem_of_getElem? qa)
                  have na : a ∉ as := fun ha => by
                    obtain ⟨j, hj, ej⟩ := List.getElem_of_mem ha
                    have h1 : as1[j]? = some a := by rw [same j (by omega), List.getElem?_eq_getElem hj, ej]
                    obtain ⟨p1, p2⟩ := List.getElem?_eq_some_iff.mp h1
                    obtain ⟨p3, p4⟩ := List.getElem?_eq_some_iff.mp qa
                    have : j = k := (List.getElem_inj R.nd).mp (p2.trans p4.symm)
                    omega
                  have hfresh : H a = none := X.frA a (List.mem_of_getElem? qa) na
                  refine h _ _ H1 as (R'.freeze e1 ga na) (X'.freeze hfresh ga) (.lst upd_same ?_)
                  exact (ra.shrink same bx).mono (fun b u eb => by rw [upd_ne (ne_of_none eb ga)]; exact eb) (List.prefix_refl _)
            · rw [if_neg bx] at h; exact h.elim
          | _ => simp [q] at h; exact h.elim
    | non => simp only at h; exact plain rfl (by simpa [refsB] using h)
    | bl _ => simp only at h; exact plain rfl (by simpa [refsB] using h)
    | int _ => simp only at h; exact plain rfl (by simpa [refsB] using h)
    | str _ => simp only at h; exact plain rfl (by simpa [refsB] using h)
    | ty _ => simp only at h; exact plain rfl (by simpa [refsB] using h)
    | glo _ => simp only at h; exact plain rfl (by simpa [refsB] using h)
    | tup xs =>
      simp only at h
      by_cases bx : refsB n (.tup xs) = true
      · rw [if_pos bx] at h; exact plain bx h
      · rw [if_neg bx] at h; exact h.elim
    | lst xs =>
      simp only at h
      by_cases bx : refsB n (.lst xs) = true
      · rw [if_pos bx] at h; exact plain bx h
      · rw [if_neg bx] at h; exact h.elim
    | tpz xs =>
      simp only at h
      by_cases bx : refsB n (.tpz xs) = true
      · rw [if_pos bx] at h; exact plain bx h
      · rw [if_neg bx] at h; exact h.elim
    | sq xs =>
      simp only at h
      by_cases bx : refsB n (.sq xs) = true
      · rw [if_pos bx] at h; exact plain bx h
      · rw [if_neg bx] at h; exact h.elim
  · rw [if_neg b] at h; exact h.elim
theorem outM_ok {W : WX} {σ : L2.St} {d : D} {v : V} {Q : VK} (R : Ri K mg G1 H1 as1 st1) (X : Ext G H as G1 H1 as1) (hn : as.length = n) (r : Rp K mg G1 as1 v d) (h : PX K mg W G H as σ (outM n d st1) Q) : Q v H1 := by
  unfold outM at h
  by_cases b : stB n st1 = true
  · rw [if_pos b] at h
    obtain ⟨R', X', same⟩ := R.back X hn b
    cases d with
    | ref k =>
      simp only at h
      by_cases hk : k < n
      · rw [if_pos hk] at h; exact h.elim
      · rw [if_neg hk] at h
        cases q : st1[k]? with
        | none => simp [q] at h; exact h.elim
        | some m =>
          cases m with
          | lst xs =>
            simp only [q] at h
            by_cases bx : refsBs n xs = true
            · rw [if_pos bx] at h
              cases r with
              | ref qa =>
                rename_i a
                obtain ⟨ho, e1, oo⟩ := R.at_ qa q
                cases oo with
                | lst ra =>
                  rename_i vs
                  have ga : G1 a = none := R.out a (List.mem_of_getElem? qa)
                  have na : a ∉ as := fun ha => by
                    obtain ⟨j, hj, ej⟩ := List.getElem_of_mem ha
                    have h1 : as1[j]? = some a := by rw [same j (by omega), List.getElem?_eq_getElem hj, ej]
                    obtain ⟨p1, p2⟩ := List.getElem?_eq_some_iff.mp h1
                    obtain ⟨p3, p4⟩ := List.getElem?_eq_some_iff.mp qa
                    have : j = k := (List.getElem_inj R.nd).mp (p2.trans p4.symm)
                    omega
                  have hfresh : H a = none := X.frA a (List.mem_of_getElem? qa) na
                  refine h _ _ H1 _ (R'.adopt e1 ga na (.lst (ra.shrink same bx))) (X'.adopt hfresh) (.ref ?_)
                  rw [← hn, List.getElem?_append_right (Nat.le_refl _), Nat.sub_self]; rfl
            · rw [if_neg bx] at h; exact h.elim
          | _ => simp [q] at h; exact h.elim
    | _ => exact h.elim
  · rw [if_neg b] at h; exact h.elim
end

theorem outG_ok {W : WX} {σ : L2.St} {d : D} {v : V} {Q : VK} {K : PySem.W.Frag} {mg : Str → Option Value} {G H G1 H1 : Hp} {as as1 : List Addr} {st1 : Store} {n : Nat} (R : Ri K mg G1 H1 as1 st1) (X : Ext G H as G1 H1 as1) (r : Rp K mg G1 as1 v d) (h : PX K mg W G H as σ (outG n d st1) Q) : Q v H1 := h v G1 H1 as1 R X r

/-! ## a def's body -/
structure Bd where
  qual : Str
  f : Addr
  cdv : Value
  A : Around
  outer : List Env
  s : Shared
  H : Hp
  E : XK
def famB (g : Gb) (k : Nat) (N : List Str) (nd : N.Nodup) (sc : Scope) (b : Bd) (hr : Room k (b.A.deeper (PyProof.Rows.envOfC b.qual sc b.s.heap.objs.size b.f b.cdv))) : Fam g where
  k := k
  N := N
  sc := sc
  nd := nd
  own := fun _ => true
  mem := fun W X => W = (fun cls d _ H' => b.E cls d H') ∧ X = cxOf (L2.CX g.P g.w) g.P g.w g.K g.mg g.base N b.qual sc b.f b.cdv b.A b.outer b.s b.H b.E
  prog := fun {W X} ⟨_, e⟩ => by subst e; rfl
  w := fun {W X} ⟨_, e⟩ => by subst e; rfl
  hK := fun {W X} ⟨_, e⟩ => by subst e; rfl
  hmg := fun {W X} ⟨_, e⟩ => by subst e; rfl
  base := fun {W X} ⟨_, e⟩ => by subst e; rfl
  hN := fun {W X} ⟨_, e⟩ => by subst e; rfl
  hsc := fun {W X} ⟨_, e⟩ => by subst e; rfl
  calm := fun {W X} ⟨_, e⟩ => by subst e; rfl
  room := fun {W X} ⟨_, e⟩ => by subst e; exact hr
  takes := fun {W X} ⟨eW, e⟩ => by subst e; subst eW; exact takes_of rfl rfl rfl rfl
  pass := fun {W X} ⟨_, e⟩ => by subst e; exact passes_of rfl
  fn := fun {W X} ⟨_, e⟩ x _ _ => by subst e; exact .inl rfl
/-- a def's promise -/
def spS (g : Gb) (n : Nat) (f : DF) : Sp := fun vs H Q E => ∃ (G : Hp) (as : List Addr) (st : Store) (ds : List D), ds.length = n ∧ Ri g.K g.mg G H as st ∧ RpA g.K g.mg G as vs ds ∧ PX g.K g.mg (fun cls d _ H' => E cls d H') G H as [] (f st ds) Q
/-- a def of the top under the name x: its promise at level k -/
structure Fn (g : Gb) (st : Stmt) (x nm : Str) (ps : List Str) (k : Nat) (F : DF) : Prop where
  ex : ∃ f fd, g.mg x = some (.ref f) ∧ FunD g.K nm nm (defArgs st) (defBody st) (defScope st) [] [] f fd ∧ Binds g.K fd ps [] ∧ FnOk g.P g.w g.K g.mg g.base (L2.CX g.P g.w) k f fd ps (spS g ps.length F)
theorem start_rn {K : PySem.W.Frag} {mg : Str → Option Value} {G : Hp} {as : List Addr} {N : List Str} {vs : List V} {ds : List D} (r : RpA K mg G as vs ds) : Rn K mg G as (L2.start N vs) (ds.map some ++ List.replicate (N.length - ds.length) none) := by
  have hl := r.len
  refine ⟨by simp [L2.start, hl], fun i x h => ?_⟩
  by_cases hi : i < ds.length
  · rw [List.getElem?_append_left (by simpa using hi), List.getElem?_map] at h
    obtain ⟨d, e1, e2⟩ := Option.map_eq_some_iff.mp h
    cases e2
    obtain ⟨v, e3, rv⟩ := r.get e1
    refine ⟨v, ?_, rv⟩
    unfold L2.start
    rw [List.getElem?_append_left (by rw [List.length_map, hl]; exact hi), List.getElem?_map, e3]; rfl
  · rw [List.getElem?_append_right (by simpa using hi)] at h
    rw [List.getElem?_replicate] at h
    split at h <;> cases h
theorem fn_ok {g : Gb} {st : Stmt} {nm : Str} {N ps : List Str} {k : Nat} {m : SM} {f : Addr} {fd : FuncData} (out : Nat → D → Store → RX D)
    (hout : ∀ (G H G1 H1 : Hp) (as as1 : List Addr) (st1 : Store) (n : Nat) (W : WX) (σ : L2.St) (d : D) (v : V) (Q : VK), Ri g.K g.mg G1 H1 as1 st1 → Ext G H as G1 H1 as1 → as.length = n → Rp g.K g.mg G1 as1 v d → PX g.K g.mg W G H as σ (out n d st1) Q → Q v H1)
    (D0 : FunD g.K nm nm (defArgs st) (defBody st) (defScope st) [] [] f fd) (S : FnScope N ps (defScope st))
    (body : ∀ (b : Bd) (hr : Room k (b.A.deeper (PyProof.Rows.envOfC b.qual (defScope st) b.s.heap.objs.size b.f b.cdv))), JSs (famB g k N S.nd (defScope st) b hr) (defBody st) m) :
    FnOk g.P g.w g.K g.mg g.base (L2.CX g.P g.w) (k + 1) f fd ps (spS g ps.length (fun s ds => outF out s.length (m (ds.map some ++ List.replicate (N.length - ds.length) none) s))) := by
  refine D0.ok S (fun vs H Q E h => ?_) (fun cdv A outer s H vs Q E hr h => ?_)
  · obtain ⟨G, as, st', ds, hl, R, r, _⟩ := h
    rw [r.len, hl]
  · obtain ⟨G, as, st', ds, hl, R, r, q⟩ := h
    dsimp only at q
    obtain ⟨t, p, ss⟩ := body ⟨nm, f, cdv, A, outer, s, H, E⟩ hr
    refine ⟨t _, p _ _ ⟨rfl, rfl⟩, ?_⟩
    refine ss (fun cls d _ H' => E cls d H') G H as st' (L2.start N vs) (ds.map some ++ List.replicate (N.length - ds.length) none) _ R (start_rn r) ?_
    cases qm : m (ds.map some ++ List.replicate (N.length - ds.length) none) st' with
    | rt d st1 =>
      rw [qm] at q
      exact fun v G1 H1 as1 R1 X1 rv => hout G H G1 H1 as as1 st1 _ _ _ d v Q R1 X1 R.len rv q
    | nx e1 st1 =>
      rw [qm] at q
      exact fun σ1 G1 H1 as1 R1 N1 X1 => hout G H G1 H1 as as1 st1 _ _ _ .non .non Q R1 X1 R.len .non q
    | bk e1 st1 => rw [qm] at q; exact q.elim
    | ct e1 st1 => rw [qm] at q; exact q.elim
    | stuck => rw [qm] at q; exact q.elim
    | exc c p e1 st1 =>
      rw [qm] at q
      intro σ1 cls d G1 H1 as1 R1 N1 X1 x1
      simp only [outF] at q
      by_cases b1 : stB st'.length st1 = true
      · rw [if_pos b1] at q
        by_cases b2 : payB st'.length p = true
        · rw [if_pos b2] at q
          obtain ⟨R', X', same⟩ := R1.back X1 R.len b1
          refine q cls d G1 H1 as R' X' ?_
          obtain ⟨x1a, x1b, x1c⟩ := x1
          refine ⟨x1a, x1b, ?_⟩
          cases p with
          | none => exact x1c
          | some fd' =>
            obtain ⟨fl, dd⟩ := fd'
            obtain ⟨dx, v, e1, e2, e3, e4⟩ := x1c
            refine ⟨dx, v, e1, e2, fun z => e3 (X1.pre.subset z), e4.shrink same (by simpa [payB] using b2)⟩
        · rw [if_neg b2] at q; exact q.elim
      · rw [if_neg b1] at q; exact q.elim
theorem fn_mk {g : Gb} {st : Stmt} {x nm : Str} {N ps : List Str} {k : Nat} {m : SM} {f : Addr} {fd : FuncData} (out : Nat → D → Store → RX D)
    (hout : ∀ (G H G1 H1 : Hp) (as as1 : List Addr) (st1 : Store) (n : Nat) (W : WX) (σ : L2.St) (d : D) (v : V) (Q : VK), Ri g.K g.mg G1 H1 as1 st1 → Ext G H as G1 H1 as1 → as.length = n → Rp g.K g.mg G1 as1 v d → PX g.K g.mg W G H as σ (out n d st1) Q → Q v H1)
    (hx : g.mg x = some (.ref f)) (D0 : FunD g.K nm nm (defArgs st) (defBody st) (defScope st) [] [] f fd) (S : FnScope N ps (defScope st))
    (hb : ∀ (kV doc pm : Value) (an : Option Addr) (cdv ct : Value) (us : List Value), us.length = ps.length → bindArgs (PySem.W.fnOf nm nm (defArgs st) (defBody st) (defScope st) .none kV doc pm an cdv ct) ⟨us, []⟩ = pure (ps.zip us))
    (body : ∀ (b : Bd) (hr : Room k (b.A.deeper (PyProof.Rows.envOfC b.qual (defScope st) b.s.heap.objs.size b.f b.cdv))), JSs (famB g k N S.nd (defScope st) b hr) (defBody st) m) :
    Fn g st x nm ps (k + 1) (fun s ds => outF out s.length (m (ds.map some ++ List.replicate (N.length - ds.length) none) s)) :=
  ⟨f, fd, hx, D0, D0.bindsN hb, fn_ok out hout D0 S body⟩
end LS
end
section
set_option maxRecDepth 100000
set_option maxHeartbeats 2000000
namespace LS
open PySem PySem.Spec L2

/-! ## calls of defs -/
section
variable {K : PySem.W.Frag} {mg : Str → Option Value} {G H G1 H1 : Hp} {as as1 : List Addr} {st st1 : Store} {n : Nat}
theorem Rp.free {d : D} {v : V} (b : refsB 0 d = true) (h : Rp K mg G as v d) : Rp K mg G as1 v d := h.shrink (n := 0) (fun i hi => absurd hi (Nat.not_lt_zero i)) b
theorem RpA.free {d : List D} {v : List V} (b : refsBs 0 d = true) (h : RpA K mg G as v d) : RpA K mg G as1 v d := h.shrink (n := 0) (fun i hi => absurd hi (Nat.not_lt_zero i)) b
theorem Ro.free {d : MO} {v : HO} (b : moB 0 d = true) (h : Ro K mg G as v d) : Ro K mg G as1 v d := h.shrink (n := 0) (fun i hi => absurd hi (Nat.not_lt_zero i)) b
end
/-- the moving objects that are handed -/
def refsIn : List D → List Nat
  | [] => []
  | .ref i :: r => i :: refsIn r
  | _ :: r => refsIn r
def locG (ix : List Nat) : D → D
  | .ref i => .ref (ix.idxOf i)
  | d => d
def argG : D → Bool
  | .ref _ => true
  | d => refsB 0 d
mutual
def mapR (ix : List Nat) (N : Nat) : D → D
  | .ref r => .ref (if r < ix.length then ix.getD r 0 else N + (r - ix.length))
  | .tup xs => .tup (mapRs ix N xs)
  | .lst xs => .lst (mapRs ix N xs)
  | .sq xs => .sq (mapRs ix N xs)
  | .tpz xs => .tpz (mapRs ix N xs)
  | d => d
def mapRs (ix : List Nat) (N : Nat) : List D → List D
  | [] => []
  | d :: r => mapR ix N d :: mapRs ix N r
end
def pickS (st : Store) (ix : List Nat) : Store := ix.map fun i => st.getD i (.lst [])
def putS (st : Store) : List Nat → Store → Store
  | i :: ix, m :: ms => (putS st ix ms).set i m
  | _, _ => st
def backD (ix : List Nat) (st : Store) : RX D → RX D
  | .ok d st1 => if (decide (ix.length ≤ st1.length) && st1.all (moB 0)) = true then .ok (mapR ix st.length d) (putS st ix (st1.take ix.length) ++ st1.drop ix.length) else .stuck
  | .exc c p st1 => if (decide (ix.length ≤ st1.length) && st1.all (moB 0) && payB 0 p) = true then .exc c p (putS st ix (st1.take ix.length) ++ st1.drop ix.length) else .stuck
  | .stuck => .stuck
def callOk (ds : List D) (st : Store) : Bool := ds.all argG && decide (refsIn ds).Nodup && (refsIn ds).all (fun i => decide (i < st.length)) && (pickS st (refsIn ds)).all (moB 0)
def callD (f : DF) (ds : List D) : XM D := fun _ st => if callOk ds st = true then backD (refsIn ds) st (f (pickS st (refsIn ds)) (ds.map (locG (refsIn ds)))) else .stuck
section
variable {K : PySem.W.Frag} {mg : Str → Option Value} {G H G1 H1 : Hp} {as as1 : List Addr} {st st1 : Store} {ix : List Nat}
theorem putS_len (st : Store) : ∀ (ix : List Nat) (ms : Store), (putS st ix ms).length = st.length
  | [], _ => rfl
  | _ :: _, [] => rfl
  | i :: ix, m :: ms => by simp [putS, putS_len st ix ms]
theorem putS_out (st : Store) : ∀ (ix : List Nat) (ms : Store) (j : Nat), j ∉ ix → (putS st ix ms)[j]? = st[j]?
  | [], _, _, _ => rfl
  | _ :: _, [], _, _ => rfl
  | i :: ix, m :: ms, j, h => by
    have h' : j ≠ i ∧ j ∉ ix := by simpa using h
    show ((putS st ix ms).set i m)[j]? = _
    rw [List.getElem?_set_ne (Ne.symm h'.1)]
    exact putS_out st ix ms j h'.2
theorem putS_in (st : Store) : ∀ (ix : List Nat) (ms : Store) (k : Nat) (j : Nat), ix.Nodup → ix.length ≤ ms.length → (∀ i ∈ ix, i < st.length) → ix[k]? = some j → (putS st ix ms)[j]? = ms[k]?
  | [], _, _, _, _, _, _, h => by simp at h
  | i :: ix, [], _, _, _, hl, _, _ => by simp at hl
  | i :: ix, m :: ms, 0, j, nd, hl, hb, h => by
    have : i = j := by simpa using h
    subst this
    show ((putS st ix ms).set i m)[i]? = _
    rw [List.getElem?_set_self (by rw [putS_len]; exact hb i (by simp))]; rfl
  | i :: ix, m :: ms, k + 1, j, nd, hl, hb, h => by
    have h' : ix[k]? = some j := by simpa using h
    have nd' : i ∉ ix ∧ ix.Nodup := by simpa using nd
    have hj : j ∈ ix := List.mem_of_getElem? h'
    have hne : i ≠ j := fun z => nd'.1 (z ▸ hj)
    show ((putS st ix ms).set i m)[j]? = _
    rw [List.getElem?_set_ne hne]
    have := putS_in st ix ms k j nd'.2 (by simpa using hl) (fun a ha => hb a (by simp [ha])) h'
    simpa using this
/-- the addresses of the handed objects -/
def adr (as : List Addr) (ix : List Nat) : List Addr := ix.map fun i => as.getD i 0
theorem adr_get {k : Nat} {j : Nat} (hb : ∀ i ∈ ix, i < as.length) (h : ix[k]? = some j) : (adr as ix)[k]? = as[j]? := by
  have hj := hb j (List.mem_of_getElem? h)
  simp [adr, h, hj]
theorem Ri.pick (R : Ri K mg G H as st) (nd : ix.Nodup) (hb : ∀ i ∈ ix, i < st.length) (hm : (pickS st ix).all (moB 0) = true) : Ri K mg G H (adr as ix) (pickS st ix) := by
  have hba : ∀ i ∈ ix, i < as.length := fun i hi => by rw [R.len]; exact hb i hi
  have key : ∀ (k : Nat) (a : Addr), (adr as ix)[k]? = some a → ∃ j, ix[k]? = some j ∧ as[j]? = some a := fun k a h => by
    cases q : ix[k]? with
    | none => simp [adr, q] at h
    | some j => exact ⟨j, rfl, by rw [← adr_get hba q]; exact h⟩
  refine ⟨R.sub, by simp [adr, pickS], ?_, fun a ha => ?_, fun k a o ha ho => ?_⟩
  · unfold adr List.Nodup
    rw [List.pairwise_map]
    refine List.Pairwise.imp_of_mem (R := fun a b => a ≠ b) (fun {i j} hi hj hij z => ?_) nd
    have b1 := hba i hi
    have b2 := hba j hj
    rw [List.getD_eq_getElem?_getD, List.getD_eq_getElem?_getD, List.getElem?_eq_getElem b1, List.getElem?_eq_getElem b2] at z
    exact hij ((List.getElem_inj R.nd).mp z)
  · obtain ⟨k, hk, e⟩ := List.getElem_of_mem ha
    obtain ⟨j, _, q⟩ := key k a (by rw [List.getElem?_eq_getElem hk, e])
    exact R.out a (List.mem_of_getElem? q)
  · obtain ⟨j, q1, q2⟩ := key k a ha
    have hj := hb j (List.mem_of_getElem? q1)
    have ho' : st[j]? = some o := by
      simp [pickS, q1, hj] at ho
      rw [List.getElem?_eq_getElem hj, ho]
    obtain ⟨u, e, r⟩ := R.obj j a o q2 ho'
    exact ⟨u, e, r.free (List.all_eq_true.mp hm o (List.mem_of_getElem? ho))⟩
theorem refsIn_mem : ∀ {ds : List D} {i : Nat}, D.ref i ∈ ds → i ∈ refsIn ds
  | [], _, h => by simp at h
  | d :: r, i, h => by
    rcases List.mem_cons.mp h with e | h
    · subst e; simp [refsIn]
    · have := refsIn_mem h
      cases d <;> simp_all [refsIn]
theorem loc_rp (hb : ∀ i ∈ ix, i < as.length) : ∀ {ds : List D} {vs : List V}, ds.all argG = true → (∀ i, D.ref i ∈ ds → i ∈ ix) → RpA K mg G as vs ds → RpA K mg G (adr as ix) vs (ds.map (locG ix))
  | [], _, _, _, h => by cases h; exact .nil
  | d :: ds, _, b, hi, h => by
    cases h with
    | cons x y =>
      have b' : argG d = true ∧ ds.all argG = true := by simpa using b
      refine .cons ?_ (loc_rp hb b'.2 (fun i m => hi i (by simp [m])) y)
      cases d with
      | ref j =>
        have hj := hi j (by simp)
        cases x with
        | ref q =>
          refine .ref ?_
          have e : ix[ix.idxOf j]? = some j := by
            have hl := List.idxOf_lt_length_iff.mpr hj
            rw [List.getElem?_eq_getElem hl]
            simp
          rw [adr_get hb e]; exact q
      | _ => exact x.free b'.1
mutual
theorem Rp.map {as2 : List Addr} {N : Nat} (hr : ∀ (r : Nat) (a : Addr), as1[r]? = some a → as2[if r < ix.length then ix.getD r 0 else N + (r - ix.length)]? = some a) : ∀ {d : D} {v : V}, Rp K mg G as1 v d → Rp K mg G as2 v (mapR ix N d)
  | .non, _, h => by cases h; exact .non
  | .bl _, _, h => by cases h; exact .bl _
  | .int _, _, h => by cases h; exact .int _
  | .str _, _, h => by cases h; exact .str _
  | .ty _, _, h => by cases h; exact .ty _
  | .glo _, _, h => by cases h; rename_i a q; exact .glo _ _ q
  | .tup ds, _, h => by cases h with | tup s r => exact .tup s (RpA.map hr r)
  | .lst ds, _, h => by cases h with | lst s r => exact .lst s (RpA.map hr r)
  | .sq ds, _, h => by cases h with | sq s r => exact .sq s (RpA.map hr r)
  | .ref i, _, h => by cases h with | ref q => exact .ref (hr _ _ q)
  | .tpz ds, _, h => by cases h with | tpz s z r => exact .tpz s z (RpA.map hr r)
theorem RpA.map {as2 : List Addr} {N : Nat} (hr : ∀ (r : Nat) (a : Addr), as1[r]? = some a → as2[if r < ix.length then ix.getD r 0 else N + (r - ix.length)]? = some a) : ∀ {ds : List D} {vs : List V}, RpA K mg G as1 vs ds → RpA K mg G as2 vs (mapRs ix N ds)
  | [], _, h => by cases h; exact .nil
  | d :: ds, _, h => by cases h with | cons x y => exact .cons (Rp.map hr x) (RpA.map hr y)
end
/-- behind the call -/
theorem Ri.back2 (R : Ri K mg G H as st) (nd : ix.Nodup) (hb : ∀ i ∈ ix, i < st.length) (R1 : Ri K mg G1 H1 as1 st1) (X : Ext G H (adr as ix) G1 H1 as1) (hl : ix.length ≤ st1.length) (hm : st1.all (moB 0) = true) :
    ∃ as2, Ri K mg G1 H1 as2 (putS st ix (st1.take ix.length) ++ st1.drop ix.length) ∧ Ext G H as G1 H1 as2 ∧ ∀ (r : Nat) (a : Addr), as1[r]? = some a → as2[if r < ix.length then ix.getD r 0 else st.length + (r - ix.length)]? = some a := by
  have hba : ∀ i ∈ ix, i < as.length := fun i hi => by rw [R.len]; exact hb i hi
  have la : (adr as ix).length = ix.length := by simp [adr]
  obtain ⟨nw, en⟩ := X.pre
  have ln : as1.length = ix.length + nw.length := by rw [← en, List.length_append, la]
  have lst : st1.length = ix.length + nw.length := by rw [← R1.len, ln]
  have hnew : ∀ a ∈ nw, H a = none := fun a ha => by
    refine X.frA a (by rw [← en]; exact List.mem_append_right _ ha) fun z => ?_
    have := R1.nd
    rw [← en, List.nodup_append] at this
    exact this.2.2 a z a ha rfl
  have hold : ∀ a ∈ as, H a ≠ none := fun a ha => by
    obtain ⟨i, hi, e⟩ := List.getElem_of_mem ha
    have hi' : i < st.length := by rw [← R.len]; exact hi
    obtain ⟨u, q, _⟩ := R.obj i a st[i] (by rw [List.getElem?_eq_getElem hi, e]) (List.getElem?_eq_getElem hi')
    rw [q]; exact fun z => nomatch z
  have sub : ∀ a ∈ adr as ix, a ∈ as := fun a ha => by
    obtain ⟨i, hi, e⟩ := List.mem_map.mp ha
    have hi' := hba i hi
    rw [← e, List.getD_eq_getElem?_getD, List.getElem?_eq_getElem hi']
    exact List.getElem_mem hi'
  have hget : ∀ r : Nat, r < ix.length → as1[r]? = as[ix.getD r 0]? := fun r hr => by
    have e : ix[r]? = some (ix.getD r 0) := by rw [List.getD_eq_getElem?_getD, List.getElem?_eq_getElem hr]; rfl
    rw [← adr_get hba e, ← en, List.getElem?_append_left (by rw [la]; exact hr)]
  have x : Ext G H as G1 H1 (as ++ nw) := by
    refine ⟨X.sub, List.prefix_append _ _, fun a o h n => X.keep a o h fun z => n (sub a z), X.frG, fun a h h' => ?_, X.dom, X.lk⟩
    rcases List.mem_append.mp h with h | h
    · exact absurd h h'
    · exact hnew a h
  refine ⟨as ++ nw, ⟨R1.sub, ?_, ?_, fun a ha => ?_, fun j a o ha ho => ?_⟩, x, fun r a h => ?_⟩
  · simp [putS_len, R.len, lst]
  · rw [List.nodup_append]
    have := R1.nd
    rw [← en, List.nodup_append] at this
    exact ⟨R.nd, this.2.1, fun a ha b hb' z => hold a ha (by rw [z]; exact hnew b hb')⟩
  · rcases List.mem_append.mp ha with ha | ha
    · by_cases hin : a ∈ adr as ix
      · exact R1.out a (by rw [← en]; exact List.mem_append_left _ hin)
      · exact X.frG a (R.out a ha) (hold a ha)
    · exact R1.out a (by rw [← en]; exact List.mem_append_right _ ha)
  · by_cases hj : j < as.length
    · have hjs : j < st.length := by rw [← R.len]; exact hj
      rw [List.getElem?_append_left hj] at ha
      rw [List.getElem?_append_left (by rw [putS_len]; exact hjs)] at ho
      by_cases hin : j ∈ ix
      · obtain ⟨k, hk, e⟩ := List.getElem_of_mem hin
        have ek : ix[k]? = some j := by rw [List.getElem?_eq_getElem hk, e]
        rw [putS_in st ix _ k j nd (by simp; omega) hb ek, List.getElem?_take, if_pos hk] at ho
        have e2 : as1[k]? = some a := by
          rw [hget k hk, List.getD_eq_getElem?_getD, ek]; exact ha
        obtain ⟨u, q, r⟩ := R1.obj k a o e2 ho
        exact ⟨u, q, r.free (List.all_eq_true.mp hm o (List.mem_of_getElem? ho))⟩
      · rw [putS_out st ix _ j hin] at ho
        obtain ⟨u, q, r⟩ := R.obj j a o ha ho
        refine ⟨u, X.keep a u q fun z => ?_, r.ext x⟩
        obtain ⟨i, hi, e⟩ := List.mem_map.mp z
        have hi' := hba i hi
        have e3 : as[i]? = some a := by rw [← e, List.getD_eq_getElem?_getD, List.getElem?_eq_getElem hi']; rfl
        obtain ⟨p1, p2⟩ := List.getElem?_eq_some_iff.mp e3
        obtain ⟨p3, p4⟩ := List.getElem?_eq_some_iff.mp ha
        have : i = j := (List.getElem_inj R.nd).mp (p2.trans p4.symm)
        exact hin (this ▸ hi)
    · rw [List.getElem?_append_right (by omega)] at ha
      rw [List.getElem?_append_right (by rw [putS_len, ← R.len]; omega), putS_len, ← R.len, List.getElem?_drop] at ho
      have e2 : as1[ix.length + (j - as.length)]? = some a := by
        rw [← en, List.getElem?_append_right (by rw [la]; omega), la]
        rw [show ix.length + (j - as.length) - ix.length = j - as.length by omega]; exact ha
      obtain ⟨u, q, r⟩ := R1.obj _ a o e2 ho
      exact ⟨u, q, r.free (List.all_eq_true.mp hm o (List.mem_of_getElem? ho))⟩
  · by_cases hr : r < ix.length
    · rw [if_pos hr, List.getElem?_append_left]
      · rw [← hget r hr]; exact h
      · have : ix.getD r 0 ∈ ix := by rw [List.getD_eq_getElem?_getD, List.getElem?_eq_getElem hr]; exact List.getElem_mem hr
        exact hba _ this
    · rw [if_neg hr, ← R.len, List.getElem?_append_right (by omega)]
      rw [← en, List.getElem?_append_right (by rw [la]; omega), la] at h
      rw [show as.length + (r - ix.length) - as.length = r - ix.length by omega]; exact h
end
section
variable {g : Gb}
theorem exR_lift {K : PySem.W.Frag} {mg : Str → Option Value} {G H : Hp} {as as' : List Addr} {c : Str} {p : Pay} {cls : Value} {d : Option Addr} (b : payB 0 p = true) (h : ExR K mg G H as c p cls d) (ne : ∀ dx o, H dx = some o → (∀ fs, o = .xd fs → dx ∉ as')) : ExR K mg G H as' c p cls d := by
  obtain ⟨h1, h2, h3⟩ := h
  refine ⟨h1, h2, ?_⟩
  cases p with
  | none => exact h3
  | some q =>
    obtain ⟨f, x⟩ := q
    obtain ⟨dx, v, e1, e2, e3, e4⟩ := h3
    exact ⟨dx, v, e1, e2, ne dx _ e2 _ rfl, e4.free (by simpa [payB] using b)⟩
theorem xd_out {K : PySem.W.Frag} {mg : Str → Option Value} {G H : Hp} {as : List Addr} {st : Store} (R : Ri K mg G H as st) : ∀ dx o, H dx = some o → (∀ fs, o = .xd fs → dx ∉ as) := fun dx o h fs e hm => by
  obtain ⟨i, hi, ei⟩ := List.getElem_of_mem hm
  have hi' : i < st.length := by rw [← R.len]; exact hi
  obtain ⟨u, q, r⟩ := R.obj i dx st[i] (by rw [List.getElem?_eq_getElem hi, ei]) (List.getElem?_eq_getElem (by rw [← R.len]; exact hi))
  rw [h] at q; cases q
  subst e
  cases r
/-- THE CALL: the arguments' values, then the def's promise -/
theorem call_ok {n : Nat} {f : DF} {W : WX} {G H : Hp} {as : List Addr} {st : Store} {σ : L2.St} {e : Nv} {ds : List D} {vs : List V} {Q : VK} (R : Ri g.K g.mg G H as st) (r : RpA g.K g.mg G as vs ds) (hn : ds.length = n) (h : PX g.K g.mg W G H as σ (callD f ds e st) Q) :
    spS g n f vs H Q (WE W σ) := by
  unfold callD at h
  by_cases ok : callOk ds st = true
  · rw [if_pos ok] at h
    unfold callOk at ok
    simp only [Bool.and_eq_true] at ok
    obtain ⟨⟨⟨b1, b2⟩, b3⟩, b4⟩ := ok
    have nd : (refsIn ds).Nodup := of_decide_eq_true b2
    have hb : ∀ i ∈ refsIn ds, i < st.length := fun i hi => of_decide_eq_true (List.all_eq_true.mp b3 i hi)
    have hba : ∀ i ∈ refsIn ds, i < as.length := fun i hi => by rw [R.len]; exact hb i hi
    refine ⟨G, adr as (refsIn ds), pickS st (refsIn ds), ds.map (locG (refsIn ds)), by simpa using hn, R.pick nd hb b4, loc_rp hba b1 (fun i m => refsIn_mem m) r, ?_⟩
    generalize f (pickS st (refsIn ds)) (ds.map (locG (refsIn ds))) = res at h ⊢
    cases res with
    | stuck => exact h.elim
    | exc c p st1 =>
      simp only [backD] at h
      by_cases c1 : (decide ((refsIn ds).length ≤ st1.length) && st1.all (moB 0) && payB 0 p) = true
      · rw [if_pos c1] at h
        simp only [Bool.and_eq_true, decide_eq_true_eq] at c1
        intro cls d G1 H1 as1 R1 X1 x
        obtain ⟨as2, R2, X2, _⟩ := R.back2 nd hb R1 X1 c1.1.1 c1.1.2
        exact h cls d G1 H1 as2 R2 X2 (exR_lift c1.2 x (xd_out R2))
      · rw [if_neg c1] at h; exact h.elim
    | ok d st1 =>
      simp only [backD] at h
      by_cases c1 : (decide ((refsIn ds).length ≤ st1.length) && st1.all (moB 0)) = true
      · rw [if_pos c1] at h
        simp only [Bool.and_eq_true, decide_eq_true_eq] at c1
        intro v G1 H1 as1 R1 X1 rv
        obtain ⟨as2, R2, X2, hr⟩ := R.back2 nd hb R1 X1 c1.1 c1.2
        exact h v G1 H1 as2 R2 X2 (rv.map hr)
      · rw [if_neg c1] at h; exact h.elim
  · rw [if_neg ok] at h; exact h.elim
/-- f(a, ..) -/
def xfn (n : Nat) (f : DF) (ms : XM (List D)) : XM D := xbind ms fun ds => if ds.length = n then callD f ds else fun _ _ => .stuck
theorem je_call {F : Fam g} {st : Stmt} {x nm : Str} {ps : List Str} {k : Nat} {f : DF} {a : Expr} {es : List Expr} {ms : XM (List D)} {p pos : Pos} {n : Nat} (H0 : Fn g st x nm ps k f) (hk : k ≤ F.k) (hg : F.sc.names.lookup x = some .globalImplicit) (ha : JA F (a :: es) ms) (hn : ps.length = n := by rfl)
    (hdb : (x == ("__debug__" : Str)) = false := by decide) (he : ∀ env, starEach (a :: es) env = (false, eval a env) :: starEach es env := by intro _; rfl) (hpl : ∀ env, (backTo pos (starEach es env)).any (·.1) = false := by intro _; rfl) :
    JE F (.Call (.Name x p) (a :: es) [] pos) (xfn n f ms) := by
  subst hn
  obtain ⟨fa, fd, hm, D0, hb, O⟩ := H0.ex
  obtain ⟨ts, pa, sa⟩ := ha
  refine ⟨fun W => tCallS (spS g ps.length f) (WE W) (ts W), fun W X m => ?_, ?_⟩
  · have O' : FnOk X.prog X.w X.K X.mg X.base (L2.CX X.prog X.w) k fa fd ps (spS g ps.length f) := by
      rw [F.prog m, F.w m, F.hK m, F.hmg m, F.base m]; exact O
    exact pe_callS O' ((F.room m).mono hk) (by show X.env.scope.names.lookup x = _; rw [F.hsc m]; exact hg) (by rw [F.hmg m]; exact hm) (by rw [F.hK m]; exact D0.kp) (by rw [F.hK m]; exact hb) (fun σ => passAt (F.takes m) σ) (pa W X m) hdb (he _) (hpl _)
  · intro W G H as st σ e Q R N h
    refine sa.one R N h fun ds st1 vs G1 H1 as1 R1 X1 N1 rv h1 => ?_
    by_cases hl : ds.length = ps.length
    · rw [if_pos hl] at h1
      exact call_ok R1 rv hl h1
    · rw [if_neg hl] at h1; exact h1.elim
end
end LS
end
section
set_option maxRecDepth 100000
set_option maxHeartbeats 2000000
namespace LS
open PySem PySem.Spec L2

/-! ## code that is never come to -/
section
variable {g : Gb} {F : Fam g} {pos : Pos}
def snever : SM := fun _ _ => .stuck
theorem js_never {s : Stmt} : JS F s snever := ⟨fun _ => tNever, fun _ _ _ => ps_never, fun W G H as st σ e E R N h => h⟩

/-! ## calls with keywords -/
def JK (F : Fam g) (kws : List Keyword) (m : XM (List D)) : Prop := ∃ t : WX → TA, (∀ W X, F.mem W X → PK X kws (t W)) ∧ SA g t m
theorem jk_nil : JK F [] (xpure []) := ⟨fun _ => tNil, fun _ _ _ => pk_nil, fun W G H as st σ e Q R N h => h [] G H as R Ext.refl .nil⟩
theorem jk_cons {ex : Expr} {ks : List Keyword} {nm : Option Str} {kpos : Pos} {m : XM D} {ms : XM (List D)} (h : JE F ex m) (hs : JK F ks ms) : JK F (⟨nm, ex, kpos⟩ :: ks) (xcons m ms) := by
  obtain ⟨t, p, s⟩ := h
  obtain ⟨ts, ps, ss⟩ := hs
  refine ⟨fun W => tCons (t W) (ts W), fun W X m => pk_cons (p W X m) (ps W X m), ?_⟩
  intro W G H as st σ e Q R N h
  refine s.oneA R N h fun x st1 v G1 H1 as1 R1 X1 N1 rv h1 => ?_
  refine ss.oneA R1 N1 h1 fun xs st2 vs G2 H2 as2 R2 X2 N2 rvs h2 => ?_
  exact h2 _ _ _ _ R2 Ext.refl (.cons (rv.ext X2) rvs)
def pick {α : Type} (d : α) (l : List α) (ix : List Nat) : List α := ix.map fun i => l.getD i d
theorem pick_vals {vs : List V} {us : List Value} (r : Vals vs us) (ix : List Nat) : Vals (pick .non vs ix) (pick .none us ix) := by
  have one : ∀ i, RelV (vs.getD i .non) (us.getD i .none) := fun i => by
    rw [List.getD_eq_getElem?_getD, List.getD_eq_getElem?_getD]
    cases q : vs[i]? with
    | none => rw [r.none_of q]; rfl
    | some v =>
      obtain ⟨u, e1, ru⟩ := r.get q
      rw [e1]; exact ru
  unfold pick
  induction ix with
  | nil => exact .nil
  | cons i r ih => exact .cons (one i) ih
theorem pick_rp {K : PySem.W.Frag} {mg : Str → Option Value} {G : Hp} {as : List Addr} {vs : List V} {ds : List D} (r : RpA K mg G as vs ds) (ix : List Nat) : RpA K mg G as (pick .non vs ix) (pick .non ds ix) := by
  have one : ∀ i, Rp K mg G as (vs.getD i .non) (ds.getD i .non) := fun i => by
    rw [List.getD_eq_getElem?_getD, List.getD_eq_getElem?_getD]
    by_cases hi : i < ds.length
    · obtain ⟨v, e1, rv⟩ := r.get (List.getElem?_eq_getElem hi)
      rw [e1, List.getElem?_eq_getElem hi]; exact rv
    · rw [List.getElem?_eq_none (by rw [r.len]; omega), List.getElem?_eq_none (by omega)]; exact .non
  unfold pick
  induction ix with
  | nil => exact .nil
  | cons i r ih => exact .cons (one i) ih
/-- f(a, .., k = b, ..): ix tells where each parameter's value stands in the row of values as they are written -/
def xfnK (n : Nat) (ix : List Nat) (l : Nat) (f : DF) (ms mk : XM (List D)) : XM D := xbind ms fun ds => xbind mk fun zs => if ds.length = n ∧ zs.length = l then callD f (pick .non (ds ++ zs) ix) else fun _ _ => .stuck
/-- how the parameters are bound -/
def KB (st : Stmt) (nm : Str) (ps : List Str) (n : Nat) (ks : List Str) (ix : List Nat) : Prop := ∀ (kV doc pm : Value) (an : Option Addr) (cdv ct : Value) (us ws : List Value), us.length = n → ws.length = ks.length →
  bindArgs (PySem.W.fnOf nm nm (defArgs st) (defBody st) (defScope st) .none kV doc pm an cdv ct) ⟨us, ks.zip ws⟩ = pure (ps.zip (pick .none (us ++ ws) ix))
theorem run_fnK {X : Cx} {W : WX} {f : Addr} {fd : FuncData} {ps : List Str} {k : Nat} {sp : Sp} {pins : List (Addr × Obj)} {σ : L2.St} {H : Hp} {s : Shared} {Q : VK} {args : Args} {us : List Value} {vs : List V} (F : FnOk X.prog X.w X.K X.mg X.base (L2.CX X.prog X.w) k f fd ps sp) (hr : Room k X.A) (tk : Takes X W)
    (hb : BindsTo s fd args (ps.zip us)) (I : Inv X pins σ H s) (r : Vals vs us) (h : sp vs H Q (WE W σ)) : wpAny (model X.prog X.w) X.A (call (.ref f) args.pos args.kw) (EP X pins σ Q) X.xe s := by
  obtain ⟨ap, ak⟩ := args
  refine wpAny_call (codeAny_mono (F.run X.A X.stack s H ⟨ap, ak⟩ us vs Q (WE W σ) hr I.env0 hb r h) fun r s' hq => ?_)
  cases r with
  | error e => exact passAt tk σ pins H s e s' I hq
  | ok fl =>
    cases fl with
    | ret u => exact I.after hq
    | next => exact False.elim hq
    | brk => exact False.elim hq
    | cont => exact False.elim hq
def tCallKS (n l : Nat) (ix : List Nat) (sp : Sp) (E : L2.St → XK) (t tk : TA) : TE := fun σ H Q => t σ H fun vs H1 => tk σ H1 fun zs H2 => vs.length = n ∧ zs.length = l ∧ sp (pick .non (vs ++ zs) ix) H2 Q (E σ)
theorem callK_SE {n l m : Nat} {ix : List Nat} {f : DF} {ts tk : WX → TA} {ms mk : XM (List D)} (hix : ix.length = m) (sa : SA g ts ms) (sk : SA g tk mk) : SE g (fun W => tCallKS n l ix (spS g m f) (WE W) (ts W) (tk W)) (xfnK n ix l f ms mk) := by
  intro W G H as st σ e Q R N h
  refine sa.one R N h fun ds st1 vs G1 H1 as1 R1 X1 N1 rv h1 => ?_
  refine sk.one R1 N1 h1 fun zs st2 us G2 H2 as2 R2 X2 N2 rz h2 => ?_
  by_cases hl : ds.length = n ∧ zs.length = l
  · rw [if_pos hl] at h2
    refine ⟨by rw [rv.len]; exact hl.1, by rw [rz.len]; exact hl.2, ?_⟩
    exact call_ok R2 (pick_rp ((rv.ext X2).append rz) ix) (by simp [pick, hix]) h2
  · rw [if_neg hl] at h2; exact h2.elim
theorem je_callK {st : Stmt} {x nm : Str} {ps ks : List Str} {k n : Nat} {ix : List Nat} {f : DF} {a : Expr} {es : List Expr} {kws : List Keyword} {ms mk : XM (List D)} {p pos : Pos} (H0 : Fn g st x nm ps k f) (hk : k ≤ F.k) (hg : F.sc.names.lookup x = some .globalImplicit) (kb : KB st nm ps n ks ix) (hix : ix.length = ps.length)
    (ha : JA F (a :: es) ms) (hkw : JK F kws mk) (hall : ∀ env, (backToKw pos (keywordEach kws env)).all (·.1.isSome) = true := by intro _; rfl) (hks : ∀ env, (backToKw pos (keywordEach kws env)).filterMap (·.1) = ks := by intro _; rfl)
    (hdb : (x == ("__debug__" : Str)) = false := by decide) (he : ∀ env, starEach (a :: es) env = (false, eval a env) :: starEach es env := by intro _; rfl)
    (hpl : ∀ env, ((backTo pos (starEach (a :: es) env)).any (·.1) || (backToKw pos (keywordEach kws env)).any (·.1.isNone)) = false := by intro _; rfl) :
    JE F (.Call (.Name x p) (a :: es) kws pos) (xfnK n ix ks.length f ms mk) := by
  obtain ⟨fa, fd, hm, D0, hb, O⟩ := H0.ex
  obtain ⟨ts, pa, sa⟩ := ha
  obtain ⟨tk, pk, sk⟩ := hkw
  refine ⟨fun W => tCallKS n ks.length ix (spS g ps.length f) (WE W) (ts W) (tk W), fun W X m => ?_, callK_SE hix sa sk⟩
  refine ⟨fun pins s σ H Q I h => ?_⟩
  have hmX : X.mg x = some (.ref fa) := by rw [F.hmg m]; exact hm
  have hkp : PySem.W.keepIn X.K (.ref fa) = true := by rw [F.hK m]; exact D0.kp
  have O' : FnOk X.prog X.w X.K X.mg X.base (L2.CX X.prog X.w) k fa fd ps (spS g ps.length f) := by
    rw [F.prog m, F.w m, F.hK m, F.hmg m, F.base m]; exact O
  refine wpAny_Call_Name_kw (ld_glob I (by show X.env.scope.names.lookup x = _; rw [F.hsc m]; exact hg) hmX ?_ hdb)
  refine PySem.W.callWith_KW (h₀ := X.base) I.ok.mod.kin hkp (hall _) (thn ((pa W X m).run pos pins s σ H _ I h) fun us s1 ⟨vs, H1, I1, r, q⟩ => ?_) (hpl _) (he _)
  refine thn ((pk W X m).run pos pins s1 σ H1 _ I1 q) fun ws s2 ⟨zs, H2, I2, rz, l1, l2, q2⟩ => ⟨I2.kIn, ?_⟩
  rw [hks]
  have lu : us.length = n := r.length.symm.trans l1
  have lw : ws.length = ks.length := rz.length.symm.trans l2
  refine run_fnK (args := ⟨us, ks.zip ws⟩) (us := pick .none (us ++ ws) ix) O' ((F.room m).mono hk) (F.takes m) ?_ I2 (pick_vals (r.append rz) ix) q2
  obtain ⟨oc, od, dV, kV, doc, pm, an, cdv, ct, osl, rfl, lk, hcd, hD, hK⟩ := D0.ex
  rcases hD with ⟨_, rfl⟩ | ⟨e, _⟩
  · exact .of_eq (kb kV doc pm an cdv ct us ws lu lw)
  · exact absurd rfl e
theorem je_callK0 {st : Stmt} {x nm : Str} {ps ks : List Str} {k : Nat} {ix : List Nat} {f : DF} {kws : List Keyword} {mk : XM (List D)} {p pos : Pos} (H0 : Fn g st x nm ps k f) (hk : k ≤ F.k) (hg : F.sc.names.lookup x = some .globalImplicit) (kb : KB st nm ps 0 ks ix) (hix : ix.length = ps.length)
    (hkw : JK F kws mk) (hall : ∀ env, (backToKw pos (keywordEach kws env)).all (·.1.isSome) = true := by intro _; rfl) (hks : ∀ env, (backToKw pos (keywordEach kws env)).filterMap (·.1) = ks := by intro _; rfl)
    (hdb : (x == ("__debug__" : Str)) = false := by decide)
    (hpl : ∀ env, ((backTo pos (starEach [] env)).any (·.1) || (backToKw pos (keywordEach kws env)).any (·.1.isNone)) = false := by intro _; rfl) :
    JE F (.Call (.Name x p) [] kws pos) (xfnK 0 ix ks.length f (xpure []) mk) := by
  obtain ⟨fa, fd, hm, D0, hb, O⟩ := H0.ex
  obtain ⟨tk, pk, sk⟩ := hkw
  have sa : SA g (fun _ => tNil) (xpure []) := fun W G H as st σ e Q R N h => h [] G H as R Ext.refl .nil
  refine ⟨fun W => tCallKS 0 ks.length ix (spS g ps.length f) (WE W) tNil (tk W), fun W X m => ?_, callK_SE hix sa sk⟩
  refine ⟨fun pins s σ H Q I h => ?_⟩
  have hmX : X.mg x = some (.ref fa) := by rw [F.hmg m]; exact hm
  have hkp : PySem.W.keepIn X.K (.ref fa) = true := by rw [F.hK m]; exact D0.kp
  have O' : FnOk X.prog X.w X.K X.mg X.base (L2.CX X.prog X.w) k fa fd ps (spS g ps.length f) := by
    rw [F.prog m, F.w m, F.hK m, F.hmg m, F.base m]; exact O
  refine wpAny_Call_Name_kw (ld_glob I (by show X.env.scope.names.lookup x = _; rw [F.hsc m]; exact hg) hmX ?_ hdb)
  refine PySem.W.callWith_KW0 (h₀ := X.base) I.ok.mod.kin hkp (hall _) ?_ (hpl _)
  refine thn ((pk W X m).run pos pins s σ H _ I h) fun ws s2 ⟨zs, H2, I2, rz, l1, l2, q2⟩ => ⟨I2.kIn, ?_⟩
  rw [hks]
  have lw : ws.length = ks.length := rz.length.symm.trans l2
  refine run_fnK (args := ⟨[], ks.zip ws⟩) (us := pick .none ([] ++ ws) ix) O' ((F.room m).mono hk) (F.takes m) ?_ I2 (pick_vals rz ix) q2
  obtain ⟨oc, od, dV, kV, doc, pm, an, cdv, ct, osl, rfl, lk, hcd, hD, hK⟩ := D0.ex
  rcases hD with ⟨_, rfl⟩ | ⟨e, _⟩
  · exact .of_eq (kb kV doc pm an cdv ct [] ws rfl lw)
  · exact absurd rfl e
end
end LS
end
section
set_option maxRecDepth 100000
set_option maxHeartbeats 2000000
namespace LS
open PySem PySem.Spec L2

/-! ## enumerate, zip -/
def enumD : Nat → List D → List D
  | _, [] => []
  | k, x :: r => .tup [.int (k : Int), x] :: enumD (k + 1) r
theorem enumD_len : ∀ (k : Nat) (xs : List D), (enumD k xs).length = xs.length
  | _, [] => rfl
  | k, x :: r => by simp [enumD, enumD_len (k + 1) r]
theorem enumD_get : ∀ (xs : List D) (k i : Nat), (enumD k xs)[i]? = xs[i]?.map fun x => .tup [.int ((k + i : Nat) : Int), x]
  | [], _, _ => by simp [enumD]
  | x :: r, k, 0 => by simp [enumD]
  | x :: r, k, i + 1 => by
    have := enumD_get r (k + 1) i
    simp only [enumD, List.getElem?_cons_succ, this]
    rw [show k + 1 + i = k + (i + 1) by omega]
def zipD (xs ys : List D) : List D := List.zipWith (fun a b => .tup [a, b]) xs ys
theorem zipD_get (xs ys : List D) (i : Nat) {x : D} (h : (zipD xs ys)[i]? = some x) : ∃ a b, xs[i]? = some a ∧ ys[i]? = some b ∧ x = .tup [a, b] := by
  unfold zipD at h
  rw [List.getElem?_zipWith] at h
  cases h1 : xs[i]? with
  | none => simp [h1] at h
  | some a =>
    cases h2 : ys[i]? with
    | none => simp [h1, h2] at h
    | some b => simp [h1, h2] at h; exact ⟨a, b, rfl, rfl, h.symm⟩

/-- the tuple at a, each item in a new pair -/
def ItE (K : PySem.W.Frag) (a : Addr) : It :=
  ⟨fun i H => ∃ (xs : List V) (x : V), SqT K H a xs ∧ xs[i]? = some x, fun i H v H' => ∃ T x, v = .ref T ∧ H T = none ∧ H' = upd H T (.tup [.int (i : Nat), x]) ∧ ∀ xs, SqT K H a xs → xs[i]? = some x, fun i H => ∃ xs : List V, SqT K H a xs ∧ xs.length = i⟩
theorem turn_enumT {P : Program} {w : World} {K : PySem.W.Frag} {elts : List Expr} {kk : Nat} {tpos : Pos} {a e it : Addr} (hai : a ≠ it) (hei : e ≠ it) (hea : e ≠ a) :
    Turn P w K (.Tuple elts kk tpos) (ItE K a) [e, it] e (fun i h => (∃ old, IsEnum h e it ((i : Nat) : Int) old) ∧ h.IsTupleIter it a i) := by
  refine ⟨by simp, ?_, ?_, ?_, ?_, ?_⟩
  · rintro i h ⟨⟨old, q⟩, ⟨o, ho, _, hd⟩⟩ b hb
    rcases List.mem_cons.mp hb with rfl | hb
    · exact ⟨_, q, fun v z => nomatch z⟩
    · cases List.mem_singleton.mp hb; exact ⟨o, ho, fun v z => by rw [hd] at z; cases z⟩
  · rintro i h h' ⟨⟨old, q⟩, q2⟩ k
    exact ⟨⟨old, k e (by simp) _ q⟩, q2.at fun o z => k it (by simp) o z⟩
  · intro X hP hw hK hc i pins s σ H E I hf st hg
    subst hP hw hK
    obtain ⟨⟨old, q⟩, q2⟩ := st
    obtain ⟨xs, x, hq, hx⟩ := hg
    obtain ⟨its, rv, p, _⟩ := I.tuple hq
    obtain ⟨u, hu, ru⟩ := rv.get hx
    have lte : e < s.heap.objs.size := Heap.lt_size q
    have lti : it < s.heap.objs.size := let ⟨_, z, _⟩ := q2; Heap.lt_size z
    have dr := Draws.tuple (prog := X.prog) (w := X.w) (A := X.A.in1) (I.ok.hd hc) it a hai its.toArray
    have lt := (List.getElem?_eq_some_iff.mp hu).1
    refine wpAny_pyNext_enum_itemC dr q ⟨q2, p⟩ (by simpa using lt) hei (by simp [hei, hea]) fun y h1 tk py o1 st1 hT _ k1 => ?_
    have ey : y = u := by
      have z : its.toArray[i]? = some y := py
      simp at z
      rw [hu] at z; cases z; rfl
    subst ey
    refine ⟨_, rfl, wpAny_letOwnedTupleGo_enum (s := { s with heap := h1, toks := tk + 1 }) o1 fun h2 o2 sb => ?_⟩
    have hT2 := (sb.2 _ (Nat.ne_of_gt lte)).trans hT
    have nw : ObjOk X.prog X.w (upd H s.heap.objs.size (.tup [.int (i : Nat), x])) h2 s.heap.objs.size (.tup [.int (i : Nat), x]) :=
      ⟨(show 2 ≤ sizeLine by decide), [.int i tk, y], .cons ⟨_, rfl⟩ (.cons ru .nil), ⟨_, hT2, rfl, _, rfl⟩⟩
    have I1 := I.turnedNew (t' := tk + 1) (h' := h2) (ch := [e, it]) (fun b o hb z => (sb.2 b (fun y => hb (by simp [y]))).trans (k1 b o (fun y => hb (by simp [y])) (fun y => hb (by simp [y])) z)) hf (Nat.le_refl _) nw
    refine ⟨_, _, I1, (show RelV (.ref s.heap.objs.size) (.ref s.heap.objs.size) from rfl), ⟨_, x, rfl, I.hok.fresh (Nat.le_refl _), rfl, fun ys hy => by rw [I.tuple_inj hy hq]; exact hx⟩, ⟨⟨y, ?_⟩, ?_⟩, fun b hb => ?_⟩
    · rw [show ((i + 1 : Nat) : Int) = (i : Int) + 1 by omega]; exact o2
    · exact st1.1.at fun o z => (sb.2 it (Ne.symm hei)).trans z
    · have : b < s.heap.objs.size := by
        rcases List.mem_cons.mp hb with rfl | hb
        · exact lte
        · cases List.mem_singleton.mp hb; exact lti
      rw [upd_ne (Nat.ne_of_lt this)]
      exact (hf b hb).1
  · intro X hP hw hK hc i pins s σ H E I hf st hg
    subst hP hw hK
    obtain ⟨⟨old, q⟩, q2⟩ := st
    obtain ⟨xs, hq, hx⟩ := hg
    obtain ⟨its, rv, p, _⟩ := I.tuple hq
    have dr := Draws.tuple (prog := X.prog) (w := X.w) (A := X.A.in1) (I.ok.hd hc) it a hai its.toArray
    have hn : i = its.toArray.size := by have := rv.length; simp; omega
    obtain ⟨f0, f1, f2, f3, f4, f5⟩ := hf it (by simp)
    exact wpAny_pyNext_enum_endD dr q ⟨by rw [← hn]; exact q2, p⟩ fun h1 eb => ⟨rfl, I.turned (t' := s.toks) (fun b o hb z => eb b o hb z) f0 f1 f3 f4 f5⟩
  · rintro A i s Q E ⟨⟨old, q⟩, _⟩ h
    exact wpAny_pyIter_enum q h
/-! enumerate(v) of anything whose iterator is known -/
theorem meets_enum1 {v : Value} {ia : Heap → Addr} {mk : Heap → Heap} {Hh : Heap → Prop} (B : ∀ (prog : Program) (w : World) (A : Around) (E : Value → Shared → Prop) (s : Shared) (Q : Value → Shared → Prop), Hh s.heap → Q (.ref (ia s.heap)) { s with heap := mk s.heap } → wpAny (model prog w) A (pyIter v) Q E s) :
    Meets (Builtin.«enumerate.__new__» ⟨[.type "enumerate", v], []⟩) (fun _ R s => Hh s.heap ∧
      R (.ok (.ret (.ref (mk s.heap).objs.size))) { s with heap := (mk s.heap).push { cls := .type "enumerate", data := .fields #[.none, .bool false, .ref (ia s.heap), rawInt 0, .none, .none] } }) := by
  refine .of_wp ?_
  rintro prog w A R ⟨hp, g, d, tk, os⟩ ⟨h1, h⟩
  have sub := sub_enumerate
  have q1 : ∀ {A' : Around} {E : Value → Shared → Prop} {Q : Value → Shared → Prop}, Q (.ref (ia hp)) ⟨mk hp, g, d, tk, os⟩ → wpAny (model prog w) A' (pyIter v) Q E ⟨hp, g, d, tk, os⟩ := fun q => B _ _ _ _ ⟨hp, g, d, tk, os⟩ _ h1 q
  wp_walk using q1
  refine wpAny_stack_any fun st => wpAny_pure ?_
  split
  · rename_i c _ _ _ _ _
    cases (c == Value.type "enumerate") <;> (wp_walk using q1; exact ⟨_, rfl, h⟩)
  · wp_walk using q1
    exact ⟨_, rfl, h⟩
theorem call_enum1 {prog : Program} {w : World} {A : Around} {E : Value → Shared → Prop} {s : Shared} {v : Value} {ia : Heap → Addr} {mk : Heap → Heap} {Hh : Heap → Prop} {Q : Value → Shared → Prop}
    (B : ∀ (prog : Program) (w : World) (A : Around) (E : Value → Shared → Prop) (s : Shared) (Q : Value → Shared → Prop), Hh s.heap → Q (.ref (ia s.heap)) { s with heap := mk s.heap } → wpAny (model prog w) A (pyIter v) Q E s)
    (h1 : Hh s.heap) (h : ∀ h', IsEnum h' (mk s.heap).objs.size (ia s.heap) 0 .none → (∀ b o, (mk s.heap).get? b = some o → h'.get? b = some o) → Q (.ref (mk s.heap).objs.size) { s with heap := h' }) :
    wpAny (model prog w) A (call (.type "enumerate") [v]) Q E s := by
  refine callType_new F.called_enumerate (by decide) (F.typeCall_enumerate_1 _) (F.newCall_enumerate_1 _) (fun obj => F.args_object_init_2 obj _) F.entry_enumerate_new (meets_enum1 B) ⟨h1, ?_⟩
  have e1 : IsEnum ((mk s.heap).push { cls := .type "enumerate", data := .fields #[.none, .bool false, .ref (ia s.heap), rawInt 0, .none, .none] }) (mk s.heap).objs.size (ia s.heap) 0 .none := Heap.get?_push_size _ rfl
  exact ⟨⟨_, e1, rfl⟩, h _ e1 fun b o x => Heap.get?_push_of_some _ x⟩
/-- enumerate(list or tuple) -/
def iEnumA (K : PySem.W.Frag) (ta : TA) : TI := fun σ H R => ta σ H fun vs H1 => ∃ a, vs = [.ref a] ∧ (((∃ xs, SqL K H1 a xs) ∧ R (Ite K a) H1) ∨ ((∃ xs, SqT K H1 a xs) ∧ R (ItE K a) H1))
theorem pi_enumA {X : Cx} {e : Expr} {ta : TA} {p pos tpos : Pos} {elts : List Expr} {kk : Nat} (hg : Gl X "enumerate") (hm : X.mg "enumerate" = none) (ha : PA X [e] ta) (hs : starEach [e] X.env = [(false, eval e X.env)]) :
    PI X (.Tuple elts kk tpos) (.Call (.Name "enumerate" p) [e] [] pos) (iEnumA X.K ta) := by
  constructor
  intro pins s σ H R I h
  refine PyProof.Rows.Call_ (ld_blt I hg hm PyProof.Rows.boot_enumerate (PyProof.Rows.callWith_type1 (thn (ha.run pos pins s σ H _ I h) fun us s1 q0 => ?_) hs rfl))
  obtain ⟨vs, H1, I1, r1, a, ex, q1⟩ := q0
  subst ex
  cases r1 with
  | cons r rr =>
    cases rr
    cases r
    have fr : ∀ b ∈ [s1.heap.objs.size + 1, s1.heap.objs.size], FpOk X pins H1 b := fun b hb => by
      have hle : s1.heap.objs.size ≤ b := by
        rcases List.mem_cons.mp hb with rfl | hb
        · omega
        · cases List.mem_singleton.mp hb; omega
      exact I1.fpOk hle (I1.hok.fresh hle)
    rcases q1 with ⟨⟨xs, hq⟩, q⟩ | ⟨⟨xs, hq⟩, q⟩
    · obtain ⟨its, rv, p', _⟩ := I1.list hq
      refine call_enumerate_list p'.isList fun h' he hit hsz hk => wpAny_pyIter_enum he ?_
      exact ⟨_, _, _, _, H1, rfl, I1.kept (t' := s1.toks) hk, turn_enum a _ _, ⟨⟨.none, he⟩, hit, Nat.succ_ne_self _⟩, fr, q⟩
    · obtain ⟨its, rv, p', _⟩ := I1.tuple hq
      have p2 : s1.heap.IsTuple a its.toArray := p'
      have la : a < s1.heap.objs.size := let ⟨_, z, _⟩ := p2; Heap.lt_size z
      have l2 : s1.heap.objs.size + 1 ≠ a := fun z => Nat.lt_irrefl a (Nat.lt_trans la (Nat.lt_of_lt_of_eq (Nat.lt_succ_self _) z))
      refine call_enum1 (ia := fun h => h.objs.size) (mk := fun h => h.push { cls := .type "tuple_iterator", data := .fields #[.ref a, .int 0 0] }) (Hh := fun h => h.IsTuple a its.toArray) (fun _ _ _ _ s _ hl h => wpAny_pyIter_tuple hl h) p2 fun h' he hk => wpAny_pyIter_enum he ?_
      have sz : (s1.heap.push { cls := .type "tuple_iterator", data := .fields #[.ref a, .int 0 0] }).objs.size = s1.heap.objs.size + 1 := Heap.size_push ..
      simp only [sz] at he
      simp only [sz]
      have hit := hk _ _ (Heap.get?_push_size s1.heap (o := { cls := .type "tuple_iterator", data := .fields #[.ref a, .int 0 0] }) rfl)
      exact ⟨_, _, _, _, H1, rfl, I1.kept (t' := s1.toks) fun b o z => hk b o (Heap.get?_push_of_some _ z), turn_enumT (a := a) (Nat.ne_of_lt la) (Nat.succ_ne_self _) l2, ⟨⟨.none, he⟩, ⟨_, hit, rfl, rfl⟩⟩, fr, q⟩
/-! ## the judgements -/
section
variable {g : Gb} {F : Fam g} {pos : Pos}
theorem yl_enumL {G0 H0 : Hp} {as0 : List Addr} {a : Addr} {vs : List V} {xs : List D} (s : SqL g.K G0 a vs) (r : RpA g.K g.mg G0 as0 vs xs) : Yl g G0 H0 as0 none (enumD 0 xs) (Ite g.K a) where
  go := fun i G H as st hi R hs hp hl _ => by
    have hv : i < vs.length := by rw [r.len, ← enumD_len 0 xs]; exact hi
    exact ⟨vs, vs[i], sqL_H R (sqL_sub hs s), List.getElem?_eq_getElem hv⟩
  stop := fun G H as st R hs hp hl _ => ⟨vs, sqL_H R (sqL_sub hs s), by rw [r.len, enumD_len]; exact Nat.le_refl _⟩
  yld := fun i G H as st v H' x R hs hp hl _ hx y => by
    obtain ⟨T, u, rfl, hT, rfl, y⟩ := y
    rw [enumD_get] at hx
    obtain ⟨x0, hx0, rfl⟩ := Option.map_eq_some_iff.mp hx
    obtain ⟨u', e1, ru⟩ := r.get hx0
    have e2 := y vs (sqL_H R (sqL_sub hs s))
    rw [e1] at e2; cases e2
    obtain ⟨R', X'⟩ := R.still (o := .tup [.int (i : Nat), u]) hT
    refine ⟨_, R', X', .tup (.of upd_same) (.cons ?_ (.cons ((ru.mono hs hp).ext X') .nil))⟩
    rw [show ((0 + i : Nat) : Int) = (i : Int) by simp]
    exact .int _
theorem yl_enumT {G0 H0 : Hp} {as0 : List Addr} {a : Addr} {vs : List V} {xs : List D} (s : SqT g.K G0 a vs) (r : RpA g.K g.mg G0 as0 vs xs) : Yl g G0 H0 as0 none (enumD 0 xs) (ItE g.K a) where
  go := fun i G H as st hi R hs hp hl _ => by
    have hv : i < vs.length := by rw [r.len, ← enumD_len 0 xs]; exact hi
    exact ⟨vs, vs[i], sqT_H R (sqT_sub hs s), List.getElem?_eq_getElem hv⟩
  stop := fun G H as st R hs hp hl _ => ⟨vs, sqT_H R (sqT_sub hs s), by rw [r.len, enumD_len]⟩
  yld := fun i G H as st v H' x R hs hp hl _ hx y => by
    obtain ⟨T, u, rfl, hT, rfl, y⟩ := y
    rw [enumD_get] at hx
    obtain ⟨x0, hx0, rfl⟩ := Option.map_eq_some_iff.mp hx
    obtain ⟨u', e1, ru⟩ := r.get hx0
    have e2 := y vs (sqT_H R (sqT_sub hs s))
    rw [e1] at e2; cases e2
    obtain ⟨R', X'⟩ := R.still (o := .tup [.int (i : Nat), u]) hT
    refine ⟨_, R', X', .tup (.of upd_same) (.cons ?_ (.cons ((ru.mono hs hp).ext X') .nil))⟩
    rw [show ((0 + i : Nat) : Int) = (i : Int) by simp]
    exact .int _
/-- a list or a tuple that stands still -/
def stillOf : D → Option (List D)
  | .tup xs => some xs
  | .lst xs => some xs
  | .sq xs => some xs
  | _ => none
theorem stillOf_ok {G H : Hp} {as : List Addr} {st : Store} {v : V} {d : D} {xs : List D} (R : Ri g.K g.mg G H as st) (r : Rp g.K g.mg G as v d) (h : stillOf d = some xs) : ∃ a vs, v = .ref a ∧ RpA g.K g.mg G as vs xs ∧ (SqL g.K G a vs ∨ SqT g.K G a vs) := by
  cases r with
  | tup s r => cases h; exact ⟨_, _, rfl, r, .inr s⟩
  | lst s r => cases h; exact ⟨_, _, rfl, r, .inl (.of s)⟩
  | sq s r => cases h; exact ⟨_, _, rfl, r, .inl s⟩
  | _ => cases h
def xenum (m : XM D) : XM (List D × Option Nat) := xbind m fun x => fun _ st => match stillOf x with
  | some xs => .ok (enumD 0 xs, none) st
  | none => .stuck
theorem ji_enum {elts : List Expr} {kk : Nat} {tpos p : Pos} {e : Expr} {m : XM D} (hg : F.sc.names.lookup ("enumerate" : Str) = some .globalImplicit) (hm : g.mg "enumerate" = none) (h : JE F e m) (hs : ∀ env, starEach [e] env = [(false, eval e env)] := by intro _; rfl) :
    JI F (.Tuple elts kk tpos) (.Call (.Name "enumerate" p) [e] [] pos) (xenum m) := by
  obtain ⟨t, p', s⟩ := h
  refine ⟨fun W => iEnumA g.K (tCons (t W) tNil), fun W X m => by have := pi_enumA (elts := elts) (kk := kk) (tpos := tpos) (p := p) (pos := pos) (X := X) (by show X.env.scope.names.lookup _ = _; rw [F.hsc m]; exact hg) (by rw [F.hmg m]; exact hm) (pa_cons (p' W X m) pa_nil (hs _)) (hs _); rw [F.hK m] at this; exact this, ?_⟩
  intro W G H as st σ e R' R N h
  refine s W G H as st σ e _ R N ?_
  unfold xenum xbind at h
  cases q : m e st with
  | stuck => rw [q] at h; exact h
  | exc c p st1 => rw [q] at h; exact h
  | ok x st1 =>
    simp only [q] at h
    intro v G1 H1 as1 R1 X1 rv
    cases q2 : stillOf x with
    | none => simp only [q2] at h; exact h.elim
    | some xs =>
      simp only [q2] at h
      obtain ⟨a, vs, rfl, rr, ss | ss⟩ := stillOf_ok R1 rv q2
      · exact ⟨a, rfl, .inl ⟨⟨vs, sqL_H R1 ss⟩, h.2 _ G1 H1 as1 R1 X1 (yl_enumL ss rr)⟩⟩
      · exact ⟨a, rfl, .inr ⟨⟨vs, sqT_H R1 ss⟩, h.2 _ G1 H1 as1 R1 X1 (yl_enumT ss rr)⟩⟩
theorem yl_zipL {G0 H0 : Hp} {as0 : List Addr} {a b : Addr} {vs ws : List V} {xs ys : List D} (s : SqL g.K G0 a vs) (s2 : SqL g.K G0 b ws) (r : RpA g.K g.mg G0 as0 vs xs) (r2 : RpA g.K g.mg G0 as0 ws ys) : Yl g G0 H0 as0 none (zipD xs ys) (Itz g.K a b) where
  go := fun i G H as st hi R hs hp hl _ => by
    have hl : i < xs.length ∧ i < ys.length := by simp [zipD] at hi; omega
    have hv : i < vs.length := by rw [r.len]; exact hl.1
    have hw : i < ws.length := by rw [r2.len]; exact hl.2
    exact ⟨vs, ws, vs[i], ws[i], sqL_H R (sqL_sub hs s), sqL_H R (sqL_sub hs s2), List.getElem?_eq_getElem hv, List.getElem?_eq_getElem hw⟩
  stop := fun G H as st R hs hp hl _ => ⟨vs, ws, sqL_H R (sqL_sub hs s), sqL_H R (sqL_sub hs s2), by rw [r.len, r2.len]; simp [zipD]; omega⟩
  yld := fun i G H as st v H' x R hs hp hl _ hx y => by
    obtain ⟨T, u, w, rfl, hT, rfl, y1, y2⟩ := y
    obtain ⟨x0, x1, h0, h1, rfl⟩ := zipD_get _ _ _ hx
    obtain ⟨u', e1, ru⟩ := r.get h0
    obtain ⟨w', e2, rw'⟩ := r2.get h1
    have e3 := y1 vs (sqL_H R (sqL_sub hs s))
    have e4 := y2 ws (sqL_H R (sqL_sub hs s2))
    rw [e1] at e3; cases e3
    rw [e2] at e4; cases e4
    obtain ⟨R', X'⟩ := R.still (o := .tup [u, w]) hT
    exact ⟨_, R', X', .tup (.of upd_same) (.cons ((ru.mono hs hp).ext X') (.cons ((rw'.mono hs hp).ext X') .nil))⟩
theorem yl_zipT {G0 H0 : Hp} {as0 : List Addr} {a b : Addr} {vs ws : List V} {xs ys : List D} (s : SqT g.K G0 a vs) (s2 : SqT g.K G0 b ws) (r : RpA g.K g.mg G0 as0 vs xs) (r2 : RpA g.K g.mg G0 as0 ws ys) : Yl g G0 H0 as0 none (zipD xs ys) (RZ.ItzT g.K a b) where
  go := fun i G H as st hi R hs hp hl _ => by
    have hl : i < xs.length ∧ i < ys.length := by simp [zipD] at hi; omega
    have hv : i < vs.length := by rw [r.len]; exact hl.1
    have hw : i < ws.length := by rw [r2.len]; exact hl.2
    exact ⟨vs, ws, vs[i], ws[i], sqT_H R (sqT_sub hs s), sqT_H R (sqT_sub hs s2), List.getElem?_eq_getElem hv, List.getElem?_eq_getElem hw⟩
  stop := fun G H as st R hs hp hl _ => ⟨vs, ws, sqT_H R (sqT_sub hs s), sqT_H R (sqT_sub hs s2), by rw [r.len, r2.len]; simp [zipD]; omega⟩
  yld := fun i G H as st v H' x R hs hp hl _ hx y => by
    obtain ⟨T, u, w, rfl, hT, rfl, y1, y2⟩ := y
    obtain ⟨x0, x1, h0, h1, rfl⟩ := zipD_get _ _ _ hx
    obtain ⟨u', e1, ru⟩ := r.get h0
    obtain ⟨w', e2, rw'⟩ := r2.get h1
    have e3 := y1 vs (sqT_H R (sqT_sub hs s))
    have e4 := y2 ws (sqT_H R (sqT_sub hs s2))
    rw [e1] at e3; cases e3
    rw [e2] at e4; cases e4
    obtain ⟨R', X'⟩ := R.still (o := .tup [u, w]) hT
    exact ⟨_, R', X', .tup (.of upd_same) (.cons ((ru.mono hs hp).ext X') (.cons ((rw'.mono hs hp).ext X') .nil))⟩
/-- both tuples | both lists -/
def zipOf : D → D → Option (List D × List D)
  | .tup xs, .tup ys => some (xs, ys)
  | .lst xs, .lst ys => some (xs, ys)
  | .sq xs, .lst ys => some (xs, ys)
  | .lst xs, .sq ys => some (xs, ys)
  | .sq xs, .sq ys => some (xs, ys)
  | _, _ => none
theorem zipOf_ok {G : Hp} {as : List Addr} {v w : V} {d f : D} {xs ys : List D} (r : Rp g.K g.mg G as v d) (r2 : Rp g.K g.mg G as w f) (h : zipOf d f = some (xs, ys)) :
    ∃ a b vs ws, v = .ref a ∧ w = .ref b ∧ RpA g.K g.mg G as vs xs ∧ RpA g.K g.mg G as ws ys ∧ ((SqL g.K G a vs ∧ SqL g.K G b ws) ∨ (SqT g.K G a vs ∧ SqT g.K G b ws)) := by
  cases r with
  | tup s r => cases r2 with
    | tup s2 r2 => cases h; exact ⟨_, _, _, _, rfl, rfl, r, r2, .inr ⟨s, s2⟩⟩
    | _ => cases h
  | lst s r => cases r2 with
    | lst s2 r2 => cases h; exact ⟨_, _, _, _, rfl, rfl, r, r2, .inl ⟨.of s, .of s2⟩⟩
    | sq s2 r2 => cases h; exact ⟨_, _, _, _, rfl, rfl, r, r2, .inl ⟨.of s, s2⟩⟩
    | _ => cases h
  | sq s r => cases r2 with
    | lst s2 r2 => cases h; exact ⟨_, _, _, _, rfl, rfl, r, r2, .inl ⟨s, .of s2⟩⟩
    | sq s2 r2 => cases h; exact ⟨_, _, _, _, rfl, rfl, r, r2, .inl ⟨s, s2⟩⟩
    | _ => cases h
  | _ => cases r2 <;> cases h
def xzip (ma mb : XM D) : XM (List D × Option Nat) := xbind ma fun x => xbind mb fun y => fun _ st => match zipOf x y with
  | some (xs, ys) => .ok (zipD xs ys, none) st
  | none => .stuck
theorem zip_read {t t2 : WX → TE} {ma mb : XM D} {W : WX} {G H : Hp} {as : List Addr} {st : Store} {σ : L2.St} {e : Nv} {fd : List D → List D → List D} {R' : It → Hp → Prop} {Q : List V → Hp → Prop} (s : SE g t ma) (s2 : SE g t2 mb) (R : Ri g.K g.mg G H as st) (N : Rn g.K g.mg G as σ e)
    (h : PXI g W G H as σ ((xbind ma fun x => xbind mb fun y => fun _ st => match zipOf x y with | some (xs, ys) => .ok (fd xs ys, none) st | none => .stuck) e st) R')
    (k : ∀ xs ys a b vs ws G1 H1 as1 st1, Ri g.K g.mg G1 H1 as1 st1 → RpA g.K g.mg G1 as1 vs xs → RpA g.K g.mg G1 as1 ws ys → ((SqL g.K G1 a vs ∧ SqL g.K G1 b ws) ∨ (SqT g.K G1 a vs ∧ SqT g.K G1 b ws)) → (∀ J, Yl g G1 H1 as1 none (fd xs ys) J → R' J H1) → Q [.ref a, .ref b] H1) : tCons (t W) (tCons (t2 W) tNil) σ H Q := by
  refine s W G H as st σ e _ R N ?_
  unfold xbind at h
  cases q : ma e st with
  | stuck => rw [q] at h; exact h
  | exc c p st1 => rw [q] at h; exact h
  | ok x st1 =>
    simp only [q] at h
    intro v G1 H1 as1 R1 X1 rv
    refine s2 W G1 H1 as1 st1 σ e _ R1 (N.ext X1) ?_
    cases q2 : mb e st1 with
    | stuck => simp only [q2] at h; exact h
    | exc c p st2 =>
      simp only [q2] at h
      exact fun cls d G2 H2 as2 R2 X2 x2 => h cls d G2 H2 as2 R2 (X1.trans X2) x2
    | ok y st2 =>
      simp only [q2] at h
      intro w G2 H2 as2 R2 X2 rw'
      cases q3 : zipOf x y with
      | none => simp only [q3] at h; exact h.elim
      | some z =>
        obtain ⟨xs, ys⟩ := z
        simp only [q3] at h
        obtain ⟨a, b, vs, ws, rfl, rfl, r1, r2, ss⟩ := zipOf_ok (rv.ext X2) rw' q3
        exact k xs ys a b vs ws G2 H2 as2 st2 R2 r1 r2 ss fun J Y => h.2 J G2 H2 as2 R2 (X1.trans X2) Y
theorem ji_zip {elts : List Expr} {kk : Nat} {tpos p : Pos} {ea eb : Expr} {ma mb : XM D} (hg : F.sc.names.lookup ("zip" : Str) = some .globalImplicit) (hm : g.mg "zip" = none) (ha : JE F ea ma) (hb : JE F eb mb)
    (hs : ∀ env, starEach [ea, eb] env = [(false, eval ea env), (false, eval eb env)] := by intro _; rfl) (hs2 : ∀ env, starEach [eb] env = [(false, eval eb env)] := by intro _; rfl) :
    JI F (.Tuple elts kk tpos) (.Call (.Name "zip" p) [ea, eb] [] pos) (xzip ma mb) := by
  obtain ⟨t, p', s⟩ := ha
  obtain ⟨t2, p2, s2⟩ := hb
  refine ⟨fun W => RZ.iZipA g.K (tCons (t W) (tCons (t2 W) tNil)), fun W X m => by
    have := RZ.pi_zipA (elts := elts) (kk := kk) (tpos := tpos) (p := p) (pos := pos) (X := X) (by show X.env.scope.names.lookup _ = _; rw [F.hsc m]; exact hg) (by rw [F.hmg m]; exact hm) (pa_cons (p' W X m) (pa_cons (p2 W X m) pa_nil (hs2 _)) (by rw [hs, hs2])) (by rw [hs, hs2]) (by rw [hs2]; rfl)
    rw [F.hK m] at this; exact this, ?_⟩
  intro W G H as st σ e R' R N h
  refine zip_read (fd := zipD) s s2 R N h ?_
  intro xs ys a b vs ws G1 H1 as1 st1 R1 r1 r2 ss k
  rcases ss with ⟨s1, s2⟩ | ⟨s1, s2⟩
  · exact ⟨a, b, vs, ws, rfl, .inl ⟨sqL_H R1 s1, sqL_H R1 s2, k _ (yl_zipL s1 s2 r1 r2)⟩⟩
  · exact ⟨a, b, vs, ws, rfl, .inr ⟨sqT_H R1 s1, sqT_H R1 s2, k _ (yl_zipT s1 s2 r1 r2)⟩⟩
end
end LS
end
section
set_option maxRecDepth 100000
set_option maxHeartbeats 2000000
namespace LS
open PySem PySem.Spec L2

/-! ## enumerate(zip(a, b)): the pair that zip gave out may live on -/
/-- a zip over two iterators; its pair is its own, or was given out -/
def ZipAt (h : Heap) (z TI TO : Addr) : Prop := ∃ (own : Value) (f : Bool), (own = .none ∨ ∃ T : Nat, own = rawInt T) ∧
  h.get? z = some { cls := .type "zip", dict := none, data := .fields #[own, .bool f, .bool false, .ref TI, .ref TO], slots := #[] }
section
variable {prog : Program} {w : World} {A : Around} {E : Value → Shared → Prop} {s : Shared} {z TI TO i1 i2 : Addr} {fp1 fp2 : List Addr} {n1 n2 i : Nat} {P1 P2 : Nat → Value → Prop} {St1 St2 : Nat → Heap → Prop}
abbrev ZRec (own : Value) (f : Bool) (TI TO : Addr) : Obj := { cls := .type "zip", dict := none, data := .fields #[own, .bool f, .bool false, .ref TI, .ref TO], slots := #[] }
theorem own_ask {own : Value} {f : Bool} {Q : Bool → Shared → Prop} (ho : own = .none ∨ ∃ T : Nat, own = rawInt T) (hz : s.heap.get? z = some (ZRec own f TI TO)) (hT : Q true s)
    (hF : ∀ h', h'.get? z = some (ZRec own true TI TO) → Heap.SameBut z s.heap h' → Q false { s with heap := h' }) : wpAny (model prog w) A (Builtin.SmallTypes.ownedTupleIsFree (.ref z)) Q E s := by
  unfold Builtin.SmallTypes.ownedTupleIsFree
  refine wpAny_bind (wpAny_field hz rfl (x := own) rfl ?_)
  rcases ho with rfl | ⟨T, rfl⟩
  · exact wpAny_pure hT
  · show wpAny _ _ (loadIfAlive ((T : Int).toNat) >>= _) _ _ _
    rw [Int.toNat_natCast]
    have la : ∀ {Q : Option Obj → Shared → Prop}, Q (s.heap.get? T) s → wpAny (model prog w) A (loadIfAlive T) Q E s := fun q _ _ _ => q
    refine wpAny_bind (la ?_)
    cases hg : s.heap.get? T with
    | none => exact wpAny_pure hT
    | some o =>
      simp only [Option.isNone_some, Bool.false_eq_true, if_false]
      refine wpAny_bind (wpAny_field hz rfl (x := .bool f) rfl ?_)
      cases f with
      | true => exact wpAny_pure (hF s.heap hz (Heap.SameBut.refl _ _))
      | false => exact wpAny_bind (wpAny_setField_rec hz (by simp) fun h1 a b => wpAny_pure (hF h1 a b))
theorem zip_any {Q : Value → Shared → Prop} (S : ZipSep2 z TI TO i1 i2 fp1 fp2) (D1 : Draws prog w A i1 fp1 n1 P1 St1) (D2 : Draws prog w A i2 fp2 n2 P2 St2)
    (hz : ZipAt s.heap z TI TO) (hTI : IsTupOf2 s.heap TI (.ref i1) (.ref i2)) (hTO : ∃ a b, IsTupOf2 s.heap TO a b) (st1 : St1 i s.heap) (st2 : St2 i s.heap) (l1 : i < n1) (l2 : i < n2)
    (hQ : ∀ x y h' tk, P1 i x → P2 i y → ZipAt h' z TI TO → (∃ a b, IsTupOf2 h' TO a b) → St1 (i + 1) h' → St2 (i + 1) h' → IsTupOf2 h' s.heap.objs.size x y → h'.objs.size = s.heap.objs.size + 1 →
      (∀ c o, c ≠ z → c ≠ TO → c ≠ i1 → c ≠ i2 → s.heap.get? c = some o → h'.get? c = some o) → Q (.ref s.heap.objs.size) { s with heap := h', toks := tk }) :
    wpAny (model prog w) A (Builtin.«zip.__next__» ⟨[.ref z], []⟩) (fun fin s' => ∃ v, fin = .done (.ret v) ∧ Q v s') E s := by
  obtain ⟨own, f, ho, hz⟩ := hz
  obtain ⟨a, b, hTO⟩ := hTO
  obtain ⟨hp, gn, dr, tk0, os⟩ := s
  have zlt : z < hp.objs.size := Heap.lt_size hz
  show wpAny _ _ (field (.ref z) 2 >>= _) _ _ _
  refine wpAny_bind (wpAny_field hz rfl (x := .bool false) rfl ?_)
  show wpAny _ _ (field (.ref z) 3 >>= _) _ _ _
  refine wpAny_bind (wpAny_field hz rfl (x := .ref TI) rfl ?_)
  refine wpAny_bind (wpAny_seqItems hTI rfl ?_)
  show wpAny _ _ (Builtin.SmallTypes.ownedTupleIsFree (.ref z) >>= _) _ _ _
  refine wpAny_bind (own_ask ho hz ?_ fun g0 hz0 hs0 => ?_)
  · -- its own pair again
    simp only [if_true]
    refine wpAny_bind (wpAny_rule ?_)
    refine wpAny_bind (wpAny_field hz rfl (x := .ref TO) rfl ?_)
    refine wpAny_bind (wpAny_setField_rec hz (by simp) fun g0 hz0 hs0 => ?_)
    replace hz0 : g0.get? z = some (ZRec .ellipsis f TI TO) := hz0
    replace hs0 : Heap.SameBut z hp g0 := hs0
    refine wpAny_bind ?_
    simp only [List.zipIdx_cons, List.zipIdx_nil, List.forIn_cons, List.forIn_nil]
    refine wpAny_bind (wpAny_bind (wpAny_onRaise ?_))
    show wpAny _ _ (Builtin.SmallTypes.nextOf (.ref i1) >>= _) _ _ ⟨g0, gn, dr, tk0, os⟩
    refine wpAny_bind (D1.item i _ _ _ l1 (D1.over st1 hs0 S.zf1) fun x q1 tk1 hx sn1 hq1 => wpAny_pure ?_)
    replace hq1 : Heap.SameBut i1 g0 q1 := hq1
    have u1 : IsTupOf2 q1 TO a b := hq1.extBut _ _ S.Ti1 (hs0.extBut _ _ S.TOz hTO)
    refine wpAny_bind (wpAny_seqItems (s := ⟨q1, gn, dr, tk1, os⟩) u1 rfl ?_)
    refine wpAny_bind (updateSeq_IsTupOf2 (s := ⟨q1, gn, dr, tk1, os⟩) u1 fun g1 t1 hs1 => ?_)
    replace t1 : IsTupOf2 g1 TO x b := t1
    replace hs1 : Heap.SameBut TO q1 g1 := hs1
    refine wpAny_bind (wpAny_letGo (wpAny_pure ?_))
    refine wpAny_bind (wpAny_bind (wpAny_onRaise ?_))
    show wpAny _ _ (Builtin.SmallTypes.nextOf (.ref i2) >>= _) _ _ ⟨g1, gn, dr, tk1, os⟩
    refine wpAny_bind (D2.item i _ _ _ l2 (D2.over (D2.over (D2.over st2 hs0 S.zf2) hq1 S.sep1_2) hs1 S.Tf2) fun y q2 tk2 hy sn2 hq2 => wpAny_pure ?_)
    replace hq2 : Heap.SameBut i2 g1 q2 := hq2
    have u2 : IsTupOf2 q2 TO x b := hq2.extBut _ _ S.Ti2 t1
    refine wpAny_bind (wpAny_seqItems (s := ⟨q2, gn, dr, tk2, os⟩) u2 rfl ?_)
    refine wpAny_bind (updateSeq_IsTupOf2 (s := ⟨q2, gn, dr, tk2, os⟩) u2 fun g2 t2 hs2 => ?_)
    replace t2 : IsTupOf2 g2 TO x y := t2
    replace hs2 : Heap.SameBut TO q2 g2 := hs2
    refine wpAny_bind (wpAny_letGo (wpAny_pure (wpAny_pure ?_)))
    refine wpAny_bind (wpAny_seqItems (s := ⟨g2, gn, dr, tk2, os⟩) t2 rfl ?_)
    refine wpAny_bind (wpAny_newTuple ?_)
    have sz : g2.objs.size = hp.objs.size := by rw [hs2.1, hq2.1, hs1.1, hq1.1, hs0.1]
    have zz : g2.get? z = some (ZRec .ellipsis f TI TO) := hs2.extBut _ _ S.TOz.symm (hq2.extBut _ _ S.zi2 (hs1.extBut _ _ S.TOz.symm (hq1.extBut _ _ S.zi1 hz0)))
    have kk : ∀ c o, c ≠ z → c ≠ TO → c ≠ i1 → c ≠ i2 → hp.get? c = some o → g2.get? c = some o := fun c o cz cT c1 c2 e => hs2.extBut _ _ cT (hq2.extBut _ _ c2 (hs1.extBut _ _ cT (hq1.extBut _ _ c1 (hs0.extBut _ _ cz e))))
    have j1 : St1 (i + 1) g2 := D1.over (D1.over (D1.over sn1 hs1 S.Tf1) hq2 S.sep2_1) hs2 S.Tf1
    have j2 : St2 (i + 1) g2 := D2.over sn2 hs2 S.Tf2
    show wpAny _ _ (Builtin.SmallTypes.ownedTupleHandOut (.ref z) (.ref g2.objs.size) >>= _) _ _ ⟨g2.push { cls := .type "tuple", data := .seq #[x, y] }, gn, dr, tk2, os⟩
    refine wpAny_bind ?_
    unfold Builtin.SmallTypes.ownedTupleHandOut
    have z6 : (g2.push { cls := .type "tuple", data := .seq #[x, y] }).get? z = some (ZRec .ellipsis f TI TO) := Heap.get?_push_of_some _ zz
    refine wpAny_bind (wpAny_setField_rec z6 (by simp) fun h7 z7 s7 => ?_)
    replace z7 : h7.get? z = some (ZRec (rawInt g2.objs.size) f TI TO) := z7
    refine wpAny_setField_rec z7 (by simp) fun h8 z8 s8 => ?_
    replace z8 : h8.get? z = some (ZRec (rawInt g2.objs.size) false TI TO) := z8
    replace s7 : Heap.SameBut z (g2.push { cls := .type "tuple", data := .seq #[x, y] }) h7 := s7
    replace s8 : Heap.SameBut z h7 h8 := s8
    have up : ∀ c o, c ≠ z → g2.get? c = some o → h8.get? c = some o := fun c o c1 e => s8.extBut _ _ c1 (s7.extBut _ _ c1 (Heap.get?_push_of_some _ e))
    have zl2 : z < g2.objs.size := by rw [sz]; exact zlt
    have t8 : IsTupOf2 h8 g2.objs.size x y := s8.extBut _ _ (Nat.ne_of_gt zl2) (s7.extBut _ _ (Nat.ne_of_gt zl2) (Heap.get?_push_size _ rfl))
    have sz8 : h8.objs.size = g2.objs.size + 1 := by rw [s8.1, s7.1, Heap.size_push]
    refine wpAny_pure ⟨_, rfl, ?_⟩
    show Q (.ref g2.objs.size) ⟨h8, gn, dr, tk2, os⟩
    rw [sz] at z8 t8 sz8 ⊢
    exact hQ x y h8 tk2 hx hy ⟨_, _, .inr ⟨_, rfl⟩, z8⟩ ⟨_, _, up _ _ S.TOz t2⟩ (D1.frame _ _ _ j1 fun c hc o e => up c o (fun q => S.zf1 (q ▸ hc)) e) (D2.frame _ _ _ j2 fun c hc o e => up c o (fun q => S.zf2 (q ▸ hc)) e) t8 sz8 fun c o cz cT c1 c2 e => up c o cz (kk c o cz cT c1 c2 e)
  · -- a new pair
    replace hs0 : Heap.SameBut z hp g0 := hs0
    simp only [Bool.false_eq_true, if_false]
    refine wpAny_bind ?_
    rw [← Array.forIn_toList]
    simp only [List.forIn_cons, List.forIn_nil]
    refine wpAny_bind (wpAny_bind (wpAny_holding ?_))
    show wpAny _ _ (Builtin.SmallTypes.nextOf (.ref i1) >>= _) _ _ ⟨g0, gn, dr, tk0, os⟩
    refine wpAny_bind (D1.item i _ _ _ l1 (D1.over st1 hs0 S.zf1) fun x q1 tk1 hx sn1 hq1 => wpAny_pure ?_)
    replace hq1 : Heap.SameBut i1 g0 q1 := hq1
    refine wpAny_pure ?_
    refine wpAny_bind (wpAny_bind (wpAny_holding ?_))
    show wpAny _ _ (Builtin.SmallTypes.nextOf (.ref i2) >>= _) _ _ ⟨q1, gn, dr, tk1, os⟩
    refine wpAny_bind (D2.item i _ _ _ l2 (D2.over (D2.over st2 hs0 S.zf2) hq1 S.sep1_2) fun y q2 tk2 hy sn2 hq2 => wpAny_pure ?_)
    replace hq2 : Heap.SameBut i2 q1 q2 := hq2
    refine wpAny_pure (wpAny_pure ?_)
    show wpAny _ _ (newTuple [x, y] >>= _) _ _ ⟨q2, gn, dr, tk2, os⟩
    refine wpAny_bind (wpAny_newTuple ?_)
    have sz : q2.objs.size = hp.objs.size := by rw [hq2.1, hq1.1, hs0.1]
    have zz : q2.get? z = some (ZRec own true TI TO) := hq2.extBut _ _ S.zi2 (hq1.extBut _ _ S.zi1 hz0)
    have kk : ∀ c o, c ≠ z → c ≠ i1 → c ≠ i2 → hp.get? c = some o → q2.get? c = some o := fun c o cz c1 c2 e => hq2.extBut _ _ c2 (hq1.extBut _ _ c1 (hs0.extBut _ _ cz e))
    have up : ∀ c o, q2.get? c = some o → (q2.push { cls := .type "tuple", data := .seq #[x, y] }).get? c = some o := fun c o e => Heap.get?_push_of_some _ e
    have t8 : IsTupOf2 (q2.push { cls := .type "tuple", data := .seq #[x, y] }) q2.objs.size x y := Heap.get?_push_size _ rfl
    have sz8 : (q2.push { cls := .type "tuple", data := .seq #[x, y] }).objs.size = q2.objs.size + 1 := Heap.size_push ..
    refine wpAny_pure ⟨_, rfl, ?_⟩
    show Q (.ref q2.objs.size) ⟨_, gn, dr, tk2, os⟩
    rw [sz] at t8 sz8 ⊢
    exact hQ x y _ tk2 hx hy ⟨_, _, ho, up _ _ zz⟩ ⟨_, _, up _ _ (kk _ _ S.TOz S.Ti1 S.Ti2 hTO)⟩ (D1.frame _ _ _ (D1.over sn1 hq2 S.sep2_1) fun c hc o e => up c o e) (D2.frame _ _ _ sn2 fun c hc o e => up c o e) t8 sz8 fun c o cz _ c1 c2 e => up c o (kk c o cz c1 c2 e)
theorem zip_any_end {Q : Fin → Shared → Prop} (S : ZipSep2 z TI TO i1 i2 fp1 fp2) (D1 : Draws prog w A i1 fp1 n1 P1 St1) (D2 : Draws prog w A i2 fp2 n2 P2 St2)
    (hz : ZipAt s.heap z TI TO) (hTI : IsTupOf2 s.heap TI (.ref i1) (.ref i2)) (hTO : ∃ a b, IsTupOf2 s.heap TO a b) (st1 : St1 i s.heap) (st2 : St2 i s.heap) (e1 : i ≤ n1) (e2 : i ≤ n2) (hend : i = n1 ∨ i = n2)
    (hE : ∀ h' tk e, (∀ c o, c ≠ z → c ≠ TO → c ≠ i1 → c ≠ i2 → s.heap.get? c = some o → h'.get? c = some o) → (∃ o, h'.get? e = some o ∧ o.cls = .type "StopIteration") → E (.ref e) { s with heap := h', toks := tk }) :
    wpAny (model prog w) A (Builtin.«zip.__next__» ⟨[.ref z], []⟩) Q E s := by
  obtain ⟨own, f, ho, hz⟩ := hz
  obtain ⟨a, b, hTO⟩ := hTO
  obtain ⟨hp, gn, dr, tk0, os⟩ := s
  show wpAny _ _ (field (.ref z) 2 >>= _) _ _ _
  refine wpAny_bind (wpAny_field hz rfl (x := .bool false) rfl ?_)
  show wpAny _ _ (field (.ref z) 3 >>= _) _ _ _
  refine wpAny_bind (wpAny_field hz rfl (x := .ref TI) rfl ?_)
  refine wpAny_bind (wpAny_seqItems hTI rfl ?_)
  show wpAny _ _ (Builtin.SmallTypes.ownedTupleIsFree (.ref z) >>= _) _ _ _
  refine wpAny_bind (own_ask ho hz ?_ fun g0 hz0 hs0 => ?_)
  · simp only [if_true]
    refine wpAny_bind (wpAny_rule ?_)
    refine wpAny_bind (wpAny_field hz rfl (x := .ref TO) rfl ?_)
    refine wpAny_bind (wpAny_setField_rec hz (by simp) fun g0 hz0 hs0 => ?_)
    replace hz0 : g0.get? z = some (ZRec .ellipsis f TI TO) := hz0
    replace hs0 : Heap.SameBut z hp g0 := hs0
    have fin : ∀ (q : Heap) (tk : Nat) (e : Addr) (it : Addr) (k : ∀ c o, c ≠ z → c ≠ TO → c ≠ i1 → c ≠ i2 → hp.get? c = some o → q.get? c = some o) (zq : q.get? z = some (ZRec .ellipsis f TI TO)) (he : ∃ o, q.get? e = some o ∧ o.cls = .type "StopIteration"),
        wpAny (model prog w) A (setField (.ref z) 0 .none) (fun _ s2 => E (.ref e) s2) E ⟨q, gn, dr, tk, os⟩ := by
      rintro q tk e it k zq ⟨oe, ge, ce⟩
      have ez : e ≠ z := fun x => by rw [x, zq] at ge; cases ge; simp at ce
      refine wpAny_setField_rec (s := ⟨q, gn, dr, tk, os⟩) zq (by simp) fun q' _ hq' => ?_
      replace hq' : Heap.SameBut z q q' := hq'
      exact hE q' tk e (fun c o cz cT c1 c2 x => hq'.extBut _ _ cz (k c o cz cT c1 c2 x)) ⟨oe, hq'.extBut _ _ ez ge, ce⟩
    refine wpAny_bind ?_
    simp only [List.zipIdx_cons, List.zipIdx_nil, List.forIn_cons, List.forIn_nil]
    refine wpAny_bind (wpAny_bind (wpAny_onRaise ?_))
    show wpAny _ _ (Builtin.SmallTypes.nextOf (.ref i1) >>= _) _ _ ⟨g0, gn, dr, tk0, os⟩
    by_cases l1 : i < n1
    · refine wpAny_bind (D1.item i _ _ _ l1 (D1.over st1 hs0 S.zf1) fun x q1 tk1 hx sn1 hq1 => wpAny_pure ?_)
      replace hq1 : Heap.SameBut i1 g0 q1 := hq1
      have u1 : IsTupOf2 q1 TO a b := hq1.extBut _ _ S.Ti1 (hs0.extBut _ _ S.TOz hTO)
      refine wpAny_bind (wpAny_seqItems (s := ⟨q1, gn, dr, tk1, os⟩) u1 rfl ?_)
      refine wpAny_bind (updateSeq_IsTupOf2 (s := ⟨q1, gn, dr, tk1, os⟩) u1 fun g1 t1 hs1 => ?_)
      replace hs1 : Heap.SameBut TO q1 g1 := hs1
      refine wpAny_bind (wpAny_letGo (wpAny_pure ?_))
      have h2 : i = n2 := by omega
      refine wpAny_bind (wpAny_bind (wpAny_onRaise ?_))
      show wpAny _ _ (Builtin.SmallTypes.nextOf (.ref i2) >>= _) _ _ ⟨g1, gn, dr, tk1, os⟩
      refine wpAny_bind (D2.done ⟨g1, gn, dr, tk1, os⟩ _ _ (by rw [← h2]; exact D2.over (D2.over (D2.over st2 hs0 S.zf2) hq1 S.sep1_2) hs1 S.Tf2) fun q e hq he => ?_)
      replace hq : Heap.ExtBut i2 g1 q := hq
      exact fin q tk1 e i2 (fun c o cz cT c1 c2 x => hq _ _ c2 (hs1.extBut _ _ cT (hq1.extBut _ _ c1 (hs0.extBut _ _ cz x)))) (hq _ _ S.zi2 (hs1.extBut _ _ S.TOz.symm (hq1.extBut _ _ S.zi1 hz0))) he
    · have h1 : i = n1 := by omega
      refine wpAny_bind (D1.done ⟨g0, gn, dr, tk0, os⟩ _ _ (by rw [← h1]; exact D1.over st1 hs0 S.zf1) fun q e hq he => ?_)
      replace hq : Heap.ExtBut i1 g0 q := hq
      exact fin q tk0 e i1 (fun c o cz cT c1 c2 x => hq _ _ c1 (hs0.extBut _ _ cz x)) (hq _ _ S.zi1 hz0) he
  · replace hs0 : Heap.SameBut z hp g0 := hs0
    simp only [Bool.false_eq_true, if_false]
    refine wpAny_bind ?_
    rw [← Array.forIn_toList]
    simp only [List.forIn_cons, List.forIn_nil]
    refine wpAny_bind (wpAny_bind (wpAny_holding ?_))
    show wpAny _ _ (Builtin.SmallTypes.nextOf (.ref i1) >>= _) _ _ ⟨g0, gn, dr, tk0, os⟩
    by_cases l1 : i < n1
    · refine wpAny_bind (D1.item i _ _ _ l1 (D1.over st1 hs0 S.zf1) fun x q1 tk1 hx sn1 hq1 => wpAny_pure ?_)
      replace hq1 : Heap.SameBut i1 g0 q1 := hq1
      refine wpAny_pure ?_
      have h2 : i = n2 := by omega
      refine wpAny_bind (wpAny_bind (wpAny_holding ?_))
      show wpAny _ _ (Builtin.SmallTypes.nextOf (.ref i2) >>= _) _ _ ⟨q1, gn, dr, tk1, os⟩
      refine wpAny_bind (D2.done ⟨q1, gn, dr, tk1, os⟩ _ _ (by rw [← h2]; exact D2.over (D2.over st2 hs0 S.zf2) hq1 S.sep1_2) fun q e hq he => ?_)
      replace hq : Heap.ExtBut i2 q1 q := hq
      exact hE q tk1 e (fun c o cz cT c1 c2 x => hq _ _ c2 (hq1.extBut _ _ c1 (hs0.extBut _ _ cz x))) he
    · have h1 : i = n1 := by omega
      refine wpAny_bind (D1.done ⟨g0, gn, dr, tk0, os⟩ _ _ (by rw [← h1]; exact D1.over st1 hs0 S.zf1) fun q e hq he => ?_)
      replace hq : Heap.ExtBut i1 g0 q := hq
      exact hE q tk0 e (fun c o cz cT c1 c2 x => hq _ _ c1 (hs0.extBut _ _ cz x)) he
end

section
variable {prog : Program} {w : World} {A : Around} {E : Value → Shared → Prop} {s : Shared} {e z TI TO i1 i2 : Addr} {fp1 fp2 : List Addr} {n1 n2 i : Nat} {k : Int} {P1 P2 : Nat → Value → Prop} {St1 St2 : Nat → Heap → Prop} {old : Value}
theorem enumZ_item {Q : Option Value → Shared → Prop} (S : ZipSep2 z TI TO i1 i2 fp1 fp2) (D1 : Draws prog w A.in1.in1 i1 fp1 n1 P1 St1) (D2 : Draws prog w A.in1.in1 i2 fp2 n2 P2 St2) (he : IsEnum s.heap e z k old) (ez : e ≠ z) (eT : e ≠ TO) (e1 : e ≠ i1) (e2 : e ≠ i2)
    (hz : ZipAt s.heap z TI TO) (hTI : IsTupOf2 s.heap TI (.ref i1) (.ref i2)) (hTO : ∃ a b, IsTupOf2 s.heap TO a b) (st1 : St1 i s.heap) (st2 : St2 i s.heap) (l1 : i < n1) (l2 : i < n2)
    (hQ : ∀ x y h1 h' tk, P1 i x → P2 i y → ZipAt h1 z TI TO → (∃ a b, IsTupOf2 h1 TO a b) → St1 (i + 1) h1 → St2 (i + 1) h1 → IsTupOf2 h1 s.heap.objs.size x y → h1.objs.size = s.heap.objs.size + 1 →
      (∀ c o, c ≠ z → c ≠ TO → c ≠ i1 → c ≠ i2 → s.heap.get? c = some o → h1.get? c = some o) →
      IsEnumOut h' e z (k + 1) (.ref s.heap.objs.size) h1.objs.size → h'.get? h1.objs.size = some { cls := .type "tuple", data := .seq #[.int k tk, .ref s.heap.objs.size] } → (∀ c o, c ≠ e → h1.get? c = some o → h'.get? c = some o) →
      Q (some (.ref h1.objs.size)) { s with heap := h', toks := tk + 1 }) : wpAny (model prog w) A (pyNext (.ref e)) Q E s := by
  have ty : s.TypeIs (.ref e) "enumerate" := ⟨_, he, rfl⟩
  obtain ⟨hp, gn, dr, tk0, os⟩ := s
  have tz : (⟨hp, gn, dr, tk0, os⟩ : Shared).TypeIs (.ref z) "zip" := let ⟨_, _, _, q⟩ := hz; ⟨_, q, rfl⟩
  unfold pyNext
  refine wpAny_bind (wpAny_attempt (wpAny_callSpecial?_slot (name := Str.ofString "__next__") ty F.slot_enumerate_next (wpAny_call_entry F.slot_enumerate_next ty F.entry_enumerate_next ?_ (F.args_enumerate_next_1 _))))
  show wpAny _ _ (field (.ref e) 2 >>= _) _ _ _
  refine wpAny_bind (wpAny_field he rfl (x := .ref z) rfl ?_)
  refine wpAny_bind ?_
  unfold Builtin.SmallTypes.nextOf
  refine wpAny_bind (wpAny_callSpecial?_slot (name := Str.ofString "__next__") tz F.slot_zip_next (wpAny_call_entry F.slot_zip_next tz F.entry_zip_next ?_ (F.args_zip_next_1 _)))
  refine zip_any S D1 D2 hz hTI hTO st1 st2 l1 l2 fun x y h1 tk hx hy z1 t1 s1 s2 p1 sz1 k1 => wpAny_pure ?_
  replace k1 : ∀ c o, c ≠ z → c ≠ TO → c ≠ i1 → c ≠ i2 → hp.get? c = some o → h1.get? c = some o := k1
  have he1 : IsEnum h1 e z k old := k1 _ _ ez eT e1 e2 he
  show wpAny _ _ (field (.ref e) 3 >>= _) _ _ ⟨h1, gn, dr, tk, os⟩
  refine wpAny_bind (wpAny_field he1 rfl (x := rawInt k) rfl ?_)
  show wpAny _ _ (field (.ref e) 4 >>= _) _ _ ⟨h1, gn, dr, tk, os⟩
  refine wpAny_bind (wpAny_field he1 rfl (x := .none) rfl ?_)
  show wpAny _ _ (mkInt k >>= _) _ _ ⟨h1, gn, dr, tk, os⟩
  refine wpAny_bind (wpAny_mkInt ?_)
  show wpAny _ _ (setField (.ref e) 3 (rawInt (k + 1)) >>= _) _ _ ⟨h1, gn, dr, tk + 1, os⟩
  refine wpAny_bind (wpAny_setField_rec he1 (by simp) fun h2 he2 b2 => ?_)
  replace b2 : Heap.SameBut e h1 h2 := b2
  replace he2 : IsEnum h2 e z (k + 1) old := he2
  show wpAny _ _ (setField (.ref e) 4 .none >>= _) _ _ ⟨h2, gn, dr, tk + 1, os⟩
  refine wpAny_bind (wpAny_setField_rec he2 (by simp) fun h3 he3 b3 => ?_)
  replace b3 : Heap.SameBut e h2 h3 := b3
  replace he3 : IsEnum h3 e z (k + 1) old := he3
  show wpAny _ _ (newTuple [.int k tk, .ref hp.objs.size] >>= _) _ _ ⟨h3, gn, dr, tk + 1, os⟩
  refine wpAny_bind (wpAny_newTuple ?_)
  have sz3 : h3.objs.size = h1.objs.size := by rw [b3.1, b2.1]
  have elt : e < h1.objs.size := Heap.lt_size he1
  have he4 : IsEnum (h3.push { cls := .type "tuple", data := .seq #[.int k tk, .ref hp.objs.size] }) e z (k + 1) old := Heap.get?_push_of_some _ he3
  have t4 : (h3.push { cls := .type "tuple", data := .seq #[.int k tk, .ref hp.objs.size] }).get? h1.objs.size = some { cls := .type "tuple", data := .seq #[.int k tk, .ref hp.objs.size] } := by rw [← sz3]; exact Heap.get?_push_size _ rfl
  have k4 : ∀ c o, c ≠ e → h1.get? c = some o → (h3.push { cls := .type "tuple", data := .seq #[.int k tk, .ref hp.objs.size] }).get? c = some o := fun c o ce q => Heap.get?_push_of_some _ (b3.extBut _ _ ce (b2.extBut _ _ ce q))
  generalize h3.push { cls := .type "tuple", data := .seq #[.int k tk, .ref hp.objs.size] } = h4 at he4 t4 k4
  show wpAny _ _ (Builtin.SmallTypes.ownedTupleIsFree (.ref e) >>= _) _ _ ⟨h4, gn, dr, tk + 1, os⟩
  rw [sz3]
  refine wpAny_bind ?_
  unfold Builtin.SmallTypes.ownedTupleIsFree
  refine wpAny_bind (wpAny_field he4 rfl (x := .none) rfl (wpAny_pure ?_))
  simp only [if_true]
  refine wpAny_bind (wpAny_rule (wpAny_bind (wpAny_field he4 rfl (x := old) rfl ?_)))
  refine wpAny_bind (wpAny_setField_rec he4 (by simp) fun h5 he5 b5 => ?_)
  replace b5 : Heap.SameBut e h4 h5 := b5
  replace he5 : IsEnum h5 e z (k + 1) (.ref hp.objs.size) := he5
  show wpAny _ _ (Builtin.SmallTypes.ownedTupleHandOut (.ref e) (.ref h1.objs.size) >>= _) _ _ ⟨h5, gn, dr, tk + 1, os⟩
  refine wpAny_bind ?_
  unfold Builtin.SmallTypes.ownedTupleHandOut
  refine wpAny_bind (wpAny_setField_rec he5 (by simp) fun h6 he6 b6 => ?_)
  replace b6 : Heap.SameBut e h5 h6 := b6
  replace he6 : IsEnumOut h6 e z (k + 1) (.ref hp.objs.size) h1.objs.size := he6
  refine wpAny_setField_rec he6 (by simp) fun h7 he7 b7 => ?_
  replace b7 : Heap.SameBut e h6 h7 := b7
  replace he7 : IsEnumOut h7 e z (k + 1) (.ref hp.objs.size) h1.objs.size := he7
  have up : ∀ c o, c ≠ e → h4.get? c = some o → h7.get? c = some o := fun c o ce q => b7.extBut _ _ ce (b6.extBut _ _ ce (b5.extBut _ _ ce q))
  exact wpAny_bind (wpAny_letGo (wpAny_pure ⟨_, rfl, wpAny_pure (hQ x y h1 h7 tk hx hy z1 t1 s1 s2 p1 sz1 k1 he7 (up _ _ (Nat.ne_of_gt elt) t4) fun c o ce q => up c o ce (k4 c o ce q))⟩))
theorem enumZ_end {Q : Option Value → Shared → Prop} (S : ZipSep2 z TI TO i1 i2 fp1 fp2) (D1 : Draws prog w A.in1.in1 i1 fp1 n1 P1 St1) (D2 : Draws prog w A.in1.in1 i2 fp2 n2 P2 St2) (he : IsEnum s.heap e z k old)
    (hz : ZipAt s.heap z TI TO) (hTI : IsTupOf2 s.heap TI (.ref i1) (.ref i2)) (hTO : ∃ a b, IsTupOf2 s.heap TO a b) (st1 : St1 i s.heap) (st2 : St2 i s.heap) (l1 : i ≤ n1) (l2 : i ≤ n2) (hend : i = n1 ∨ i = n2)
    (hQ : ∀ h' tk, (∀ c o, c ≠ z → c ≠ TO → c ≠ i1 → c ≠ i2 → s.heap.get? c = some o → h'.get? c = some o) → Q none { s with heap := h', toks := tk }) : wpAny (model prog w) A (pyNext (.ref e)) Q E s := by
  have ty : s.TypeIs (.ref e) "enumerate" := ⟨_, he, rfl⟩
  have tz : s.TypeIs (.ref z) "zip" := let ⟨_, _, _, q⟩ := hz; ⟨_, q, rfl⟩
  unfold pyNext
  refine wpAny_bind (wpAny_attempt (wpAny_callSpecial?_slot (name := Str.ofString "__next__") ty F.slot_enumerate_next (wpAny_call_entry F.slot_enumerate_next ty F.entry_enumerate_next ?_ (F.args_enumerate_next_1 _))))
  show wpAny _ _ (field (.ref e) 2 >>= _) _ _ _
  refine wpAny_bind (wpAny_field he rfl (x := .ref z) rfl ?_)
  refine wpAny_bind ?_
  unfold Builtin.SmallTypes.nextOf
  refine wpAny_bind (wpAny_callSpecial?_slot (name := Str.ofString "__next__") tz F.slot_zip_next (wpAny_call_entry F.slot_zip_next tz F.entry_zip_next ?_ (F.args_zip_next_1 _)))
  refine zip_any_end S D1 D2 hz hTI hTO st1 st2 l1 l2 hend fun h1 tk x k1 hx => ?_
  obtain ⟨o, ho, hc⟩ := hx
  refine wpAny_bind (wpAny_isInstance (T := "StopIteration") (b := true) ⟨o, ho, hc⟩ isSubtype_stop ?_)
  exact wpAny_pure (hQ _ _ k1)
end
/-- two tuples, walked side by side with their place -/
def ItEZ (K : PySem.W.Frag) (a b : Addr) : It :=
  ⟨fun i H => ∃ (xs ys : List V) (x y : V), SqT K H a xs ∧ SqT K H b ys ∧ xs[i]? = some x ∧ ys[i]? = some y,
    fun i H v H' => ∃ T U x y, v = .ref U ∧ H T = none ∧ upd H T (.tup [x, y]) U = none ∧ H' = upd (upd H T (.tup [x, y])) U (.tup [.int (i : Nat), .ref T]) ∧ (∀ xs, SqT K H a xs → xs[i]? = some x) ∧ ∀ ys, SqT K H b ys → ys[i]? = some y,
    fun i H => ∃ xs ys : List V, SqT K H a xs ∧ SqT K H b ys ∧ i = min xs.length ys.length⟩
theorem turn_enumZ {P : Program} {w : World} {K : PySem.W.Frag} {elts : List Expr} {kk : Nat} {tpos : Pos} {a b e z TI TO i1 i2 : Addr} (S : ZipSep2 z TI TO i1 i2 [i1, a] [i2, b]) (ez : e ≠ z) (eI : e ≠ TI) (eT : e ≠ TO) (e1 : e ≠ i1) (e2 : e ≠ i2) (ea : e ≠ a) (eb : e ≠ b) (h1a : a ≠ i1) (h2b : b ≠ i2) :
    Turn P w K (.Tuple elts kk tpos) (ItEZ K a b) [e, z, TI, TO, i1, i2] e (fun i h => (∃ old, IsEnum h e z ((i : Nat) : Int) old) ∧ ZipAt h z TI TO ∧ IsTupOf2 h TI (.ref i1) (.ref i2) ∧ (∃ x y, IsTupOf2 h TO x y) ∧ h.IsTupleIter i1 a i ∧ h.IsTupleIter i2 b i) := by
  have hmem : ∀ {c : Addr}, c ∈ [e, z, TI, TO, i1, i2] → c = e ∨ c = z ∨ c = TI ∨ c = TO ∨ c = i1 ∨ c = i2 := fun h => by simpa using h
  refine ⟨by simp, ?_, ?_, ?_, ?_, ?_⟩
  · rintro i h ⟨⟨old, q⟩, ⟨ow, f, _, qz⟩, qI, ⟨x, y, qO⟩, ⟨o1, g1, _, d1⟩, ⟨o2, g2, _, d2⟩⟩ c hc
    rcases hmem hc with r | r | r | r | r | r <;> rw [r]
    · exact ⟨_, q, fun v u => nomatch u⟩
    · exact ⟨_, qz, fun v u => nomatch u⟩
    · exact ⟨_, qI, fun v u => nomatch u⟩
    · exact ⟨_, qO, fun v u => nomatch u⟩
    · exact ⟨o1, g1, fun v u => by rw [d1] at u; cases u⟩
    · exact ⟨o2, g2, fun v u => by rw [d2] at u; cases u⟩
  · rintro i h h' ⟨⟨old, q⟩, ⟨ow, f, hw, qz⟩, qI, ⟨x, y, qO⟩, q1, q2⟩ k
    exact ⟨⟨old, k e (by simp) _ q⟩, ⟨ow, f, hw, k z (by simp) _ qz⟩, k TI (by simp) _ qI, ⟨x, y, k TO (by simp) _ qO⟩, q1.at fun o u => k i1 (by simp) o u, q2.at fun o u => k i2 (by simp) o u⟩
  · intro X hP hw hK hc i pins s σ H E I hf st hg
    subst hP hw hK
    obtain ⟨⟨old, q⟩, qz, qI, qO, q1, q2⟩ := st
    obtain ⟨xs, ys, x, y, hqx, hqy, hx, hy⟩ := hg
    obtain ⟨its, rv, p, _⟩ := I.tuple hqx
    obtain ⟨its2, rv2, p2, _⟩ := I.tuple hqy
    obtain ⟨u, hu, ru⟩ := rv.get hx
    obtain ⟨u2, hu2, ru2⟩ := rv2.get hy
    have lt1 := (List.getElem?_eq_some_iff.mp hu).1
    have lt2 := (List.getElem?_eq_some_iff.mp hu2).1
    have zlt : z < s.heap.objs.size := let ⟨_, _, _, r⟩ := qz; Heap.lt_size r
    have elt : e < s.heap.objs.size := Heap.lt_size q
    have d1 := Draws.tuple (prog := X.prog) (w := X.w) (A := X.A.in1.in1) (I.ok.hd hc) i1 a h1a its.toArray
    have d2 := Draws.tuple (prog := X.prog) (w := X.w) (A := X.A.in1.in1) (I.ok.hd hc) i2 b h2b its2.toArray
    refine enumZ_item S d1 d2 q ez eT e1 e2 qz qI qO ⟨q1, p⟩ ⟨q2, p2⟩ (by simpa using lt1) (by simpa using lt2) fun v v2 h1 h' tk hv hv2 z1 t1 s1 s2 pr sz1 k1 o1 pU k2 => ?_
    have ev : v = u := by
      have r : its.toArray[i]? = some v := hv
      simp at r
      rw [hu] at r; cases r; rfl
    have ev2 : v2 = u2 := by
      have r : its2.toArray[i]? = some v2 := hv2
      simp at r
      rw [hu2] at r; cases r; rfl
    subst ev ev2
    refine ⟨_, rfl, wpAny_letOwnedTupleGo_enum (s := { s with heap := h', toks := tk + 1 }) o1 fun h2 o2 sb => ?_⟩
    have nw1 : ObjOk X.prog X.w (upd H s.heap.objs.size (.tup [x, y])) h1 s.heap.objs.size (.tup [x, y]) := ⟨(show 2 ≤ sizeLine by decide), [v, v2], .cons ru (.cons ru2 .nil), ⟨_, pr, rfl, _, rfl⟩⟩
    have I1 := I.turnedNew (t' := tk) (h' := h1) (ch := [e, z, TI, TO, i1, i2]) (fun c o hb r => k1 c o (fun t => hb (by simp [t])) (fun t => hb (by simp [t])) (fun t => hb (by simp [t])) (fun t => hb (by simp [t])) r) hf (Nat.le_refl _) nw1
    have hlt : ∀ c ∈ [e, z, TI, TO, i1, i2], c < s.heap.objs.size := fun c hc => by
      rcases hmem hc with r | r | r | r | r | r <;> rw [r]
      · exact elt
      · exact zlt
      · exact Heap.lt_size qI
      · obtain ⟨_, _, qO⟩ := qO; exact Heap.lt_size qO
      · obtain ⟨_, r, _⟩ := q1; exact Heap.lt_size r
      · obtain ⟨_, r, _⟩ := q2; exact Heap.lt_size r
    have hT2 := (sb.2 _ (Nat.ne_of_gt (Nat.lt_of_lt_of_le elt (by rw [sz1]; exact Nat.le_succ _)))).trans pU
    have nw2 : ObjOk X.prog X.w (upd (upd H s.heap.objs.size (.tup [x, y])) h1.objs.size (.tup [.int (i : Nat), .ref s.heap.objs.size])) h2 h1.objs.size (.tup [.int (i : Nat), .ref s.heap.objs.size]) :=
      ⟨(show 2 ≤ sizeLine by decide), [.int i tk, .ref s.heap.objs.size], .cons ⟨_, rfl⟩ (.cons rfl .nil), ⟨_, hT2, rfl, _, rfl⟩⟩
    have hf1 : ∀ c ∈ [e], FpOk X pins (upd H s.heap.objs.size (.tup [x, y])) c := fun c hc => by
      cases List.mem_singleton.mp hc
      exact ⟨by rw [upd_ne (Nat.ne_of_lt elt)]; exact (hf e (by simp)).1, (hf e (by simp)).2⟩
    have I2 := I1.turnedNew (t' := tk + 1) (h' := h2) (ch := [e]) (fun c o hb r => (sb.2 c (fun t => hb (by simp [t]))).trans (k2 c o (fun t => hb (by simp [t])) r)) hf1 (Nat.le_refl _) nw2
    have up : ∀ c o, c ≠ e → h1.get? c = some o → h2.get? c = some o := fun c o ce r => (sb.2 c ce).trans (k2 c o ce r)
    refine ⟨.ref h1.objs.size, _, I2, (show RelV (.ref h1.objs.size) (.ref h1.objs.size) from rfl), ⟨_, _, x, y, rfl, I.hok.fresh (Nat.le_refl _), I1.hok.fresh (Nat.le_refl _), rfl, fun l hl => by rw [I.tuple_inj hl hqx]; exact hx, fun l hl => by rw [I.tuple_inj hl hqy]; exact hy⟩, ?_, fun c hc => ?_⟩
    · obtain ⟨ow, f, hw, z1⟩ := z1
      obtain ⟨r1, r2, t1⟩ := t1
      refine ⟨⟨.ref s.heap.objs.size, ?_⟩, ⟨ow, f, hw, up _ _ (Ne.symm ez) z1⟩, up _ _ (Ne.symm eI) (k1 _ _ S.TIz S.TITO S.TIi1 S.TIi2 qI), ⟨r1, r2, up _ _ (Ne.symm eT) t1⟩, s1.1.at fun o r => up _ o (Ne.symm e1) r, s2.1.at fun o r => up _ o (Ne.symm e2) r⟩
      rw [show ((i + 1 : Nat) : Int) = (i : Int) + 1 by omega]
      exact o2
    · have l := hlt c hc
      have l2 : c < h1.objs.size := by rw [sz1]; exact Nat.lt_succ_of_lt l
      rw [upd_ne (Nat.ne_of_lt l2), upd_ne (Nat.ne_of_lt l)]
      exact (hf c hc).1
  · intro X hP hw hK hc i pins s σ H E I hf st hg
    subst hP hw hK
    obtain ⟨⟨old, q⟩, qz, qI, qO, q1, q2⟩ := st
    obtain ⟨xs, ys, hqx, hqy, hi⟩ := hg
    obtain ⟨its, rv, p, _⟩ := I.tuple hqx
    obtain ⟨its2, rv2, p2, _⟩ := I.tuple hqy
    have l1 := rv.length
    have l2 := rv2.length
    have d1 := Draws.tuple (prog := X.prog) (w := X.w) (A := X.A.in1.in1) (I.ok.hd hc) i1 a h1a its.toArray
    have d2 := Draws.tuple (prog := X.prog) (w := X.w) (A := X.A.in1.in1) (I.ok.hd hc) i2 b h2b its2.toArray
    refine enumZ_end S d1 d2 q qz qI qO ⟨q1, p⟩ ⟨q2, p2⟩ (by simp; omega) (by simp; omega) (by simp; omega) fun h' tk k => ⟨rfl, I.turnedL (t' := tk) (ch := [e, z, TI, TO, i1, i2]) (fun c o hb r => k c o (fun t => hb (by simp [t])) (fun t => hb (by simp [t])) (fun t => hb (by simp [t])) (fun t => hb (by simp [t])) r) hf⟩
  · rintro A i s Q E ⟨⟨old, q⟩, _⟩ h
    exact wpAny_pyIter_enum q h
def iEnumZ (K : PySem.W.Frag) (ta : TA) : TI := fun σ H R => ta σ H fun vs H1 => ∃ a b xs ys, vs = [.ref a, .ref b] ∧ SqT K H1 a xs ∧ SqT K H1 b ys ∧ R (ItEZ K a b) H1
theorem pi_enumZ {X : Cx} {x y : Expr} {ta : TA} {p p2 pos2 pos tpos : Pos} {elts : List Expr} {kk : Nat} (hg : Gl X "enumerate") (hm : X.mg "enumerate" = none) (hg2 : Gl X "zip") (hm2 : X.mg "zip" = none) (ha : PA X [x, y] ta)
    (hs : starEach [.Call (.Name "zip" p2) [x, y] [] pos2] X.env = [(false, eval (.Call (.Name "zip" p2) [x, y] [] pos2) X.env)]) (hs2 : starEach [x, y] X.env = (false, eval x X.env) :: starEach [y] X.env) (hpl : (backTo pos2 (starEach [y] X.env)).any (·.1) = false) :
    PI X (.Tuple elts kk tpos) (.Call (.Name "enumerate" p) [.Call (.Name "zip" p2) [x, y] [] pos2] [] pos) (iEnumZ X.K ta) := by
  constructor
  intro pins s σ H R I h
  refine PyProof.Rows.Call_ (ld_blt I hg hm PyProof.Rows.boot_enumerate (PyProof.Rows.callWith_type1 ?_ hs rfl))
  rw [hs]
  show wpAny _ _ (spliced ((false, eval (.Call (.Name "zip" p2) [x, y] [] pos2) X.env) :: [])) _ _ s
  refine Calls.spliced_cons ?_
  refine PyProof.Rows.Call_ (ld_blt I hg2 hm2 PyProof.Rows.boot_zip (PyProof.Rows.callWith_type1 (thn (ha.run pos2 pins s σ H _ I h) fun us s1 q0 => ?_) hs2 hpl))
  obtain ⟨vs, H1, I1, r1, a, b, xs, ys, ex, hqx, hqy, q⟩ := q0
  subst ex
  cases r1 with
  | cons r rr =>
    cases rr with
    | cons r' rr =>
      cases rr
      cases r
      cases r'
      obtain ⟨its, rv, p1, _⟩ := I1.tuple hqx
      obtain ⟨its2, rv2, p2, _⟩ := I1.tuple hqy
      have pa : s1.heap.IsTuple a its.toArray := p1
      have pb : s1.heap.IsTuple b its2.toArray := p2
      have la : a < s1.heap.objs.size := let ⟨_, t, _⟩ := pa; Heap.lt_size t
      have lb : b < s1.heap.objs.size := let ⟨_, t, _⟩ := pb; Heap.lt_size t
      refine RZ.call_zipT pa pb fun h1 hz hTI hTO hi1 hi2 sz k1 => Calls.spliced_nil ?_
      refine call_enum1 (ia := fun _ => s1.heap.objs.size + 4) (mk := fun h => h) (Hh := fun h => h = h1) (fun _ _ _ _ t _ ht hq => wpAny_pyIter_zip (by rw [ht]; exact hz) hq) rfl fun h2 he k2 => wpAny_pyIter_enum he ?_
      generalize hN : s1.heap.objs.size = N at *
      have sz' : h1.objs.size = N + 5 := sz
      simp only [sz'] at he ⊢
      have I2 : Inv X pins σ H1 { s1 with heap := h2 } := I1.kept (t' := s1.toks) fun c o t => k2 _ _ (k1 _ _ t)
      have nn : ∀ (m : Nat) (c : Addr), c < N → N + m ≠ c := fun m c hc t => by
        have : N + m < N := by rw [t]; exact hc
        omega
      have aN : a ≠ N := Nat.ne_of_lt la
      have bN : b ≠ N + 1 := Ne.symm (nn 1 b lb)
      refine ⟨N + 5, [N + 5, N + 4, N + 2, N + 3, N, N + 1], _, _, H1, rfl, I2, turn_enumZ (a := a) (b := b) ?_ (by simp) (by simp) (by simp) (by simp) (by simp) (nn 5 a la) (nn 5 b lb) aN bN, ⟨⟨.none, he⟩, ⟨_, _, .inl rfl, k2 _ _ hz⟩, k2 _ _ hTI, ⟨_, _, k2 _ _ hTO⟩, hi1.at fun o t => k2 _ o t, hi2.at fun o t => k2 _ o t⟩, fun c hc => ?_, q⟩
      · have n1 := nn 1
        have n3 := nn 3
        have n4 := nn 4
        exact ⟨by simp, by simp, by simp, by simp, by simp, by simp [n4 a la], by simp [n3 a la], by simp, by simp, by simp [n4 b lb], by simp [n3 b lb], by simp [Ne.symm (Nat.ne_of_lt lb)], by simp [n1 a la]⟩
      · have hle : s1.heap.objs.size ≤ c := by
          rw [hN]
          have : c = N + 5 ∨ c = N + 4 ∨ c = N + 2 ∨ c = N + 3 ∨ c = N ∨ c = N + 1 := by simpa using hc
          rcases this with t | t | t | t | t | t <;> rw [t] <;> first | exact Nat.le_refl _ | exact Nat.le_add_right _ _
        exact I1.fpOk hle (I1.hok.fresh hle)

section
variable {g : Gb} {F : Fam g} {pos : Pos}
def ezD (xs ys : List D) : List D := enumD 0 (zipD xs ys)
theorem yl_enumZ {G0 H0 : Hp} {as0 : List Addr} {a b : Addr} {vs ws : List V} {xs ys : List D} (s : SqT g.K G0 a vs) (s2 : SqT g.K G0 b ws) (r : RpA g.K g.mg G0 as0 vs xs) (r2 : RpA g.K g.mg G0 as0 ws ys) : Yl g G0 H0 as0 none (ezD xs ys) (ItEZ g.K a b) where
  go := fun i G H as st hi R hs hp hl _ => by
    have hl : i < xs.length ∧ i < ys.length := by simp [ezD, enumD_len, zipD] at hi; omega
    have hv : i < vs.length := by rw [r.len]; exact hl.1
    have hw : i < ws.length := by rw [r2.len]; exact hl.2
    exact ⟨vs, ws, vs[i], ws[i], sqT_H R (sqT_sub hs s), sqT_H R (sqT_sub hs s2), List.getElem?_eq_getElem hv, List.getElem?_eq_getElem hw⟩
  stop := fun G H as st R hs hp hl _ => ⟨vs, ws, sqT_H R (sqT_sub hs s), sqT_H R (sqT_sub hs s2), by rw [r.len, r2.len]; simp [ezD, enumD_len, zipD]⟩
  yld := fun i G H as st v H' x R hs hp hl _ hx y => by
    obtain ⟨T, U, u, w, rfl, hT, hU, rfl, y1, y2⟩ := y
    unfold ezD at hx
    rw [enumD_get] at hx
    obtain ⟨d, hd, rfl⟩ := Option.map_eq_some_iff.mp hx
    obtain ⟨x0, x1, h0, h1, rfl⟩ := zipD_get _ _ _ hd
    obtain ⟨u', e1, ru⟩ := r.get h0
    obtain ⟨w', e2, rw'⟩ := r2.get h1
    have e3 := y1 vs (sqT_H R (sqT_sub hs s))
    have e4 := y2 ws (sqT_H R (sqT_sub hs s2))
    rw [e1] at e3; cases e3
    rw [e2] at e4; cases e4
    obtain ⟨R1, X1⟩ := R.still (o := .tup [u, w]) hT
    obtain ⟨R2, X2⟩ := R1.still (o := .tup [.int (i : Nat), .ref T]) hU
    have rT : Rp g.K g.mg (upd G T (.tup [u, w])) as (.ref T) (.tup [x0, x1]) := .tup (.of upd_same) (.cons ((ru.mono hs hp).ext X1) (.cons ((rw'.mono hs hp).ext X1) .nil))
    refine ⟨_, R2, X1.trans X2, .tup (.of upd_same) (.cons ?_ (.cons (rT.ext X2) .nil))⟩
    rw [show ((0 + i : Nat) : Int) = (i : Int) by simp]
    exact .int _
def zipTT : D → D → Option (List D × List D)
  | .tup xs, .tup ys => some (xs, ys)
  | _, _ => none
def xenumZ (ma mb : XM D) : XM (List D × Option Nat) := xbind ma fun x => xbind mb fun y => fun _ st => match zipTT x y with
  | some (xs, ys) => .ok (ezD xs ys, none) st
  | none => .stuck
theorem ji_enumZ {elts : List Expr} {kk : Nat} {tpos p p2 pos2 : Pos} {ea eb : Expr} {ma mb : XM D} (hg : F.sc.names.lookup ("enumerate" : Str) = some .globalImplicit) (hm : g.mg "enumerate" = none) (hg2 : F.sc.names.lookup ("zip" : Str) = some .globalImplicit) (hm2 : g.mg "zip" = none) (ha : JE F ea ma) (hb : JE F eb mb)
    (hs : ∀ env, starEach [ea, eb] env = [(false, eval ea env), (false, eval eb env)] := by intro _; rfl) (hs2 : ∀ env, starEach [eb] env = [(false, eval eb env)] := by intro _; rfl)
    (hs3 : ∀ env, starEach [.Call (.Name "zip" p2) [ea, eb] [] pos2] env = [(false, eval (.Call (.Name "zip" p2) [ea, eb] [] pos2) env)] := by intro _; rfl) :
    JI F (.Tuple elts kk tpos) (.Call (.Name "enumerate" p) [.Call (.Name "zip" p2) [ea, eb] [] pos2] [] pos) (xenumZ ma mb) := by
  obtain ⟨t, p', s⟩ := ha
  obtain ⟨t2, p2', s2⟩ := hb
  refine ⟨fun W => iEnumZ g.K (tCons (t W) (tCons (t2 W) tNil)), fun W X m => by
    have := pi_enumZ (elts := elts) (kk := kk) (tpos := tpos) (p := p) (p2 := p2) (pos2 := pos2) (pos := pos) (X := X) (by show X.env.scope.names.lookup _ = _; rw [F.hsc m]; exact hg) (by rw [F.hmg m]; exact hm) (by show X.env.scope.names.lookup _ = _; rw [F.hsc m]; exact hg2) (by rw [F.hmg m]; exact hm2) (pa_cons (p' W X m) (pa_cons (p2' W X m) pa_nil (hs2 _)) (by rw [hs, hs2])) (hs3 _) (by rw [hs, hs2]) (by rw [hs2]; rfl)
    rw [F.hK m] at this; exact this, ?_⟩
  intro W G H as st σ e R' R N h
  refine s W G H as st σ e _ R N ?_
  unfold xenumZ xbind at h
  cases q : ma e st with
  | stuck => rw [q] at h; exact h
  | exc c p st1 => rw [q] at h; exact h
  | ok x st1 =>
    simp only [q] at h
    intro v G1 H1 as1 R1 X1 rv
    refine s2 W G1 H1 as1 st1 σ e _ R1 (N.ext X1) ?_
    cases q2 : mb e st1 with
    | stuck => simp only [q2] at h; exact h
    | exc c p st2 =>
      simp only [q2] at h
      exact fun cls d G2 H2 as2 R2 X2 x2 => h cls d G2 H2 as2 R2 (X1.trans X2) x2
    | ok y st2 =>
      simp only [q2] at h
      intro w G2 H2 as2 R2 X2 rw'
      cases x with
      | tup xs =>
        cases y with
        | tup ys =>
          cases rv.ext X2 with
          | tup s1 r1 => cases rw' with
            | tup s2 r2 => exact ⟨_, _, _, _, rfl, sqT_H R2 s1, sqT_H R2 s2, h.2 _ G2 H2 as2 R2 (X1.trans X2) (yl_enumZ s1 s2 r1 r2)⟩
        | _ => exact h.elim
      | _ => exact h.elim
end
end LS
end
section
set_option maxRecDepth 100000
set_option maxHeartbeats 2000000
namespace LS
open PySem PySem.Spec L2
section
variable {g : Gb} {F : Fam g} {pos : Pos}
/-- a, b, c = x, y, z -/
def spar3 (i j l : Nat) (ma mb mc : XM D) : SM := sbind ma fun x => sbind mb fun y => sbind mc fun z => fun e st => .nx (((e.set i (some x)).set j (some y)).set l (some z)) st
theorem js_par3 (i j l : Nat) {x y z : Str} {a b c : Expr} {ma mb mc : XM D} {px py pz pt : Pos} {kt k2 pt2} (hi : F.N[i]? = some x) (hj : F.N[j]? = some y) (hl : F.N[l]? = some z) (hij : i ≠ j) (hil : i ≠ l) (hjl : j ≠ l) (hx : F.sc.names.lookup x = some .local) (hy : F.sc.names.lookup y = some .local) (hz : F.sc.names.lookup z = some .local)
    (ha : JE F a ma) (hb : JE F b mb) (hc : JE F c mc) (hw : ∀ W X, F.mem W X → swappedStores [.Tuple [.Name x px, .Name y py, .Name z pz] kt pt] (.Tuple [a, b, c] k2 pt2) X.env = pure (some [x, y, z]))
    (he : ∀ env, starEach [a, b, c] env = (false, eval a env) :: starEach [b, c] env := by intro _; rfl) (he2 : ∀ env, starEach [b, c] env = (false, eval b env) :: starEach [c] env := by intro _; rfl) (he3 : ∀ env, starEach [c] env = (false, eval c env) :: starEach [] env := by intro _; rfl)
    (hs : ∀ env, swapsWithSole [.Tuple [.Name x px, .Name y py, .Name z pz] kt pt] (.Tuple [a, b, c] k2 pt2) pos.line env = pure false := by intro _; rfl) :
    JS F (.Assign [.Tuple [.Name x px, .Name y py, .Name z pz] kt pt] (.Tuple [a, b, c] k2 pt2) pos) (spar3 i j l ma mb mc) := by
  obtain ⟨ta, pa, sa⟩ := ha
  obtain ⟨tb, pb, sb⟩ := hb
  obtain ⟨tc, pc, sc⟩ := hc
  refine ⟨fun W => tPar3 i j l (tCons (ta W) (tCons (tb W) (tCons (tc W) tNil))), fun W X m => ps_par3 (F.calm m) (by rw [F.hN m]; exact F.nd) (by rw [F.hN m]; exact hi) (by rw [F.hN m]; exact hj) (by rw [F.hN m]; exact hl) hij hil hjl (by rw [F.hsc m]; exact hx) (by rw [F.hsc m]; exact hy) (by rw [F.hsc m]; exact hz)
    (pa_cons (pa W X m) (pa_cons (pb W X m) (pa_cons (pc W X m) pa_nil (he3 _)) (he2 _)) (he _)) (hw W X m) (hs _), ?_⟩
  intro W G H as st σ e E R N h
  refine sa.oneS R N h fun x st1 v G1 H1 as1 R1 X1 N1 rv h1 => ?_
  refine sb.oneS R1 N1 h1 fun y st2 w G2 H2 as2 R2 X2 N2 rw' h2 => ?_
  refine sc.oneS R2 N2 h2 fun z st3 u G3 H3 as3 R3 X3 N3 ru h3 => ?_
  exact ⟨v, w, u, rfl, h3 _ G3 H3 as3 R3 (((N3.set i ((rv.ext X2).ext X3)).set j (rw'.ext X3)).set l ru) Ext.refl⟩
/-- a def whose promise is empty (the last turn of a recursion) -/
theorem fn_stuck {g : Gb} {st : Stmt} {x nm : Str} {N ps : List Str} {k : Nat} {f : Addr} {fd : FuncData} (hx : g.mg x = some (.ref f)) (D0 : FunD g.K nm nm (defArgs st) (defBody st) (defScope st) [] [] f fd) (S : FnScope N ps (defScope st))
    (hb : ∀ (kV doc pm : Value) (an : Option Addr) (cdv ct : Value) (us : List Value), us.length = ps.length → bindArgs (PySem.W.fnOf nm nm (defArgs st) (defBody st) (defScope st) .none kV doc pm an cdv ct) ⟨us, []⟩ = pure (ps.zip us)) : Fn g st x nm ps (k + 1) (fun _ _ => .stuck) := by
  refine ⟨f, fd, hx, D0, D0.bindsN hb, ?_⟩
  refine D0.ok S (fun vs H Q E h => ?_) (fun cdv A outer s H vs Q E hr h => ?_)
  · obtain ⟨G, as, st', ds, hl, R, r, q⟩ := h
    exact q.elim
  · obtain ⟨G, as, st', ds, hl, R, r, q⟩ := h
    exact q.elim
theorem outD_hout {g : Gb} : ∀ (G H G1 H1 : Hp) (as as1 : List Addr) (st1 : Store) (n : Nat) (W : WX) (σ : L2.St) (d : D) (v : V) (Q : VK), Ri g.K g.mg G1 H1 as1 st1 → Ext G H as G1 H1 as1 → as.length = n → Rp g.K g.mg G1 as1 v d → PX g.K g.mg W G H as σ (outD n d st1) Q → Q v H1 :=
  fun _ _ _ _ _ _ _ _ _ _ _ _ _ R X hn r h => outD_ok R X hn r h
theorem outM_hout {g : Gb} : ∀ (G H G1 H1 : Hp) (as as1 : List Addr) (st1 : Store) (n : Nat) (W : WX) (σ : L2.St) (d : D) (v : V) (Q : VK), Ri g.K g.mg G1 H1 as1 st1 → Ext G H as G1 H1 as1 → as.length = n → Rp g.K g.mg G1 as1 v d → PX g.K g.mg W G H as σ (outM n d st1) Q → Q v H1 :=
  fun _ _ _ _ _ _ _ _ _ _ _ _ _ R X hn r h => outM_ok R X hn r h
/-- the end of a law: what its def promises, world by world -/
theorem walk_w {l : PySem.W.OpenLaw} {n k : Nat} {q : Program} {loose : List Str} {XP : (Str → Option Value) → Heap → Prop} {YP : World → Heap → Prop} {d : DefRec} {x : Str}
    (hn : l.most = some n) (hn2 : n ≤ sizeLine) (hdf : d.params.defaults = []) (hr : Room k callerA)
    (F : ∀ (w : World) (mg : Str → Option Value) (fa : Addr) (h : Heap), YP w h → h.Ns mainGlobals mg → mg d.name = some (.ref fa) → ∃ (K : PySem.W.Frag) (fd : FuncData) (f : DF), K.In h ∧ (∀ (s : Shared) (u : Value), BindsTo s fd ⟨[u], []⟩ [(x, u)]) ∧
      (∀ ns : List Int, ns.length ≤ n → f [] [.sq (ns.map D.int)] = .ok (.bl true) []) ∧ ∀ base : Heap, K.In base → base.Ns mainGlobals mg → FnOk l.prog w K mg base (L2.CX l.prog w) k fa fd [x] (spS ⟨l.prog, w, K, mg, base⟩ 1 f)) :
    PySem.W.WalkO q loose XP YP l.row.toRowW d [] (fun f vs => PySem.call f vs) := by
  refine Att.attach_call hn hdf ?_
  intro w t0 t1 mg mb fa o pm cd doc a vs ns G Y ho hd hcd hmg hobj hints hlen hg
  obtain ⟨K, fd, f, KX, hb, hsp, hF⟩ := F w mg fa _ Y G.T.g hmg
  refine law_call (CX := L2.CX l.prog w) (sp := spS ⟨l.prog, w, K, mg, t1.heap⟩ 1 f) KX G.T.g G.T.b G.T.builtins G.T.nolimit hg hobj hints (Nat.le_trans hlen hn2) hr (fun base h1 h2 => hF base h1 h2) hb ?_ ?_
  · intro H hO hS
    refine ⟨H, [], [], [.sq (ns.map D.int)], rfl, ⟨fun _ _ h => h, rfl, .nil, fun _ h => (by cases h), fun i a o h => (by simp at h)⟩, .cons (.sq hS (RpA.of_ints ns)) .nil, ?_⟩
    rw [hsp ns hlen]
    intro v G' H' as' _ _ rv
    cases rv; rfl
  · rintro H e s' ⟨_, _, _, _, _, _, _, _, _, _, _, _, z⟩
    exact z
end
end LS
end
section
set_option maxRecDepth 100000
set_option maxHeartbeats 2000000
namespace LS
open PySem PySem.Spec L2

/-! # plain laws about mirrors -/
def iD (ns : List Int) : List D := ns.map D.int
@[simp] theorem iD_nil : iD [] = [] := rfl
@[simp] theorem iD_cons (n : Int) (r : List Int) : iD (n :: r) = .int n :: iD r := rfl
theorem iD_app (a b : List Int) : iD (a ++ b) = iD a ++ iD b := by simp [iD]
@[simp] theorem iD_len (ns : List Int) : (iD ns).length = ns.length := by simp [iD]
@[simp] theorem iD_get (ns : List Int) (i : Nat) : (iD ns)[i]? = ns[i]?.map D.int := by simp [iD]
theorem iD_snoc (a : List Int) (n : Int) : iD a ++ [.int n] = iD (a ++ [n]) := by simp [iD]
@[simp] theorem refsBs_iD (n : Nat) : ∀ ns : List Int, refsBs n (iD ns) = true
  | [] => rfl
  | _ :: r => by simp [refsBs, refsB, refsBs_iD n r]
@[simp] theorem pyDs_iD : ∀ ns : List Int, pyDs (iD ns) = some (ns.map PyData.int)
  | [] => rfl
  | _ :: r => by simp [pyDs, pyD, pyDs_iD r]
theorem intsOf_iD : ∀ ns : List Int, intsOf (iD ns) = some ns
  | [] => rfl
  | _ :: r => by simp [intsOf, intsOf_iD r]
theorem blsOf_bls : ∀ bs : List Bool, blsOf (bs.map D.bl) = some bs
  | [] => rfl
  | _ :: r => by simp [blsOf, blsOf_bls r]
@[simp] theorem eqvAll_int : ∀ a b : List Int, PyData.eqvAll (a.map PyData.int) (b.map PyData.int) = decide (a = b)
  | [], [] => by simp [PyData.eqvAll]
  | [], _ :: _ => by simp [PyData.eqvAll]
  | _ :: _, [] => by simp [PyData.eqvAll]
  | x :: a, y :: b => by
    simp [PyData.eqvAll, PyData.eqv, eqvAll_int a b]
    by_cases h : x = y <;> simp [h]
theorem canLayAll_int : ∀ a : List Int, PyData.canLayAll0 (a.map PyData.int) = true
  | [] => by simp [PyData.canLayAll0]
  | _ :: r => by simp [PyData.canLayAll0, PyData.canLay0, canLayAll_int r]
theorem depthAll_int : ∀ a : List Int, PyData.depthAll (a.map PyData.int) = 0
  | [] => by simp [PyData.depthAll]
  | _ :: r => by simp [PyData.depthAll, PyData.depth, depthAll_int r]
@[simp] theorem shaped_int (i : Int) : SeqAt.shaped (.int i) = true := by simp [SeqAt.shaped, PyData.canLay0, PyData.depth]
@[simp] theorem shaped_bool (i : Bool) : SeqAt.shaped (.bool i) = true := by simp [SeqAt.shaped, PyData.canLay0, PyData.depth]
@[simp] theorem shaped_none : SeqAt.shaped .none = true := by simp [SeqAt.shaped, PyData.canLay0, PyData.depth]
@[simp] theorem shaped_tint (a : List Int) : SeqAt.shaped (.tuple (a.map PyData.int)) = true := by simp [SeqAt.shaped, PyData.canLay0, PyData.depth, canLayAll_int, depthAll_int]
@[simp] theorem shaped_lint (a : List Int) : SeqAt.shaped (.list (a.map PyData.int)) = true := by simp [SeqAt.shaped, PyData.canLay0, PyData.depth, canLayAll_int, depthAll_int]
@[simp] theorem eqO_int (st : Store) (a b : Int) : eqO st (.int a) (.int b) = some (decide (a = b)) := by
  simp [eqO, pyOf, pyD, PyData.eqv]
  by_cases h : a = b <;> simp [h]
@[simp] theorem eqO_bl (st : Store) (a b : Bool) : eqO st (.bl a) (.bl b) = some (a == b) := by simp [eqO, pyOf, pyD, PyData.eqv]
@[simp] theorem eqO_tiD (st : Store) (a b : List Int) : eqO st (.tup (iD a)) (.tup (iD b)) = some (decide (a = b)) := by simp [eqO, pyOf, pyD, PyData.eqv]
@[simp] theorem eqO_lints (st : Store) (a b : List Int) : eqO st (.lst (iD a)) (.lst (iD b)) = some (decide (a = b)) := by simp [eqO, pyOf, pyD, PyData.eqv]
theorem atI_nat {α : Type} (xs : List α) (k : Nat) : atI xs (k : Int) = xs[k]? := by
  unfold atI ixN
  by_cases h : k < xs.length
  · simp [h]
  · simp [h]
theorem atI_nn {α : Type} (xs : List α) {i : Int} (h : 0 ≤ i) : atI xs i = xs[i.toNat]? := by
  have := atI_nat xs i.toNat
  rw [Int.toNat_of_nonneg h] at this
  exact this
theorem atI_last {α : Type} (xs : List α) (x : α) : atI (xs ++ [x]) (-1) = some x := by
  unfold atI ixN
  rw [if_neg (by omega), if_pos (by simp; omega)]
  simp
  have : ((-1 : Int) + ((xs.length : Int) + 1)).toNat = xs.length := by omega
  rw [this]; simp
theorem ixN_nn {n : Nat} {k : Nat} (h : k < n) : ixN n (k : Int) = some k := by
  unfold ixN
  rw [if_pos (by omega), if_pos (by omega)]; simp

mutual
theorem refsB_mono {n k : Nat} (h : n ≤ k) : ∀ {d : D}, refsB n d = true → refsB k d = true
  | .non, _ => rfl
  | .bl _, _ => rfl
  | .int _, _ => rfl
  | .str _, _ => rfl
  | .ty _, _ => rfl
  | .glo _, _ => rfl
  | .tup xs, q => by simpa [refsB] using refsBs_mono h (d := xs) (by simpa [refsB] using q)
  | .lst xs, q => by simpa [refsB] using refsBs_mono h (d := xs) (by simpa [refsB] using q)
  | .sq xs, q => by simpa [refsB] using refsBs_mono h (d := xs) (by simpa [refsB] using q)
  | .tpz xs, q => by simpa [refsB] using refsBs_mono h (d := xs) (by simpa [refsB] using q)
  | .ref i, q => by simp [refsB] at q ⊢; omega
theorem refsBs_mono {n k : Nat} (h : n ≤ k) : ∀ {d : List D}, refsBs n d = true → refsBs k d = true
  | [], _ => rfl
  | x :: r, q => by
    have q' : refsB n x = true ∧ refsBs n r = true := by simpa [refsBs] using q
    simp [refsBs, refsB_mono h q'.1, refsBs_mono h q'.2]
end
/-! ## calls -/
mutual
theorem mapR_free {ix : List Nat} {N : Nat} : ∀ {d : D}, refsB 0 d = true → mapR ix N d = d
  | .non, _ => rfl
  | .bl _, _ => rfl
  | .int _, _ => rfl
  | .str _, _ => rfl
  | .ty _, _ => rfl
  | .glo _, _ => rfl
  | .tup xs, h => by rw [mapR, mapRs_free (d := xs) (by simpa [refsB] using h)]
  | .lst xs, h => by rw [mapR, mapRs_free (d := xs) (by simpa [refsB] using h)]
  | .sq xs, h => by rw [mapR, mapRs_free (d := xs) (by simpa [refsB] using h)]
  | .tpz xs, h => by rw [mapR, mapRs_free (d := xs) (by simpa [refsB] using h)]
  | .ref i, h => by simp [refsB] at h
theorem mapRs_free {ix : List Nat} {N : Nat} : ∀ {d : List D}, refsBs 0 d = true → mapRs ix N d = d
  | [], _ => rfl
  | x :: r, h => by
    have h' : refsB 0 x = true ∧ refsBs 0 r = true := by simpa [refsBs] using h
    rw [mapRs, mapR_free h'.1, mapRs_free h'.2]
end
theorem argG_free : ∀ {ds : List D}, refsBs 0 ds = true → ds.all argG = true
  | [], _ => rfl
  | x :: r, h => by
    have h' : refsB 0 x = true ∧ refsBs 0 r = true := by simpa [refsBs] using h
    have : argG x = true := by cases x <;> first | exact h'.1 | rfl
    simp [this, argG_free h'.2]
theorem loc_free (ix : List Nat) : ∀ {ds : List D}, refsIn ds = [] → ds.map (locG ix) = ds
  | [], _ => rfl
  | x :: r, h => by
    cases x <;> simp_all [refsIn] <;> exact ⟨rfl, loc_free ix (by assumption)⟩
theorem callOk0 {ds : List D} {st : Store} (hi : refsIn ds = []) (hb : refsBs 0 ds = true) : callOk ds st = true := by
  unfold callOk
  rw [hi, argG_free hb]; rfl
theorem callD0N {f : DF} {ds : List D} {r : D} {e : Nv} {st nw : Store} (hi : refsIn ds = []) (hb : refsBs 0 ds = true) (h : f [] ds = .ok r nw) (hm : nw.all (moB 0) = true) : callD f ds e st = .ok (mapR [] st.length r) (st ++ nw) := by
  unfold callD
  rw [if_pos (callOk0 hi hb), hi, loc_free [] hi]
  show backD [] st (f [] ds) = _
  rw [h]
  simp [backD, hm, putS]
theorem callD0 {f : DF} {ds : List D} {r : D} {e : Nv} {st : Store} (hi : refsIn ds = []) (hb : refsBs 0 ds = true) (h : f [] ds = .ok r []) (hr : refsB 0 r = true) : callD f ds e st = .ok r st := by
  rw [callD0N hi hb h rfl, mapR_free hr]; simp
theorem callDM {f : DF} {ds : List D} {m : MO} {e : Nv} {st : Store} (hi : refsIn ds = []) (hb : refsBs 0 ds = true) (h : f [] ds = .ok (.ref 0) [m]) (hm : moB 0 m = true) : callD f ds e st = .ok (.ref st.length) (st ++ [m]) := by
  rw [callD0N hi hb h (by simp [hm])]; simp [mapR]
def loc1 : D → D
  | .ref _ => .ref 0
  | d => d
theorem loc_one (i : Nat) : ∀ {ds : List D}, (∀ j, D.ref j ∈ ds → j = i) → ds.map (locG [i]) = ds.map loc1
  | [], _ => rfl
  | x :: r, h => by
    have ih := loc_one i (ds := r) fun j hj => h j (by simp [hj])
    rw [List.map_cons, List.map_cons, ih]
    congr 1
    cases x with
    | ref j => rw [h j (by simp)]; simp [locG, loc1]
    | _ => rfl
/-- one moving object is handed -/
theorem callD1N {f : DF} {ds : List D} {i : Nat} {m m' : MO} {r : D} {e : Nv} {st nw : Store} (hi : refsIn ds = [i]) (hb : ds.all argG = true) (hm : st[i]? = some m) (bm : moB 0 m = true) (h : f [m] (ds.map loc1) = .ok r (m' :: nw)) (bm' : moB 0 m' = true) (bn : nw.all (moB 0) = true) : callD f ds e st = .ok (mapR [i] st.length r) (st.set i m' ++ nw) := by
  have hl : i < st.length := (List.getElem?_eq_some_iff.mp hm).1
  have hp : pickS st [i] = [m] := by simp [pickS, List.getD_eq_getElem?_getD, hm]
  have ok : callOk ds st = true := by
    unfold callOk
    rw [hi, hb, hp]
    simp [hl, bm]
  unfold callD
  rw [if_pos ok, hi, hp, loc_one i fun j hj => by have := refsIn_mem hj; rw [hi] at this; simpa using this]
  rw [h]
  simp [backD, bm', bn, putS]
theorem callD1 {f : DF} {ds : List D} {i : Nat} {m m' : MO} {r : D} {e : Nv} {st : Store} (hi : refsIn ds = [i]) (hb : ds.all argG = true) (hm : st[i]? = some m) (bm : moB 0 m = true) (h : f [m] (ds.map loc1) = .ok r [m']) (bm' : moB 0 m' = true) (hr : refsB 0 r = true) : callD f ds e st = .ok r (st.set i m') := by
  rw [callD1N hi hb hm bm h bm' rfl, mapR_free hr]; simp

/-! ## loops -/
theorem sloop_nil {src : Option Nat} {items : List D} {gt : MG} {body : SM} {e : Nv} {st : Store} (hs : srcOk src items st = true) : sloop src items gt body [] e st = .nx e st := by simp [sloop, hs]
theorem sloop_cons {src : Option Nat} {items r : List D} {gt : MG} {body : SM} {x : D} {e e1 e2 : Nv} {st st1 st2 : Store} (hs : srcOk src items st = true) (h1 : gt x e st = some (e1, st1)) (h2 : body e1 st1 = .nx e2 st2) : sloop src items gt body (x :: r) e st = sloop src items gt body r e2 st2 := by
  simp [sloop, hs, h1, h2]
theorem sloop_rt {src : Option Nat} {items r : List D} {gt : MG} {body : SM} {x : D} {e e1 : Nv} {st st1 st2 : Store} {d : D} (hs : srcOk src items st = true) (h1 : gt x e st = some (e1, st1)) (h2 : body e1 st1 = .rt d st2) : sloop src items gt body (x :: r) e st = .rt d st2 := by
  simp [sloop, hs, h1, h2]
theorem sloop_inv {src : Option Nat} {items : List D} {gt : MG} {body : SM} (Inv : Nv → Store → Prop) (hs : ∀ e st, Inv e st → srcOk src items st = true) : ∀ (l : List D) (step : ∀ x ∈ l, ∀ e st, Inv e st → ∃ e1 st1, gt x e st = some (e1, st1) ∧ ∃ e2 st2, (body e1 st1 = .nx e2 st2 ∨ body e1 st1 = .ct e2 st2) ∧ Inv e2 st2) (e : Nv) (st : Store), Inv e st → ∃ e' st', sloop src items gt body l e st = .nx e' st' ∧ Inv e' st'
  | [], _, e, st, I => ⟨e, st, by simp [sloop, hs e st I], I⟩
  | x :: r, step, e, st, I => by
    obtain ⟨e1, st1, h1, e2, st2, h2, I2⟩ := step x (by simp) e st I
    obtain ⟨e3, st3, h3, I3⟩ := sloop_inv Inv hs r (fun y hy => step y (by simp [hy])) e2 st2 I2
    refine ⟨e3, st3, ?_, I3⟩
    unfold sloop
    rw [if_pos (hs e st I), h1]
    rcases h2 with h2 | h2 <;> simp [h2, h3]
theorem cloop_pure {src : Option Nat} {items : List D} {gt : MG} {mt : XM Bool} {me : XM D} {e : Nv} {st : Store} (c : D → Bool) (f : D → D) (hs : srcOk src items st = true) : ∀ (l acc : List D), (∀ x ∈ l, ∃ e1, gt x e st = some (e1, st) ∧ mt e1 st = .ok (c x) st ∧ (c x = true → me e1 st = .ok (f x) st)) → acc.length + l.length ≤ LIM →
    cloop src items gt mt me e l acc st = .ok (acc ++ (l.filter c).map f) st
  | [], acc, _, _ => by simp [cloop, hs]
  | x :: r, acc, h, hl => by
    obtain ⟨e1, h1, h2, h3⟩ := h x (by simp)
    have hl' : acc.length + (r.length + 1) ≤ LIM := by simpa using hl
    unfold cloop
    rw [if_pos hs, h1]
    cases hc : c x with
    | false =>
      simp only [h2, hc]
      rw [cloop_pure c f hs r acc (fun y hy => h y (by simp [hy])) (by omega)]
      simp [hc]
    | true =>
      simp only [h2, hc, h3 hc]
      rw [if_pos (by omega), cloop_pure c f hs r (acc ++ [f x]) (fun y hy => h y (by simp [hy])) (by simp; omega)]
      simp [hc]
theorem cloop_inv {src : Option Nat} {items : List D} {gt : MG} {mt : XM Bool} {me : XM D} {e : Nv} (Inv : Store → Prop) (P : D → Prop) (hs : ∀ st, Inv st → srcOk src items st = true) : ∀ (l acc : List D) (st : Store), (∀ x ∈ l, ∀ st, Inv st → ∃ e1, gt x e st = some (e1, st) ∧ mt e1 st = .ok true st ∧ ∃ d st2, me e1 st = .ok d st2 ∧ P d ∧ Inv st2) → Inv st → acc.length + l.length ≤ LIM →
    ∃ ds st', cloop src items gt mt me e l acc st = .ok (acc ++ ds) st' ∧ ds.length = l.length ∧ (∀ d ∈ ds, P d) ∧ Inv st'
  | [], acc, st, _, I, _ => ⟨[], st, by simp [cloop, hs st I], rfl, by simp, I⟩
  | x :: r, acc, st, h, I, hl => by
    obtain ⟨e1, h1, h2, d, st2, h3, p, I2⟩ := h x (by simp) st I
    have hl' : acc.length + (r.length + 1) ≤ LIM := by simpa using hl
    obtain ⟨ds, st', q, hlen, hp, I'⟩ := cloop_inv Inv P hs r (acc ++ [d]) st2 (fun y hy => h y (by simp [hy])) I2 (by simp; omega)
    refine ⟨d :: ds, st', ?_, by simp [hlen], ?_, I'⟩
    · unfold cloop
      rw [if_pos (hs st I), h1]
      simp only [h2, h3]
      rw [if_pos (by omega), q]
      simp
    · intro y hy
      rcases List.mem_cons.mp hy with rfl | hy
      · exact p
      · exact hp y hy
@[simp] theorem filter_yes {α : Type} (l : List α) : l.filter (fun _ => true) = l := by induction l <;> simp_all
@[simp] theorem filter_no {α : Type} (l : List α) : l.filter (fun _ => false) = [] := by induction l <;> simp_all
theorem rangeL_len (lo : Int) (n : Nat) : (rangeL lo n).length = n := by simp [rangeL]
theorem mem_rangeL {lo : Int} {n : Nat} {x : D} (h : x ∈ rangeL lo n) : ∃ i : Nat, i < n ∧ x = .int (lo + (i : Int)) := by
  unfold rangeL at h
  obtain ⟨i, hi, e⟩ := List.mem_map.mp h
  exact ⟨i, by simpa using hi, e.symm⟩
/-- data that can be held against each other: plain, not deep, not long -/
def okD : Nat → D → Bool
  | 0, _ => false
  | n + 1, x => match x with
    | .non => true
    | .bl _ => true
    | .int _ => true
    | .str s => decide (s.cps.all (· < 0x110000) = true)
    | .tup xs => decide (xs.length ≤ LIM) && xs.all (okD n)
    | .lst xs => decide (xs.length ≤ LIM) && xs.all (okD n)
    | _ => false
theorem okD_int (n : Nat) (i : Int) : okD (n + 1) (.int i) = true := rfl
theorem okD_bl (n : Nat) (i : Bool) : okD (n + 1) (.bl i) = true := rfl
theorem okD_non (n : Nat) : okD (n + 1) .non = true := rfl
theorem okD_tup {n : Nat} {xs : List D} (h : xs.length ≤ LIM) (h2 : xs.all (okD n) = true) : okD (n + 1) (.tup xs) = true := by simp only [okD, h, h2]; rfl
theorem okD_lst {n : Nat} {xs : List D} (h : xs.length ≤ LIM) (h2 : xs.all (okD n) = true) : okD (n + 1) (.lst xs) = true := by simp only [okD, h, h2]; rfl
theorem okD_cons {n : Nat} {x : D} {xs : List D} (h : okD n x = true) (h2 : xs.all (okD n) = true) : (x :: xs).all (okD n) = true := by simp [h, h2]
theorem okD_nil {n : Nat} : ([] : List D).all (okD n) = true := rfl
theorem okD_iD (n : Nat) (ns : List Int) : (iD ns).all (okD (n + 1)) = true := by
  rw [List.all_eq_true]
  intro x hx
  unfold iD at hx
  obtain ⟨i, _, rfl⟩ := List.mem_map.mp hx
  rfl
theorem refsB_okD : ∀ (n : Nat) (x : D), okD n x = true → refsB 0 x = true
  | 0, _, h => by simp [okD] at h
  | n + 1, x, h => by
    have all : ∀ xs : List D, xs.all (okD n) = true → refsBs 0 xs = true := by
      intro xs
      induction xs with
      | nil => intro _; rfl
      | cons y r ih =>
        intro q
        have q' : okD n y = true ∧ r.all (okD n) = true := by simpa using q
        simp [refsBs, refsB_okD n y q'.1, ih q'.2]
    cases x <;> simp_all [okD, refsB]
end LS
end
section
set_option maxRecDepth 100000
set_option maxHeartbeats 2000000
namespace LS
open PySem PySem.Spec L2
section
variable {α β : Type} {e : Nv} {st : Store}
@[simp] theorem ap_pure (a : α) : xpure a e st = .ok a st := rfl
@[simp] theorem ap_bind (m : XM α) (f : α → XM β) : xbind m f e st = match m e st with | .ok a st' => f a e st' | .exc c p st' => .exc c p st' | .stuck => .stuck := rfl
@[simp] theorem ap_var (i : Nat) : xvar i e st = match e[i]? with | some (some d) => .ok d st | _ => .stuck := rfl
@[simp] theorem ap_cons (m : XM D) (ms : XM (List D)) : xcons m ms e st = xbind m (fun x => xbind ms fun xs => xpure (x :: xs)) e st := rfl
@[simp] theorem ap_tup (ms : XM (List D)) : xtup ms e st = match ms e st with | .ok xs st' => if xs.length ≤ LIM then .ok (.tup xs) st' else .stuck | .exc c p st' => .exc c p st' | .stuck => .stuck := by
  unfold xtup xbind
  cases ms e st <;> rfl
@[simp] theorem ap_lst (ms : XM (List D)) : xlst ms e st = match ms e st with | .ok xs st' => if xs.length ≤ LIM then .ok (.lst xs) st' else .stuck | .exc c p st' => .exc c p st' | .stuck => .stuck := by
  unfold xlst xbind
  cases ms e st <;> rfl
@[simp] theorem ap_lstM (ms : XM (List D)) : xlstM ms e st = match ms e st with | .ok xs st' => if xs.length ≤ LIM then .ok (.ref st'.length) (st' ++ [.lst xs]) else .stuck | .exc c p st' => .exc c p st' | .stuck => .stuck := by
  unfold xlstM xbind
  cases ms e st <;> rfl
@[simp] theorem ap_op (f : D → D → XM D) (a b : XM D) : xop f a b e st = xbind a (fun x => xbind b fun y => f x y) e st := rfl
@[simp] theorem ap_bool (m : XM D) : xbool m e st = match m e st with | .ok (.bl b) st' => .ok b st' | .ok _ _ => .stuck | .exc c p st' => .exc c p st' | .stuck => .stuck := by
  unfold xbool xbind
  cases m e st with
  | ok d st' => cases d <;> rfl
  | _ => rfl
@[simp] theorem ap_chain (f f' : D → D → XM D) (a b c : XM D) : xchain f f' a b c e st = xbind a (fun x => xbind b fun y => xbind (f x y) fun z => match z with | .bl true => xbind c fun w => f' y w | .bl false => xpure (.bl false) | _ => fun _ _ => .stuck) e st := rfl
@[simp] theorem tru_bl (b : Bool) : truD st (.bl b) = some b := rfl
@[simp] theorem tru_non : truD st .non = some false := rfl
@[simp] theorem tru_int (i : Int) : truD st (.int i) = some (i != 0) := rfl
@[simp] theorem tru_tup (xs : List D) : truD st (.tup xs) = some (!xs.isEmpty) := rfl
@[simp] theorem tru_lst (xs : List D) : truD st (.lst xs) = some (!xs.isEmpty) := rfl
@[simp] theorem ap_tru (m : XM D) : xtru m e st = match m e st with | .ok d st' => (match truD st' d with | some b => .ok b st' | none => .stuck) | .exc c p st' => .exc c p st' | .stuck => .stuck := by
  unfold xtru xbind
  cases m e st <;> rfl
@[simp] theorem ap_tnot (m : XM Bool) : tnot m e st = match m e st with | .ok b st' => .ok (!b) st' | .exc c p st' => .exc c p st' | .stuck => .stuck := by
  unfold tnot xbind
  cases m e st <;> rfl
@[simp] theorem ap_tand (m n : XM Bool) : tand m n e st = match m e st with | .ok true st' => n e st' | .ok false st' => .ok false st' | .exc c p st' => .exc c p st' | .stuck => .stuck := by
  unfold tand xbind
  cases m e st with
  | ok d st' => cases d <;> rfl
  | _ => rfl
@[simp] theorem ap_tor (m n : XM Bool) : tor m n e st = match m e st with | .ok true st' => .ok true st' | .ok false st' => n e st' | .exc c p st' => .exc c p st' | .stuck => .stuck := by
  unfold tor xbind
  cases m e st with
  | ok d st' => cases d <;> rfl
  | _ => rfl
@[simp] theorem ap_and (m n : XM D) : xand m n e st = match m e st with | .ok d st' => (match truD st' d with | some true => n e st' | some false => .ok d st' | none => .stuck) | .exc c p st' => .exc c p st' | .stuck => .stuck := by
  unfold xand xbind
  cases m e st <;> rfl
@[simp] theorem ap_or (m n : XM D) : xor' m n e st = match m e st with | .ok d st' => (match truD st' d with | some false => n e st' | some true => .ok d st' | none => .stuck) | .exc c p st' => .exc c p st' | .stuck => .stuck := by
  unfold xor' xbind
  cases m e st <;> rfl
@[simp] theorem ap_not (m : XM D) : xnot m e st = match m e st with | .ok d st' => (match truD st' d with | some b => .ok (.bl (!b)) st' | none => .stuck) | .exc c p st' => .exc c p st' | .stuck => .stuck := by
  unfold xnot xbind
  cases m e st <;> rfl
@[simp] theorem ap_if (c : XM Bool) (m n : XM D) : xif c m n e st = match c e st with | .ok true st' => m e st' | .ok false st' => n e st' | .exc c p st' => .exc c p st' | .stuck => .stuck := by
  unfold xif xbind
  cases c e st with
  | ok d st' => cases d <;> rfl
  | _ => rfl
@[simp] theorem ap_neg (m : XM D) : xneg m e st = match m e st with | .ok (.int i) st' => .ok (.int (-i)) st' | .ok _ _ => .stuck | .exc c p st' => .exc c p st' | .stuck => .stuck := by
  unfold xneg xbind
  cases m e st with
  | ok d st' => cases d <;> rfl
  | _ => rfl
@[simp] theorem add_int (i j : Int) : addD (.int i) (.int j) e st = .ok (.int (i + j)) st := rfl
@[simp] theorem add_lst (xs ys : List D) : addD (.lst xs) (.lst ys) e st = if xs.length + ys.length ≤ LIM then .ok (.lst (xs ++ ys)) st else .stuck := rfl
@[simp] theorem add_sq (xs ys : List D) : addD (.sq xs) (.lst ys) e st = .stuck := rfl
@[simp] theorem add_tup (xs ys : List D) : addD (.tup xs) (.tup ys) e st = if xs.length + ys.length ≤ LIM then .ok (.tup (xs ++ ys)) st else .stuck := rfl
@[simp] theorem i2_int (c : Int → Int → Bool) (f : Int → Int → D) (i j : Int) : i2 c f (.int i) (.int j) e st = if c i j = true then .ok (f i j) st else .stuck := rfl
@[simp] theorem eq_ap (x y : D) : eqD x y e st = match eqO st x y with | some b => .ok (.bl b) st | none => .stuck := rfl
@[simp] theorem ne_ap (x y : D) : neD x y e st = match eqO st x y with | some b => .ok (.bl (!b)) st | none => .stuck := rfl
@[simp] theorem lt_int (i j : Int) : ltD (.int i) (.int j) e st = .ok (.bl (decide (i < j))) st := rfl
@[simp] theorem is_ap (x : D) : isD x .non e st = .ok (.bl (isN x)) st := rfl
@[simp] theorem isnt_ap (x : D) : isntD x .non e st = .ok (.bl (!isN x)) st := rfl
@[simp] theorem isN_non : isN .non = true := rfl
@[simp] theorem isN_int (i : Int) : isN (.int i) = false := rfl
@[simp] theorem isN_bl (i : Bool) : isN (.bl i) = false := rfl
@[simp] theorem isN_str (i : Str) : isN (.str i) = false := rfl
@[simp] theorem isN_tup (i : List D) : isN (.tup i) = false := rfl
@[simp] theorem isN_lst (i : List D) : isN (.lst i) = false := rfl
@[simp] theorem ix_tup (xs : List D) (i : Int) : ixD (.tup xs) (.int i) e st = match atI xs i with | some d => .ok d st | none => .stuck := rfl
@[simp] theorem ix_lst (xs : List D) (i : Int) : ixD (.lst xs) (.int i) e st = match atI xs i with | some d => .ok d st | none => .stuck := rfl
@[simp] theorem ix_sq (xs : List D) (i : Int) : ixD (.sq xs) (.int i) e st = match atI xs i with | some d => .ok d st | none => .stuck := rfl
theorem ix_ref (k : Nat) (xs : List D) (i : Int) (h : st[k]? = some (.lst xs)) : ixD (.ref k) (.int i) e st = match atI xs i with | some d => .ok d st | none => .stuck := by
  unfold ixD
  simp only [seqOf, lstOf, h] <;> rfl
@[simp] theorem ix_ref0 (xs : List D) (i : Int) (r : Store) : ixD (.ref 0) (.int i) e (.lst xs :: r) = match atI xs i with | some d => .ok d (.lst xs :: r) | none => .stuck := ix_ref 0 xs i rfl
@[simp] theorem ix_ref1 (m : MO) (xs : List D) (i : Int) (r : Store) : ixD (.ref 1) (.int i) e (m :: .lst xs :: r) = match atI xs i with | some d => .ok d (m :: .lst xs :: r) | none => .stuck := ix_ref 1 xs i rfl
@[simp] theorem ap_part (m : XM D) : xpart m e st = match m e st with | .ok (.int i) st' => .ok (some i) st' | .ok _ _ => .stuck | .exc c p st' => .exc c p st' | .stuck => .stuck := by
  unfold xpart xbind
  cases m e st with
  | ok d st' => cases d <;> rfl
  | _ => rfl
@[simp] theorem ap_slice (m : XM D) (a b : XM (Option Int)) : xslice m a b e st = xbind m (fun x => xbind a fun l => xbind b fun h => slD x l h) e st := rfl
@[simp] theorem sl_tup (xs : List D) (a b : Option Int) : slD (.tup xs) a b e st = .ok (.tup (cutD xs a b)) st := rfl
@[simp] theorem sl_sq (xs : List D) (a b : Option Int) : slD (.sq xs) a b e st = .ok (.lst (cutD xs a b)) st := rfl
@[simp] theorem sl_lst (xs : List D) (a b : Option Int) : slD (.lst xs) a b e st = .ok (.lst (cutD xs a b)) st := rfl
@[simp] theorem ap_call (f : List D → XM D) (ms : XM (List D)) : xcall f ms e st = match ms e st with | .ok a st' => f a e st' | .exc c p st' => .exc c p st' | .stuck => .stuck := by
  unfold xcall xbind
  cases ms e st <;> rfl
@[simp] theorem f1_ap (f : D → XM D) (x : D) : f1 f [x] = f x := rfl
@[simp] theorem f2_ap (f : D → D → XM D) (x y : D) : f2 f [x, y] = f x y := rfl
@[simp] theorem len_tup (xs : List D) : lenD (.tup xs) e st = .ok (.int xs.length) st := rfl
@[simp] theorem len_lst (xs : List D) : lenD (.lst xs) e st = .ok (.int xs.length) st := rfl
@[simp] theorem len_sq (xs : List D) : lenD (.sq xs) e st = .ok (.int xs.length) st := rfl
@[simp] theorem abs_int (i : Int) : absD (.int i) e st = .ok (.int i.natAbs) st := rfl
@[simp] theorem int_int (i : Int) : intD (.int i) e st = .ok (.int i) st := rfl
@[simp] theorem max2_int (i j : Int) : max2D (.int i) (.int j) e st = .ok (.int (max i j)) st := rfl
@[simp] theorem min2_int (i j : Int) : min2D (.int i) (.int j) e st = .ok (.int (min i j)) st := rfl
@[simp] theorem dm_int (i j : Int) : divmodD (.int i) (.int j) e st = if 0 < j ∧ j < 1073741824 then .ok (.tup [.int (i / j), .int (i % j)]) st else .stuck := rfl
@[simp] theorem sum_tup (ns : List Int) : sumD (.tup (iD ns)) e st = .ok (.int ns.sum) st := by simp [intsD, seqOf, intsOf_iD]
@[simp] theorem sum_lst (ns : List Int) : sumD (.lst (iD ns)) e st = .ok (.int ns.sum) st := by simp [intsD, seqOf, lstOf, intsOf_iD]
theorem all_bls {e : Nv} {st : Store} (bs : List Bool) : allD (.lst (bs.map D.bl)) e st = .ok (.bl (bs.all id)) st := by simp [blsD, lstOf, blsOf_bls]
theorem any_bls {e : Nv} {st : Store} (bs : List Bool) : anyD (.lst (bs.map D.bl)) e st = .ok (.bl (bs.any id)) st := by simp [blsD, lstOf, blsOf_bls]
@[simp] theorem list_tup (xs : List D) : listD (.tup xs) e st = .ok (.lst xs) st := rfl
@[simp] theorem list_lst (xs : List D) : listD (.lst xs) e st = .ok (.lst xs) st := rfl
@[simp] theorem tuple_lst (xs : List D) : tupleD (.lst xs) e st = .ok (.tup xs) st := rfl
@[simp] theorem tuple_tup (xs : List D) : tupleD (.tup xs) e st = .ok (.tup xs) st := rfl
@[simp] theorem tuple_ref0 (xs : List D) (r : Store) : tupleD (.ref 0) e (.lst xs :: r) = .ok (.tup xs) (.lst xs :: r) := rfl
@[simp] theorem tuple_ref1 (m : MO) (xs : List D) (r : Store) : tupleD (.ref 1) e (m :: .lst xs :: r) = .ok (.tup xs) (m :: .lst xs :: r) := rfl
@[simp] theorem isi_ap (x : D) (n : String) : isiD x (.ty n) e st = match isiO x n with | some b => (if refOk st x = true then .ok (.bl b) st else .stuck) | none => .stuck := rfl
@[simp] theorem isi2_ap (x : D) (n1 n2 : String) : isi2D n1 n2 x e st = match isiO x n1, isiO x n2 with | some a, some b => (if refOk st x = true then .ok (.bl (a || b)) st else .stuck) | _, _ => .stuck := rfl
@[simp] theorem ro_int (i : Int) : refOk st (.int i) = true := rfl
@[simp] theorem ro_bl (i : Bool) : refOk st (.bl i) = true := rfl
@[simp] theorem ro_str (i : Str) : refOk st (.str i) = true := rfl
@[simp] theorem ro_non : refOk st .non = true := rfl
@[simp] theorem ro_tup (i : List D) : refOk st (.tup i) = true := rfl
@[simp] theorem ro_lst (i : List D) : refOk st (.lst i) = true := rfl
@[simp] theorem ro_sq (i : List D) : refOk st (.sq i) = true := rfl
theorem isi_of {x : D} {a n : String} (h : tyNm x = some a) (k : knownTy n = true) : isiO x n = some (isiB a n) := by unfold isiO; rw [h]; simp [k]
@[simp] theorem ii_ii (i : Int) : isiO (.int i) "int" = some true := isi_of (a := "int") rfl (by decide)
@[simp] theorem ii_ib (i : Int) : isiO (.int i) "bool" = some false := isi_of (a := "int") rfl (by decide)
@[simp] theorem ii_is (i : Int) : isiO (.int i) "str" = some false := isi_of (a := "int") rfl (by decide)
@[simp] theorem ii_it (i : Int) : isiO (.int i) "tuple" = some false := isi_of (a := "int") rfl (by decide)
@[simp] theorem ii_il (i : Int) : isiO (.int i) "list" = some false := isi_of (a := "int") rfl (by decide)
@[simp] theorem ii_id (i : Int) : isiO (.int i) "dict" = some false := isi_of (a := "int") rfl (by decide)
@[simp] theorem ii_bi (i : Bool) : isiO (.bl i) "int" = some true := by decide +revert
@[simp] theorem ii_bb (i : Bool) : isiO (.bl i) "bool" = some true := by decide +revert
@[simp] theorem ii_bs (i : Bool) : isiO (.bl i) "str" = some false := by decide +revert
@[simp] theorem ii_bt (i : Bool) : isiO (.bl i) "tuple" = some false := by decide +revert
@[simp] theorem ii_bL (i : Bool) : isiO (.bl i) "list" = some false := by decide +revert
@[simp] theorem ii_ni : isiO .non "int" = some false := by decide
@[simp] theorem ii_nb : isiO .non "bool" = some false := by decide
@[simp] theorem ii_ns : isiO .non "str" = some false := by decide
@[simp] theorem ii_nt : isiO .non "tuple" = some false := by decide
@[simp] theorem ii_nl : isiO .non "list" = some false := by decide
@[simp] theorem ii_si (i : Str) : isiO (.str i) "int" = some false := isi_of (a := "str") rfl (by decide)
@[simp] theorem ii_sb (i : Str) : isiO (.str i) "bool" = some false := isi_of (a := "str") rfl (by decide)
@[simp] theorem ii_ss (i : Str) : isiO (.str i) "str" = some true := isi_of (a := "str") rfl (by decide)
@[simp] theorem ii_st (i : Str) : isiO (.str i) "tuple" = some false := isi_of (a := "str") rfl (by decide)
@[simp] theorem ii_sl (i : Str) : isiO (.str i) "list" = some false := isi_of (a := "str") rfl (by decide)
@[simp] theorem ii_ti (i : List D) : isiO (.tup i) "int" = some false := isi_of (a := "tuple") rfl (by decide)
@[simp] theorem ii_tb (i : List D) : isiO (.tup i) "bool" = some false := isi_of (a := "tuple") rfl (by decide)
@[simp] theorem ii_ts (i : List D) : isiO (.tup i) "str" = some false := isi_of (a := "tuple") rfl (by decide)
@[simp] theorem ii_tt (i : List D) : isiO (.tup i) "tuple" = some true := isi_of (a := "tuple") rfl (by decide)
@[simp] theorem ii_tl (i : List D) : isiO (.tup i) "list" = some false := isi_of (a := "tuple") rfl (by decide)
@[simp] theorem ii_li (i : List D) : isiO (.lst i) "int" = some false := isi_of (a := "list") rfl (by decide)
@[simp] theorem ii_lb (i : List D) : isiO (.lst i) "bool" = some false := isi_of (a := "list") rfl (by decide)
@[simp] theorem ii_ls (i : List D) : isiO (.lst i) "str" = some false := isi_of (a := "list") rfl (by decide)
@[simp] theorem ii_lt (i : List D) : isiO (.lst i) "tuple" = some false := isi_of (a := "list") rfl (by decide)
@[simp] theorem ii_ll (i : List D) : isiO (.lst i) "list" = some true := isi_of (a := "list") rfl (by decide)
/-! statements -/
@[simp] theorem ap_next : snext e st = .nx e st := rfl
@[simp] theorem ap_seq (m n : SM) : sseq m n e st = match m e st with | .nx e' st' => n e' st' | r => r := rfl
theorem seq_nx {m n : SM} {e' : Nv} {st' : Store} (h : m e st = .nx e' st') : sseq m n e st = n e' st' := by rw [ap_seq, h]
theorem seq_rt {m n : SM} {d : D} {st' : Store} (h : m e st = .rt d st') : sseq m n e st = .rt d st' := by rw [ap_seq, h]
@[simp] theorem ap_sbind (m : XM D) (f : D → SM) : sbind m f e st = match m e st with | .ok d st' => f d e st' | .exc c p st' => .exc c p e st' | .stuck => .stuck := rfl
@[simp] theorem ap_drop (m : XM D) : sdrop m e st = match m e st with | .ok d st' => .nx e st' | .exc c p st' => .exc c p e st' | .stuck => .stuck := rfl
@[simp] theorem ap_ret (m : XM D) : sret m e st = match m e st with | .ok d st' => .rt d st' | .exc c p st' => .exc c p e st' | .stuck => .stuck := rfl
@[simp] theorem ap_retN : sretN e st = .rt .non st := rfl
@[simp] theorem ap_sif (c : XM Bool) (m n : SM) : sif c m n e st = match c e st with | .ok true st' => m e st' | .ok false st' => n e st' | .exc c p st' => .exc c p e st' | .stuck => .stuck := by
  unfold sif sbindB
  cases c e st with
  | ok d st' => cases d <;> rfl
  | _ => rfl
@[simp] theorem ap_set (i : Nat) (m : XM D) : sset i m e st = match m e st with | .ok d st' => .nx (e.set i (some d)) st' | .exc c p st' => .exc c p e st' | .stuck => .stuck := rfl
@[simp] theorem ap_asg (m : XM D) (g : MG) : sasg m g e st = match m e st with | .ok d st' => (match g d e st' with | some (e', st'') => .nx e' st'' | none => .stuck) | .exc c p st' => .exc c p e st' | .stuck => .stuck := by
  unfold sasg sbind
  cases m e st <;> rfl
@[simp] theorem ap_par2 (i j : Nat) (a b : XM D) : spar2 i j a b e st = sbind a (fun x => sbind b fun y => fun e st => .nx ((e.set i (some x)).set j (some y)) st) e st := rfl
@[simp] theorem ap_par3 (i j l : Nat) (a b c : XM D) : spar3 i j l a b c e st = sbind a (fun x => sbind b fun y => sbind c fun z => fun e st => .nx (((e.set i (some x)).set j (some y)).set l (some z)) st) e st := rfl
@[simp] theorem ap_gname (i : Nat) (x : D) : gname i x e st = some (e.set i (some x), st) := rfl
@[simp] theorem ap_gtup (n : Nat) (ms : MGs) (xs : List D) : gtup n ms (.tup xs) e st = if xs.length = n then ms xs e st else none := rfl
@[simp] theorem ap_gcons (m : MG) (ms : MGs) (x : D) (r : List D) : gcons m ms (x :: r) e st = match m x e st with | some (e', st') => ms r e' st' | none => none := rfl
@[simp] theorem ap_gnil : gnil [] e st = some (e, st) := rfl
@[simp] theorem ap_for (mi : XM (List D × Option Nat)) (g : MG) (b : SM) : sfor mi g b e st = match mi e st with | .ok (xs, src) st1 => sloop src xs g b xs e st1 | .exc c p st' => .exc c p e st' | .stuck => .stuck := rfl
@[simp] theorem isLst_0 (xs : List D) (r : Store) : isLst (.lst xs :: r) 0 = true := rfl
@[simp] theorem isLst_1 (m : MO) (xs : List D) (r : Store) : isLst (m :: .lst xs :: r) 1 = true := rfl
@[simp] theorem ap_append (mo me : XM D) : xappend mo me e st = match mo e st with | .ok (.ref k) st1 => (if isLst st1 k = true then (match me e st1 with | .ok x st2 => (match st2[k]? with | some (.lst xs) => if xs.length < LIM then .ok .non (st2.set k (.lst (xs ++ [x]))) else .stuck | _ => .stuck) | .exc c p st' => .exc c p st' | .stuck => .stuck) else .stuck) | .ok _ _ => .stuck | .exc c p st' => .exc c p st' | .stuck => .stuck := by
  unfold xappend xbind
  cases mo e st with
  | ok d st' =>
    cases d with
    | ref k => rfl
    | _ => rfl
  | _ => rfl
@[simp] theorem ap_gsub (mo mi : XM D) (x : D) : gsub mo mi x e st = match mo e st, mi e st with
  | .ok (.ref k) _, .ok (.int i) _ => (match st[k]? with
    | some (.lst xs) => (match ixN xs.length i with
      | some j => some (e, st.set k (.lst (xs.set j x)))
      | none => none)
    | _ => none)
  | _, _ => none := rfl
@[simp] theorem ap_walk (m : XM D) : xwalk m e st = match m e st with | .ok d st' => (match seqSrc st' d with | some r => .ok r st' | none => .stuck) | .exc c p st' => .exc c p st' | .stuck => .stuck := by
  unfold xwalk xbind
  cases m e st <;> rfl
@[simp] theorem src_tup (xs : List D) : seqSrc st (.tup xs) = some (xs, none) := rfl
@[simp] theorem src_lst (xs : List D) : seqSrc st (.lst xs) = some (xs, none) := rfl
@[simp] theorem src_sq (xs : List D) : seqSrc st (.sq xs) = some (xs, none) := rfl
def rngB (j : Int) : Bool := decide (-(2 ^ 62) ≤ j ∧ j < 2 ^ 62)
theorem rngB_of {j : Int} (h0 : -1000000 ≤ j) (h1 : j ≤ 1000000) : rngB j = true := by
  unfold rngB
  exact decide_eq_true ⟨by omega, by omega⟩
theorem rngB_nat {n : Nat} (h : n ≤ LIM) : rngB (n : Int) = true := rngB_of (by omega) (by simp [LIM] at h; omega)
@[simp] theorem ap_range1 (m : XM D) : xrange1 m e st = match m e st with | .ok (.int j) st' => (if rngB j = true then .ok (rangeL 0 j.toNat, none) st' else .stuck) | .ok _ _ => .stuck | .exc c p st' => .exc c p st' | .stuck => .stuck := by
  unfold xrange1 xbind rngB
  cases m e st with
  | ok d st' =>
    cases d with
    | int j => simp only [decide_eq_true_eq]
    | _ => rfl
  | _ => rfl
@[simp] theorem ap_enum (m : XM D) : xenum m e st = match m e st with | .ok d st' => (match stillOf d with | some xs => .ok (enumD 0 xs, none) st' | none => .stuck) | .exc c p st' => .exc c p st' | .stuck => .stuck := by
  unfold xenum xbind
  cases m e st <;> rfl
@[simp] theorem still_tup (xs : List D) : stillOf (.tup xs) = some xs := rfl
@[simp] theorem still_lst (xs : List D) : stillOf (.lst xs) = some xs := rfl
@[simp] theorem ap_enumZ (ma mb : XM D) : xenumZ ma mb e st = xbind ma (fun x => xbind mb fun y => fun _ st => match zipTT x y with | some (xs, ys) => .ok (ezD xs ys, none) st | none => .stuck) e st := rfl
@[simp] theorem zipTT_tup (xs ys : List D) : zipTT (.tup xs) (.tup ys) = some (xs, ys) := rfl
@[simp] theorem ap_comp (mi : XM (List D × Option Nat)) (vs : List Nat) (g : MG) (mt : XM Bool) (me : XM D) : xcomp mi vs g mt me e st = match mi e st with
  | .ok (xs, src) st1 => (match cloop src xs g mt me (wipeE e vs) xs [] st1 with | .ok ds st2 => .ok (.lst ds) st2 | .exc c p st' => .exc c p st' | .stuck => .stuck)
  | .exc c p st' => .exc c p st' | .stuck => .stuck := by
  unfold xcomp xbind xcompL xpure
  cases mi e st with
  | ok r st' => obtain ⟨xs, src⟩ := r; simp only []; cases cloop src xs g mt me (wipeE e vs) xs [] st' <;> rfl
  | _ => rfl
@[simp] theorem ap_fn (n : Nat) (f : DF) (ms : XM (List D)) : xfn n f ms e st = match ms e st with | .ok ds st' => (if ds.length = n then callD f ds e st' else .stuck) | .exc c p st' => .exc c p st' | .stuck => .stuck := by
  unfold xfn xbind
  cases ms e st with
  | ok ds st' => simp only; split <;> rfl
  | _ => rfl
@[simp] theorem ap_fnK (n : Nat) (ix : List Nat) (l : Nat) (f : DF) (ms mk : XM (List D)) : xfnK n ix l f ms mk e st = match ms e st with | .ok ds st' => (match mk e st' with | .ok zs st2 => (if ds.length = n ∧ zs.length = l then callD f (pick .non (ds ++ zs) ix) e st2 else .stuck) | .exc c p st' => .exc c p st' | .stuck => .stuck) | .exc c p st' => .exc c p st' | .stuck => .stuck := by
  unfold xfnK xbind
  cases ms e st with
  | ok ds st' =>
    simp only
    cases mk e st' with
    | ok zs st2 => simp only; split <;> rfl
    | _ => rfl
  | _ => rfl
@[simp] theorem ap_wipe1 (v : Nat) : wipeE e [v] = e.set v none := rfl
@[simp] theorem ap_wipe2 (v w : Nat) : wipeE e [v, w] = (e.set w none).set v none := rfl
@[simp] theorem srcOk_none (xs : List D) : srcOk none xs st = true := rfl
@[simp] theorem stB_nil : stB 0 st = true := by simp [stB]
theorem sif_t {c : XM Bool} {m n : SM} {st' : Store} (h : c e st = .ok true st') : sif c m n e st = m e st' := by rw [ap_sif, h]
theorem sif_f {c : XM Bool} {m n : SM} {st' : Store} (h : c e st = .ok false st') : sif c m n e st = n e st' := by rw [ap_sif, h]
theorem ret_ok {m : XM D} {d : D} {st' : Store} (h : m e st = .ok d st') : sret m e st = .rt d st' := by rw [ap_ret, h]
theorem set_ok {m : XM D} {i : Nat} {d : D} {st' : Store} (h : m e st = .ok d st') : sset i m e st = .nx (e.set i (some d)) st' := by rw [ap_set, h]
theorem and_t {m n : XM D} {st' : Store} (h : m e st = .ok (.bl true) st') : xand m n e st = n e st' := by rw [ap_and, h]; rfl
theorem and_f {m n : XM D} {st' : Store} (h : m e st = .ok (.bl false) st') : xand m n e st = .ok (.bl false) st' := by rw [ap_and, h]; rfl
theorem or_t {m n : XM D} {st' : Store} (h : m e st = .ok (.bl true) st') : xor' m n e st = .ok (.bl true) st' := by rw [ap_or, h]; rfl
theorem or_f {m n : XM D} {st' : Store} (h : m e st = .ok (.bl false) st') : xor' m n e st = n e st' := by rw [ap_or, h]; rfl
theorem tor_t {m n : XM Bool} {st' : Store} (h : m e st = .ok true st') : tor m n e st = .ok true st' := by rw [ap_tor, h]
theorem tor_f {m n : XM Bool} {st' : Store} (h : m e st = .ok false st') : tor m n e st = n e st' := by rw [ap_tor, h]
theorem tand_t {m n : XM Bool} {st' : Store} (h : m e st = .ok true st') : tand m n e st = n e st' := by rw [ap_tand, h]
theorem tand_f {m n : XM Bool} {st' : Store} (h : m e st = .ok false st') : tand m n e st = .ok false st' := by rw [ap_tand, h]
theorem tnot_ok {m : XM Bool} {b : Bool} {st' : Store} (h : m e st = .ok b st') : tnot m e st = .ok (!b) st' := by rw [ap_tnot, h]
theorem tru_ok {m : XM D} {b : Bool} {st' : Store} (h : m e st = .ok (.bl b) st') : xtru m e st = .ok b st' := by rw [ap_tru, h]; rfl
theorem all_ok {m : XM D} {l : List Bool} {st' : Store} (h : m e st = .ok (.lst (l.map D.bl)) st') : xcall (f1 allD) (xcons m (xpure [])) e st = .ok (.bl (l.all id)) st' := by
  have h2 : xcons m (xpure []) e st = .ok [.lst (l.map D.bl)] st' := by rw [ap_cons, ap_bind, h]; rfl
  rw [ap_call, h2]
  exact all_bls (e := e) l
theorem any_ok {m : XM D} {l : List Bool} {st' : Store} (h : m e st = .ok (.lst (l.map D.bl)) st') : xcall (f1 anyD) (xcons m (xpure [])) e st = .ok (.bl (l.any id)) st' := by
  have h2 : xcons m (xpure []) e st = .ok [.lst (l.map D.bl)] st' := by rw [ap_cons, ap_bind, h]; rfl
  rw [ap_call, h2]
  exact any_bls (e := e) l
theorem all_yes {m : XM D} {n : Nat} {st' : Store} (h : m e st = .ok (.lst (List.replicate n (.bl true))) st') : xcall (f1 allD) (xcons m (xpure [])) e st = .ok (.bl true) st' := by
  have := all_ok (l := List.replicate n true) (by simpa using h)
  simpa using this
theorem any_no {m : XM D} {n : Nat} {st' : Store} (h : m e st = .ok (.lst (List.replicate n (.bl false))) st') : xcall (f1 anyD) (xcons m (xpure [])) e st = .ok (.bl false) st' := by
  have := any_ok (l := List.replicate n false) (by simpa using h)
  simpa using this
end
end LS
end
section
set_option maxRecDepth 100000
set_option maxHeartbeats 2000000
namespace LS
open PySem PySem.Spec L2

/-! ## dicts -/
def keyD : D → Option Key
  | .int i => some (.inl i)
  | .str s => some (.inr s)
  | _ => none
def getKD (kvs : List (Key × D)) (k : Key) : Option D := (kvs.find? fun kv => decide (kv.1 = k)).map (·.2)
def putKD (kvs : List (Key × D)) (k : Key) (v : D) : List (Key × D) :=
  if (kvs.any fun kv => decide (kv.1 = k)) = true then kvs.map (fun kv => if kv.1 = k then (kv.1, v) else kv) else kvs ++ [(k, v)]
def dctOf (st : Store) : D → Option (List (Key × D))
  | .ref i => match st[i]? with
    | some (.dct kvs) => some kvs
    | some (.lck kvs) => some kvs
    | _ => none
  | _ => none
section
variable {K : PySem.W.Frag} {mg : Str → Option Value} {G H : Hp} {as : List Addr} {st : Store}
theorem keyD_ok {v : V} {d : D} {k : Key} (r : Rp K mg G as v d) (h : keyD d = some k) : v = kV k := by
  cases r <;> cases h <;> rfl
theorem getKD_ok : ∀ {kvs : List (Key × V)} {kds : List (Key × D)} (k : Key), kvs.map (·.1) = kds.map (·.1) → RpA K mg G as (kvs.map (·.2)) (kds.map (·.2)) → (getKD kds k = none ∧ valV kvs k = none) ∨ ∃ d v, getKD kds k = some d ∧ valV kvs k = some v ∧ Rp K mg G as v d
  | [], [], k, _, _ => .inl ⟨rfl, rfl⟩
  | [], _ :: _, _, e, _ => by simp at e
  | _ :: _, [], _, e, _ => by simp at e
  | (k1, v) :: r, (k2, d) :: s, k, e, q => by
    have e' : k1 = k2 ∧ r.map (·.1) = s.map (·.1) := by simpa using e
    obtain ⟨rfl, e'⟩ := e'
    cases q with
    | cons q1 q2 =>
      by_cases h : k1 = k
      · exact .inr ⟨d, v, by simp [getKD, h], by simp [valV, h], q1⟩
      · have : getKD ((k1, d) :: s) k = getKD s k := by simp [getKD, List.find?_cons, h]
        have t2 : valV ((k1, v) :: r) k = valV r k := by simp [valV, List.find?_cons, h]
        rw [this, t2]
        exact getKD_ok k e' q2
theorem anyK_eq (k : Key) : ∀ {kvs : List (Key × V)} {kds : List (Key × D)}, kvs.map (·.1) = kds.map (·.1) → (kvs.any fun kv => decide (kv.1 = k)) = (kds.any fun kv => decide (kv.1 = k))
  | [], [], _ => rfl
  | [], _ :: _, e => by simp at e
  | _ :: _, [], e => by simp at e
  | (k1, v) :: r, (k2, d) :: s, e => by
    have e' : k1 = k2 ∧ r.map (·.1) = s.map (·.1) := by simpa using e
    simp [e'.1, anyK_eq k e'.2]
theorem putKD_ok {v : V} {d : D} (k : Key) (rv : Rp K mg G as v d) {kvs : List (Key × V)} {kds : List (Key × D)} (e : kvs.map (·.1) = kds.map (·.1)) (q : RpA K mg G as (kvs.map (·.2)) (kds.map (·.2))) : (putK kvs k v).map (·.1) = (putKD kds k d).map (·.1) ∧ RpA K mg G as ((putK kvs k v).map (·.2)) ((putKD kds k d).map (·.2)) := by
  unfold putK putKD
  rw [anyK_eq k e]
  split
  · rename_i hany
    clear hany
    induction kvs generalizing kds with
    | nil => cases kds with
      | nil => exact ⟨rfl, .nil⟩
      | cons _ _ => simp at e
    | cons p r ih => cases kds with
      | nil => simp at e
      | cons p2 s =>
        obtain ⟨k1, v1⟩ := p
        obtain ⟨k2, d2⟩ := p2
        have e' : k1 = k2 ∧ r.map (·.1) = s.map (·.1) := by simpa using e
        obtain ⟨rfl, e'⟩ := e'
        cases q with
        | cons q1 q2 =>
          obtain ⟨i1, i2⟩ := ih e' q2
          by_cases h : k1 = k
          · exact ⟨by simpa [h] using i1, by simpa [h] using RpA.cons rv i2⟩
          · exact ⟨by simpa [h] using i1, by simpa [h] using RpA.cons q1 i2⟩
  · exact ⟨by simp [e], by simpa using q.append (.cons rv .nil)⟩
theorem dctOf_ok (R : Ri K mg G H as st) {v : V} {d : D} {kds : List (Key × D)} (r : Rp K mg G as v d) (h : dctOf st d = some kds) : ∃ a kvs, v = .ref a ∧ Rd H a (.dK kvs) ∧ kvs.map (·.1) = kds.map (·.1) ∧ RpA K mg G as (kvs.map (·.2)) (kds.map (·.2)) := by
  cases r with
  | ref q =>
    rename_i a i
    unfold dctOf at h
    cases hs : st[i]? with
    | none => simp [hs] at h
    | some m =>
      obtain ⟨ho, e1, oo⟩ := R.at_ q hs
      cases m with
      | lst _ => simp [hs] at h
      | dct kvs =>
        simp only [hs, Option.some.injEq] at h
        subst h
        cases oo with | dct e r => exact ⟨a, _, rfl, .inl e1, e, r⟩
      | lck kvs =>
        simp only [hs, Option.some.injEq] at h
        subst h
        cases oo with | lck e r => exact ⟨a, _, rfl, .inr ⟨_, e1⟩, e, r⟩
  | _ => cases h
end
section
variable {g : Gb} {F : Fam g} {pos : Pos}
/-- {} -/
def xdnew : XM D := fun _ st => .ok (.ref st.length) (st ++ [.dct []])
theorem je_dnew : JE F (.Dict [] [] pos) xdnew := by
  refine ⟨fun _ => tDNewK, fun _ _ _ => pe_dnewK, ?_⟩
  intro W G H as st σ e Q R N h p hp
  obtain ⟨R', X'⟩ := R.moving (o := .dK []) (m := .dct []) hp (.dct rfl .nil)
  exact h _ G _ _ R' X' (.ref (by rw [← R.len, List.getElem?_append_right (Nat.le_refl _), Nat.sub_self]; rfl))
/-- d[k] -/
def dgetD (x y : D) : XM D := fun _ st => match dctOf st x, keyD y with
  | some kvs, some k => (match getKD kvs k with
    | some d => .ok d st
    | none => .stuck)
  | _, _ => .stuck
theorem je_dget {a b : Expr} {ma mb : XM D} (ha : JE F a ma) (hb : JE F b mb) (hs : NoSl b := by intro _ _; rfl) : JE F (.Subscript a b pos) (xop dgetD ma mb) := by
  obtain ⟨ta, pa, sa⟩ := ha
  obtain ⟨tb, pb, sb⟩ := hb
  refine ⟨fun W => tDGet (ta W) (tb W), fun W X m => pe_dget (by have := (F.room m).units; omega) (pa W X m) (pb W X m) hs, ?_⟩
  intro W G H as st σ e Q R N h
  refine sa.one R N h fun x st1 v G1 H1 as1 R1 X1 N1 rv h1 => ?_
  refine sb.one R1 N1 h1 fun y st2 w G2 H2 as2 R2 X2 N2 rw' h2 => ?_
  unfold dgetD at h2
  cases q1 : dctOf st2 x with
  | none => simp [q1] at h2; exact h2.elim
  | some kds =>
    cases q2 : keyD y with
    | none => simp [q1, q2] at h2; exact h2.elim
    | some k =>
      simp only [q1, q2] at h2
      obtain ⟨a, kvs, rfl, hd, ek, rr⟩ := dctOf_ok R2 (rv.ext X2) q1
      have ew := keyD_ok rw' q2
      rcases getKD_ok k ek rr with ⟨e1, _⟩ | ⟨d, u, e1, e2, ru⟩
      · simp [e1] at h2; exact h2.elim
      · simp only [e1] at h2
        exact ⟨a, u, rfl, .inl ⟨kvs, k, hd, ew, e2.symm⟩, h2 _ G2 H2 as2 R2 Ext.refl ru⟩
/-- d.get(k, x) -/
def xdget2 (mo mk md : XM D) : XM D := xbind mo fun x => fun e st => if (dctOf st x).isSome = true then xbind mk (fun y => xbind md fun z => fun _ st => match dctOf st x, keyD y with
  | some kvs, some k => .ok ((getKD kvs k).getD z) st
  | _, _ => .stuck) e st else .stuck
theorem je_dget2 {o a b : Expr} {mo mk md : XM D} {apos : Pos} (ho : JE F o mo) (ha : JE F a mk) (hb : JE F b md) (h1 : ∀ env, attributeBase o "get" env (eval o env) = eval o env := by intro _; rfl)
    (hfew : ∀ env, ((backTo pos (starEach [a, b] env)).all (fun x => !x.1) && (backToKw pos (keywordEach [] env)).all (fun x => x.1.isSome) && decide (([a, b] : List Expr).length + ([] : List Keyword).length + (if ([] : List Keyword).isEmpty then 0 else 1) < 30)) = true := by intro _; rfl)
    (h2 : (apos.endLine == pos.line) = true := by rfl) (ht : ∀ env, backTo pos (starEach [a, b] env) = [(false, eval a env), (false, eval b env)] := by intro _; rfl) : JE F (.Call (.Attribute o "get" apos) [a, b] [] pos) (xdget2 mo mk md) := by
  obtain ⟨to, po, so⟩ := ho
  obtain ⟨ta, pa, sa⟩ := ha
  obtain ⟨tb, pb, sb⟩ := hb
  refine ⟨fun W => tDGet2 (to W) (ta W) (tb W), fun W X m => pe_dget2 (by have := (F.room m).units; omega) (po W X m) (pa W X m) (pb W X m) ⟨h1 _, hfew _, h2, ht _⟩, ?_⟩
  intro W G H as st σ e Q R N h
  refine so.one R N h fun x st1 v G1 H1 as1 R1 X1 N1 rv h1 => ?_
  by_cases hx : (dctOf st1 x).isSome = true
  · rw [if_pos hx] at h1
    obtain ⟨kd0, hk0⟩ := Option.isSome_iff_exists.mp hx
    obtain ⟨a0, kv0, rfl, hd0, _, _⟩ := dctOf_ok R1 rv hk0
    refine ⟨a0, rfl, .inl ⟨kv0, hd0⟩, ?_⟩
    refine sa.one R1 N1 h1 fun y st2 w G2 H2 as2 R2 X2 N2 rw' h2 => ?_
    refine sb.one R2 N2 h2 fun z st3 u G3 H3 as3 R3 X3 N3 ru h3 => ?_
    cases q1 : dctOf st3 x with
    | none => simp [q1] at h3; exact h3.elim
    | some kds =>
      cases q2 : keyD y with
      | none => simp [q1, q2] at h3; exact h3.elim
      | some k =>
        simp only [q1, q2] at h3
        obtain ⟨a', kvs, e', hd, ek, rr⟩ := dctOf_ok R3 ((rv.ext X2).ext X3) q1
        cases e'
        have ew := keyD_ok rw' q2
        rcases getKD_ok k ek rr with ⟨e1, e2⟩ | ⟨d, u', e1, e2, ru'⟩
        · rw [e1] at h3
          exact ⟨none, .inl ⟨kvs, k, hd, ew, e2.symm⟩, h3 _ G3 H3 as3 R3 Ext.refl ru⟩
        · rw [e1] at h3
          exact ⟨some u', .inl ⟨kvs, k, hd, ew, e2.symm⟩, h3 _ G3 H3 as3 R3 Ext.refl ru'⟩
  · rw [if_neg hx] at h1; exact h1.elim
/-- d[k] = v -/
def sdput (mo mk mv : XM D) : SM := sbind mv fun v => sbind mo fun x => sbind mk fun y => fun e st => match x, keyD y with
  | .ref i, some k => (match st[i]? with
    | some (.dct kvs) => if kvs.length < LIM then .nx e (st.set i (.dct (putKD kvs k v))) else .stuck
    | _ => .stuck)
  | _, _ => .stuck
theorem js_dput {o i value : Expr} {mo mk mv : XM D} {pos' : Pos} (ho : JE F o mo) (hi : JE F i mk) (hv : JE F value mv) (hs : ∀ env, swapsWith value (some (.Subscript o i pos')) pos.line env = pure false := by intro _; rfl) : JS F (.Assign [.Subscript o i pos'] value pos) (sdput mo mk mv) := by
  obtain ⟨to, po, so⟩ := ho
  obtain ⟨ti, pi, si⟩ := hi
  obtain ⟨tv, pv, sv⟩ := hv
  refine ⟨fun W => sDPut (to W) (ti W) (tv W), fun W X m => ps_dput (by have := (F.room m).units; omega) (po W X m) (pi W X m) (pv W X m) (hs _), ?_⟩
  intro W G H as st σ e E R N h
  refine sv.oneS R N h fun d st1 v G1 H1 as1 R1 X1 N1 rv h1 => ?_
  refine so.oneS R1 N1 h1 fun x st2 w G2 H2 as2 R2 X2 N2 rw' h2 => ?_
  refine si.oneS R2 N2 h2 fun y st3 u G3 H3 as3 R3 X3 N3 ru h3 => ?_
  cases x with
  | ref k0 =>
    cases q2 : keyD y with
    | none => simp [q2] at h3; exact h3.elim
    | some k =>
      cases q3 : st3[k0]? with
      | none => simp [q2, q3] at h3; exact h3.elim
      | some mo' =>
        cases mo' with
        | dct kds =>
          simp only [q2, q3] at h3
          by_cases hl : kds.length < LIM
          · rw [if_pos hl] at h3
            have ew := keyD_ok ru q2
            cases rw'.ext X3 with
            | ref qa =>
              rename_i a
              obtain ⟨hob, e1, oo⟩ := R3.at_ qa q3
              cases oo with
              | dct ek rr =>
                rename_i kvs
                have hlen : kvs.length = kds.length := by simpa using congrArg List.length ek
                obtain ⟨pk, pr⟩ := putKD_ok k ((rv.ext X2).ext X3) ek rr
                obtain ⟨R4, X4⟩ := R3.change (o := .dK (putK kvs k v)) (m := .dct (putKD kds k d)) qa (.dct pk pr) (fun u kvs z => by rw [e1] at z; cases z)
                exact ⟨a, _, rfl, .inl ⟨kvs, k, e1, ew, by rw [hlen]; exact lim_lt hl, rfl⟩, h3 _ _ _ _ R4 (N3.ext X4) X4⟩
          · rw [if_neg hl] at h3; exact h3.elim
        | _ => simp [q2, q3] at h3; exact h3.elim
  | _ => exact h3.elim
/-- list(d): its keys -/
def kD : Key → D
  | .inl i => .int i
  | .inr s => .str s
theorem kD_rp {K : PySem.W.Frag} {mg : Str → Option Value} {G : Hp} {as : List Addr} (k : Key) : Rp K mg G as (kV k) (kD k) := by
  cases k with
  | inl i => exact .int i
  | inr s => exact .str s
theorem keys_rp {K : PySem.W.Frag} {mg : Str → Option Value} {G : Hp} {as : List Addr} : ∀ {kvs : List (Key × V)} {kds : List (Key × D)}, kvs.map (·.1) = kds.map (·.1) → RpA K mg G as (kvs.map fun kv => kV kv.1) (kds.map fun kv => kD kv.1)
  | [], [], _ => .nil
  | [], _ :: _, e => by simp at e
  | _ :: _, [], e => by simp at e
  | (k1, v) :: r, (k2, d) :: s, e => by
    have e' : k1 = k2 ∧ r.map (·.1) = s.map (·.1) := by simpa using e
    obtain ⟨rfl, e'⟩ := e'
    exact .cons (kD_rp k1) (keys_rp e')
def dlistD (x : D) : XM D := fun _ st => match dctOf st x with
  | some kvs => .ok (.lst (kvs.map fun kv => kD kv.1)) st
  | none => .stuck
theorem cs_dlist : CallS F (.type "list") (f1 dlistD) := by
  refine cs_1 (r := fun xs H Q => ∃ (a : Addr) (kvs : List (Key × V)), xs = [.ref a] ∧ Rd H a (.dK kvs) ∧ ∀ p, H p = none → Q (.ref p) (upd H p (.lst (kvs.map fun kv => kV kv.1)))) (fun W X m => call_listD (F.calm m)) ?_
  intro W G H as st σ e x v Q R rx h
  unfold dlistD at h
  cases q : dctOf st x with
  | none => simp [q] at h; exact h.elim
  | some kds =>
    simp only [q] at h
    obtain ⟨a, kvs, rfl, hd, ek, rr⟩ := dctOf_ok R rx q
    exact ⟨a, kvs, rfl, hd, fun p hp => PX.still R hp (.lst upd_same (keys_rp ek)) h⟩
end
end LS
end
section
set_option maxRecDepth 100000
set_option maxHeartbeats 2000000
namespace LS
open PySem PySem.Spec L2

/-! ## loops over dicts: the dict is locked while it is walked -/
section
variable {g : Gb} {F : Fam g} {pos : Pos}
def unlk (i : Nat) (kvs : List (Key × D)) : RS → RS
  | .nx e st => .nx e (st.set i (.dct kvs))
  | .bk e st => .bk e (st.set i (.dct kvs))
  | .ct e st => .ct e (st.set i (.dct kvs))
  | .rt d st => .rt d (st.set i (.dct kvs))
  | _ => .stuck
/-- the dict under the name in the slot j is locked while s runs -/
def slock (j : Nat) (m : SM) : SM := fun e st => match e[j]? with
  | some (some (.ref i)) => (match st[i]? with
    | some (.dct kvs) => unlk i kvs (m e (st.set i (.lck kvs)))
    | _ => .stuck)
  | _ => .stuck
theorem unlock_ok {K : PySem.W.Frag} {mg : Str → Option Value} {G H G2 H2 : Hp} {as as2 : List Addr} {st st2 : Store} {i : Nat} {a : Addr} {od : Obj} {kv : List (Key × V)} {kds : List (Key × D)} (R : Ri K mg G H as st) (ha : as[i]? = some a) (hd : H a = some (.dK kv)) (ek : kv.map (·.1) = kds.map (·.1)) (rr : RpA K mg G as (kv.map (·.2)) (kds.map (·.2)))
    (R2 : Ri K mg G2 H2 as2 st2) (X2 : Ext G (upd H a (.frz od (.dK kv))) as G2 H2 as2) : H2 a = some (.frz od (.dK kv)) ∧ Ri K mg G2 (upd H2 a (.dK kv)) as2 (st2.set i (.dct kds)) ∧ Ext G H as G2 (upd H2 a (.dK kv)) as2 := by
  have ha2 := pre_get X2.pre ha
  have hz := X2.lk a od kv upd_same
  have rr2 := rr.ext X2
  have hmem := List.mem_of_getElem? ha
  have ne : ∀ b o, H b = some o → b ∉ as → b ≠ a := fun b o _ n z => n (z ▸ hmem)
  -- the object put back, by hand: it was locked
  have x : Ext G H as G2 (upd H2 a (.dK kv)) as2 := by
    refine ⟨X2.sub, X2.pre, fun b o h n => ?_, fun b h h' => ?_, fun b m n => ?_, fun b h => ?_, fun b o kvs h => ?_⟩
    · rw [upd_ne (ne b o h n)]
      exact X2.keep b o (by rw [upd_ne (ne b o h n)]; exact h) n
    · refine X2.frG b h ?_
      by_cases z : b = a
      · subst z; rw [upd_same]; exact fun z => nomatch z
      · rw [upd_ne z]; exact h'
    · have := X2.frA b m n
      have z : b ≠ a := fun z => n (z ▸ hmem)
      rw [upd_ne z] at this; exact this
    · by_cases z : b = a
      · subst z; rw [upd_same]; exact fun z => nomatch z
      · rw [upd_ne z]; exact X2.dom b (by rw [upd_ne z]; exact h)
    · have z : b ≠ a := fun z => by subst z; rw [hd] at h; cases h
      rw [upd_ne z]
      exact X2.lk b o kvs (by rw [upd_ne z]; exact h)
  refine ⟨hz, ⟨fun b u h => ?_, by simp [R2.len], R2.nd, R2.out, fun k b u hb hu => ?_⟩, x⟩
  · have gn := R2.out a (List.mem_of_getElem? ha2)
    rw [upd_ne (ne_of_none h gn)]; exact R2.sub _ _ h
  · by_cases z : k = i
    · subst z
      rw [ha2] at hb; cases hb
      have hk : k < st2.length := by rw [← R2.len]; exact (List.getElem?_eq_some_iff.mp ha2).1
      rw [List.getElem?_set_self hk] at hu; cases hu
      exact ⟨_, upd_same, .dct ek rr2⟩
    · rw [List.getElem?_set_ne (Ne.symm z)] at hu
      obtain ⟨ho, q, r⟩ := R2.obj k b u hb hu
      refine ⟨ho, ?_, r⟩
      have : b ≠ a := fun z' => z (by
        subst z'
        obtain ⟨p1, p2⟩ := List.getElem?_eq_some_iff.mp hb
        obtain ⟨p3, p4⟩ := List.getElem?_eq_some_iff.mp ha2
        exact (List.getElem_inj R2.nd).mp (p2.trans p4.symm))
      rw [upd_ne this]; exact q
theorem js_lock (j : Nat) {s : Stmt} {m : SM} (h : JS F s m) : JS F s (slock j m) := by
  obtain ⟨t, p, ss⟩ := h
  refine ⟨fun W => tLock (t W), fun W X m => ps_lock (p W X m), ?_⟩
  intro W G H as st σ e E R N h
  unfold slock at h
  cases q1 : e[j]? with
  | none => simp [q1] at h; exact h.elim
  | some o1 =>
    cases o1 with
    | none => simp [q1] at h; exact h.elim
    | some d =>
      cases d with
      | ref i =>
        obtain ⟨v, _, rv⟩ := N.at_ j _ q1
        obtain ⟨a, rfl, qa⟩ : ∃ a, v = .ref a ∧ as[i]? = some a := by cases rv with | ref q => exact ⟨_, rfl, q⟩
        simp only [q1] at h
        cases q2 : st[i]? with
        | none => simp [q2] at h; exact h.elim
        | some mo =>
          cases mo with
          | dct kds =>
            simp only [q2] at h
            obtain ⟨hob, e1, oo⟩ := R.at_ qa q2
            cases oo with
            | dct ek rr =>
              rename_i kv
              refine ⟨a, .dK kv, e1, trivial, fun od => ?_⟩
              obtain ⟨R1, X1⟩ := R.change (o := .frz od (.dK kv)) (m := .lck kds) qa (.lck ek rr) (fun u kvs z => by rw [e1] at z; cases z)
              refine ss W G (upd H a (.frz od (.dK kv))) as (st.set i (.lck kds)) σ e _ R1 (N.ext X1) ?_
              cases q3 : m e (st.set i (.lck kds)) with
              | stuck => rw [q3] at h; exact h.elim
              | exc c p e2 st2 => rw [q3] at h; exact h.elim
              | nx e2 st2 =>
                rw [q3] at h
                intro σ2 G2 H2 as2 R2 N2 X2
                obtain ⟨h1, R3, X3⟩ := unlock_ok R qa e1 ek rr R2 X2
                exact ⟨h1, h σ2 G2 _ as2 R3 N2 X3⟩
              | bk e2 st2 =>
                rw [q3] at h
                intro σ2 G2 H2 as2 R2 N2 X2
                obtain ⟨h1, R3, X3⟩ := unlock_ok R qa e1 ek rr R2 X2
                exact ⟨h1, h σ2 G2 _ as2 R3 N2 X3⟩
              | ct e2 st2 =>
                rw [q3] at h
                intro σ2 G2 H2 as2 R2 N2 X2
                obtain ⟨h1, R3, X3⟩ := unlock_ok R qa e1 ek rr R2 X2
                exact ⟨h1, h σ2 G2 _ as2 R3 N2 X3⟩
              | rt d2 st2 =>
                rw [q3] at h
                intro v2 G2 H2 as2 R2 X2 rv2
                obtain ⟨h1, R3, X3⟩ := unlock_ok R qa e1 ek rr R2 X2
                exact ⟨h1, h v2 G2 _ as2 R3 X3 rv2⟩
          | _ => simp [q2] at h; exact h.elim
      | _ => simp [q1] at h; exact h.elim
/-- the pairs of a dict as they are given out -/
def itemsD (kds : List (Key × D)) : List D := kds.map fun kv => .tup [kD kv.1, kv.2]
theorem itemsD_get (kds : List (Key × D)) (i : Nat) : (itemsD kds)[i]? = kds[i]?.map fun kv => .tup [kD kv.1, kv.2] := by simp [itemsD]
theorem pair_at {K : PySem.W.Frag} {mg : Str → Option Value} {G : Hp} {as : List Addr} : ∀ {kvs : List (Key × V)} {kds : List (Key × D)} {i : Nat} {k : Key} {v : V}, kvs.map (·.1) = kds.map (·.1) → RpA K mg G as (kvs.map (·.2)) (kds.map (·.2)) → kvs[i]? = some (k, v) → ∃ d, kds[i]? = some (k, d) ∧ Rp K mg G as v d
  | [], _, _, _, _, _, _, h => by simp at h
  | _ :: _, [], _, _, _, e, _, _ => by simp at e
  | (k1, v1) :: r, (k2, d2) :: s, i, k, v, e, q, h => by
    have e' : k1 = k2 ∧ r.map (·.1) = s.map (·.1) := by simpa using e
    obtain ⟨rfl, e'⟩ := e'
    cases q with
    | cons q1 q2 =>
      cases i with
      | zero =>
        have h' : k1 = k ∧ v1 = v := by simpa using h
        obtain ⟨rfl, rfl⟩ := h'
        exact ⟨d2, rfl, q1⟩
      | succ i =>
        obtain ⟨d, h1, h2⟩ := pair_at (i := i) e' q2 (by simpa using h)
        exact ⟨d, by simpa using h1, h2⟩
theorem yl_items {G0 H0 : Hp} {as0 : List Addr} {a : Addr} {o : Obj} {kvs : List (Key × V)} {kds : List (Key × D)} (hd : H0 a = some (.frz o (.dK kvs))) (ek : kvs.map (·.1) = kds.map (·.1)) (rr : RpA g.K g.mg G0 as0 (kvs.map (·.2)) (kds.map (·.2))) : Yl g G0 H0 as0 none (itemsD kds) (Iti a o kvs) where
  go := fun i G H as st hi R hs hp hl _ => ⟨hl a o kvs hd, by
    have : kvs.length = kds.length := by simpa using congrArg List.length ek
    simpa [itemsD, this] using hi⟩
  stop := fun G H as st R hs hp hl _ => ⟨hl a o kvs hd, by
    have : kvs.length = kds.length := by simpa using congrArg List.length ek
    simp [itemsD, this]⟩
  yld := fun i G H as st v H' x R hs hp hl _ hx y => by
    obtain ⟨T, k, u, e1, rfl, hT, rfl⟩ := y
    obtain ⟨d, e2, ru⟩ := pair_at ek rr e1
    rw [itemsD_get, e2] at hx
    cases hx
    obtain ⟨R', X'⟩ := R.still (o := .tup [kV k, u]) hT
    exact ⟨_, R', X', .tup (.of upd_same) (.cons (kD_rp k) (.cons ((ru.mono hs hp).ext X') .nil))⟩
def xitems (m : XM D) : XM (List D × Option Nat) := xbind m fun x => fun _ st => match x with
  | .ref i => (match st[i]? with
    | some (.lck kds) => .ok (itemsD kds, none) st
    | _ => .stuck)
  | _ => .stuck
theorem ji_items {elts : List Expr} {kk : Nat} {tpos apos : Pos} {e : Expr} {m : XM D} (h : JE F e m) (hb : ∀ env, attributeBase e "items" env (eval e env) = eval e env := by intro _; rfl) (hline : (apos.endLine == pos.line) = true := by rfl) : JI F (.Tuple elts kk tpos) (.Call (.Attribute e "items" apos) [] [] pos) (xitems m) := by
  obtain ⟨t, p, s⟩ := h
  refine ⟨fun W => iItems (t W), fun W X m => pi_items (p W X m) (hb _) hline, ?_⟩
  intro W G H as st σ e R' R N h
  refine s W G H as st σ e _ R N ?_
  unfold xitems xbind at h
  cases q : m e st with
  | stuck => rw [q] at h; exact h
  | exc c p st1 => rw [q] at h; exact h
  | ok x st1 =>
    simp only [q] at h
    intro v G1 H1 as1 R1 X1 rv
    cases x with
    | ref i =>
      cases q2 : st1[i]? with
      | none => simp only [q2] at h; exact h.elim
      | some mo =>
        cases mo with
        | lck kds =>
          simp only [q2] at h
          obtain ⟨a, rfl, qa⟩ : ∃ a, v = .ref a ∧ as1[i]? = some a := by cases rv with | ref q => exact ⟨_, rfl, q⟩
          obtain ⟨hob, e1, oo⟩ := R1.at_ qa q2
          cases oo with
          | lck ek rr => exact ⟨a, _, _, rfl, e1, h.2 _ G1 H1 as1 R1 X1 (yl_items e1 ek rr)⟩
        | _ => simp only [q2] at h; exact h.elim
    | _ => exact h.elim
end
end LS
end
section
set_option maxRecDepth 100000
set_option maxHeartbeats 2000000
namespace LS
open PySem PySem.Spec L2

/-! ## *x in a display -/
section
variable {g : Gb} {F : Fam g} {pos : Pos}
def xstar (m : XM D) (ms : XM (List D)) : XM (List D) := xbind m fun x => fun e st => match seqOf st x with
  | some xs => (xbind ms fun ys => xpure (xs ++ ys)) e st
  | none => .stuck
theorem ja_star {ex : Expr} {es : List Expr} {p : Pos} {m : XM D} {ms : XM (List D)} (h : JE F ex m) (hs : JA F es ms) (hst : ∀ env, starEach (.Starred ex p :: es) env = (true, eval ex env) :: starEach es env := by intro _; rfl) : JA F (.Starred ex p :: es) (xstar m ms) := by
  obtain ⟨t, pp, s⟩ := h
  obtain ⟨ts, ps, ss⟩ := hs
  refine ⟨fun W => StX.tStar g.K (t W) (ts W), fun W X m => by have := StX.pa_star (p := p) (pp W X m) (ps W X m) (hst _); rw [F.hK m] at this; exact this, ?_⟩
  intro W G H as st σ e Q R N h
  refine s.oneA R N h fun x st1 v G1 H1 as1 R1 X1 N1 rv h1 => ?_
  cases q : seqOf st1 x with
  | none => simp only [q] at h1; exact h1.elim
  | some xs =>
    simp only [q] at h1
    obtain ⟨a, vs, rfl, s1, r1⟩ := seqOf_ok R1 rv q
    refine ⟨a, vs, rfl, s1.symm, ?_⟩
    refine ss.oneA R1 N1 h1 fun ys st2 ws G2 H2 as2 R2 X2 N2 rws h2 => ?_
    exact h2 _ _ _ _ R2 Ext.refl ((r1.ext X2).append rws)

/-! ## two fors in a comprehension -/
def cloop2 (src : Option Nat) (items : List D) (gt : MG) (mt : XM Bool) (mi1 : XM (List D × Option Nat)) (vs1 : List Nat) (gt1 : MG) (mt1 : XM Bool) (me : XM D) (e : Nv) : List D → List D → Store → RX (List D)
  | [], acc, st => if srcOk src items st = true then .ok acc st else .stuck
  | x :: r, acc, st => if srcOk src items st = true then (match gt x e st with
    | none => .stuck
    | some (e1, st1) => match mt e1 st1 with
      | .ok true st2 => (match mi1 e1 st2 with
        | .ok (xs1, src1) st3 => (match cloop src1 xs1 gt1 mt1 me (wipeE e1 vs1) xs1 acc st3 with
          | .ok acc' st4 => cloop2 src items gt mt mi1 vs1 gt1 mt1 me e r acc' st4
          | _ => .stuck)
        | _ => .stuck)
      | .ok false st2 => cloop2 src items gt mt mi1 vs1 gt1 mt1 me e r acc st2
      | _ => .stuck) else .stuck
def xcomp2L (mi : XM (List D × Option Nat)) (vs : List Nat) (gt : MG) (mt : XM Bool) (mi1 : XM (List D × Option Nat)) (vs1 : List Nat) (gt1 : MG) (mt1 : XM Bool) (me : XM D) : XM (List D) := fun e st => match mi e st with
  | .ok (xs, src) st1 => cloop2 src xs gt mt mi1 vs1 gt1 mt1 me (wipeE e vs) xs [] st1
  | .exc c p st' => .exc c p st'
  | .stuck => .stuck
def xcomp2 (mi : XM (List D × Option Nat)) (vs : List Nat) (gt : MG) (mt : XM Bool) (mi1 : XM (List D × Option Nat)) (vs1 : List Nat) (gt1 : MG) (mt1 : XM Bool) (me : XM D) : XM D := xbind (xcomp2L mi vs gt mt mi1 vs1 gt1 mt1 me) fun ds => xpure (.lst ds)
theorem cloop_src {src : Option Nat} {items : List D} {gt : MG} {mt : XM Bool} {me : XM D} {e : Nv} {r acc : List D} {st : Store} (h : cloop src items gt mt me e r acc st ≠ .stuck) : srcOk src items st = true := by
  cases hx : srcOk src items st with
  | true => rfl
  | false => exact absurd (by cases r <;> simp [cloop, hx]) h
theorem comp2_read {wi : WX → TI} {gt0 gt10 : TG} {tt tt1 : WX → TT} {te : WX → TE} {wi1 : WX → TI} {mi mi1 : XM (List D × Option Nat)} {vs vs1 : List Nat} {gt gt1 : MG} {mt mt1 : XM Bool} {me : XM D}
    (si : ∀ (W : WX) (G H : Hp) (as : List Addr) (st : Store) (σ : L2.St) (e : Nv) (R : It → Hp → Prop), Ri g.K g.mg G H as st → Rn g.K g.mg G as σ e → PXI g W G H as σ (mi e st) R → wi W σ H R)
    (sg : ∀ (G H : Hp) (as : List Addr) (st : Store) (σ : L2.St) (e : Nv) (v : V) (x : D) (e' : Nv) (st' : Store) (Q : L2.St → Hp → Prop), Ri g.K g.mg G H as st → Rn g.K g.mg G as σ e → Rp g.K g.mg G as v x → gt x e st = some (e', st') →
      (∀ σ', wipe σ' vs = wipe σ vs → Rn g.K g.mg G as σ' e' → st' = st → Q σ' H) → gt0 v σ H Q)
    (stt : ST g tt mt)
    (si1 : ∀ (W : WX) (G H : Hp) (as : List Addr) (st : Store) (σ : L2.St) (e : Nv) (R : It → Hp → Prop), Ri g.K g.mg G H as st → Rn g.K g.mg G as σ e → PXI g W G H as σ (mi1 e st) R → wi1 W σ H R)
    (sg1 : ∀ (G H : Hp) (as : List Addr) (st : Store) (σ : L2.St) (e : Nv) (v : V) (x : D) (e' : Nv) (st' : Store) (Q : L2.St → Hp → Prop), Ri g.K g.mg G H as st → Rn g.K g.mg G as σ e → Rp g.K g.mg G as v x → gt1 x e st = some (e', st') →
      (∀ σ', wipe σ' vs1 = wipe σ vs1 → Rn g.K g.mg G as σ' e' → st' = st → Q σ' H) → gt10 v σ H Q)
    (stt1 : ST g tt1 mt1) (se : SE g te me) (W : WX) (G H : Hp) (as : List Addr) (st : Store) (σ : L2.St) (e : Nv) (Q : VK) (R : Ri g.K g.mg G H as st) (N : Rn g.K g.mg G as σ e) (f : List D → Store → RX D)
    (h : PX g.K g.mg W G H as σ (match xcomp2L mi vs gt mt mi1 vs1 gt1 mt1 me e st with | .ok ds st' => f ds st' | .exc c p st' => .exc c p st' | .stuck => .stuck) Q)
    (fin : ∀ (ds : List D) (st' : Store) (G1 H1 : Hp) (as1 : List Addr) (G2 H2 : Hp) (as2 : List Addr) (us : List V) (p : Addr), Ri g.K g.mg G1 H1 as1 st' → RpA g.K g.mg G1 as1 us ds → H1 p = some (.lst us) → G1 p = none → p ∉ as1 → Ext G2 H2 as2 G1 H1 as1 → H2 p = none → PX g.K g.mg W G2 H2 as2 σ (f ds st') Q → Q (.ref p) H1) :
    tLc2 (wi W) gt0 (tt W0) (wi1 W0) gt10 (tt1 W0) (te W0) vs vs1 σ H Q := by
  refine si W G H as st σ e _ R N ?_
  unfold xcomp2L at h
  cases q : mi e st with
  | stuck => rw [q] at h; exact h
  | exc c p st1 => rw [q] at h; exact h
  | ok z st1 =>
    obtain ⟨xs, src⟩ := z
    simp only [q] at h
    have ok : srcOk src xs st1 = true := by
      cases hx : srcOk src xs st1 with
      | true => rfl
      | false =>
        exfalso
        cases xs with
        | nil => simp [cloop2, hx] at h; exact h
        | cons x r => simp [cloop2, hx] at h; exact h
    refine ⟨ok, fun J G1 H1 as1 R1 X1 Y => ?_⟩
    intro D0 hD
    have hd0 := R1.none_of hD
    have h1 := PX.ext (K := g.K) (mg := g.mg) h X1
    refine ⟨fun i m H' => i ≤ xs.length ∧ m = xs.length - i ∧ ∃ G' as' st' us acc, Ri g.K g.mg G' H' as' st' ∧ Ext G1 H1 as1 G' H' as' ∧ H' D0 = some (.lst us) ∧ G' D0 = none ∧ D0 ∉ as' ∧ RpA g.K g.mg G' as' us acc ∧
        PX g.K g.mg W G1 H1 as1 σ (match cloop2 src xs gt mt mi1 vs1 gt1 mt1 me (wipeE e vs) (xs.drop i) acc st' with | .ok ds st' => f ds st' | .exc c p st' => .exc c p st' | .stuck => .stuck) Q,
      ⟨xs.length, Nat.zero_le _, by simp, G1, as1, st1, [], [], R1.touch hd0.1 hd0.2, Ext.refl.touch hD, upd_same, hd0.1, hd0.2, .nil, h1⟩, ?_⟩
    rintro i m H2 ⟨hle, rfl, G2, as2, st2, us, acc, R2, X2, hL, hg, ha, ru, h2⟩
    by_cases hi : i < xs.length
    · have hd : xs.drop i = xs[i] :: xs.drop (i + 1) := List.drop_eq_getElem_cons hi
      rw [hd] at h2
      unfold cloop2 at h2
      by_cases hok : srcOk src xs st2 = true
      · simp only [hok, if_true] at h2
        refine .inr ⟨Y.go i G2 H2 as2 st2 hi R2 X2.sub X2.pre X2.lk hok, ?_⟩
        refine ⟨fun H' => i + 1 ≤ xs.length ∧ ∃ G' as' st' us acc, Ri g.K g.mg G' H' as' st' ∧ Ext G1 H1 as1 G' H' as' ∧ H' D0 = some (.lst us) ∧ G' D0 = none ∧ D0 ∉ as' ∧ RpA g.K g.mg G' as' us acc ∧
            PX g.K g.mg W G1 H1 as1 σ (match cloop2 src xs gt mt mi1 vs1 gt1 mt1 me (wipeE e vs) (xs.drop (i + 1)) acc st' with | .ok ds st' => f ds st' | .exc c p st' => .exc c p st' | .stuck => .stuck) Q,
          fun H' ⟨a, b⟩ => ⟨xs.length - (i + 1), by omega, a, rfl, b⟩, fun v H3 y => ?_⟩
        obtain ⟨G3, R3, X3, rv⟩ := Y.yld i G2 H2 as2 st2 v H3 xs[i] R2 X2.sub X2.pre X2.lk hok (List.getElem?_eq_getElem hi) y
        have b3 := X3.beside hL hg ha
        cases q3 : gt xs[i] (wipeE e vs) st2 with
        | none => simp only [q3] at h2; exact h2.elim
        | some z =>
          obtain ⟨e3, st3⟩ := z
          simp only [q3] at h2
          have Nw : Rn g.K g.mg G3 as2 (wipe σ vs) (wipeE e vs) := (((N.ext X1).ext X2).ext X3).wipe vs
          refine sg G3 H3 as2 st2 (wipe σ vs) (wipeE e vs) v xs[i] e3 st3 _ R3 Nw rv q3 fun σ4 w4 N4 es => ?_
          subst es
          refine ⟨w4.trans wipe_wipe, ?_⟩
          refine stt W0 G3 H3 as2 st3 σ4 e3 _ R3 N4 ?_
          cases q4 : mt e3 st3 with
          | stuck => simp only [q4] at h2; exact h2
          | exc c p st4 => simp only [q4] at h2; exact h2.elim
          | ok b st4 =>
            intro G4 H4 as4 R4 X4
            have b4 := X4.beside b3.2.2 b3.1 b3.2.1
            have X14 := (X2.trans X3).trans X4
            cases b with
            | false =>
              simp only [q4] at h2
              exact iteF ⟨hi, G4, as4, st4, us, acc, R4, X14, b4.2.2, b4.1, b4.2.1, (ru.ext X3).ext X4, h2⟩
            | true =>
              refine iteT ?_
              refine si1 W0 G4 H4 as4 st4 σ4 e3 _ R4 (N4.ext X4) ?_
              cases q5 : mi1 e3 st4 with
              | stuck => simp only [q4, q5] at h2; exact h2
              | exc c p st5 => simp only [q4, q5] at h2; exact h2.elim
              | ok z st5 =>
                obtain ⟨ys, src1⟩ := z
                simp only [q4, q5] at h2
                have ok1 : srcOk src1 ys st5 = true := by
                  cases hx : srcOk src1 ys st5 with
                  | true => rfl
                  | false =>
                    exfalso
                    cases ys with
                    | nil => simp [cloop, hx] at h2; exact h2
                    | cons y r => simp [cloop, hx] at h2; exact h2
                refine ⟨ok1, fun J1 G5 H5 as5 R5 X5 Y1 => ?_⟩
                have b5 := X5.beside b4.2.2 b4.1 b4.2.1
                have ru5 := ((ru.ext X3).ext X4).ext X5
                have X15 := X14.trans X5
                have N5 := (N4.ext X4).ext X5
                refine ⟨fun j k H' => j ≤ ys.length ∧ k = ys.length - j ∧ ∃ G' as' st' us acc, Ri g.K g.mg G' H' as' st' ∧ Ext G1 H1 as1 G' H' as' ∧ (∀ a o, G5 a = some o → G' a = some o) ∧ as5 <+: as' ∧ (∀ a o kvs, H5 a = some (.frz o (.dK kvs)) → H' a = some (.frz o (.dK kvs))) ∧ H' D0 = some (.lst us) ∧ G' D0 = none ∧ D0 ∉ as' ∧ RpA g.K g.mg G' as' us acc ∧
                    PX g.K g.mg W G1 H1 as1 σ (match (match cloop src1 ys gt1 mt1 me (wipeE e3 vs1) (ys.drop j) acc st' with | .ok acc' st4 => cloop2 src xs gt mt mi1 vs1 gt1 mt1 me (wipeE e vs) (xs.drop (i + 1)) acc' st4 | _ => .stuck) with | .ok ds st' => f ds st' | .exc c p st' => .exc c p st' | .stuck => .stuck) Q,
                  ⟨ys.length, Nat.zero_le _, by simp, G5, as5, st5, us, acc, R5, X15, fun _ _ h => h, List.prefix_refl _, fun _ _ _ h => h, b5.2.2, b5.1, b5.2.1, ru5, h2⟩, ?_⟩
                rintro j k H6 ⟨hlj, rfl, G6, as6, st6, us6, acc6, R6, X6, S6, P6, L6, hL6, hg6, ha6, ru6, h6⟩
                by_cases hj : j < ys.length
                · have hd1 : ys.drop j = ys[j] :: ys.drop (j + 1) := List.drop_eq_getElem_cons hj
                  rw [hd1] at h6
                  unfold cloop at h6
                  by_cases hok1 : srcOk src1 ys st6 = true
                  · simp only [hok1, if_true] at h6
                    refine .inr ⟨Y1.go j G6 H6 as6 st6 hj R6 S6 P6 L6 hok1, ?_⟩
                    refine ⟨fun H' => j + 1 ≤ ys.length ∧ ∃ G' as' st' us acc, Ri g.K g.mg G' H' as' st' ∧ Ext G1 H1 as1 G' H' as' ∧ (∀ a o, G5 a = some o → G' a = some o) ∧ as5 <+: as' ∧ (∀ a o kvs, H5 a = some (.frz o (.dK kvs)) → H' a = some (.frz o (.dK kvs))) ∧ H' D0 = some (.lst us) ∧ G' D0 = none ∧ D0 ∉ as' ∧ RpA g.K g.mg G' as' us acc ∧
                        PX g.K g.mg W G1 H1 as1 σ (match (match cloop src1 ys gt1 mt1 me (wipeE e3 vs1) (ys.drop (j + 1)) acc st' with | .ok acc' st4 => cloop2 src xs gt mt mi1 vs1 gt1 mt1 me (wipeE e vs) (xs.drop (i + 1)) acc' st4 | _ => .stuck) with | .ok ds st' => f ds st' | .exc c p st' => .exc c p st' | .stuck => .stuck) Q,
                      fun H' ⟨a, b⟩ => ⟨ys.length - (j + 1), by omega, a, rfl, b⟩, fun v1 H7 y1 => ?_⟩
                    obtain ⟨G7, R7, X7, rv7⟩ := Y1.yld j G6 H6 as6 st6 v1 H7 ys[j] R6 S6 P6 L6 hok1 (List.getElem?_eq_getElem hj) y1
                    have b7 := X7.beside hL6 hg6 ha6
                    cases q7 : gt1 ys[j] (wipeE e3 vs1) st6 with
                    | none => simp only [q7] at h6; exact h6.elim
                    | some z =>
                      obtain ⟨e8, st8⟩ := z
                      simp only [q7] at h6
                      have N6 : Rn g.K g.mg G6 as6 σ4 e3 := ⟨N5.len, fun i d q => let ⟨v, a, r⟩ := N5.at_ i d q; ⟨v, a, r.mono S6 P6⟩⟩
                      have Nw1 : Rn g.K g.mg G7 as6 (wipe σ4 vs1) (wipeE e3 vs1) := (N6.ext X7).wipe vs1
                      refine sg1 G7 H7 as6 st6 (wipe σ4 vs1) (wipeE e3 vs1) v1 ys[j] e8 st8 _ R7 Nw1 rv7 q7 fun σ8 w8 N8 es => ?_
                      subst es
                      refine ⟨w8.trans wipe_wipe, ?_⟩
                      refine stt1 W0 G7 H7 as6 st8 σ8 e8 _ R7 N8 ?_
                      cases q8 : mt1 e8 st8 with
                      | stuck => simp only [q8] at h6; exact h6
                      | exc c p st9 => simp only [q8] at h6; exact h6.elim
                      | ok b1 st9 =>
                        intro G8 H8 as8 R8 X8
                        have b8 := X8.beside b7.2.2 b7.1 b7.2.1
                        have X18 := (X6.trans X7).trans X8
                        have X58 := X7.trans X8
                        have L8 : ∀ a o kvs, H5 a = some (.frz o (.dK kvs)) → H8 a = some (.frz o (.dK kvs)) := fun a o kvs h => X58.lk a o kvs (L6 a o kvs h)
                        cases b1 with
                        | false =>
                          simp only [q8] at h6
                          exact iteF ⟨hj, G8, as8, st9, us6, acc6, R8, X18, fun a o h => X58.sub a o (S6 a o h), P6.trans X58.pre, L8, b8.2.2, b8.1, b8.2.1, (ru6.ext X7).ext X8, h6⟩
                        | true =>
                          refine iteT ?_
                          refine se W0 G8 H8 as8 st9 σ8 e8 _ R8 (N8.ext X8) ?_
                          cases q9 : me e8 st9 with
                          | stuck => simp only [q8, q9] at h6; exact h6
                          | exc c p st10 => simp only [q8, q9] at h6; exact h6.elim
                          | ok d st10 =>
                            simp only [q8, q9] at h6
                            intro w G9 H9 as9 R9 X9 rw'
                            have b9 := X9.beside b8.2.2 b8.1 b8.2.1
                            have ru9 := ((ru6.ext X7).ext X8).ext X9
                            have X59 := X58.trans X9
                            by_cases hl : acc6.length < LIM
                            · rw [if_pos hl] at h6
                              refine ⟨us6, b9.2.2, by rw [ru9.len]; exact lim_lt hl, hj, G9, as9, st10, us6 ++ [w], acc6 ++ [d], R9.touch b9.1 b9.2.1, (X18.trans X9).touch hD, fun a o h => X59.sub a o (S6 a o h), P6.trans X59.pre, fun a o kvs h => ?_, upd_same, b9.1, b9.2.1, ru9.append (.cons rw' .nil), h6⟩
                              have h9 := X59.lk a o kvs (L6 a o kvs h)
                              have : a ≠ D0 := fun z => by subst z; rw [b9.2.2] at h9; cases h9
                              rw [upd_ne this]; exact h9
                            · rw [if_neg hl] at h6; exact h6.elim
                  · simp only [hok1] at h6; exact h6.elim
                · have ej : j = ys.length := by omega
                  subst ej
                  rw [List.drop_length] at h6
                  unfold cloop at h6
                  by_cases hok1 : srcOk src1 ys st6 = true
                  · simp only [hok1, if_true] at h6
                    exact .inl ⟨Y1.stop G6 H6 as6 st6 R6 S6 P6 L6 hok1, hi, G6, as6, st6, us6, acc6, R6, X6, hL6, hg6, ha6, ru6, h6⟩
                  · simp only [hok1] at h6; exact h6.elim
      · simp only [hok] at h2; exact h2.elim
    · have ei : i = xs.length := by omega
      subst ei
      rw [List.drop_length] at h2
      unfold cloop2 at h2
      by_cases hok : srcOk src xs st2 = true
      · simp only [hok, if_true] at h2
        exact .inl ⟨Y.stop G2 H2 as2 st2 R2 X2.sub X2.pre X2.lk hok, fin acc st2 G2 H2 as2 G1 H1 as1 us D0 R2 ru hL hg ha X2 hD h2⟩
      · simp only [hok] at h2; exact h2.elim
theorem je_lc2 {elt tg iter tg1 iter1 : Expr} {ifs ifs1 : List Expr} {scope : Scope} (own : List (Str × Nat)) (vs1 : List Nat) {mi mi1 : XM (List D × Option Nat)} {gt gt1 : MG} {mt mt1 : XM Bool} {me : XM D} (hi : JI F tg iter mi) (ok : blkC F.N F.sc scope own = true) (hv : ∀ i ∈ vs1, i ∈ own.map (·.2)) (hg : JC (famC F scope) (own.map (·.2)) tg gt)
    (ht : JTs (famC F scope) ifs mt) (hi1 : JI (famC F scope) tg1 iter1 mi1) (hg1 : JC (famC F scope) vs1 tg1 gt1) (ht1 : JTs (famC F scope) ifs1 mt1) (he : JE (famC F scope) elt me) (hs : ∀ env x, foldedSetIterable iter env x = pure x := by intro _ _; rfl) (hs1 : ∀ env x, foldedSetIterable iter1 env x = pure x := by intro _ _; rfl) :
    JE F (.ListComp elt [⟨tg, iter, ifs, 0⟩, ⟨tg1, iter1, ifs1, 0⟩] scope pos) (xcomp2 mi (own.map (·.2)) gt mt mi1 vs1 gt1 mt1 me) := by
  obtain ⟨wi, pi, si⟩ := hi
  obtain ⟨tg', pg', sg'⟩ := hg
  obtain ⟨tt, pt, stt⟩ := ht
  obtain ⟨wi1, pi1, si1⟩ := hi1
  obtain ⟨tg1', pg1', sg1'⟩ := hg1
  obtain ⟨tt1, pt1, stt1⟩ := ht1
  obtain ⟨te, pe, se⟩ := he
  refine ⟨fun W => tLc2 (wi W) tg' (tt W0) (wi1 W0) tg1' (tt1 W0) (te W0) (own.map (·.2)) vs1, fun W X m => ?_, ?_⟩
  · have hm : ∀ (s : Shared) (H : Hp) (C : Addr) (cl : List (Str × Addr)) (fp : List Addr), (famC F scope).mem W0 (X.blk s H scope (compEnvC scope cl C X.env) fp) := fun s H C cl fp => ⟨rfl, W, X, s, H, C, cl, fp, m, rfl⟩
    exact pe_lc2 (F.calm m) (by rw [F.hN m]; exact F.nd) (pi W X m) (by rw [F.hN m, F.hsc m]; exact blkOk_by ok) hv (fun s H C cl fp => pg' _ _ (hm s H C cl fp)) (fun s H C cl fp => pt _ _ (hm s H C cl fp)) (fun s H C cl fp => pi1 _ _ (hm s H C cl fp)) (fun s H C cl fp => pg1' _ _ (hm s H C cl fp)) (fun s H C cl fp => pt1 _ _ (hm s H C cl fp)) (fun s H C cl fp => pe _ _ (hm s H C cl fp)) (hs _) hs1
  · intro W G H as st σ e Q R N h
    refine comp2_read si sg' stt si1 sg1' stt1 se W G H as st σ e Q R N (fun ds st' => .ok (.lst ds) st') ?_ ?_
    · refine Eq.mp (congrArg (fun r => PX g.K g.mg W G H as σ r Q) ?_) h
      unfold xcomp2 xbind xpure
      cases xcomp2L mi (own.map (·.2)) gt mt mi1 vs1 gt1 mt1 me e st <;> rfl
    · intro ds st' G1 H1 as1 G2 H2 as2 us p R1 ru hp gn na X1 hn hq
      refine hq _ _ H1 as1 (R1.freeze hp gn na) (X1.freeze hn gn) (.lst upd_same (ru.mono (fun a u e => ?_) (List.prefix_refl _)))
      rw [upd_ne (ne_of_none e gn)]; exact e
theorem js_setLc2 (i : Nat) {y : Str} {py spos : Pos} {elt tg iter tg1 iter1 : Expr} {ifs ifs1 : List Expr} {scope : Scope} (own : List (Str × Nat)) (vs1 : List Nat) {mi mi1 : XM (List D × Option Nat)} {gt gt1 : MG} {mt mt1 : XM Bool} {me : XM D} (hy : F.N[i]? = some y) (hyl : F.sc.names.lookup y = some .local)
    (hsw : ∀ W X, F.mem W X → swapsWith (.ListComp elt [⟨tg, iter, ifs, 0⟩, ⟨tg1, iter1, ifs1, 0⟩] scope pos) (some (.Name y py)) spos.line X.env = pure true) (hi : JI F tg iter mi) (ok : blkC F.N F.sc scope own = true) (hv : ∀ i ∈ vs1, i ∈ own.map (·.2)) (hg : JC (famC F scope) (own.map (·.2)) tg gt)
    (ht : JTs (famC F scope) ifs mt) (hi1 : JI (famC F scope) tg1 iter1 mi1) (hg1 : JC (famC F scope) vs1 tg1 gt1) (ht1 : JTs (famC F scope) ifs1 mt1) (he : JE (famC F scope) elt me) (hs : ∀ env x, foldedSetIterable iter env x = pure x := by intro _ _; rfl) (hs1 : ∀ env x, foldedSetIterable iter1 env x = pure x := by intro _ _; rfl) :
    JS F (.Assign [.Name y py] (.ListComp elt [⟨tg, iter, ifs, 0⟩, ⟨tg1, iter1, ifs1, 0⟩] scope pos) spos) (sset i (xcomp2 mi (own.map (·.2)) gt mt mi1 vs1 gt1 mt1 me)) := by
  obtain ⟨wi, pi, si⟩ := hi
  obtain ⟨tg', pg', sg'⟩ := hg
  obtain ⟨tt, pt, stt⟩ := ht
  obtain ⟨wi1, pi1, si1⟩ := hi1
  obtain ⟨tg1', pg1', sg1'⟩ := hg1
  obtain ⟨tt1, pt1, stt1⟩ := ht1
  obtain ⟨te, pe, se⟩ := he
  refine ⟨fun W => tAsg (tLc2 (wi W) tg' (tt W0) (wi1 W0) tg1' (tt1 W0) (te W0) (own.map (·.2)) vs1) (gName i), fun W X m => ?_, ?_⟩
  · have hm : ∀ (s : Shared) (H : Hp) (C : Addr) (cl : List (Str × Addr)) (fp : List Addr), (famC F scope).mem W0 (X.blk s H scope (compEnvC scope cl C X.env) fp) := fun s H C cl fp => ⟨rfl, W, X, s, H, C, cl, fp, m, rfl⟩
    exact ps_setLc2 (F.calm m) (by rw [F.hN m]; exact F.nd) (by rw [F.hN m]; exact hy) (by rw [F.hsc m]; exact hyl) (hsw W X m) (pi W X m) (by rw [F.hN m, F.hsc m]; exact blkOk_by ok) hv (fun s H C cl fp => pg' _ _ (hm s H C cl fp)) (fun s H C cl fp => pt _ _ (hm s H C cl fp)) (fun s H C cl fp => pi1 _ _ (hm s H C cl fp)) (fun s H C cl fp => pg1' _ _ (hm s H C cl fp)) (fun s H C cl fp => pt1 _ _ (hm s H C cl fp)) (fun s H C cl fp => pe _ _ (hm s H C cl fp)) (hs _) hs1
  · intro W G H as st σ e E R N h
    have h' : PX g.K g.mg W G H as σ (xcomp2 mi (own.map (·.2)) gt mt mi1 vs1 gt1 mt1 me e st) (fun x H1 => gName i x σ H1 E.nx) := by
      unfold sset sbind at h
      cases q : xcomp2 mi (own.map (·.2)) gt mt mi1 vs1 gt1 mt1 me e st with
      | stuck => rw [q] at h; exact h
      | exc c p st1 => rw [q] at h; exact fun cls d G1 H1 as1 R1 X1 x => h σ cls d G1 H1 as1 R1 (N.ext X1) X1 x
      | ok d st1 => rw [q] at h; exact fun v G1 H1 as1 R1 X1 rv => h _ G1 H1 as1 R1 ((N.ext X1).set i rv) X1
    refine comp2_read si sg' stt si1 sg1' stt1 se W G H as st σ e _ R N (fun ds st' => .ok (.lst ds) st') ?_ ?_
    · refine Eq.mp (congrArg (fun r => PX g.K g.mg W G H as σ r _) ?_) h'
      unfold xcomp2 xbind xpure
      cases xcomp2L mi (own.map (·.2)) gt mt mi1 vs1 gt1 mt1 me e st <;> rfl
    · intro ds st' G1 H1 as1 G2 H2 as2 us p R1 ru hp gn na X1 hn hq
      refine hq _ _ H1 as1 (R1.freeze hp gn na) (X1.freeze hn gn) (.lst upd_same (ru.mono (fun a u e => ?_) (List.prefix_refl _)))
      rw [upd_ne (ne_of_none e gn)]; exact e
end
end LS
end
section
set_option maxRecDepth 100000
set_option maxHeartbeats 2000000
namespace LS
open PySem PySem.Spec L2

/-! ## more of dicts -/
section
variable {g : Gb} {F : Fam g} {pos : Pos}
/-- the dict under the name in the slot j is locked while the expression is worth -/
def elock (j : Nat) (m : XM D) : XM D := fun e st => match e[j]? with
  | some (some (.ref i)) => (match st[i]? with
    | some (.dct kvs) => (match m e (st.set i (.lck kvs)) with
      | .ok d st' => .ok d (st'.set i (.dct kvs))
      | _ => .stuck)
    | _ => .stuck)
  | _ => .stuck
theorem je_lock (j : Nat) {ex : Expr} {m : XM D} (h : JE F ex m) : JE F ex (elock j m) := by
  obtain ⟨t, p, ss⟩ := h
  refine ⟨fun W => tLockE (t W), fun W X m => pe_lock (p W X m), ?_⟩
  intro W G H as st σ e Q R N h
  unfold elock at h
  cases q1 : e[j]? with
  | none => simp [q1] at h; exact h.elim
  | some o1 =>
    cases o1 with
    | none => simp [q1] at h; exact h.elim
    | some d =>
      cases d with
      | ref i =>
        obtain ⟨v, _, rv⟩ := N.at_ j _ q1
        obtain ⟨a, rfl, qa⟩ : ∃ a, v = .ref a ∧ as[i]? = some a := by cases rv with | ref q => exact ⟨_, rfl, q⟩
        simp only [q1] at h
        cases q2 : st[i]? with
        | none => simp [q2] at h; exact h.elim
        | some mo =>
          cases mo with
          | dct kds =>
            simp only [q2] at h
            obtain ⟨hob, e1, oo⟩ := R.at_ qa q2
            cases oo with
            | dct ek rr =>
              rename_i kv
              refine ⟨a, .dK kv, e1, trivial, fun od => ?_⟩
              obtain ⟨R1, X1⟩ := R.change (o := .frz od (.dK kv)) (m := .lck kds) qa (.lck ek rr) (fun u kvs z => by rw [e1] at z; cases z)
              refine ss W G (upd H a (.frz od (.dK kv))) as (st.set i (.lck kds)) σ e _ R1 (N.ext X1) ?_
              cases q3 : m e (st.set i (.lck kds)) with
              | stuck => rw [q3] at h; exact h.elim
              | exc c p st2 => rw [q3] at h; exact h.elim
              | ok d2 st2 =>
                rw [q3] at h
                intro v2 G2 H2 as2 R2 X2 rv2
                obtain ⟨h1, R3, X3⟩ := unlock_ok R qa e1 ek rr R2 X2
                exact ⟨h1, h v2 G2 _ as2 R3 X3 rv2⟩
          | _ => simp [q2] at h; exact h.elim
      | _ => simp [q1] at h; exact h.elim
/-- the keys of a locked dict -/
def keysD (kds : List (Key × D)) : List D := kds.map fun kv => kD kv.1
theorem yl_keys {G0 H0 : Hp} {as0 : List Addr} {a : Addr} {o : Obj} {kvs : List (Key × V)} {kds : List (Key × D)} (hd : H0 a = some (.frz o (.dK kvs))) (ek : kvs.map (·.1) = kds.map (·.1)) : Yl g G0 H0 as0 none (keysD kds) (Itk a o kvs) where
  go := fun i G H as st hi R hs hp hl _ => ⟨hl a o kvs hd, by
    have : kvs.length = kds.length := by simpa using congrArg List.length ek
    simpa [keysD, this] using hi⟩
  stop := fun G H as st R hs hp hl _ => ⟨hl a o kvs hd, by
    have : kvs.length = kds.length := by simpa using congrArg List.length ek
    simp [keysD, this]⟩
  yld := fun i G H as st v H' x R hs hp hl _ hx y => by
    obtain ⟨e0, k, u, e1, rfl⟩ := y
    subst e0
    refine ⟨G, R, Ext.refl, ?_⟩
    have e2 : (kds.map (·.1))[i]? = some k := by rw [← ek, List.getElem?_map, e1]; rfl
    rw [List.getElem?_map] at e2
    obtain ⟨kd, e3, e4⟩ := Option.map_eq_some_iff.mp e2
    unfold keysD at hx
    rw [List.getElem?_map, e3] at hx
    cases hx
    rw [← e4]
    exact kD_rp kd.1
def xkeysI (m : XM D) : XM (List D × Option Nat) := xbind m fun x => fun _ st => match x with
  | .ref i => (match st[i]? with
    | some (.lck kds) => .ok (keysD kds, none) st
    | _ => .stuck)
  | _ => .stuck
theorem ji_keys {tg e : Expr} {m : XM D} (h : JE F e m) : JI F tg e (xkeysI m) := by
  obtain ⟨t, p, s⟩ := h
  refine ⟨fun W => iKeys (t W), fun W X m => pi_keys (p W X m), ?_⟩
  intro W G H as st σ e R' R N h
  refine s W G H as st σ e _ R N ?_
  unfold xkeysI xbind at h
  cases q : m e st with
  | stuck => rw [q] at h; exact h
  | exc c p st1 => rw [q] at h; exact h
  | ok x st1 =>
    simp only [q] at h
    intro v G1 H1 as1 R1 X1 rv
    cases x with
    | ref i =>
      cases q2 : st1[i]? with
      | none => simp only [q2] at h; exact h.elim
      | some mo =>
        cases mo with
        | lck kds =>
          simp only [q2] at h
          obtain ⟨a, rfl, qa⟩ : ∃ a, v = .ref a ∧ as1[i]? = some a := by cases rv with | ref q => exact ⟨_, rfl, q⟩
          obtain ⟨hob, e1, oo⟩ := R1.at_ qa q2
          cases oo with
          | lck ek rr => exact ⟨a, _, rfl, .inl ⟨_, e1, h.2 _ G1 H1 as1 R1 X1 (yl_keys e1 ek)⟩⟩
        | _ => simp only [q2] at h; exact h.elim
    | _ => exact h.elim
/-- the values of a locked dict -/
def valsD (kds : List (Key × D)) : List D := kds.map (·.2)
theorem yl_vals {G0 H0 : Hp} {as0 : List Addr} {a : Addr} {o : Obj} {kvs : List (Key × V)} {kds : List (Key × D)} (hd : H0 a = some (.frz o (.dK kvs))) (ek : kvs.map (·.1) = kds.map (·.1)) (rr : RpA g.K g.mg G0 as0 (kvs.map (·.2)) (kds.map (·.2))) : Yl g G0 H0 as0 none (valsD kds) (Itd a o kvs) where
  go := fun i G H as st hi R hs hp hl _ => ⟨hl a o kvs hd, by
    have : kvs.length = kds.length := by simpa using congrArg List.length ek
    simpa [valsD, this] using hi⟩
  stop := fun G H as st R hs hp hl _ => ⟨hl a o kvs hd, by
    have : kvs.length = kds.length := by simpa using congrArg List.length ek
    simp [valsD, this]⟩
  yld := fun i G H as st v H' x R hs hp hl _ hx y => by
    obtain ⟨e0, k, e1⟩ := y
    subst e0
    obtain ⟨d, e2, ru⟩ := pair_at ek rr e1
    unfold valsD at hx
    rw [List.getElem?_map, e2] at hx
    cases hx
    exact ⟨G, R, Ext.refl, ru.mono hs hp⟩
def xvalsI (m : XM D) : XM (List D × Option Nat) := xbind m fun x => fun _ st => match x with
  | .ref i => (match st[i]? with
    | some (.lck kds) => .ok (valsD kds, none) st
    | _ => .stuck)
  | _ => .stuck
theorem ji_vals {tg e : Expr} {apos : Pos} {m : XM D} (h : JE F e m) (hb : ∀ env, attributeBase e "values" env (eval e env) = eval e env := by intro _; rfl) (hline : (apos.endLine == pos.line) = true := by rfl) : JI F tg (.Call (.Attribute e "values" apos) [] [] pos) (xvalsI m) := by
  obtain ⟨t, p, s⟩ := h
  refine ⟨fun W => iVals (t W), fun W X m => pi_values (p W X m) (hb _) hline, ?_⟩
  intro W G H as st σ e R' R N h
  refine s W G H as st σ e _ R N ?_
  unfold xvalsI xbind at h
  cases q : m e st with
  | stuck => rw [q] at h; exact h
  | exc c p st1 => rw [q] at h; exact h
  | ok x st1 =>
    simp only [q] at h
    intro v G1 H1 as1 R1 X1 rv
    cases x with
    | ref i =>
      cases q2 : st1[i]? with
      | none => simp only [q2] at h; exact h.elim
      | some mo =>
        cases mo with
        | lck kds =>
          simp only [q2] at h
          obtain ⟨a, rfl, qa⟩ : ∃ a, v = .ref a ∧ as1[i]? = some a := by cases rv with | ref q => exact ⟨_, rfl, q⟩
          obtain ⟨hob, e1, oo⟩ := R1.at_ qa q2
          cases oo with
          | lck ek rr => exact ⟨a, _, _, rfl, e1, h.2 _ G1 H1 as1 R1 X1 (yl_vals e1 ek rr)⟩
        | _ => simp only [q2] at h; exact h.elim
    | _ => exact h.elim
/-- one pair behind the other -/
def mergeKD (kds more : List (Key × D)) : List (Key × D) := more.foldl (fun acc kv => putKD acc kv.1 kv.2) kds
theorem mergeKD_ok {K : PySem.W.Frag} {mg : Str → Option Value} {G : Hp} {as : List Addr} : ∀ {more : List (Key × V)} {moreD : List (Key × D)} {kvs : List (Key × V)} {kds : List (Key × D)}, more.map (·.1) = moreD.map (·.1) → RpA K mg G as (more.map (·.2)) (moreD.map (·.2)) → kvs.map (·.1) = kds.map (·.1) → RpA K mg G as (kvs.map (·.2)) (kds.map (·.2)) →
    (mergeK kvs more).map (·.1) = (mergeKD kds moreD).map (·.1) ∧ RpA K mg G as ((mergeK kvs more).map (·.2)) ((mergeKD kds moreD).map (·.2))
  | [], [], _, _, _, _, e, q => ⟨e, q⟩
  | [], _ :: _, _, _, e, _, _, _ => by simp at e
  | _ :: _, [], _, _, e, _, _, _ => by simp at e
  | (k1, v) :: r, (k2, d) :: s, kvs, kds, e, q, e0, q0 => by
    have e' : k1 = k2 ∧ r.map (·.1) = s.map (·.1) := by simpa using e
    obtain ⟨rfl, e'⟩ := e'
    cases q with
    | cons q1 q2 =>
      obtain ⟨p1, p2⟩ := putKD_ok k1 q1 e0 q0
      have := mergeKD_ok (kvs := putK kvs k1 v) (kds := putKD kds k1 d) e' q2 p1 p2
      exact this
/-- keys and values -/
def prsD : List (D × D) → Option (List (Key × D))
  | [] => some []
  | (a, b) :: r => match keyD a, prsD r with
    | some k, some s => some ((k, b) :: s)
    | _, _ => none
theorem prsD_ok {K : PySem.W.Frag} {mg : Str → Option Value} {G : Hp} {as : List Addr} : ∀ {ps : List (V × V)} {xs : List (D × D)} {kds : List (Key × D)}, RpA K mg G as (ps.map (·.1)) (xs.map (·.1)) → RpA K mg G as (ps.map (·.2)) (xs.map (·.2)) → prsD xs = some kds →
    ∃ kvs : List (Key × V), ps = kvs.map (fun kv => (kV kv.1, kv.2)) ∧ kvs.map (·.1) = kds.map (·.1) ∧ RpA K mg G as (kvs.map (·.2)) (kds.map (·.2)) ∧ kvs.length = xs.length
  | [], [], _, _, _, h => by cases h; exact ⟨[], rfl, rfl, .nil, rfl⟩
  | [], _ :: _, _, r, _, _ => by cases r
  | _ :: _, [], _, r, _, _ => by cases r
  | (v, w) :: r, (a, b) :: s, kds, r1, r2, h => by
    unfold prsD at h
    cases q1 : keyD a with
    | none => simp [q1] at h
    | some k =>
      cases q2 : prsD s with
      | none => simp [q1, q2] at h
      | some kd2 =>
        simp only [q1, q2, Option.some.injEq] at h
        subst h
        cases r1 with
        | cons a1 a2 =>
          cases r2 with
          | cons b1 b2 =>
            obtain ⟨kvs, e1, e2, e3, e4⟩ := prsD_ok a2 b2 q2
            refine ⟨(k, w) :: kvs, ?_, by simp [e2], .cons b1 e3, by simp [e4]⟩
            have : v = kV k := keyD_ok a1 q1
            simp [e1, this]
/-- the pairs of a display -/
def JPs (F : Fam g) (pos : Pos) (keys : List (Option Expr)) (values : List Expr) (m : XM (List (D × D))) : Prop := ∃ trs : WX → List (TE × TE), (∀ W X, F.mem W X → PPs X pos keys values (trs W)) ∧
  ∀ (W : WX) (G H : Hp) (as : List Addr) (st : Store) (σ : L2.St) (e : Nv) (Q : List (V × V) → Hp → Prop) (xs : List (D × D)) (st' : Store), Ri g.K g.mg G H as st → Rn g.K g.mg G as σ e → m e st = .ok xs st' →
    (∀ ps G' H' as', Ri g.K g.mg G' H' as' st' → Ext G H as G' H' as' → RpA g.K g.mg G' as' (ps.map (·.1)) (xs.map (·.1)) → RpA g.K g.mg G' as' (ps.map (·.2)) (xs.map (·.2)) → Q ps H') → tPairs (trs W) σ H Q
theorem jps_nil : JPs F pos [] [] (xpure []) := by
  refine ⟨fun _ => [], fun _ _ _ => pps_nil, ?_⟩
  intro W G H as st σ e Q xs st' R N h k
  cases h
  exact k [] G H as R Ext.refl .nil .nil
def xpair (mk mv : XM D) (ms : XM (List (D × D))) : XM (List (D × D)) := xbind mk fun x => xbind mv fun y => xbind ms fun r => xpure ((x, y) :: r)
theorem jps_cons {k v : Expr} {ks : List (Option Expr)} {vs : List Expr} {mk mv : XM D} {ms : XM (List (D × D))} (hk : JE F k mk) (hv : JE F v mv) (hr : JPs F pos ks vs ms) : JPs F pos (some k :: ks) (v :: vs) (xpair mk mv ms) := by
  obtain ⟨tk, pk, sk⟩ := hk
  obtain ⟨tv, pv, sv⟩ := hv
  obtain ⟨ts, ps, ss⟩ := hr
  refine ⟨fun W => (tk W, tv W) :: ts W, fun W X m => pps_cons (pk W X m) (pv W X m) (ps W X m), ?_⟩
  intro W G H as st σ e Q xs st' R N h kk
  unfold xpair xbind at h
  refine sk W G H as st σ e _ R N ?_
  cases q1 : mk e st with
  | stuck => simp [q1] at h
  | exc c p st1 => simp [q1] at h
  | ok x st1 =>
    simp only [q1] at h
    intro u G1 H1 as1 R1 X1 ru
    refine sv W G1 H1 as1 st1 σ e _ R1 (N.ext X1) ?_
    cases q2 : mv e st1 with
    | stuck => simp [q2] at h
    | exc c p st2 => simp [q2] at h
    | ok y st2 =>
      simp only [q2] at h
      intro w G2 H2 as2 R2 X2 rw'
      cases q3 : ms e st2 with
      | stuck => simp [q3] at h
      | exc c p st3 => simp [q3] at h
      | ok r st3 =>
        simp only [q3, xpure] at h
        cases h
        refine ss W G2 H2 as2 st2 σ e _ r st' R2 ((N.ext X1).ext X2) q3 fun ps3 G3 H3 as3 R3 X3 r1 r2 => ?_
        exact kk _ G3 H3 as3 R3 ((X1.trans X2).trans X3) (.cons ((ru.ext X2).ext X3) r1) (.cons (rw'.ext X3) r2)
/-- {k: v, ..} -/
def xdisp (m : XM (List (D × D))) : XM D := fun e st => match m e st with
  | .ok xs st' => (match prsD xs with
    | some kds => if xs.length ≤ 15 then .ok (.ref st'.length) (st' ++ [.dct (mergeKD [] kds)]) else .stuck
    | none => .stuck)
  | _ => .stuck
theorem je_disp {keys : List (Option Expr)} {values : List Expr} {m : XM (List (D × D))} (h : JPs F pos keys values m) (hall : keys.all (·.isSome) = true) (hl : keys.length = values.length) (h0 : keys ≠ []) (h15 : keys.length ≤ 15) : JE F (.Dict keys values pos) (xdisp m) := by
  obtain ⟨ts, ps, ss⟩ := h
  refine ⟨fun W => tDisp (ts W), fun W X m => pe_disp (ps W X m) hall hl h0 h15, ?_⟩
  intro W G H as st σ e Q R N h p hp
  unfold xdisp at h
  cases q1 : m e st with
  | stuck => simp [q1] at h; exact h.elim
  | exc c p st1 => simp [q1] at h; exact h.elim
  | ok xs st1 =>
    simp only [q1] at h
    cases q2 : prsD xs with
    | none => simp [q2] at h; exact h.elim
    | some kds =>
      simp only [q2] at h
      by_cases hl2 : xs.length ≤ 15
      · rw [if_pos hl2] at h
        have hd0 := R.none_of hp
        have X0 : Ext G H as G (upd H p (.dK [])) as := Ext.refl.touch hp
        refine ss W G (upd H p (.dK [])) as st σ e _ xs st1 (R.touch hd0.1 hd0.2) (N.ext X0) q1 fun ps1 G1 H1 as1 R1 X1 r1 r2 => ?_
        obtain ⟨b1, b2, b3⟩ := X1.beside upd_same hd0.1 hd0.2
        obtain ⟨kvs, e1, e2, e3, e4⟩ := prsD_ok r1 r2 q2
        refine ⟨b3, kvs, e1, by rw [e4]; exact hl2, ?_⟩
        obtain ⟨m1, m2⟩ := mergeKD_ok (kvs := []) (kds := []) e2 e3 rfl .nil
        have R2 := (R1.touch (o := .dK (mergeK [] kvs)) b1 b2).adopt (m := .dct (mergeKD [] kds)) upd_same b1 b2 (.dct m1 m2)
        refine h _ _ _ _ R2 (((X0.trans X1).touch hp).adopt hp) (.ref ?_)
        rw [← R1.len, List.getElem?_append_right (Nat.le_refl _), Nat.sub_self]; rfl
      · rw [if_neg hl2] at h; exact h.elim
/-- dict([(k, v), ..]) -/
def tupsD : List D → Option (List (D × D))
  | [] => some []
  | .tup [a, b] :: r => (tupsD r).map fun s => (a, b) :: s
  | _ => none
def dictPD (x : D) : XM D := fun _ st => match lstOf st x with
  | some xs => (match tupsD xs with
    | some ps => (match prsD ps with
      | some kds => .ok (.ref st.length) (st ++ [.dct (mergeKD [] kds)])
      | none => .stuck)
    | none => .stuck)
  | none => .stuck
theorem tupsD_ok {K : PySem.W.Frag} {mg : Str → Option Value} {G H : Hp} {as : List Addr} {st : Store} (R : Ri K mg G H as st) : ∀ {vs : List V} {xs : List D} {ps : List (D × D)} {kds : List (Key × D)}, RpA K mg G as vs xs → tupsD xs = some ps → prsD ps = some kds →
    ∃ (qs : List Addr) (kvs : List (Key × V)), vs = qs.map V.ref ∧ Paired (fun p kv => SqT K H p [kV kv.1, kv.2]) qs kvs ∧ kvs.map (·.1) = kds.map (·.1) ∧ RpA K mg G as (kvs.map (·.2)) (kds.map (·.2))
  | _, [], _, _, r, h, h2 => by cases r; cases h; cases h2; exact ⟨[], [], rfl, .nil, rfl, .nil⟩
  | _, x :: xs, ps, kds, r, h, h2 => by
    cases r with
    | cons r1 r2 =>
      match x, r1, h with
      | .tup [a, b], r1, h =>
        obtain ⟨s, e1, rfl⟩ := Option.map_eq_some_iff.mp (show (tupsD xs).map (fun s => (a, b) :: s) = some ps from h)
        unfold prsD at h2
        cases q1 : keyD a with
        | none => simp [q1] at h2
        | some k =>
          cases q2 : prsD s with
          | none => simp [q1, q2] at h2
          | some kd2 =>
            simp only [q1, q2, Option.some.injEq] at h2
            subst h2
            obtain ⟨qs, kvs, f1, f2, f3, f4⟩ := tupsD_ok R r2 e1 q2
            cases r1 with
            | tup sq rr =>
              rename_i ad us
              obtain ⟨u, w, rfl, ra, rb⟩ := rp2 rr
              have eu : u = kV k := keyD_ok ra q1
              subst eu
              exact ⟨ad :: qs, (k, w) :: kvs, by simp [f1], .cons (sqT_H R sq) f2, by simp [f3], .cons rb f4⟩
theorem cs_dictP : CallS F (.type "dict") (f1 dictPD) := by
  refine cs_1 (fun W X m => by have := call_dictP (X := X) (F.calm m); rw [F.hK m] at this; exact this) ?_
  intro W G H as st σ e x v Q R rx h
  unfold dictPD at h
  cases q1 : lstOf st x with
  | none => simp [q1] at h; exact h.elim
  | some xs =>
    cases q2 : tupsD xs with
    | none => simp [q1, q2] at h; exact h.elim
    | some ps =>
      cases q3 : prsD ps with
      | none => simp [q1, q2, q3] at h; exact h.elim
      | some kds =>
        simp only [q1, q2, q3] at h
        obtain ⟨a, vs, rfl, hs, rr⟩ := lstOf_ok R rx q1
        obtain ⟨qs, kvs, rfl, f2, f3, f4⟩ := tupsD_ok R rr q2 q3
        refine ⟨a, qs, kvs, rfl, .of hs, f2, fun p hp => ?_⟩
        obtain ⟨m1, m2⟩ := mergeKD_ok (kvs := []) (kds := []) f3 f4 rfl .nil
        obtain ⟨R', X'⟩ := R.moving (o := .dK (mergeK [] kvs)) (m := .dct (mergeKD [] kds)) hp (.dct m1 m2)
        exact h _ G _ _ R' X' (.ref (by rw [← R.len, List.getElem?_append_right (Nat.le_refl _), Nat.sub_self]; rfl))
end
end LS
end
section
set_option maxRecDepth 100000
set_option maxHeartbeats 2000000
namespace LS
open PySem PySem.Spec L2

/-! ## sorted -/
section raw
open PySem.W PyProof.Rows PySem.Calls
variable {prog : Program} {w : World} {A : Around} {E : Value → Shared → Prop} {s : Shared}
theorem sorted_seqA {l : Addr} {T : String} {o : Obj} {items : Array Value} {n : Nat} {β : Type} {bs : List β} {enc : β → PyData} {R : Value → β → Prop} {Q : Value → Shared → Prop} (hT : T = "list" ∨ T = "tuple") (ho : s.heap.get? l = some o) (hc : o.cls = .type T) (hd : o.data = .seq items n) (hsz : items.size ≤ sizeLine)
    (e : EachIs R items.toList bs) (er : EachIs (fun v b => ∃ as, Reads s.heap v (enc b) as) items.toList bs) (hal : AllAlike (bs.map enc)) (hk : Sortable (bs.map enc)) (hu : ∀ b, b ∈ bs → A.units + 2 + (enc b).depth < cLine)
    (h : ∀ (h' : Heap) (out : List Value) (ep : Nat) (hf : Heap), (∀ b o, s.heap.get? b = some o → h'.get? b = some o) → (∀ b o, h'.get? b = some o → hf.get? b = some o) → hf.get? h'.objs.size = some (seqObj "list" (List.toArray out) ep) → EachIs R out (bs.mergeSort (dataLe false enc)) → Q (.ref h'.objs.size) { s with heap := hf }) :
    wpAny (model prog w) A (call (.builtin "sorted") [.ref l]) Q E s := by
  refine call_function_entry_kw kind_sorted plain_sorted entry_sorted (args_sorted1 _) ?_
  unfold Builtin.«sorted»
  refine wpAny_bind (m := checkCount "sorted" 1 1 _) (wpAny_pure ?_)
  refine wpAny_bind (wpAny_collect_seq l hT ho hc hd (fun h' k => ?_) hsz)
  have hL : items.toList.length ≤ sizeLine := by simpa using hsz
  refine wpAny_bind (wpAny_newList ?_ hL)
  have hoL : (h'.push (seqObj "list" items.toList.toArray 0)).get? h'.objs.size = some (seqObj "list" items.toList.toArray 0) := Heap.get?_push_size _ rfl
  have er' : EachIs (fun v b => ∃ as, Reads (sortingHeap (h'.push (seqObj "list" items.toList.toArray 0)) h'.objs.size items.toList) v (enc b) as) items.toList bs := er.mono fun _ _ ⟨as, r⟩ => ⟨as, PyProof.Rows.Reads.keeps (fun b o q => by
    have hlt := Heap.lt_size (k b o q)
    exact sortingHeap_old (Nat.ne_of_lt hlt) (Heap.get?_push_of_some _ (k b o q))) r⟩
  refine wpAny_bind (wpAny_holding (wpAny_call_entry_kw slot_list_sort ⟨_, hoL, rfl⟩ entry_list_sort ?body (args_list_sort _)))
  case body =>
    show wpAny (model prog w) A.in1.in1 (Builtin.«list.sort» ⟨[.ref h'.objs.size], []⟩) _ _ { s with heap := h'.push (seqObj "list" items.toList.toArray 0) }
    have S := SortsAt.data (prog := prog) (w := w) (A := A.in1.in1) (s := { s with heap := sortingHeap (h'.push (seqObj "list" items.toList.toArray 0)) h'.objs.size items.toList }) (each_map (R := fun v d => ∃ as, Reads (sortingHeap (h'.push (seqObj "list" items.toList.toArray 0)) h'.objs.size items.toList) v d as) enc er') hal hk (bound_map hu)
    refine list_sort_vals (s := { s with heap := h'.push (seqObj "list" items.toList.toArray 0) }) hoL S hL ?_
    refine ⟨_, rfl, wpAny_pure ⟨_, rfl, ?_⟩⟩
    obtain ⟨ep, he⟩ := sortedHeap_at (vs := items.toList) (out := (sortVals (dataKind (sortingHeap (h'.push (seqObj "list" items.toList.toArray 0)) h'.objs.size items.toList) (bs.map enc)) false items.toList items.toList).toArray) hoL
    refine h h' _ ep _ k (fun b o q => ?_) he (sortVals_data false e er' hal)
    have hlt := Heap.lt_size q
    show (sortedHeap _ _ _ _).get? b = some o
    rw [sortedHeap_old (Nat.ne_of_lt hlt) (by rw [Heap.size_push]; exact Nat.lt_succ_of_lt hlt)]
    exact Heap.get?_push_of_some _ q
end raw
section
open PySem.W
theorem each_of_vals : ∀ {bs : List (V × PyData)} {its : List Value}, Vals (bs.map (·.1)) its → EachIs (fun v b => RelV b.1 v) its bs
  | [], _, r => by cases r; exact .nil
  | b :: bs, _, r => by
    cases r with
    | cons h t => exact .cons h (each_of_vals t)
theorem vals_of_each : ∀ {bs : List (V × PyData)} {its : List Value}, EachIs (fun v b => RelV b.1 v) its bs → Vals (bs.map (·.1)) its
  | [], _, r => by cases r; exact .nil
  | b :: bs, _, r => by
    cases r with
    | cons h t => exact .cons h (vals_of_each t)
def rSortA (K : PySem.W.Frag) : List V → Hp → VK → Prop := fun vs H Q => ∃ (a : Addr) (bs : List (V × PyData)), vs = [V.ref a] ∧ (SqL K H a (bs.map (·.1)) ∨ SqT K H a (bs.map (·.1))) ∧ (∀ b ∈ bs, Dp K H b.1 b.2) ∧ AllAlike (bs.map (·.2)) ∧ Sortable (bs.map (·.2)) ∧ (∀ b ∈ bs, b.2.depth ≤ 60) ∧
  ∀ p, H p = none → Q (.ref p) (upd H p (.lst ((bs.mergeSort (dataLe false (·.2))).map (·.1))))
theorem each_reads {X : Cx} {pins : List (Addr × Obj)} {σ : L2.St} {H : Hp} {s : Shared} (I : Inv X pins σ H s) : ∀ {bs : List (V × PyData)} {its : List Value}, (∀ b ∈ bs, Dp X.K H b.1 b.2) → EachIs (fun v b => RelV b.1 v) its bs → EachIs (fun v b => ∃ as, Reads s.heap v b.2 as) its bs
  | [], _, _, r => by cases r; exact .nil
  | b :: bs, _, hd, r => by
    cases r with
    | cons h t => exact .cons (Dp.reads I _ _ _ (hd b (by simp)) h) (each_reads I (fun c hc => hd c (by simp [hc])) t)
theorem cr_sortA {X : Cx} (hu : X.A.units + 65 < cLine) : CallR X (.builtin "sorted") (rSortA X.K) := by
  intro pins s σ H vs us Q I r h
  obtain ⟨a, bs, rfl, hs, hdp, hal, hk, hdep, q⟩ := h
  rw [Vals.ref1 r]
  have main : ∀ (T : String) (o : Obj) (its : List Value) (n : Nat), T = "list" ∨ T = "tuple" → s.heap.get? a = some o → o.cls = .type T → o.data = .seq its.toArray n → (bs.map (·.1)).length ≤ sizeLine → Vals (bs.map (·.1)) its → wpAny (model X.prog X.w) X.A (PySem.call (.builtin "sorted") [.ref a]) (EP X pins σ Q) X.xe s := by
    intro T o its n hT ho hc hd hz rv
    have e0 : EachIs (fun v b => RelV b.1 v) its.toArray.toList bs := by simpa using each_of_vals rv
    refine sorted_seqA (enc := fun b : V × PyData => b.2) hT ho hc hd (by simp; rw [← rv.length]; exact hz) e0 (each_reads I hdp e0) hal hk (fun b hb => by have := hdep b hb; omega) fun h' out ep hf k1 k2 he e1 => ?_
    have rv2 := vals_of_each e1
    have I' : Inv X pins σ H { s with heap := h' } := I.kept (t' := s.toks) k1
    have hlen : ((bs.mergeSort (dataLe false (·.2))).map (·.1)).length ≤ sizeLine := by
      rw [List.length_map, (List.mergeSort_perm _ _).length_eq]
      rw [List.length_map] at hz; exact hz
    exact ⟨.ref _, upd H h'.objs.size (.lst ((bs.mergeSort (dataLe false (·.2))).map (·.1))), I'.laid (t' := s.toks) k2 (Nat.le_refl _) ⟨hlen, out, ep, rv2, he⟩, rfl, q _ (I'.hok.fresh (Nat.le_refl _))⟩
  rcases hs with hs | hs
  · obtain ⟨its, rv, p, hz⟩ := I.list hs
    obtain ⟨o, ho, hc, n, hd⟩ := p.isList
    exact main "list" o its n (.inl rfl) ho hc hd hz rv
  · obtain ⟨its, rv, p, hz⟩ := I.tuple hs
    have p' : s.heap.IsTuple a its.toArray := p
    obtain ⟨o, ho, hc, n, hd⟩ := p'
    exact main "tuple" o its n (.inr rfl) ho hc hd hz rv
/-- of one thing, or none -/
def rSort1 (K : PySem.W.Frag) : List V → Hp → VK → Prop := fun vs H Q => ∃ (a : Addr) (xs : List V), vs = [V.ref a] ∧ SqL K H a xs ∧ xs.length ≤ 1 ∧ ∀ p, H p = none → Q (.ref p) (upd H p (.lst xs))
theorem cr_sort1 {X : Cx} : CallR X (.builtin "sorted") (rSort1 X.K) := by
  intro pins s σ H vs us Q I r h
  obtain ⟨a, xs, rfl, hs, h1, q⟩ := h
  obtain ⟨its, rv, hl, hz⟩ := I.list hs
  rw [Vals.ref1 r]
  have hli := rv.length
  refine SrtO.sorted_ord (ltv := fun _ _ => false) ⟨fun _ _ h => (by cases h), fun _ _ _ _ _ => rfl⟩ hl.isList (by rw [← rv.length]; exact hz) (fun h2 => by omega) fun out h1 h2 => ?_
  have eo : out = its := by
    have hp := h2.perm
    match its, hli with
    | [], _ => exact hp.eq_nil
    | [v], _ => exact List.perm_singleton.mp hp
    | _ :: _ :: _, hli => simp at hli; omega
  subst eo
  obtain ⟨ep, he'⟩ := PyProof.Rows.sortedAll_at s.heap out out.toArray
  exact ⟨.ref _, upd H (s.heap.objs.size + 1) (.lst xs), I.laid (t' := s.toks) (fun _ _ => PyProof.Rows.sortedAll_old) (Nat.le_succ _) ⟨hz, out, ep, rv, he'⟩, rfl, q _ (I.hok.fresh (Nat.le_succ _))⟩
end
section
variable {g : Gb} {F : Fam g} {pos : Pos}
open PySem.W (AllAlike Sortable alike dataLe dataLt sort_maps)
def encD (x : D) : PyData := (pyD x).getD .none
def sleD (x y : D) : Bool := !dataLt (encD y) (encD x)
def sortD (xs : List D) : List D := xs.mergeSort sleD
def isT1 : PyData → Bool
  | .tuple (_ :: _) => true
  | _ => false
def noT : PyData → Bool
  | .tuple _ => false
  | .none => false
  | _ => true
def srtOk (ps : List PyData) : Bool := (ps.all fun p => ps.all fun q => alike p q) && (ps.all isT1 || ps.all noT) && ps.all fun p => decide (p.depth ≤ 60)
def sortedD (x : D) : XM D := fun _ st => match seqOf st x with
  | some xs => (match pyDs xs with
    | some ps => if srtOk ps = true then .ok (.lst (sortD xs)) st else (match lstOf st x with
      | some ys => if ys.length ≤ 1 then .ok (.lst ys) st else .stuck
      | none => .stuck)
    | none => .stuck)
  | none => .stuck
theorem pyDs_get : ∀ {xs : List D} {ps : List PyData}, pyDs xs = some ps → (∀ x ∈ xs, ∃ p, pyD x = some p) ∧ ps = xs.map encD
  | [], ps, h => by cases h; exact ⟨by simp, rfl⟩
  | x :: r, ps, h => by
    unfold pyDs at h
    cases q1 : pyD x with
    | none => simp [q1] at h
    | some p =>
      cases q2 : pyDs r with
      | none => simp [q1, q2] at h
      | some ps2 =>
        simp only [q1, q2, Option.some.injEq] at h
        obtain ⟨a, b⟩ := pyDs_get q2
        refine ⟨fun y hy => ?_, ?_⟩
        · rcases List.mem_cons.mp hy with rfl | hy
          · exact ⟨p, q1⟩
          · exact a y hy
        · rw [← h, b]; simp [encD, q1]
theorem zip_rp {K : PySem.W.Frag} {mg : Str → Option Value} {G : Hp} {as : List Addr} : ∀ {vs : List V} {xs : List D}, RpA K mg G as vs xs → ∀ t ∈ vs.zip xs, Rp K mg G as t.1 t.2
  | _, _, .nil, t, h => by simp at h
  | _, _, .cons a b, t, h => by
    simp only [List.zip_cons_cons, List.mem_cons] at h
    rcases h with rfl | h
    · exact a
    · exact zip_rp b t h
theorem rp_zip {K : PySem.W.Frag} {mg : Str → Option Value} {G : Hp} {as : List Addr} : ∀ {ts : List (V × D)}, (∀ t ∈ ts, Rp K mg G as t.1 t.2) → RpA K mg G as (ts.map (·.1)) (ts.map (·.2))
  | [], _ => .nil
  | t :: r, h => .cons (h t (by simp)) (rp_zip fun u hu => h u (by simp [hu]))
theorem cs_sorted : CallS F (.builtin "sorted") (f1 sortedD) := by
  refine cs_1 (r := fun vs H Q => rSortA g.K vs H Q ∨ rSort1 g.K vs H Q) (fun W X m => by have := (cr_sortA (X := X) (units65 (F.room m))).or cr_sort1; rw [F.hK m] at this; exact this) ?_
  intro W G H as st σ e x v Q R rx h
  unfold sortedD at h
  cases q1 : seqOf st x with
  | none => simp only [q1] at h; exact h.elim
  | some xs =>
    simp only [q1] at h
    cases q2 : pyDs xs with
    | none => simp only [q2] at h; exact h.elim
    | some ps =>
      simp only [q2] at h
      obtain ⟨a, vs, rfl, hs, rr⟩ := seqOf_ok R rx q1
      by_cases hok : srtOk ps = true
      · rw [if_pos hok] at h
        obtain ⟨hall, eps⟩ := pyDs_get q2
        unfold srtOk at hok
        simp only [Bool.and_eq_true, Bool.or_eq_true, List.all_eq_true, decide_eq_true_eq] at hok
        obtain ⟨⟨k1, k2⟩, k3⟩ := hok
        have hlen := rr.len
        have efst : (vs.zip xs).map (·.1) = vs := List.map_fst_zip (by omega)
        have esnd : (vs.zip xs).map (·.2) = xs := List.map_snd_zip (by omega)
        have ebs : ((vs.zip xs).map fun t => (t.1, encD t.2)).map (·.1) = vs := by rw [List.map_map]; exact efst
        have ebs2 : ((vs.zip xs).map fun t => (t.1, encD t.2)).map (·.2) = ps := by
          rw [List.map_map, eps]
          have : ((fun x : V × PyData => x.2) ∘ fun t : V × D => (t.1, encD t.2)) = encD ∘ (·.2) := rfl
          rw [this, ← List.map_map, esnd]
        refine .inl ⟨a, (vs.zip xs).map fun t => (t.1, encD t.2), rfl, by rw [ebs]; exact hs, fun b hb => ?_, ?_, ?_, fun b hb => ?_, fun p hp => ?_⟩
        · obtain ⟨t, ht, rfl⟩ := List.mem_map.mp hb
          have rt := zip_rp rr t ht
          have hx : t.2 ∈ xs := by rw [← esnd]; exact List.mem_map.mpr ⟨t, ht, rfl⟩
          obtain ⟨p, hp⟩ := hall _ hx
          have := pyD_ok R rt hp
          show Dp g.K H t.1 (encD t.2)
          unfold encD; rw [hp]; exact this
        · rw [ebs2]; exact fun d hd d' hd' => k1 d hd d' hd'
        · rw [ebs2]
          rcases k2 with k2 | k2
          · refine .inl fun d hd => ?_
            have := k2 d hd
            match d, this with
            | .tuple (x :: r), _ => exact ⟨x, r, rfl⟩
          · refine .inr fun d hd => ?_
            have := k2 d hd
            exact ⟨fun z => (by subst z; cases this), fun ys z => (by subst z; cases this)⟩
        · have : b.2 ∈ ps := by rw [← ebs2]; exact List.mem_map.mpr ⟨b, hb, rfl⟩
          exact k3 _ this
        · have s1 := sort_maps (r := fun s t : V × D => sleD s.2 t.2) (s := dataLe false (fun b : V × PyData => b.2)) (fun t : V × D => (t.1, encD t.2)) (l := vs.zip xs) (fun _ _ _ _ => rfl)
          have s2 := sort_maps (r := fun s t : V × D => sleD s.2 t.2) (s := sleD) (fun t : V × D => t.2) (l := vs.zip xs) (fun _ _ _ _ => rfl)
          rw [← s1, List.map_map]
          rw [esnd] at s2
          refine PX.still R hp ?_ h
          refine .lst upd_same ?_
          show RpA g.K g.mg _ as (((vs.zip xs).mergeSort fun s t => sleD s.2 t.2).map (·.1)) (sortD xs)
          unfold sortD
          rw [← s2]
          refine (rp_zip fun t ht => ?_).ext (R.still (o := .lst _) hp).2
          exact zip_rp rr t ((List.mergeSort_perm _ _).mem_iff.mp ht)
      · rw [if_neg hok] at h
        split at h
        · rename_i ys hy
          by_cases hl : ys.length ≤ 1
          · rw [if_pos hl] at h
            obtain ⟨a', us, e', hs', rr'⟩ := lstOf_ok R rx hy
            cases e'
            refine .inr ⟨a, us, rfl, .of hs', by rw [rr'.len]; exact hl, fun p hp => ?_⟩
            exact PX.still R hp (.lst upd_same (rr'.ext (R.still (o := .lst us) hp).2)) h
          · rw [if_neg hl] at h; exact h.elim
        · exact h.elim

/-! ## methods of lists with one argument -/
def listy (st : Store) : D → Bool
  | .lst _ => true
  | .sq _ => true
  | .ref i => isLst st i
  | _ => false
theorem listy_ok {K : PySem.W.Frag} {mg : Str → Option Value} {G H : Hp} {as : List Addr} {st : Store} {v : V} {d : D} (R : Ri K mg G H as st) (r : Rp K mg G as v d) (h : listy st d = true) : tyV K "list" v H := by
  cases r with
  | lst s q => exact .inl ⟨rfl, _, .of (R.sub _ _ s)⟩
  | sq s q => exact .inl ⟨rfl, _, sqL_H R s⟩
  | ref q => exact ty_ref R (.ref q) h
  | _ => cases h
def xm1 (fop : D → D → XM D) (mo me : XM D) : XM D := xbind mo fun x => fun e st => if listy st x = true then (xbind me fun y => fop x y) e st else .stuck
theorem je_lm1 {o ex : Expr} {mo me : XM D} {apos : Pos} {name : Str} {id : String} {r : V → List V → Hp → VK → Prop} {fop : D → D → XM D} (slot : Slot "list" name id) (hty : typeOf (.builtin id) = pure (.type "method_descriptor")) (hm : ∀ W X, F.mem W X → MtR X id r)
    (hv : ∀ (W : WX) (G H : Hp) (as : List Addr) (st : Store) (σ : L2.St) (e : Nv) (x y : D) (v w : V) (Q : VK), Ri g.K g.mg G H as st → Rp g.K g.mg G as v x → Rp g.K g.mg G as w y → PX g.K g.mg W G H as σ (fop x y e st) Q → r v [w] H Q)
    (ho : JE F o mo) (he : JE F ex me) (h1 : ∀ env, attributeBase o name env (eval o env) = eval o env := by intro _; rfl) (h2 : (apos.endLine == pos.line) = true := by rfl)
    (hst : ∀ env, starEach [ex] env = (false, eval ex env) :: starEach [] env := by intro _; rfl)
    (hfew : ∀ env, ((backTo pos (starEach [ex] env)).all (fun x => !x.1) && (backToKw pos (keywordEach [] env)).all (fun x => x.1.isSome)
      && decide ([ex].length + ([] : List Keyword).length + (if ([] : List Keyword).isEmpty then 0 else 1) < 30)) = true := by intro _; rfl) : JE F (.Call (.Attribute o name apos) [ex] [] pos) (xm1 fop mo me) := by
  obtain ⟨t, p, s⟩ := ho
  obtain ⟨te, pe, se⟩ := he
  refine ⟨fun W => tBM g.K "list" r (t W) (tCons (te W) tNil), fun W X m => ?_, ?_⟩
  · have := pe_bm (cpos := pos) (apos := apos) PySem.F.plainAttrs_list slot hty (hm W X m) (p W X m) (pa_cons (pe W X m) pa_nil (hst _)) (h1 _) (hfew _) h2 (hst _) rfl
    rw [F.hK m] at this
    exact this
  · intro W G H as st σ e Q R N h
    refine s.one R N h fun x st1 v G1 H1 as1 R1 X1 N1 rv h1 => ?_
    by_cases hx : listy st1 x = true
    · rw [if_pos hx] at h1
      refine ⟨listy_ok R1 rv hx, ?_⟩
      refine se.one R1 N1 h1 fun y st2 w G2 H2 as2 R2 X2 N2 rw' h2 => ?_
      exact hv W G2 H2 as2 st2 σ e x y v w Q R2 (rv.ext X2) rw' h2
    · rw [if_neg hx] at h1; exact h1.elim
def pyListOf (st : Store) (x : D) : Option (List PyData) := match pyOf st x with
  | some (.list ps) => some ps
  | _ => none
theorem pyListOf_ok {K : PySem.W.Frag} {mg : Str → Option Value} {G H : Hp} {as : List Addr} {st : Store} {v : V} {x : D} {ps : List PyData} (R : Ri K mg G H as st) (r : Rp K mg G as v x) (h : pyListOf st x = some ps) : ∃ a, v = .ref a ∧ Dp K H v (.list ps) := by
  unfold pyListOf at h
  split at h
  · rename_i q e
    cases h
    have d := pyOf_ok R r e
    cases d with
    | lst s q => exact ⟨_, rfl, .lst s q⟩
  · cases h
def indexD (x y : D) : XM D := fun _ st => match pyListOf st x, pyOf st y with
  | some ps, some p => if (SeqAt.shaped (.list ps) && SeqAt.shaped p) = true then (match ps.findIdx? (fun z => PyData.eqv z p) with
    | some j => .ok (.int (j : Int)) st
    | none => .stuck) else .stuck
  | _, _ => .stuck
theorem je_index {o ex : Expr} {mo me : XM D} {apos : Pos} (ho : JE F o mo) (he : JE F ex me) (h1 : ∀ env, attributeBase o "index" env (eval o env) = eval o env := by intro _; rfl) (h2 : (apos.endLine == pos.line) = true := by rfl)
    (hst : ∀ env, starEach [ex] env = (false, eval ex env) :: starEach [] env := by intro _; rfl)
    (hfew : ∀ env, ((backTo pos (starEach [ex] env)).all (fun x => !x.1) && (backToKw pos (keywordEach [] env)).all (fun x => x.1.isSome)
      && decide ([ex].length + ([] : List Keyword).length + (if ([] : List Keyword).isEmpty then 0 else 1) < 30)) = true := by intro _; rfl) : JE F (.Call (.Attribute o "index" apos) [ex] [] pos) (xm1 indexD mo me) := by
  refine je_lm1 (r := rIndexD g.K) PySem.F.slot_list_index PySem.F.type_list_index (fun W X m => by have := mt_indexD (X := X) (units65 (F.room m)); rw [F.hK m] at this; exact this) ?_ ho he h1 h2 hst hfew
  intro W G H as st σ e x y v w Q R rx ry h
  unfold indexD at h
  cases q1 : pyListOf st x with
  | none => simp only [q1] at h; exact h.elim
  | some ps =>
    cases q2 : pyOf st y with
    | none => simp only [q1, q2] at h; exact h.elim
    | some p =>
      simp only [q1, q2] at h
      by_cases hs : (SeqAt.shaped (.list ps) && SeqAt.shaped p) = true
      · rw [if_pos hs] at h
        have hs' := Bool.and_eq_true_iff.mp hs
        cases q3 : ps.findIdx? (fun z => PyData.eqv z p) with
        | none => simp only [q3] at h; exact h.elim
        | some j =>
          simp only [q3] at h
          obtain ⟨a, rfl, d1⟩ := pyListOf_ok R rx q1
          obtain ⟨hj, e1, e2⟩ := List.findIdx?_eq_some_iff_getElem.mp q3
          refine ⟨a, w, p, ps, j, ps[j], rfl, rfl, d1, pyOf_ok R ry q2, hs'.1, hs'.2, List.getElem?_eq_getElem hj, e1, fun m z hm hz => ?_, h.pure R (.int _)⟩
          obtain ⟨hml, ez⟩ := List.getElem?_eq_some_iff.mp hz
          have := e2 m hm
          rw [ez] at this
          simpa using this
      · rw [if_neg hs] at h; exact h.elim
def rCntD (K : PySem.W.Frag) : V → List V → Hp → VK → Prop := fun x xs H Q => ∃ (a : Addr) (y : V) (d : PyData) (ds : List PyData), x = V.ref a ∧ xs = [y] ∧ Dp K H (V.ref a) (.list ds) ∧ Dp K H y d ∧
  PyData.plainAll ds = true ∧ d.plain = true ∧ d.depth ≤ 60 ∧ Q (.int ((ds.countP fun z => PyData.eqv z d : Nat) : Int)) H
theorem mt_countD {X : Cx} (hu : X.A.units + 65 < cLine) : MtR X "list.count" (rCntD X.K) := by
  intro pins s σ H x xs v us Q I rx rxs h
  obtain ⟨a, y, d, ds, rfl, rfl, hl, hy, sl, sd, hdep, q⟩ := h
  cases rx
  cases rxs with
  | cons ry rt =>
    rename_i uy ut
    cases rt
    obtain ⟨bs, r1⟩ := Dp.reads I d y uy hy ry
    cases hl with
    | lst hs ha =>
      obtain ⟨its, rv, pl, hlen⟩ := I.list hs
      obtain ⟨as, h4⟩ := Dp.readsAll I ds _ its ha rv
      have h2 : min (PyData.depthAll ds) d.depth ≤ d.depth := Nat.min_le_right _ _
      refine PySem.SeqAt.count_list_data (vs := its.toArray) pl.isList (by simpa using h4) r1 sl sd (by omega) ?_
      exact ⟨.int _, H, I.tok _, ⟨s.toks, rfl⟩, q⟩
def countD (x y : D) : XM D := fun _ st => match pyListOf st x, pyOf st y with
  | some ps, some p => if (PyData.plainAll ps && p.plain && decide (p.depth ≤ 60)) = true then .ok (.int ((ps.countP fun z => PyData.eqv z p : Nat) : Int)) st else .stuck
  | _, _ => .stuck
theorem je_count {o ex : Expr} {mo me : XM D} {apos : Pos} (ho : JE F o mo) (he : JE F ex me) (h1 : ∀ env, attributeBase o "count" env (eval o env) = eval o env := by intro _; rfl) (h2 : (apos.endLine == pos.line) = true := by rfl)
    (hst : ∀ env, starEach [ex] env = (false, eval ex env) :: starEach [] env := by intro _; rfl)
    (hfew : ∀ env, ((backTo pos (starEach [ex] env)).all (fun x => !x.1) && (backToKw pos (keywordEach [] env)).all (fun x => x.1.isSome)
      && decide ([ex].length + ([] : List Keyword).length + (if ([] : List Keyword).isEmpty then 0 else 1) < 30)) = true := by intro _; rfl) : JE F (.Call (.Attribute o "count" apos) [ex] [] pos) (xm1 countD mo me) := by
  refine je_lm1 (r := rCntD g.K) PySem.F.slot_list_count PySem.F.type_list_count (fun W X m => by have := mt_countD (X := X) (units65 (F.room m)); rw [F.hK m] at this; exact this) ?_ ho he h1 h2 hst hfew
  intro W G H as st σ e x y v w Q R rx ry h
  unfold countD at h
  cases q1 : pyListOf st x with
  | none => simp only [q1] at h; exact h.elim
  | some ps =>
    cases q2 : pyOf st y with
    | none => simp only [q1, q2] at h; exact h.elim
    | some p =>
      simp only [q1, q2] at h
      by_cases hs : (PyData.plainAll ps && p.plain && decide (p.depth ≤ 60)) = true
      · rw [if_pos hs] at h
        simp only [Bool.and_eq_true, decide_eq_true_eq] at hs
        obtain ⟨a, rfl, d1⟩ := pyListOf_ok R rx q1
        exact ⟨a, w, p, ps, rfl, rfl, d1, pyOf_ok R ry q2, hs.1.1, hs.1.2, hs.2, h.pure R (.int _)⟩
      · rw [if_neg hs] at h; exact h.elim

/-! ## comb, gcd, lcm of math: names of the module that are built-ins -/
theorem je_callMB {x : Str} {id : String} {p : Pos} {a : Expr} {es : List Expr} {ms : XM (List D)} {fop : List D → XM D} (hc : CallS F (.builtin id) fop) (hg : F.sc.names.lookup x = some .globalImplicit) (hm : g.mg x = some (.builtin id)) (ha : JA F (a :: es) ms)
    (hdb : (x == ("__debug__" : Str)) = false := by decide) (he : ∀ env, starEach (a :: es) env = (false, eval a env) :: starEach es env := by intro _; rfl) (hpl : ∀ env, (backTo pos (starEach es env)).any (·.1) = false := by intro _; rfl) :
    JE F (.Call (.Name x p) (a :: es) [] pos) (xcall fop ms) := by
  obtain ⟨r, hr, hv'⟩ := hc
  obtain ⟨ts, ps, ss⟩ := ha
  exact ⟨fun W => tCB r (ts W), fun W X m => pe_callMB (hr W X m) (by show X.env.scope.names.lookup x = _; rw [F.hsc m]; exact hg) (by rw [F.hmg m]; exact hm) (ps W X m) hdb (he _) (hpl _), callS_SE ss hv'⟩
theorem cr_comb {X : Cx} : CallR X (.builtin "math.comb") (fun xs H Q => ∃ a b : Int, xs = [.int a, .int b] ∧ (0 ≤ a ∧ 0 ≤ b ∧ a ≤ 18000) ∧ Q (.int (PySem.W.mcComb a b)) H) := by
  intro pins s σ H vs us Q I r h
  obtain ⟨a, b, rfl, ⟨h1, h2, h3⟩, q⟩ := h
  cases r with
  | cons r1 r2 =>
    cases r2 with
    | cons r2 r3 =>
      cases r3
      obtain ⟨t, rfl⟩ := r1
      obtain ⟨u, rfl⟩ := r2
      exact PySem.W.mc_comb_v h1 h2 (by omega) (.inr h3) rfl ⟨.int _, H, I.tok _, ⟨s.toks, rfl⟩, q⟩
def combD (x y : D) : XM D := fun _ st => match x, y with
  | .int a, .int b => if 0 ≤ a ∧ 0 ≤ b ∧ a ≤ 18000 then .ok (.int (PySem.W.mcComb a b)) st else .stuck
  | _, _ => .stuck
theorem cs_comb : CallS F (.builtin "math.comb") (f2 combD) := by
  refine cs_2 (fun W X m => cr_comb) ?_
  intro W G H as st σ e x y v w Q R rx ry h
  unfold combD at h
  split at h
  · rename_i a b
    cases rx; cases ry
    by_cases hc : 0 ≤ a ∧ 0 ≤ b ∧ a ≤ 18000
    · rw [if_pos hc] at h
      exact ⟨a, b, rfl, hc, h.pure R (.int _)⟩
    · rw [if_neg hc] at h; exact h.elim
  · exact h.elim
theorem cr_gcd {X : Cx} : CallR X (.builtin "math.gcd") (fun xs H Q => ∃ a b : Int, xs = [.int a, .int b] ∧ Q (.int ((a.natAbs.gcd b.natAbs : Nat) : Int)) H) := by
  intro pins s σ H vs us Q I r h
  obtain ⟨a, b, rfl, q⟩ := h
  cases r with
  | cons r1 r2 =>
    cases r2 with
    | cons r2 r3 =>
      cases r3
      obtain ⟨t, rfl⟩ := r1
      obtain ⟨u, rfl⟩ := r2
      exact PySem.W.mg_gcd_v rfl ⟨.int _, H, I.tok _, ⟨s.toks, rfl⟩, q⟩
def gcdD (x y : D) : XM D := fun _ st => match x, y with
  | .int a, .int b => .ok (.int ((a.natAbs.gcd b.natAbs : Nat) : Int)) st
  | _, _ => .stuck
theorem cs_gcd : CallS F (.builtin "math.gcd") (f2 gcdD) := by
  refine cs_2 (fun W X m => cr_gcd) ?_
  intro W G H as st σ e x y v w Q R rx ry h
  unfold gcdD at h
  split at h
  · rename_i a b
    cases rx; cases ry
    exact ⟨a, b, rfl, h.pure R (.int _)⟩
  · exact h.elim
theorem cr_lcm {X : Cx} : CallR X (.builtin "math.lcm") (fun xs H Q => ∃ a b : Int, xs = [.int a, .int b] ∧ (a.natAbs < 2 ^ 64 ∧ b.natAbs < 2 ^ 64) ∧ Q (.int ((a.natAbs.lcm b.natAbs : Nat) : Int)) H) := by
  intro pins s σ H vs us Q I r h
  obtain ⟨a, b, rfl, ⟨h1, h2⟩, q⟩ := h
  cases r with
  | cons r1 r2 =>
    cases r2 with
    | cons r2 r3 =>
      cases r3
      obtain ⟨t, rfl⟩ := r1
      obtain ⟨u, rfl⟩ := r2
      exact PySem.W.mc_lcm h1 h2 fun _ => ⟨.int _, H, I.tok _, ⟨s.toks, rfl⟩, q⟩
def lcmD (x y : D) : XM D := fun _ st => match x, y with
  | .int a, .int b => if a.natAbs < 2 ^ 64 ∧ b.natAbs < 2 ^ 64 then .ok (.int ((a.natAbs.lcm b.natAbs : Nat) : Int)) st else .stuck
  | _, _ => .stuck
theorem cs_lcm : CallS F (.builtin "math.lcm") (f2 lcmD) := by
  refine cs_2 (fun W X m => cr_lcm) ?_
  intro W G H as st σ e x y v w Q R rx ry h
  unfold lcmD at h
  split at h
  · rename_i a b
    cases rx; cases ry
    by_cases hc : a.natAbs < 2 ^ 64 ∧ b.natAbs < 2 ^ 64
    · rw [if_pos hc] at h
      exact ⟨a, b, rfl, hc, h.pure R (.int _)⟩
    · rw [if_neg hc] at h; exact h.elim
  · exact h.elim
end
end LS
end
section
set_option maxRecDepth 100000
set_option maxHeartbeats 2000000
namespace LS
open PySem PySem.Spec L2
theorem outG_hout {g : Gb} : ∀ (G H G1 H1 : Hp) (as as1 : List Addr) (st1 : Store) (n : Nat) (W : WX) (σ : L2.St) (d : D) (v : V) (Q : VK), Ri g.K g.mg G1 H1 as1 st1 → Ext G H as G1 H1 as1 → as.length = n → Rp g.K g.mg G1 as1 v d → PX g.K g.mg W G H as σ (outG n d st1) Q → Q v H1 :=
  fun _ _ _ _ _ _ _ _ _ _ _ _ _ R X _ r h => outG_ok R X r h
end LS
end
section
set_option maxRecDepth 100000
set_option maxHeartbeats 2000000
namespace LS
open PySem PySem.Spec L2
variable {e : Nv} {st : Store}
/-! ## plain laws that hang on no program -/
theorem outD_pl {d : D} {st : Store} (h : refsB 0 d = true) : outD 0 d st = .ok d [] := by
  have hs : stB 0 st = true := by simp [stB]
  unfold outD
  rw [if_pos hs]
  cases d <;> simp_all [refsB]
theorem runF_rt {n : Nat} {m : SM} {ds : List D} {d : D} {st' : Store} (h : m (ds.map some ++ List.replicate (n - ds.length) none) [] = .rt d st') (hd : refsB 0 d = true) : runF n m [] ds = .ok d [] := by
  unfold runF
  rw [h]
  exact outD_pl hd
theorem runF_nx {n : Nat} {m : SM} {ds : List D} {e' : Nv} {st' : Store} (h : m (ds.map some ++ List.replicate (n - ds.length) none) [] = .nx e' st') : runF n m [] ds = .ok .non [] := by
  unfold runF
  rw [h]
  exact outD_pl (d := .non) rfl
/-- a list that is made and given back still -/
theorem runF_ref {n : Nat} {m : SM} {ds xs : List D} {k : Nat} {st' : Store} (h : m (ds.map some ++ List.replicate (n - ds.length) none) [] = .rt (.ref k) st') (hk : st'[k]? = some (.lst xs)) (hx : refsBs 0 xs = true) : runF n m [] ds = .ok (.lst xs) [] := by
  unfold runF
  rw [h]
  have hs : stB 0 st' = true := by simp [stB]
  simp [outF, outD, hs, hk, hx]
theorem mem_enumD : ∀ {xs : List D} {k : Nat} {x : D}, x ∈ enumD k xs → ∃ (i : Nat) (y : D), y ∈ xs ∧ xs[i]? = some y ∧ x = .tup [.int ((k + i : Nat) : Int), y]
  | [], _, _, h => by simp [enumD] at h
  | y :: r, k, x, h => by
    simp only [enumD, List.mem_cons] at h
    rcases h with rfl | h
    · exact ⟨0, y, by simp, by simp, by simp⟩
    · obtain ⟨i, z, h1, h2, h3⟩ := mem_enumD h
      exact ⟨i + 1, z, by simp [h1], by simpa using h2, by rw [h3, show k + 1 + i = k + (i + 1) by omega]⟩
theorem mem_iD {ns : List Int} {x : D} (h : x ∈ iD ns) : ∃ n, n ∈ ns ∧ x = .int n := by
  unfold iD at h
  obtain ⟨n, h1, h2⟩ := List.mem_map.mp h
  exact ⟨n, h1, h2.symm⟩
theorem getD_at {a : List Int} {k : Nat} (h : k < a.length) : atI (iD a) (k : Int) = some (.int (a.getD k 0)) := by
  rw [atI_nat, iD_get, List.getD_eq_getElem?_getD, List.getElem?_eq_getElem h]; rfl
theorem getD_at1 {a : List Int} {k : Nat} (h : k + 1 < a.length) : atI (iD a) ((k : Int) + 1) = some (.int (a.getD (k + 1) 0)) := by
  rw [show (k : Int) + 1 = ((k + 1 : Nat) : Int) by omega]; exact getD_at h
@[simp] theorem atI_0 {α : Type} (x : α) (r : List α) : atI (x :: r) 0 = some x := by have := atI_nat (x :: r) 0; simpa using this
@[simp] theorem atI_1 {α : Type} (x y : α) (r : List α) : atI (x :: y :: r) 1 = some y := by have := atI_nat (x :: y :: r) 1; simpa using this
@[simp] theorem atI_2 {α : Type} (x y z : α) (r : List α) : atI (x :: y :: z :: r) 2 = some z := by have := atI_nat (x :: y :: z :: r) 2; simpa using this
theorem cut_to (xs : List D) (k : Nat) : cutD xs none (some (k : Int)) = xs.take k := by
  unfold cutD
  rw [HT.sIx_nat]
  simp [HT.sIx]
theorem cut_from (xs : List D) (k : Nat) : cutD xs (some (k : Int)) none = xs.drop k := by
  unfold cutD
  rw [HT.sIx_nat]
  simp [HT.sIx]
  by_cases h : k ≤ xs.length
  · rw [Nat.min_eq_left h]
    exact List.take_of_length_le (by simp)
  · rw [Nat.min_eq_right (by omega)]
    simp
    omega
@[simp] theorem eqO_l0 (st : Store) : eqO st (.lst []) (.lst []) = some true := by simpa using eqO_lints st [] []
@[simp] theorem eqO_lc0 (st : Store) (i : Int) (r : List Int) : eqO st (.lst (.int i :: iD r)) (.lst []) = some false := by simpa using eqO_lints st (i :: r) []
/-! ## the well -/
def Wl (m : MO) : Prop := ∃ a s c : Int, 0 ≤ a ∧ 0 ≤ s ∧ 0 ≤ c ∧ m = .lst [.int a, .int s, .int c]
theorem Wl.mo {m : MO} (h : Wl m) : moB 0 m = true := by obtain ⟨a, s, c, _, _, _, rfl⟩ := h; rfl
/-- what a def that is handed the well gives -/
theorem runF_w {n : Nat} {f : SM} {ds : List D} {d : D} {m m' : MO} {st : Store} (h : f (ds.map some ++ List.replicate (n - ds.length) none) [m] = .rt d (m' :: st)) (w : Wl m') (hd : refsB 0 d = true) : runF n f [m] ds = .ok d [m'] := by
  unfold runF
  rw [h]
  have w' := w
  obtain ⟨a, s, c, _, _, _, rfl⟩ := w'
  have hs : stB 1 (MO.lst [.int a, .int s, .int c] :: st) = true := by simp [stB, moB, refsBs, refsB]
  have hd1 : refsB 1 d = true := refsB_mono (by decide) hd
  simp only [outF, outD, List.length_singleton, hs, if_true]
  cases d <;> simp_all [refsB]
theorem refsIn_ok {n : Nat} {x y : D} (h : okD n x = true) (h2 : okD n y = true) : refsIn [x, y] = [] := by
  cases n with
  | zero => simp [okD] at h
  | succ n => cases x <;> cases y <;> simp_all [okD, refsIn]
/-! ## the new words -/
section
@[simp] theorem ap_star (m : XM D) (ms : XM (List D)) : xstar m ms e st = match m e st with | .ok x st1 => (match seqOf st1 x with | some xs => xbind ms (fun ys => xpure (xs ++ ys)) e st1 | none => .stuck) | .exc c p st' => .exc c p st' | .stuck => .stuck := by
  unfold xstar xbind
  cases m e st <;> rfl
@[simp] theorem seqOf_tup (xs : List D) : seqOf st (.tup xs) = some xs := rfl
@[simp] theorem seqOf_lst (xs : List D) : seqOf st (.lst xs) = some xs := rfl
@[simp] theorem seqOf_sq (xs : List D) : seqOf st (.sq xs) = some xs := rfl
@[simp] theorem lstOf_lst (xs : List D) : lstOf st (.lst xs) = some xs := rfl
@[simp] theorem lstOf_tup (xs : List D) : lstOf st (.tup xs) = none := rfl
@[simp] theorem sorted_ap (x : D) : sortedD x e st = match seqOf st x with
  | some xs => (match pyDs xs with
    | some ps => if srtOk ps = true then .ok (.lst (sortD xs)) st else (match lstOf st x with
      | some ys => if ys.length ≤ 1 then .ok (.lst ys) st else .stuck
      | none => .stuck)
    | none => .stuck)
  | none => .stuck := rfl
@[simp] theorem in_ap (x y : D) : inD x y e st = match inO st x y with | some b => .ok (.bl b) st | none => .stuck := rfl
@[simp] theorem notin_ap (x y : D) : notInD x y e st = match inO st x y with | some b => .ok (.bl (!b)) st | none => .stuck := rfl
theorem any_int (k : Int) : ∀ ns : List Int, (ns.any ((fun z => PyData.eqv z (.int k)) ∘ PyData.int)) = decide (k ∈ ns)
  | [] => by simp
  | n :: r => by
    rw [List.any_cons, any_int k r]
    simp only [Function.comp, PyData.eqv]
    by_cases h : n = k
    · simp [h]
    · have : ¬ k = n := fun z => h z.symm
      simp [h, this]
@[simp] theorem inO_int_lst (k : Int) (ns : List Int) : inO st (.int k) (.lst (iD ns)) = some (decide (k ∈ ns)) := by
  simp [inO, pyOf, pyD, any_int]
@[simp] theorem inO_int_tup (k : Int) (ns : List Int) : inO st (.int k) (.tup (iD ns)) = some (decide (k ∈ ns)) := by
  simp [inO, pyOf, pyD, any_int]
@[simp] theorem comb_ap (a b : Int) : combD (.int a) (.int b) e st = if 0 ≤ a ∧ 0 ≤ b ∧ a ≤ 18000 then .ok (.int (PySem.W.mcComb a b)) st else .stuck := rfl
@[simp] theorem gcd_ap (a b : Int) : gcdD (.int a) (.int b) e st = .ok (.int ((a.natAbs.gcd b.natAbs : Nat) : Int)) st := rfl
@[simp] theorem lcm_ap (a b : Int) : lcmD (.int a) (.int b) e st = if a.natAbs < 2 ^ 64 ∧ b.natAbs < 2 ^ 64 then .ok (.int ((a.natAbs.lcm b.natAbs : Nat) : Int)) st else .stuck := rfl
end
/-! ## sorted ints -/
theorem srtOk_int (ns : List Int) : srtOk (ns.map PyData.int) = true := by
  unfold srtOk
  simp [noT, PySem.W.alike, PyData.depth]
theorem sortD_int (ns : List Int) : sortD (iD ns) = iD (ns.mergeSort fun a b => decide (a ≤ b)) := by
  unfold sortD iD
  refine (PySem.W.sort_maps (r := fun a b : Int => decide (a ≤ b)) (s := sleD) D.int (l := ns) fun a _ b _ => ?_).symm
  show _ = !PySem.W.dataLt (.int b) (.int a)
  rw [PySem.W.dataLt_int, PySem.W.not_lt_int]
theorem sorted_int_lst (ns : List Int) : sortedD (.lst (iD ns)) e st = .ok (.lst (iD (ns.mergeSort fun a b => decide (a ≤ b)))) st := by
  simp [srtOk_int, sortD_int]
theorem sorted_int_tup (ns : List Int) : sortedD (.tup (iD ns)) e st = .ok (.lst (iD (ns.mergeSort fun a b => decide (a ≤ b)))) st := by
  simp [srtOk_int, sortD_int]
/-! ## dicts of ints to ints, as rows -/
abbrev Rw := List (Int × Int)
def dD (rows : Rw) : List (Key × D) := rows.map fun p => (.inl p.1, .int p.2)
def addR : Rw → Int → Int → Rw
  | [], k, c => [(k, c)]
  | (k', c') :: r, k, c => if k' = k then (k', c' + c) :: r else (k', c') :: addR r k c
def getR : Rw → Int → Option Int
  | [], _ => none
  | (k', c') :: r, k => if k' = k then some c' else getR r k
def keysR (rows : Rw) : List Int := rows.map (·.1)
@[simp] theorem dD_len (rows : Rw) : (dD rows).length = rows.length := by simp [dD]
theorem getKD_dD : ∀ (rows : Rw) (k : Int), getKD (dD rows) (.inl k) = (getR rows k).map D.int
  | [], _ => rfl
  | (k', c') :: r, k => by
    by_cases h : k' = k
    · simp [getKD, dD, getR, h]
    · have ih := getKD_dD r k
      simp [getKD, dD] at ih
      simp [getKD, dD, getR, h, List.find?_cons]
      exact ih
theorem getR_none {rows : Rw} {k : Int} (h : k ∉ keysR rows) : getR rows k = none := by
  induction rows with
  | nil => rfl
  | cons p r ih =>
    obtain ⟨k', c'⟩ := p
    have h' : ¬ k = k' ∧ k ∉ keysR r := by simpa [keysR] using h
    simp [getR, show ¬ k' = k from fun z => h'.1 z.symm, ih h'.2]
theorem anyK_dD (rows : Rw) (k : Int) : ((dD rows).any fun kv => decide (kv.1 = .inl k)) = decide (k ∈ keysR rows) := by
  induction rows with
  | nil => rfl
  | cons p r ih =>
    obtain ⟨k', c'⟩ := p
    have e1 : keysR ((k', c') :: r) = k' :: keysR r := rfl
    have e2 : dD ((k', c') :: r) = (.inl k', .int c') :: dD r := rfl
    rw [e1, e2, List.any_cons, ih]
    by_cases h : k' = k
    · simp [h]
    · have : ¬ k = k' := fun z => h z.symm
      simp [h, this]
theorem map_same {rows : Rw} {k v : Int} (h : k ∉ keysR rows) : (dD rows).map (fun kv => if kv.1 = .inl k then (kv.1, D.int v) else kv) = dD rows := by
  induction rows with
  | nil => rfl
  | cons p r ih =>
    obtain ⟨k', c'⟩ := p
    have h' : ¬ k = k' ∧ k ∉ keysR r := by simpa [keysR] using h
    have ih' := ih h'.2
    simp only [dD] at ih'
    simp [dD, show ¬ k' = k from fun z => h'.1 z.symm, ih']
theorem put_add {rows : Rw} {k c : Int} (nd : (keysR rows).Nodup) : putKD (dD rows) (.inl k) (.int ((getR rows k).getD 0 + c)) = dD (addR rows k c) := by
  unfold putKD
  rw [anyK_dD]
  by_cases hk : k ∈ keysR rows
  · simp only [hk, decide_true, if_true]
    induction rows with
    | nil => simp [keysR] at hk
    | cons p r ih =>
      obtain ⟨k', c'⟩ := p
      have nd' : k' ∉ keysR r ∧ (keysR r).Nodup := by simpa [keysR] using nd
      by_cases h : k' = k
      · subst h
        have := map_same (v := c' + c) nd'.1
        simp only [dD] at this
        simp [dD, getR, addR, this]
      · have hk' : k ∈ keysR r := by
          have : k = k' ∨ k ∈ keysR r := by simpa [keysR] using hk
          exact this.resolve_left fun z => h z.symm
        have ih' := ih nd'.2 hk'
        simp only [dD] at ih'
        simp [dD, getR, addR, h, ih']
  · simp only [hk, decide_false, Bool.false_eq_true, if_false]
    rw [getR_none hk]
    have : addR rows k c = rows ++ [(k, c)] := by
      clear nd
      induction rows with
      | nil => rfl
      | cons p r ih =>
        obtain ⟨k', c'⟩ := p
        have h' : ¬ k = k' ∧ k ∉ keysR r := by simpa [keysR] using hk
        simp [addR, show ¬ k' = k from fun z => h'.1 z.symm, ih h'.2]
    rw [this]
    simp [dD]
theorem mem_addR {rows : Rw} {k c x : Int} : x ∈ keysR (addR rows k c) ↔ x = k ∨ x ∈ keysR rows := by
  induction rows with
  | nil => simp [addR, keysR]
  | cons p r ih =>
    obtain ⟨k', c'⟩ := p
    unfold addR
    by_cases h : k' = k
    · rw [if_pos h]; simp [keysR, h]
    · rw [if_neg h]
      have e1 : keysR ((k', c') :: addR r k c) = k' :: keysR (addR r k c) := rfl
      have e2 : keysR ((k', c') :: r) = k' :: keysR r := rfl
      rw [e1, e2, List.mem_cons, List.mem_cons, ih]
      constructor
      · rintro (h | h | h)
        · exact .inr (.inl h)
        · exact .inl h
        · exact .inr (.inr h)
      · rintro (h | h | h)
        · exact .inr (.inl h)
        · exact .inl h
        · exact .inr (.inr h)
theorem nd_addR {rows : Rw} {k c : Int} (nd : (keysR rows).Nodup) : (keysR (addR rows k c)).Nodup := by
  induction rows with
  | nil => simp [addR, keysR]
  | cons p r ih =>
    obtain ⟨k', c'⟩ := p
    have nd' : k' ∉ keysR r ∧ (keysR r).Nodup := by simpa [keysR] using nd
    unfold addR
    by_cases h : k' = k
    · rw [if_pos h]; simpa [keysR] using nd
    · rw [if_neg h]
      have e1 : keysR ((k', c') :: addR r k c) = k' :: keysR (addR r k c) := rfl
      rw [e1, List.nodup_cons]
      refine ⟨fun z => ?_, ih nd'.2⟩
      rcases mem_addR.mp z with z | z
      · exact h z
      · exact nd'.1 z
/-- what a row is worth -/
def wR (φ : Int → Int) : Rw → Int
  | [] => 0
  | (k, c) :: r => c * φ k + wR φ r
theorem wR_add (φ : Int → Int) : ∀ (rows : Rw) (k c : Int), wR φ (addR rows k c) = wR φ rows + c * φ k
  | [], k, c => by simp [addR, wR]
  | (k', c') :: r, k, c => by
    unfold addR
    by_cases h : k' = k
    · rw [if_pos h]; subst h
      simp only [wR, Int.add_mul]; omega
    · rw [if_neg h]
      simp only [wR, wR_add φ r k c]; omega
def dl (k : Int) (x : Int) : Int := if x = k then 1 else 0
theorem wR_zero {φ : Int → Int} : ∀ {rows : Rw}, (∀ x ∈ keysR rows, φ x = 0) → wR φ rows = 0
  | [], _ => rfl
  | (k, c) :: r, h => by
    have h1 := h k (by simp [keysR])
    have h2 := wR_zero (rows := r) fun x hx => h x (by
      show x ∈ k :: keysR r
      exact List.mem_cons_of_mem _ hx)
    simp [wR, h1, h2]
theorem getR_w (k : Int) : ∀ {rows : Rw}, (keysR rows).Nodup → (getR rows k).getD 0 = wR (dl k) rows
  | [], _ => rfl
  | (k', c') :: r, nd => by
    have nd' : k' ∉ keysR r ∧ (keysR r).Nodup := by simpa [keysR] using nd
    unfold getR wR
    by_cases h : k' = k
    · subst h
      rw [if_pos rfl, wR_zero (rows := r) fun x hx => by
        unfold dl
        rw [if_neg fun z => nd'.1 (by rw [← z]; exact hx)]]
      simp [dl]
    · rw [if_neg h, getR_w k nd'.2]
      simp [dl, h]
theorem wR_congr {φ ψ : Int → Int} : ∀ {rows : Rw}, (∀ x ∈ keysR rows, φ x = ψ x) → wR φ rows = wR ψ rows
  | [], _ => rfl
  | (k, c) :: r, h => by
    have h1 := h k (by simp [keysR])
    have h2 := wR_congr (rows := r) fun x hx => h x (by
      show x ∈ k :: keysR r
      exact List.mem_cons_of_mem _ hx)
    simp [wR, h1, h2]
/-- keys within a stretch: not many -/
theorem keys_few {rows : Rw} {lo : Int} {n : Nat} (nd : (keysR rows).Nodup) (h : ∀ x ∈ keysR rows, lo ≤ x ∧ x < lo + n) : rows.length ≤ n := by
  have h1 : keysR rows ⊆ (List.range n).map fun (i : Nat) => lo + (i : Int) := fun x hx => by
    obtain ⟨a, b⟩ := h x hx
    exact List.mem_map.mpr ⟨(x - lo).toNat, by simp; omega, by omega⟩
  have := nd.length_le_of_subset h1
  simpa [keysR] using this
end LS
end
section
set_option maxRecDepth 100000
set_option maxHeartbeats 2000000
namespace LS
open PySem PySem.Spec L2

/-! ## tuples as displays make them: no dict of their own -/
section
def tTupZ (t : TA) : TE := fun σ H Q => t σ H fun xs H1 => xs.length ≤ sizeLine ∧ ∀ p (ob : Obj), H1 p = none → ob.dict = none → Q (.ref p) (upd H1 p (.frz ob (.tup xs)))
theorem pe_tupZ {X : Cx} {es : List Expr} {t : TA} {x1 : Nat} {pos : Pos} (h : PA X es t) : PE X (.Tuple es x1 pos) (tTupZ t) := by
  refine ⟨fun pins s σ H Q I hq => ?_⟩
  refine wpAny_Tuple_spliced (thn (h.run pos pins s σ H _ I hq) fun us s1 ⟨xs, H1, I1, r, z, q⟩ => ⟨by rw [← r.length]; exact z, ?_⟩)
  have hf : H1 s1.heap.objs.size = none := I1.hok.fresh (Nat.le_refl _)
  refine ⟨.ref s1.heap.objs.size, upd H1 s1.heap.objs.size (.frz { cls := .type "tuple", data := .seq us.toArray } (.tup xs)), I1.laid (t' := s1.toks) (fun b u e => Heap.get?_push_of_some _ e) (Nat.le_refl _) ?_, rfl, q _ _ hf rfl⟩
  exact ⟨Heap.get?_push_size _ rfl, z, us, r, ⟨_, Heap.get?_push_size _ rfl, rfl, _, rfl⟩⟩
/-- t.m(x), t such a tuple -/
def tBMZ (r : V → List V → Hp → VK → Prop) (to : TE) (t : TA) : TE := fun σ H Q => to σ H fun x H1 => (∃ a ob vs, x = .ref a ∧ H1 a = some (.frz ob (.tup vs)) ∧ ob.dict = none) ∧ t σ H1 fun xs H2 => r x xs H2 Q
theorem pe_bmZ {X : Cx} {o e : Expr} {es : List Expr} {to : TE} {t : TA} {name : Str} {apos cpos : Pos} {id : String} {r : V → List V → Hp → VK → Prop} (slot : Slot "tuple" name id) (hty : typeOf (.builtin id) = pure (.type "method_descriptor")) (hm : MtR X id r) (ho : PE X o to) (ha : PA X (e :: es) t)
    (hbase : attributeBase o name X.env (eval o X.env) = eval o X.env)
    (hfew : ((backTo cpos (starEach (e :: es) X.env)).all (fun x => !x.1) && (backToKw cpos (keywordEach [] X.env)).all (fun x => x.1.isSome)
      && decide ((e :: es).length + ([] : List Keyword).length + (if ([] : List Keyword).isEmpty then 0 else 1) < 30)) = true)
    (hline : (apos.endLine == cpos.line) = true) (hs : starEach (e :: es) X.env = (false, eval e X.env) :: starEach es X.env) (hplain : (backTo cpos (starEach es X.env)).any (·.1) = false) :
    PE X (.Call (.Attribute o name apos) (e :: es) [] cpos) (tBMZ r to t) := by
  refine ⟨fun pins s σ H Q I h => ?_⟩
  refine wpAny_Call_method_late hbase hfew hline rfl (thn (ho.run pins s σ H _ I h) fun v s1 ⟨x, H1, I1, r1, ty, q1⟩ => ?_)
  obtain ⟨a, ob, vs, rfl, hz, hd⟩ := ty
  cases r1
  obtain ⟨hob, _, its, _, o2, ho2, hc, _⟩ := I1.hok a _ hz
  have eo : o2 = ob := by rw [hob] at ho2; cases ho2; rfl
  subst eo
  refine ⟨"tuple", id, PySem.F.plainAttrs_tuple, slot, hty, ⟨_, hob, hc⟩, fun b hb => ?_, ?_⟩
  · cases hb; exact ⟨_, hob, hd⟩
  have hA := ha.run cpos pins s1 σ H1 _ I1 q1
  rw [hs] at hA ⊢
  refine Calls.callWith_builtin (by show (false || (backTo cpos (starEach es X.env)).any (·.1)) = false; rw [hplain] <;> rfl) (Calls.evalArgs_plain ?_)
  exact thn hA fun us s2 ⟨vs, H2, I2, r2, q2⟩ => hm pins s2 σ H2 (.ref a) vs (.ref a) us Q I2 rfl r2 q2
def rCntZ (K : PySem.W.Frag) : V → List V → Hp → VK → Prop := fun x xs H Q => ∃ (a : Addr) (y : V) (d : PyData) (ds : List PyData), x = V.ref a ∧ xs = [y] ∧ Dp K H (V.ref a) (.tuple ds) ∧ Dp K H y d ∧
  PyData.plainAll ds = true ∧ d.plain = true ∧ d.depth ≤ 60 ∧ Q (.int ((ds.countP fun z => PyData.eqv z d : Nat) : Int)) H
theorem mt_countZ {X : Cx} (hu : X.A.units + 65 < cLine) : MtR X "tuple.count" (rCntZ X.K) := by
  intro pins s σ H x xs v us Q I rx rxs h
  obtain ⟨a, y, d, ds, rfl, rfl, hl, hy, sl, sd, hdep, q⟩ := h
  cases rx
  cases rxs with
  | cons ry rt =>
    rename_i uy ut
    cases rt
    obtain ⟨bs, r1⟩ := Dp.reads I d y uy hy ry
    cases hl with
    | tup hs ha =>
      obtain ⟨its, rv, pl, hlen⟩ := I.tuple hs
      obtain ⟨as, h4⟩ := Dp.readsAll I ds _ its ha rv
      have h2 : min (PyData.depthAll ds) d.depth ≤ d.depth := Nat.min_le_right _ _
      refine PySem.SeqAt.count_tuple_data (vs := its.toArray) (show s.heap.IsTuple a its.toArray from pl) (by simpa using h4) r1 sl sd (by omega) ?_
      exact ⟨.int _, H, I.tok _, ⟨s.toks, rfl⟩, q⟩
end
section
variable {g : Gb} {F : Fam g} {pos : Pos}
def xtupZ (ms : XM (List D)) : XM D := xbind ms fun xs => fun _ st => if xs.length ≤ LIM then .ok (.tpz xs) st else .stuck
theorem je_tupZ {es : List Expr} {k : Nat} {ms : XM (List D)} (hs : JA F es ms) : JE F (.Tuple es k pos) (xtupZ ms) := by
  obtain ⟨ts, ps, ss⟩ := hs
  refine ⟨fun W => tTupZ (ts W), fun W X m => pe_tupZ (ps W X m), ?_⟩
  intro W G H as st σ e Q R N h
  refine ss.one R N h fun xs st1 vs G1 H1 as1 R1 X1 N1 rv h1 => ?_
  by_cases hl : xs.length ≤ LIM
  · rw [if_pos hl] at h1
    refine ⟨by rw [rv.len]; exact lim_le hl, fun p ob hp hd => ?_⟩
    exact PX.still R1 hp (.tpz upd_same hd (rv.ext (R1.still (o := .frz ob (.tup vs)) hp).2)) h1
  · rw [if_neg hl] at h1; exact h1.elim
def isZ : D → Bool
  | .tpz _ => true
  | _ => false
def countZD (x y : D) : XM D := fun _ st => match x with
  | .tpz xs => (match pyDs xs, pyOf st y with
    | some ps, some p => if (PyData.plainAll ps && p.plain && decide (p.depth ≤ 60)) = true then .ok (.int ((ps.countP fun z => PyData.eqv z p : Nat) : Int)) st else .stuck
    | _, _ => .stuck)
  | _ => .stuck
def xmZ (fop : D → D → XM D) (mo me : XM D) : XM D := xbind mo fun x => fun e st => if isZ x = true then (xbind me fun y => fop x y) e st else .stuck
theorem je_countZ {o ex : Expr} {mo me : XM D} {apos : Pos} (ho : JE F o mo) (he : JE F ex me) (h1 : ∀ env, attributeBase o "count" env (eval o env) = eval o env := by intro _; rfl) (h2 : (apos.endLine == pos.line) = true := by rfl)
    (hst : ∀ env, starEach [ex] env = (false, eval ex env) :: starEach [] env := by intro _; rfl)
    (hfew : ∀ env, ((backTo pos (starEach [ex] env)).all (fun x => !x.1) && (backToKw pos (keywordEach [] env)).all (fun x => x.1.isSome)
      && decide ([ex].length + ([] : List Keyword).length + (if ([] : List Keyword).isEmpty then 0 else 1) < 30)) = true := by intro _; rfl) : JE F (.Call (.Attribute o "count" apos) [ex] [] pos) (xmZ countZD mo me) := by
  obtain ⟨t, p, s⟩ := ho
  obtain ⟨te, pe, se⟩ := he
  refine ⟨fun W => tBMZ (rCntZ g.K) (t W) (tCons (te W) tNil), fun W X m => ?_, ?_⟩
  · have hm := mt_countZ (X := X) (units65 (F.room m))
    rw [F.hK m] at hm
    exact pe_bmZ PySem.F.slot_tuple_count PySem.F.type_tuple_count hm (p W X m) (pa_cons (pe W X m) pa_nil (hst _)) (h1 _) (hfew _) h2 (hst _) rfl
  · intro W G H as st σ e Q R N h
    refine s.one R N h fun x st1 v G1 H1 as1 R1 X1 N1 rv h1 => ?_
    by_cases hx : isZ x = true
    · rw [if_pos hx] at h1
      cases x with
      | tpz xs =>
        cases rv with
        | tpz s0 z0 r0 =>
          refine ⟨⟨_, _, _, rfl, R1.sub _ _ s0, z0⟩, ?_⟩
          refine se.one R1 N1 h1 fun y st2 w G2 H2 as2 R2 X2 N2 rw' h2 => ?_
          unfold countZD at h2
          cases q1 : pyDs xs with
          | none => simp only [q1] at h2; exact h2.elim
          | some ps =>
            cases q2 : pyOf st2 y with
            | none => simp only [q1, q2] at h2; exact h2.elim
            | some pd =>
              simp only [q1, q2] at h2
              by_cases hs : (PyData.plainAll ps && pd.plain && decide (pd.depth ≤ 60)) = true
              · rw [if_pos hs] at h2
                simp only [Bool.and_eq_true, decide_eq_true_eq] at hs
                exact ⟨_, w, pd, ps, rfl, rfl, .tup (.inl (.inr ⟨_, R2.sub _ _ (X2.sub _ _ s0)⟩)) (pyDs_ok R2 (r0.ext X2) q1), pyOf_ok R2 rw' q2, hs.1.1, hs.1.2, hs.2, h2.pure R2 (.int _)⟩
              · rw [if_neg hs] at h2; exact h2.elim
      | _ => cases hx
    · rw [if_neg hx] at h1; exact h1.elim
/-! what is known of a tuple's dict, forgotten -/
mutual
def weakD : D → D
  | .tup xs => .tup (weakDs xs)
  | .tpz xs => .tup (weakDs xs)
  | .lst xs => .lst (weakDs xs)
  | .sq xs => .sq (weakDs xs)
  | d => d
def weakDs : List D → List D
  | [] => []
  | d :: r => weakD d :: weakDs r
end
mutual
theorem Rp.weak {K : PySem.W.Frag} {mg : Str → Option Value} {G : Hp} {as : List Addr} : ∀ {d : D} {v : V}, Rp K mg G as v d → Rp K mg G as v (weakD d)
  | .non, _, h => h
  | .bl _, _, h => h
  | .int _, _, h => h
  | .str _, _, h => h
  | .ty _, _, h => h
  | .glo _, _, h => h
  | .ref _, _, h => h
  | .tup ds, _, h => by cases h with | tup s r => exact .tup s (RpA.weak r)
  | .lst ds, _, h => by cases h with | lst s r => exact .lst s (RpA.weak r)
  | .sq ds, _, h => by cases h with | sq s r => exact .sq s (RpA.weak r)
  | .tpz ds, _, h => by cases h with | tpz s z r => exact .tup (.inl (.inr ⟨_, s⟩)) (RpA.weak r)
theorem RpA.weak {K : PySem.W.Frag} {mg : Str → Option Value} {G : Hp} {as : List Addr} : ∀ {ds : List D} {vs : List V}, RpA K mg G as vs ds → RpA K mg G as vs (weakDs ds)
  | [], _, h => by cases h; exact .nil
  | d :: ds, _, h => by cases h with | cons a b => exact .cons (Rp.weak a) (RpA.weak b)
end
def xweak (m : XM D) : XM D := xbind m fun x => xpure (weakD x)
theorem je_weak {ex : Expr} {m : XM D} (h : JE F ex m) : JE F ex (xweak m) := by
  obtain ⟨t, p, s⟩ := h
  refine ⟨t, p, ?_⟩
  intro W G H as st σ e Q R N h
  exact s.one R N h fun x st1 v G1 H1 as1 R1 X1 N1 rv h1 => h1 v G1 H1 as1 R1 Ext.refl rv.weak

/-! ## enumerate with a start -/
def ItS (K : PySem.W.Frag) (k0 : Int) (a : Addr) : It :=
  ⟨fun i H => ∃ (xs : List V) (x : V), SqT K H a xs ∧ xs[i]? = some x, fun i H v H' => ∃ T x, v = .ref T ∧ H T = none ∧ H' = upd H T (.tup [.int (k0 + (i : Nat)), x]) ∧ ∀ xs, SqT K H a xs → xs[i]? = some x, fun i H => ∃ xs : List V, SqT K H a xs ∧ xs.length = i⟩
theorem turn_enumS {P : Program} {w : World} {K : PySem.W.Frag} {elts : List Expr} {kk : Nat} {tpos : Pos} {k0 : Int} {a e it : Addr} (hai : a ≠ it) (hei : e ≠ it) (hea : e ≠ a) :
    Turn P w K (.Tuple elts kk tpos) (ItS K k0 a) [e, it] e (fun i h => (∃ old, IsEnum h e it (k0 + ((i : Nat) : Int)) old) ∧ h.IsTupleIter it a i) := by
  refine ⟨by simp, ?_, ?_, ?_, ?_, ?_⟩
  · rintro i h ⟨⟨old, q⟩, ⟨o, ho, _, hd⟩⟩ b hb
    rcases List.mem_cons.mp hb with rfl | hb
    · exact ⟨_, q, fun v z => nomatch z⟩
    · cases List.mem_singleton.mp hb; exact ⟨o, ho, fun v z => by rw [hd] at z; cases z⟩
  · rintro i h h' ⟨⟨old, q⟩, q2⟩ k
    exact ⟨⟨old, k e (by simp) _ q⟩, q2.at fun o z => k it (by simp) o z⟩
  · intro X hP hw hK hc i pins s σ H E I hf st hg
    subst hP hw hK
    obtain ⟨⟨old, q⟩, q2⟩ := st
    obtain ⟨xs, x, hq, hx⟩ := hg
    obtain ⟨its, rv, p, _⟩ := I.tuple hq
    obtain ⟨u, hu, ru⟩ := rv.get hx
    have lte : e < s.heap.objs.size := Heap.lt_size q
    have lti : it < s.heap.objs.size := let ⟨_, z, _⟩ := q2; Heap.lt_size z
    have dr := Draws.tuple (prog := X.prog) (w := X.w) (A := X.A.in1) (I.ok.hd hc) it a hai its.toArray
    have lt := (List.getElem?_eq_some_iff.mp hu).1
    refine wpAny_pyNext_enum_itemC dr q ⟨q2, p⟩ (by simpa using lt) hei (by simp [hei, hea]) fun y h1 tk py o1 st1 hT _ k1 => ?_
    have ey : y = u := by
      have z : its.toArray[i]? = some y := py
      simp at z
      rw [hu] at z; cases z; rfl
    subst ey
    refine ⟨_, rfl, wpAny_letOwnedTupleGo_enum (s := { s with heap := h1, toks := tk + 1 }) o1 fun h2 o2 sb => ?_⟩
    have hT2 := (sb.2 _ (Nat.ne_of_gt lte)).trans hT
    have nw : ObjOk X.prog X.w (upd H s.heap.objs.size (.tup [.int (k0 + (i : Nat)), x])) h2 s.heap.objs.size (.tup [.int (k0 + (i : Nat)), x]) :=
      ⟨(show 2 ≤ sizeLine by decide), [.int (k0 + (i : Nat)) tk, y], .cons ⟨_, rfl⟩ (.cons ru .nil), ⟨_, hT2, rfl, _, rfl⟩⟩
    have I1 := I.turnedNew (t' := tk + 1) (h' := h2) (ch := [e, it]) (fun b o hb z => (sb.2 b (fun y => hb (by simp [y]))).trans (k1 b o (fun y => hb (by simp [y])) (fun y => hb (by simp [y])) z)) hf (Nat.le_refl _) nw
    refine ⟨_, _, I1, (show RelV (.ref s.heap.objs.size) (.ref s.heap.objs.size) from rfl), ⟨_, x, rfl, I.hok.fresh (Nat.le_refl _), rfl, fun ys hy => by rw [I.tuple_inj hy hq]; exact hx⟩, ⟨⟨y, ?_⟩, ?_⟩, fun b hb => ?_⟩
    · rw [show k0 + ((i + 1 : Nat) : Int) = k0 + (i : Int) + 1 by omega]; exact o2
    · exact st1.1.at fun o z => (sb.2 it (Ne.symm hei)).trans z
    · have : b < s.heap.objs.size := by
        rcases List.mem_cons.mp hb with rfl | hb
        · exact lte
        · cases List.mem_singleton.mp hb; exact lti
      rw [upd_ne (Nat.ne_of_lt this)]
      exact (hf b hb).1
  · intro X hP hw hK hc i pins s σ H E I hf st hg
    subst hP hw hK
    obtain ⟨⟨old, q⟩, q2⟩ := st
    obtain ⟨xs, hq, hx⟩ := hg
    obtain ⟨its, rv, p, _⟩ := I.tuple hq
    have dr := Draws.tuple (prog := X.prog) (w := X.w) (A := X.A.in1) (I.ok.hd hc) it a hai its.toArray
    have hn : i = its.toArray.size := by have := rv.length; simp; omega
    obtain ⟨f0, f1, f2, f3, f4, f5⟩ := hf it (by simp)
    exact wpAny_pyNext_enum_endD dr q ⟨by rw [← hn]; exact q2, p⟩ fun h1 eb => ⟨rfl, I.turned (t' := s.toks) (fun b o hb z => eb b o hb z) f0 f1 f3 f4 f5⟩
  · rintro A i s Q E ⟨⟨old, q⟩, _⟩ h
    exact wpAny_pyIter_enum q h
end
end LS
end
section
set_option maxRecDepth 100000
set_option maxHeartbeats 2000000
namespace LS
open PySem PySem.Spec L2

def iEnumS (K : PySem.W.Frag) (ta : TA) : TI := fun σ H R => ta σ H fun vs H1 => ∃ (a : Addr) (k0 : Int), vs = [.ref a, .int k0] ∧ -1000000 ≤ k0 ∧ k0 ≤ 1000000 ∧ (∃ xs, SqT K H1 a xs) ∧ R (ItS K k0 a) H1
theorem pi_enumS {X : Cx} {e c : Expr} {ta : TA} {p pos tpos : Pos} {elts : List Expr} {kk : Nat} (hg : Gl X "enumerate") (hm : X.mg "enumerate" = none) (ha : PA X [e, c] ta) (hs : starEach [e, c] X.env = (false, eval e X.env) :: starEach [c] X.env) (hpl : (backTo pos (starEach [c] X.env)).any (·.1) = false) :
    PI X (.Tuple elts kk tpos) (.Call (.Name "enumerate" p) [e, c] [] pos) (iEnumS X.K ta) := by
  constructor
  intro pins s σ H R I h
  refine PyProof.Rows.Call_ (ld_blt I hg hm PyProof.Rows.boot_enumerate (PyProof.Rows.callWith_type1 (thn (ha.run pos pins s σ H _ I h) fun us s1 q0 => ?_) hs hpl))
  obtain ⟨vs, H1, I1, r1, a, k0, ex, hk0, hk1, ⟨xs, hq⟩, q⟩ := q0
  subst ex
  cases r1 with
  | cons r rr =>
    cases rr with
    | cons r' rr =>
      cases rr
      cases r
      obtain ⟨t, rfl⟩ := r'
      obtain ⟨its, rv, p', _⟩ := I1.tuple hq
      have p2 : s1.heap.IsTuple a its.toArray := p'
      have la : a < s1.heap.objs.size := let ⟨_, z, _⟩ := p2; Heap.lt_size z
      have l2 : s1.heap.objs.size + 1 ≠ a := fun z => Nat.lt_irrefl a (Nat.lt_trans la (Nat.lt_of_lt_of_eq (Nat.lt_succ_self _) z))
      have fr : ∀ b ∈ [s1.heap.objs.size + 1, s1.heap.objs.size], FpOk X pins H1 b := fun b hb => by
        have hle : s1.heap.objs.size ≤ b := by
          rcases List.mem_cons.mp hb with rfl | hb
          · omega
          · cases List.mem_singleton.mp hb; omega
        exact I1.fpOk hle (I1.hok.fresh hle)
      refine enum_begins (begins_tuple a its.toArray) p2 (by omega) (by omega) fun h' he hit hsz hk => wpAny_pyIter_enum he ?_
      have he' : IsEnum h' (s1.heap.objs.size + 1) s1.heap.objs.size (k0 + ((0 : Nat) : Int)) .none := by rw [show k0 + ((0 : Nat) : Int) = k0 by omega]; exact he
      exact ⟨_, _, _, _, H1, rfl, I1.kept (t' := s1.toks) hk, turn_enumS (k0 := k0) (a := a) (Nat.ne_of_lt la) (Nat.succ_ne_self _) l2, ⟨⟨.none, he'⟩, ⟨_, hit, rfl, rfl⟩⟩, fr, q⟩
section
variable {g : Gb} {F : Fam g} {pos : Pos}
def enumI : Int → List D → List D
  | _, [] => []
  | k, x :: r => .tup [.int k, x] :: enumI (k + 1) r
theorem enumI_len : ∀ (k : Int) (xs : List D), (enumI k xs).length = xs.length
  | _, [] => rfl
  | k, x :: r => by simp [enumI, enumI_len (k + 1) r]
theorem enumI_get : ∀ (xs : List D) (k : Int) (i : Nat), (enumI k xs)[i]? = xs[i]?.map fun x => .tup [.int (k + (i : Int)), x]
  | [], _, _ => by simp [enumI]
  | x :: r, k, 0 => by simp [enumI]
  | x :: r, k, i + 1 => by
    have := enumI_get r (k + 1) i
    simp only [enumI, List.getElem?_cons_succ, this]
    rw [show k + 1 + (i : Int) = k + ((i + 1 : Nat) : Int) by omega]
theorem yl_enumS {G0 H0 : Hp} {as0 : List Addr} {a : Addr} {k0 : Int} {vs : List V} {xs : List D} (s : SqT g.K G0 a vs) (r : RpA g.K g.mg G0 as0 vs xs) : Yl g G0 H0 as0 none (enumI k0 xs) (ItS g.K k0 a) where
  go := fun i G H as st hi R hs hp hl _ => by
    have hv : i < vs.length := by rw [r.len, ← enumI_len k0 xs]; exact hi
    exact ⟨vs, vs[i], sqT_H R (sqT_sub hs s), List.getElem?_eq_getElem hv⟩
  stop := fun G H as st R hs hp hl _ => ⟨vs, sqT_H R (sqT_sub hs s), by rw [r.len, enumI_len]⟩
  yld := fun i G H as st v H' x R hs hp hl _ hx y => by
    obtain ⟨T, u, rfl, hT, rfl, y⟩ := y
    rw [enumI_get] at hx
    obtain ⟨x0, hx0, rfl⟩ := Option.map_eq_some_iff.mp hx
    obtain ⟨u', e1, ru⟩ := r.get hx0
    have e2 := y vs (sqT_H R (sqT_sub hs s))
    rw [e1] at e2; cases e2
    obtain ⟨R', X'⟩ := R.still (o := .tup [.int (k0 + (i : Nat)), u]) hT
    exact ⟨_, R', X', .tup (.of upd_same) (.cons (.int _) (.cons ((ru.mono hs hp).ext X') .nil))⟩
def xenumS (m mk : XM D) : XM (List D × Option Nat) := xbind m fun x => xbind mk fun y => fun _ st => match x, y with
  | .tup xs, .int k => if -1000000 ≤ k ∧ k ≤ 1000000 then .ok (enumI k xs, none) st else .stuck
  | _, _ => .stuck
theorem ji_enumS {elts : List Expr} {kk : Nat} {tpos p : Pos} {ea eb : Expr} {ma mb : XM D} (hg : F.sc.names.lookup ("enumerate" : Str) = some .globalImplicit) (hm : g.mg "enumerate" = none) (ha : JE F ea ma) (hb : JE F eb mb)
    (hs : ∀ env, starEach [ea, eb] env = (false, eval ea env) :: starEach [eb] env := by intro _; rfl) (hs2 : ∀ env, starEach [eb] env = (false, eval eb env) :: starEach [] env := by intro _; rfl) (hpl : ∀ env, (backTo pos (starEach [eb] env)).any (·.1) = false := by intro _; rfl) :
    JI F (.Tuple elts kk tpos) (.Call (.Name "enumerate" p) [ea, eb] [] pos) (xenumS ma mb) := by
  obtain ⟨t, p', s⟩ := ha
  obtain ⟨t2, p2, s2⟩ := hb
  refine ⟨fun W => iEnumS g.K (tCons (t W) (tCons (t2 W) tNil)), fun W X m => by
    have := pi_enumS (elts := elts) (kk := kk) (tpos := tpos) (p := p) (pos := pos) (X := X) (by show X.env.scope.names.lookup _ = _; rw [F.hsc m]; exact hg) (by rw [F.hmg m]; exact hm) (pa_cons (p' W X m) (pa_cons (p2 W X m) pa_nil (hs2 _)) (hs _)) (hs _) (hpl _)
    rw [F.hK m] at this; exact this, ?_⟩
  intro W G H as st σ e R' R N h
  refine s W G H as st σ e _ R N ?_
  unfold xenumS xbind at h
  cases q : ma e st with
  | stuck => rw [q] at h; exact h
  | exc c p st1 => rw [q] at h; exact h
  | ok x st1 =>
    simp only [q] at h
    intro v G1 H1 as1 R1 X1 rv
    refine s2 W G1 H1 as1 st1 σ e _ R1 (N.ext X1) ?_
    cases q2 : mb e st1 with
    | stuck => simp only [q2] at h; exact h
    | exc c p st2 =>
      simp only [q2] at h
      exact fun cls d G2 H2 as2 R2 X2 x2 => h cls d G2 H2 as2 R2 (X1.trans X2) x2
    | ok y st2 =>
      simp only [q2] at h
      intro w G2 H2 as2 R2 X2 rw'
      cases x with
      | tup xs =>
        cases y with
        | int k =>
          simp only at h
          by_cases hc : -1000000 ≤ k ∧ k ≤ 1000000
          · rw [if_pos hc] at h
            cases rw'
            have rv2 := rv.ext X2
            cases rv2 with
            | tup s0 r0 => exact ⟨_, k, rfl, hc.1, hc.2, ⟨_, sqT_H R2 s0⟩, h.2 _ G2 H2 as2 R2 (X1.trans X2) (yl_enumS s0 r0)⟩
          · rw [if_neg hc] at h; exact h.elim
        | _ => exact h.elim
      | _ => exact h.elim
end

/-! ## zip as a value, walked once by a comprehension -/
section
theorem HOk.add {P : Program} {w : World} {H : Hp} {h : Heap} {a : Addr} {o : HO} (x : HOk P w H h) (hn : H a = none) (new : ObjOk P w (upd H a o) h a o) : HOk P w (upd H a o) h := fun b u e => by
  by_cases hb : b = a
  · subst hb; rw [upd_same] at e; cases e; exact new
  · rw [upd_ne hb] at e
    exact (x b u e).stay (fun c v _ q => q) (fun c q => by rw [upd_ne (ne_of_none q hn)]; exact q) fun c xs q => by rw [upd_ne (ne_of_none q hn)]; exact q
/-- one object of the heap, told by what is true of it -/
def fixO (φ : Heap → Prop) : HO := .ext φ
def upZ (H : Hp) (N a b : Addr) : Hp := upd (upd (upd (upd (upd H N (.ext fun h => h.IsTupleIter N a 0)) (N + 1) (.ext fun h => h.IsTupleIter (N + 1) b 0)) (N + 2) (.ext fun h => IsPair h (N + 2) (.ref N) (.ref (N + 1)))) (N + 3) (.ext fun h => IsPair h (N + 3) .none .none)) (N + 4) (.ext fun h => IsZip h (N + 4) (N + 2) (N + 3) .none)
def rZipT (K : PySem.W.Frag) (n : Nat) : List V → Hp → VK → Prop := fun vs H Q => ∃ (a b : Addr) (xs ys : List V), vs = [.ref a, .ref b] ∧ SqT K H a xs ∧ SqT K H b ys ∧ ∀ N, (∀ c, N ≤ c → H c = none) → n ≤ N → a < N → b < N → Q (.ref (N + 4)) (upZ H N a b)
theorem cr_zipT {X : Cx} : CallR X (.type "zip") (rZipT X.K X.s_0.heap.objs.size) := by
  intro pins s σ H vs us Q I r h
  obtain ⟨a, b, xs, ys, rfl, hqx, hqy, q⟩ := h
  cases r with
  | cons r rr =>
    cases rr with
    | cons r' rr =>
      cases rr
      cases r
      cases r'
      obtain ⟨its, rv, p1, _⟩ := I.tuple hqx
      obtain ⟨its2, rv2, p2, _⟩ := I.tuple hqy
      have pa : s.heap.IsTuple a its.toArray := p1
      have pb : s.heap.IsTuple b its2.toArray := p2
      have la : a < s.heap.objs.size := let ⟨_, t, _⟩ := pa; Heap.lt_size t
      have lb : b < s.heap.objs.size := let ⟨_, t, _⟩ := pb; Heap.lt_size t
      refine RZ.call_zipT pa pb fun h1 hz hTI hTO hi1 hi2 sz k1 => ?_
      have fr : ∀ c, s.heap.objs.size ≤ c → H c = none := fun c hc => I.hok.fresh hc
      generalize hN : s.heap.objs.size = N at *
      have I1 : Inv X pins σ H { s with heap := h1 } := I.kept (t' := s.toks) k1
      have ne : ∀ i j : Nat, i ≠ j → N + i ≠ N + j := fun i j h z => h (by omega)
      have n0 : ∀ i : Nat, i ≠ 0 → N + i ≠ N := fun i h z => h (by omega)
      have o1 : ObjOk X.prog X.w (upd H N (.ext fun h => h.IsTupleIter N a 0)) h1 N (.ext fun h => h.IsTupleIter N a 0) := ⟨hi1, (let ⟨o, e, _⟩ := hi1; ⟨o, e⟩), fun ha hb q k => q.at fun o e => k o e⟩
      have H1 := HOk.add I1.hok (fr N (Nat.le_refl _)) o1
      have f1 : (upd H N (.ext fun h => h.IsTupleIter N a 0)) (N + 1) = none := by rw [upd_ne (n0 1 (by simp))]; exact fr _ (by omega)
      have H2 := HOk.add H1 f1 (o := .ext fun h => h.IsTupleIter (N + 1) b 0) ⟨hi2, (let ⟨o, e, _⟩ := hi2; ⟨o, e⟩), fun ha hb q k => q.at fun o e => k o e⟩
      have f2 : (upd (upd H N (.ext fun h => h.IsTupleIter N a 0)) (N + 1) (.ext fun h => h.IsTupleIter (N + 1) b 0)) (N + 2) = none := by rw [upd_ne (ne 2 1 (by simp)), upd_ne (n0 2 (by simp))]; exact fr _ (by omega)
      have H3 := HOk.add H2 f2 (o := .ext fun h => IsPair h (N + 2) (.ref N) (.ref (N + 1))) ⟨hTI, ⟨_, hTI⟩, fun ha hb q k => k _ q⟩
      have f3 : (upd (upd (upd H N (.ext fun h => h.IsTupleIter N a 0)) (N + 1) (.ext fun h => h.IsTupleIter (N + 1) b 0)) (N + 2) (.ext fun h => IsPair h (N + 2) (.ref N) (.ref (N + 1)))) (N + 3) = none := by rw [upd_ne (ne 3 2 (by simp)), upd_ne (ne 3 1 (by simp)), upd_ne (n0 3 (by simp))]; exact fr _ (by omega)
      have H4 := HOk.add H3 f3 (o := .ext fun h => IsPair h (N + 3) .none .none) ⟨hTO, ⟨_, hTO⟩, fun ha hb q k => k _ q⟩
      have f4 : (upd (upd (upd (upd H N (.ext fun h => h.IsTupleIter N a 0)) (N + 1) (.ext fun h => h.IsTupleIter (N + 1) b 0)) (N + 2) (.ext fun h => IsPair h (N + 2) (.ref N) (.ref (N + 1)))) (N + 3) (.ext fun h => IsPair h (N + 3) .none .none)) (N + 4) = none := by rw [upd_ne (ne 4 3 (by simp)), upd_ne (ne 4 2 (by simp)), upd_ne (ne 4 1 (by simp)), upd_ne (n0 4 (by simp))]; exact fr _ (by omega)
      have H5 := HOk.add H4 f4 (o := .ext fun h => IsZip h (N + 4) (N + 2) (N + 3) .none) ⟨hz, ⟨_, hz⟩, fun ha hb q k => k _ q⟩
      have old : ∀ c, c < N → upZ H N a b c = H c := fun c hc => by
        have m : ∀ i : Nat, c ≠ N + i := fun i z => by omega
        unfold upZ
        rw [upd_ne (m 4), upd_ne (m 3), upd_ne (m 2), upd_ne (m 1), upd_ne (show c ≠ N from fun z => by omega)]
      have som : ∀ {c : Addr} {u : HO}, H c = some u → c < N := fun {c u} e => Nat.lt_of_not_le fun z => by rw [fr c z] at e; cases e
      have U : Un X.fs [] H (upZ H N a b) s.heap h1 := ⟨fun c o e _ _ _ => k1 c o e, fun c o e _ _ _ => ⟨o.slots, k1 c o e⟩, fun c o e n _ => by rw [old c (by rw [← hN]; exact Heap.lt_size e)]; exact n, fun c o e _ => ⟨o, k1 c o e⟩,
        fun c xs e => by rw [old c (som e)]; exact e, fun c o u e => by rw [old c (som e)]; exact e, fun c ps e => ⟨#[], by rw [old c (som e)]; simpa using e⟩⟩
      have I5 : Inv X pins σ (upZ H N a b) { s with heap := h1 } := I.un (t' := s.toks) U H5
      exact ⟨.ref (N + 4), upZ H N a b, I5, rfl, q N fr (by rw [← hN]; exact I.sz) la lb⟩
def iZipV (K : PySem.W.Frag) (n k : Nat) : TI := fun σ H R => ∃ (N a b : Addr) (H0 : Hp), σ[k]? = some (some (.ref (N + 4))) ∧ H = upZ H0 N a b ∧ (∀ c, N ≤ c → H0 c = none) ∧ n ≤ N ∧ a < N ∧ b < N ∧ R (RZ.ItzT K a b) H0
theorem pi_zipv {X : Cx} {elts : List Expr} {kk : Nat} {tpos p : Pos} {k : Nat} {x : Str} (hN : X.N[k]? = some x) (hv : Vis X.env.scope x) (hd : (x == ("__debug__" : Str)) = false := by decide) (hcd : (x == ("__classdict__" : Str)) = false := by decide) : PI X (.Tuple elts kk tpos) (.Name x p) (iZipV X.K X.s_0.heap.objs.size k) := by
  refine ⟨fun pins s σ H R I h => ?_⟩
  obtain ⟨N, a, b, H0, hs, eH0, fr, hn, la, lb, q⟩ := h
  subst eH0
  refine thn ((pe_var (pos := p) (i := k) hN hv hd hcd).run pins s σ _ (fun v H1 => v = .ref (N + 4) ∧ H1 = upZ H0 N a b) I ⟨.ref (N + 4), hs, rfl, rfl⟩) fun u s1 ⟨v, H1, I1, r1, ev, eH⟩ => ?_
  subst ev
  rw [eH] at I1
  cases r1
  have ne : ∀ i j : Nat, i ≠ j → N + i ≠ N + j := fun i j h z => h (Nat.add_left_cancel z)
  have n0 : ∀ i : Nat, i ≠ 0 → N + i ≠ N := fun i h z => h (Nat.add_left_cancel (z.trans (Nat.add_zero N).symm))
  have J4 := I1
  unfold upZ at J4
  have f0 : H0 N = none := fr N (Nat.le_refl _)
  have f1 : (upd H0 N (.ext fun h => h.IsTupleIter N a 0)) (N + 1) = none := by rw [upd_ne (n0 1 (by simp))]; exact fr _ (Nat.le_add_right _ _)
  have f2 : (upd (upd H0 N (.ext fun h => h.IsTupleIter N a 0)) (N + 1) (.ext fun h => h.IsTupleIter (N + 1) b 0)) (N + 2) = none := by rw [upd_ne (ne 2 1 (by simp)), upd_ne (n0 2 (by simp))]; exact fr _ (Nat.le_add_right _ _)
  have f3 : (upd (upd (upd H0 N (.ext fun h => h.IsTupleIter N a 0)) (N + 1) (.ext fun h => h.IsTupleIter (N + 1) b 0)) (N + 2) (.ext fun h => IsPair h (N + 2) (.ref N) (.ref (N + 1)))) (N + 3) = none := by rw [upd_ne (ne 3 2 (by simp)), upd_ne (ne 3 1 (by simp)), upd_ne (n0 3 (by simp))]; exact fr _ (Nat.le_add_right _ _)
  have f4 : (upd (upd (upd (upd H0 N (.ext fun h => h.IsTupleIter N a 0)) (N + 1) (.ext fun h => h.IsTupleIter (N + 1) b 0)) (N + 2) (.ext fun h => IsPair h (N + 2) (.ref N) (.ref (N + 1)))) (N + 3) (.ext fun h => IsPair h (N + 3) .none .none)) (N + 4) = none := by rw [upd_ne (ne 4 3 (by simp)), upd_ne (ne 4 2 (by simp)), upd_ne (ne 4 1 (by simp)), upd_ne (n0 4 (by simp))]; exact fr _ (Nat.le_add_right _ _)
  have gz := (J4.hok (N + 4) _ upd_same).1
  have p4 := (ItX.inv_fp J4 upd_same (Nat.le_trans hn (Nat.le_add_right _ 4))).2
  have J3 := ItX.inv_drop J4 upd_same
  rw [ItX.dropH_upd f4] at J3
  have gO := (J3.hok (N + 3) _ upd_same).1
  have p3 := (ItX.inv_fp J3 upd_same (Nat.le_trans hn (Nat.le_add_right _ 3))).2
  have J2 := ItX.inv_drop J3 upd_same
  rw [ItX.dropH_upd f3] at J2
  have gI := (J2.hok (N + 2) _ upd_same).1
  have p2 := (ItX.inv_fp J2 upd_same (Nat.le_trans hn (Nat.le_add_right _ 2))).2
  have J1 := ItX.inv_drop J2 upd_same
  rw [ItX.dropH_upd f2] at J1
  have g2 := (J1.hok (N + 1) _ upd_same).1
  have p1 := (ItX.inv_fp J1 upd_same (Nat.le_trans hn (Nat.le_add_right _ 1))).2
  have J0 := ItX.inv_drop J1 upd_same
  rw [ItX.dropH_upd f1] at J0
  have g1 := (J0.hok N _ upd_same).1
  have p0 := (ItX.inv_fp J0 upd_same hn).2
  have JJ := ItX.inv_drop J0 upd_same
  rw [ItX.dropH_upd f0] at JJ
  refine wpAny_pyIter_zip gz ?_
  refine ⟨N + 4, [N + 4, N + 2, N + 3, N, N + 1], _, _, H0, rfl, JJ, RZ.turn_zipT (PySem.W.ktu_apart N a b la lb), ⟨gz, gI, ⟨_, _, gO⟩, g1, g2⟩, fun c hc => ?_, q⟩
  have e' : c = N + 4 ∨ c = N + 2 ∨ c = N + 3 ∨ c = N ∨ c = N + 1 := by simpa using hc
  rcases e' with z | z | z | z | z <;> subst z
  · exact ⟨fr _ (by first | exact Nat.le_refl _ | exact Nat.le_add_right _ _), p4⟩
  · exact ⟨fr _ (by first | exact Nat.le_refl _ | exact Nat.le_add_right _ _), p2⟩
  · exact ⟨fr _ (by first | exact Nat.le_refl _ | exact Nat.le_add_right _ _), p3⟩
  · exact ⟨fr _ (by first | exact Nat.le_refl _ | exact Nat.le_add_right _ _), p0⟩
  · exact ⟨fr _ (by first | exact Nat.le_refl _ | exact Nat.le_add_right _ _), p1⟩
end
end LS
end
section
set_option maxRecDepth 100000
set_option maxHeartbeats 2000000
namespace LS
open PySem PySem.Spec L2
section
variable {g : Gb} {F : Fam g} {pos : Pos}
/-- a comprehension behind its iterator -/
theorem comp_read0 {gt0 : TG} {tt : WX → TT} {te : WX → TE} {vs : List Nat} {gt : MG} {mt : XM Bool} {me : XM D}
    (sg : ∀ (G H : Hp) (as : List Addr) (st : Store) (σ : L2.St) (e : Nv) (v : V) (x : D) (e' : Nv) (st' : Store) (Q : L2.St → Hp → Prop), Ri g.K g.mg G H as st → Rn g.K g.mg G as σ e → Rp g.K g.mg G as v x → gt x e st = some (e', st') →
      (∀ σ', wipe σ' vs = wipe σ vs → Rn g.K g.mg G as σ' e' → st' = st → Q σ' H) → gt0 v σ H Q)
    (stt : ST g tt mt) (se : SE g te me) (W : WX) {G1 H1 : Hp} {as1 : List Addr} {st1 : Store} {xs : List D} {src : Option Nat} {J : It} (Y : Yl g G1 H1 as1 src xs J) (σ σ0 : L2.St) (e : Nv) (Q Q0 : VK) (R1 : Ri g.K g.mg G1 H1 as1 st1) (N : Rn g.K g.mg G1 as1 σ e) (f : List D → Store → RX D)
    (h1 : PX g.K g.mg W G1 H1 as1 σ0 (match cloop src xs gt mt me (wipeE e vs) xs [] st1 with | .ok ds st' => f ds st' | .exc c p st' => .exc c p st' | .stuck => .stuck) Q0)
    (fin : ∀ (ds : List D) (st' : Store) (G1 H1 : Hp) (as1 : List Addr) (G2 H2 : Hp) (as2 : List Addr) (us : List V) (p : Addr), Ri g.K g.mg G1 H1 as1 st' → RpA g.K g.mg G1 as1 us ds → H1 p = some (.lst us) → G1 p = none → p ∉ as1 → Ext G2 H2 as2 G1 H1 as1 → H2 p = none → PX g.K g.mg W G2 H2 as2 σ0 (f ds st') Q0 → Q (.ref p) H1) :
    ∀ D, H1 D = none → ∃ W : Nat → Nat → Hp → Prop, (∃ m, W 0 m (upd H1 D (.lst []))) ∧ ∀ i m H, W i m H →
  (J.stop i H ∧ Q (.ref D) H) ∨ (J.go i H ∧ ∃ Nx : Hp → Prop, (∀ H', Nx H' → ∃ m', m' < m ∧ W (i + 1) m' H') ∧ ∀ x H', J.yld i H x H' → gt0 x (wipe σ vs) H' fun σ2 H2 => wipe σ2 vs = wipe σ vs ∧ tt W0 σ2 H2 fun b H3 =>
    if b = true then te W0 σ2 H3 fun y H4 => ∃ acc, H4 D = some (.lst acc) ∧ acc.length < sizeLine ∧ Nx (upd H4 D (.lst (acc ++ [y]))) else Nx H3) := by
  intro D0 hD
  have hd0 := R1.none_of hD
  refine ⟨fun i m H' => i ≤ xs.length ∧ m = xs.length - i ∧ ∃ G' as' st' us acc, Ri g.K g.mg G' H' as' st' ∧ Ext G1 H1 as1 G' H' as' ∧ H' D0 = some (.lst us) ∧ G' D0 = none ∧ D0 ∉ as' ∧ RpA g.K g.mg G' as' us acc ∧
      PX g.K g.mg W G1 H1 as1 σ0 (match cloop src xs gt mt me (wipeE e vs) (xs.drop i) acc st' with | .ok ds st' => f ds st' | .exc c p st' => .exc c p st' | .stuck => .stuck) Q0,
    ⟨xs.length, Nat.zero_le _, by simp, G1, as1, st1, [], [], R1.touch hd0.1 hd0.2, Ext.refl.touch hD, upd_same, hd0.1, hd0.2, .nil, h1⟩, ?_⟩
  rintro i m H2 ⟨hle, rfl, G2, as2, st2, us, acc, R2, X2, hL, hg, ha, ru, h2⟩
  by_cases hi : i < xs.length
  · have hd : xs.drop i = xs[i] :: xs.drop (i + 1) := List.drop_eq_getElem_cons hi
    rw [hd] at h2
    unfold cloop at h2
    by_cases hok : srcOk src xs st2 = true
    · simp only [hok, if_true] at h2
      refine .inr ⟨Y.go i G2 H2 as2 st2 hi R2 X2.sub X2.pre X2.lk hok, ?_⟩
      refine ⟨fun H' => i + 1 ≤ xs.length ∧ ∃ G' as' st' us acc, Ri g.K g.mg G' H' as' st' ∧ Ext G1 H1 as1 G' H' as' ∧ H' D0 = some (.lst us) ∧ G' D0 = none ∧ D0 ∉ as' ∧ RpA g.K g.mg G' as' us acc ∧
          PX g.K g.mg W G1 H1 as1 σ0 (match cloop src xs gt mt me (wipeE e vs) (xs.drop (i + 1)) acc st' with | .ok ds st' => f ds st' | .exc c p st' => .exc c p st' | .stuck => .stuck) Q0,
        fun H' ⟨a, b⟩ => ⟨xs.length - (i + 1), by omega, a, rfl, b⟩, fun v H3 y => ?_⟩
      obtain ⟨G3, R3, X3, rv⟩ := Y.yld i G2 H2 as2 st2 v H3 xs[i] R2 X2.sub X2.pre X2.lk hok (List.getElem?_eq_getElem hi) y
      have b3 := X3.beside hL hg ha
      cases q3 : gt xs[i] (wipeE e vs) st2 with
      | none => simp only [q3] at h2; exact h2.elim
      | some z =>
        obtain ⟨e3, st3⟩ := z
        simp only [q3] at h2
        have Nw : Rn g.K g.mg G3 as2 (wipe σ vs) (wipeE e vs) := ((N.ext X2).ext X3).wipe vs
        refine sg G3 H3 as2 st2 (wipe σ vs) (wipeE e vs) v xs[i] e3 st3 _ R3 Nw rv q3 fun σ4 w4 N4 es => ?_
        subst es
        refine ⟨w4.trans wipe_wipe, ?_⟩
        refine stt W0 G3 H3 as2 st3 σ4 e3 _ R3 N4 ?_
        cases q4 : mt e3 st3 with
        | stuck => simp only [q4] at h2; exact h2
        | exc c p st4 => simp only [q4] at h2; exact h2.elim
        | ok b st4 =>
          intro G4 H4 as4 R4 X4
          have b4 := X4.beside b3.2.2 b3.1 b3.2.1
          have X14 := (X2.trans X3).trans X4
          cases b with
          | false =>
            simp only [q4] at h2
            exact iteF ⟨hi, G4, as4, st4, us, acc, R4, X14, b4.2.2, b4.1, b4.2.1, (ru.ext X3).ext X4, h2⟩
          | true =>
            refine iteT ?_
            refine se W0 G4 H4 as4 st4 σ4 e3 _ R4 (N4.ext X4) ?_
            cases q5 : me e3 st4 with
            | stuck => simp only [q4, q5] at h2; exact h2
            | exc c p st5 => simp only [q4, q5] at h2; exact h2.elim
            | ok d st5 =>
              simp only [q4, q5] at h2
              intro w G5 H5 as5 R5 X5 rw'
              have b5 := X5.beside b4.2.2 b4.1 b4.2.1
              have ru5 := ((ru.ext X3).ext X4).ext X5
              by_cases hl : acc.length < LIM
              · rw [if_pos hl] at h2
                refine ⟨us, b5.2.2, by rw [ru5.len]; exact lim_lt hl, hi, G5, as5, st5, us ++ [w], acc ++ [d], R5.touch b5.1 b5.2.1, (X14.trans X5).touch hD, upd_same, b5.1, b5.2.1, ru5.append (.cons rw' .nil), h2⟩
              · rw [if_neg hl] at h2; exact h2.elim
    · simp only [hok] at h2; exact h2.elim
  · have ei : i = xs.length := by omega
    subst ei
    rw [List.drop_length] at h2
    unfold cloop at h2
    by_cases hok : srcOk src xs st2 = true
    · simp only [hok, if_true] at h2
      exact .inl ⟨Y.stop G2 H2 as2 st2 R2 X2.sub X2.pre X2.lk hok, fin acc st2 G2 H2 as2 G1 H1 as1 us D0 R2 ru hL hg ha X2 hD h2⟩
    · simp only [hok] at h2; exact h2.elim

/-! ### p = zip(a, b); return len([.. for .. in p ..]) -/
def xzipT (ma mb : XM D) : XM (List D × Option Nat) := xbind ma fun x => xbind mb fun y => fun _ st => match x, y with
  | .tup xs, .tup ys => .ok (zipD xs ys, none) st
  | _, _ => .stuck
def xzipLen (k : Nat) (ma mb : XM D) (vs : List Nat) (gt : MG) (mt : XM Bool) (me : XM D) : XM D := fun e st => match e[k]? with
  | some none => (xbind (xcompL (xzipT ma mb) vs gt mt me) fun ds => xpure (.int ds.length)) e st
  | _ => .stuck
theorem Rn.side {K : PySem.W.Frag} {mg : Str → Option Value} {G : Hp} {as : List Addr} {σ : L2.St} {e : Nv} (N : Rn K mg G as σ e) {k : Nat} (hk : e[k]? = some none) (v : Option V) : Rn K mg G as (σ.set k v) e := by
  refine ⟨by simp [N.len], fun j y h => ?_⟩
  by_cases hj : j = k
  · subst hj; rw [hk] at h; cases h
  · obtain ⟨u, e1, r1⟩ := N.at_ j y h
    exact ⟨u, by rw [List.getElem?_set_ne (Ne.symm hj)]; exact e1, r1⟩
theorem jss_zipLen (k : Nat) {y : Str} {py pz pl pn pos1 pos2 pos3 pos4 : Pos} {ea eb elt : Expr} {elts : List Expr} {kk : Nat} {tpos : Pos} {ifs : List Expr} {scope : Scope} (own : List (Str × Nat)) {ma mb : XM D} {gt : MG} {mt : XM Bool} {me : XM D}
    (hy : F.N[k]? = some y) (hyl : F.sc.names.lookup y = some .local) (hz : F.sc.names.lookup ("zip" : Str) = some .globalImplicit) (hzm : g.mg "zip" = none) (hl : F.sc.names.lookup ("len" : Str) = some .globalImplicit) (hlm : g.mg "len" = none)
    (ha : JE F ea ma) (hb : JE F eb mb) (ok : blkC F.N F.sc scope own = true) (hg : JC (famC F scope) (own.map (·.2)) (.Tuple elts kk tpos) gt) (ht : JTs (famC F scope) ifs mt) (he : JE (famC F scope) elt me)
    (hy0 : F.own y = true := by rfl) (hd : (y == ("__debug__" : Str)) = false := by decide) (hcd : (y == ("__classdict__" : Str)) = false := by decide)
    (hs : ∀ env, starEach [ea, eb] env = (false, eval ea env) :: starEach [eb] env := by intro _; rfl) (hs2 : ∀ env, starEach [eb] env = [(false, eval eb env)] := by intro _; rfl) (hpl : ∀ env, (backTo pos1 (starEach [eb] env)).any (·.1) = false := by intro _; rfl)
    (hw : ∀ env, swapsWith (.Call (.Name "zip" pz) [ea, eb] [] pos1) (some (.Name y py)) pos2.line env = pure false := by intro _; rfl) (hf : ∀ env x, foldedSetIterable (.Name y pn) env x = pure x := by intro _ _; rfl) :
    JSs F [.Assign [.Name y py] (.Call (.Name "zip" pz) [ea, eb] [] pos1) pos2, .Return (some (.Call (.Name "len" pl) [.ListComp elt [⟨.Tuple elts kk tpos, .Name y pn, ifs, 0⟩] scope pos] [] pos3)) pos4]
      (sret (xzipLen k ma mb (own.map (·.2)) gt mt me)) := by
  obtain ⟨ta, pa, sa⟩ := ha
  obtain ⟨tb, pb, sb⟩ := hb
  obtain ⟨tg', pg', sg'⟩ := hg
  obtain ⟨tt, pt, stt⟩ := ht
  obtain ⟨te, pe, se⟩ := he
  refine ⟨fun W E σ H => ∀ n : Nat, tSeq (tAsg (tCB (rZipT g.K n) (tCons (ta W) (tCons (tb W) tNil))) (gName k)) (tRet (tCB (fun xs H Q => ∃ p ys, xs = [.ref p] ∧ (SqL g.K H p ys ∨ SqT g.K H p ys) ∧ Q (.int ys.length) H) (tCons (tLc (iZipV g.K n k) tg' (tt W0) (te W0) (own.map (·.2))) tNil))) E σ H, fun W X m => ?_, ?_⟩
  · have hm : ∀ (s : Shared) (H : Hp) (C : Addr) (cl : List (Str × Addr)) (fp : List Addr), (famC F scope).mem W0 (X.blk s H scope (compEnvC scope cl C X.env) fp) := fun s H C cl fp => ⟨rfl, W, X, s, H, C, cl, fp, m, rfl⟩
    have hN : X.N.Nodup := by rw [F.hN m]; exact F.nd
    have hyX : X.N[k]? = some y := by rw [F.hN m]; exact hy
    have hloc : Loc X.env.scope y := by rw [F.hsc m]; exact Or.inl hyl
    have cz : CallR X (.type "zip") (rZipT g.K X.s_0.heap.objs.size) := by have := cr_zipT (X := X); rw [F.hK m] at this; exact this
    have cl : CallR X (.builtin "len") (fun xs H Q => ∃ p ys, xs = [.ref p] ∧ (SqL g.K H p ys ∨ SqT g.K H p ys) ∧ Q (.int ys.length) H) := by have := call_len_seq (X := X); rw [F.hK m] at this; exact this
    have p1 := pe_callTy (pos := pos1) (p := pz) cz (x := ("zip" : Str)) (by show X.env.scope.names.lookup _ = _; rw [F.hsc m]; exact hz) (by rw [F.hmg m]; exact hzm) (by rfl) (pa_cons (pa W X m) (pa_cons (pb W X m) pa_nil (hs2 _)) (hs _)) (by decide) (by decide) (hs _) (hpl _)
    have pi : PI X (.Tuple elts kk tpos) (.Name y pn) (iZipV g.K X.s_0.heap.objs.size k) := by have := pi_zipv (elts := elts) (kk := kk) (tpos := tpos) (p := pn) (X := X) hyX (by rw [F.hsc m]; exact Or.inl hyl) hd hcd; rw [F.hK m] at this; exact this
    have plc := pe_lc (F.calm m) hN pi (by rw [F.hN m, F.hsc m]; exact blkOk_by ok) (fun s H C cl fp => pg' _ _ (hm s H C cl fp)) (fun s H C cl fp => pt _ _ (hm s H C cl fp)) (fun s H C cl fp => pe _ _ (hm s H C cl fp)) (hf _) (pos := pos)
    have p2 := pe_callB (pos := pos3) (p := pl) cl (x := ("len" : Str)) (by show X.env.scope.names.lookup _ = _; rw [F.hsc m]; exact hl) (by rw [F.hmg m]; exact hlm) (by rfl) (pa_cons plc pa_nil)
    have q := pss_cons (ps_set (pos := pos2) (pos' := py) hN hyX hloc p1 (hw _) (F.fn m y hy0 (Or.inl hyl))) (pss_one (ps_ret (pos := pos4) p2))
    exact ⟨fun pins s σ H D I h => q.run pins s σ H D I (h _)⟩
  · intro W G H as st σ e E R N h n
    unfold sret sbind xzipLen at h
    cases hk : e[k]? with
    | none => simp only [hk] at h; exact h.elim
    | some z => cases z with
      | some z => simp only [hk] at h; exact h.elim
      | none =>
        simp only [hk] at h
        refine sa W G H as st σ e _ R N ?_
        unfold xbind xcompL xzipT xbind at h
        cases q : ma e st with
        | stuck => simp only [q] at h; exact h
        | exc c p st1 => simp only [q] at h; exact fun cls d G1 H1 as1 R1 X1 x => h σ cls d G1 H1 as1 R1 (N.ext X1) X1 x
        | ok x st1 =>
          simp only [q] at h
          intro v G1 H1 as1 R1 X1 rv
          refine sb W G1 H1 as1 st1 σ e _ R1 (N.ext X1) ?_
          cases q2 : mb e st1 with
          | stuck => simp only [q2] at h; exact h
          | exc c p st2 =>
            simp only [q2] at h
            exact fun cls d G2 H2 as2 R2 X2 x2 => h σ cls d G2 H2 as2 R2 ((N.ext X1).ext X2) (X1.trans X2) x2
          | ok y2 st2 =>
            simp only [q2] at h
            intro w G2 H2 as2 R2 X2 rw'
            have rv2 := rv.ext X2
            cases x with
            | tup xs =>
              cases y2 with
              | tup ys =>
                simp only at h
                cases rv2 with
                | tup s1 r1 =>
                  cases rw' with
                  | tup s2 r2 =>
                    have X12 := X1.trans X2
                    refine ⟨_, _, _, _, rfl, sqT_H R2 s1, sqT_H R2 s2, fun M fr hn la lb => ?_⟩
                    have hkl : k < σ.length := by rw [N.len]; exact (List.getElem?_eq_some_iff.mp hk).1
                    refine ⟨M, _, _, H2, by rw [List.getElem?_set_self hkl], rfl, fr, hn, la, lb, ?_⟩
                    have N2 : Rn g.K g.mg G2 as2 (σ.set k (some (.ref (M + 4)))) e := (N.ext X12).side hk _
                    refine comp_read0 sg' stt se W (yl_zipT s1 s2 r1 r2) _ (e := e) (R1 := R2) (N := N2) (f := fun ds st' => RX.ok (D.int ds.length) st') (Q := fun v H' => ∃ (p : Addr) (ys : List V), [v] = [V.ref p] ∧ (SqL g.K H' p ys ∨ SqT g.K H' p ys) ∧ E.rt (.int ys.length) H') (σ0 := σ) (Q0 := fun v H' => E.rt v H') ?_ ?_
                    · cases q3 : cloop none (zipD xs ys) gt mt me (wipeE e (own.map (·.2))) (zipD xs ys) [] st2 with
                      | stuck => rw [q3] at h; exact h
                      | exc c p st3 => rw [q3] at h; exact fun cls d G3 H3 as3 R3 X3 x3 => h σ cls d G3 H3 as3 R3 ((N.ext X12).ext X3) (X12.trans X3) x3
                      | ok ds st3 =>
                        rw [q3] at h
                        exact fun v G3 H3 as3 R3 X3 r3 => h v G3 H3 as3 R3 (X12.trans X3) r3
                    · intro ds st' G3 H3 as3 G4 H4 as4 us p R3 ru hp gn na X3 hn hq
                      refine ⟨p, us, rfl, .inl (.of hp), ?_⟩
                      have := hq (.int us.length) G3 H3 as3 R3 X3 (by rw [ru.len]; exact .int _)
                      exact this
              | _ => exact h.elim
            | _ => exact h.elim
end
end LS
end
section
set_option maxRecDepth 100000
set_option maxHeartbeats 2000000
namespace LS
open PySem PySem.Spec L2
variable {e : Nv} {st : Store}
/-! ## more plain laws -/
@[simp] theorem max_iD (ns : List Int) : maxD (.lst (iD ns)) e st = if ns = [] then .stuck else .ok (.int (maxL ns)) st := by simp [maxD, intsD, seqOf, lstOf, intsOf_iD]
@[simp] theorem min_iD (ns : List Int) : minD (.lst (iD ns)) e st = if ns = [] then .stuck else .ok (.int (minL ns)) st := by simp [minD, intsD, seqOf, lstOf, intsOf_iD]
theorem cloop_rows {α : Type} {src : Option Nat} {items : List D} {gt : MG} {mt : XM Bool} {me : XM D} (g : α → D) (c : α → Bool) (f : α → D) (hs : srcOk src items st = true) : ∀ (l : List α) (acc : List D), (∀ x ∈ l, ∃ e1, gt (g x) e st = some (e1, st) ∧ mt e1 st = .ok (c x) st ∧ (c x = true → me e1 st = .ok (f x) st)) → acc.length + l.length ≤ LIM →
    cloop src items gt mt me e (l.map g) acc st = .ok (acc ++ (l.filter c).map f) st
  | [], acc, _, _ => by simp [cloop, hs]
  | x :: r, acc, h, hl => by
    obtain ⟨e1, h1, h2, h3⟩ := h x (by simp)
    have hl' : acc.length + (r.length + 1) ≤ LIM := by simpa using hl
    rw [List.map_cons]
    unfold cloop
    rw [if_pos hs, h1]
    cases hc : c x with
    | false =>
      simp only [h2, hc]
      rw [cloop_rows g c f hs r acc (fun y hy => h y (by simp [hy])) (by omega)]
      simp [hc]
    | true =>
      simp only [h2, hc, h3 hc]
      rw [if_pos (by omega), cloop_rows g c f hs r (acc ++ [f x]) (fun y hy => h y (by simp [hy])) (by simp; omega)]
      simp [hc]
theorem perm_sorted {α : Type} {le : α → α → Bool} : ∀ {a b : List α}, (∀ x ∈ a, ∀ y ∈ a, le x y = true → le y x = true → x = y) → a.Perm b → a.Pairwise (fun x y => le x y = true) → b.Pairwise (fun x y => le x y = true) → a = b
  | [], b, _, p, _, _ => by rw [List.nil_perm.mp p]
  | x :: a, [], _, p, _, _ => by simp at p
  | x :: a, y :: b, anti, p, ha, hb => by
    have ha' := List.pairwise_cons.mp ha
    have hb' := List.pairwise_cons.mp hb
    have e : x = y := by
      have hx : x ∈ y :: b := p.subset (by simp)
      have hy : y ∈ x :: a := p.symm.subset (by simp)
      rcases List.mem_cons.mp hx with h | h
      · exact h
      · rcases List.mem_cons.mp hy with h2 | h2
        · exact h2.symm
        · exact anti x (by simp) y hy (ha'.1 y h2) (hb'.1 x h)
    subst e
    rw [perm_sorted (fun u hu v hv => anti u (by simp [hu]) v (by simp [hv])) (List.perm_cons x |>.mp p) ha'.2 hb'.2]
end LS
end
section
set_option maxRecDepth 100000
set_option maxHeartbeats 2000000
namespace LS
open PySem PySem.Spec L2
section
variable {g : Gb} {F : Fam g} {pos : Pos}
/-! ## xs[::-1] of a list: a new list, still | moving -/
def listOf (st : Store) : D → Option (List D)
  | .sq xs => some xs
  | x => lstOf st x
theorem listOf_ok {K : PySem.W.Frag} {mg : Str → Option Value} {G H : Hp} {as : List Addr} {st : Store} {v : V} {x : D} {xs : List D} (R : Ri K mg G H as st) (rv : Rp K mg G as v x) (h : listOf st x = some xs) : ∃ a vs, v = .ref a ∧ SqL K H a vs ∧ RpA K mg G as vs xs := by
  have low : lstOf st x = some xs → ∃ a vs, v = .ref a ∧ SqL K H a vs ∧ RpA K mg G as vs xs := fun q =>
    let ⟨a, vs, e, s, r⟩ := lstOf_ok R rv q
    ⟨a, vs, e, .of s, r⟩
  cases rv with
  | sq s1 r1 =>
    have e := Option.some.inj h
    rw [← e]
    exact ⟨_, _, rfl, sqL_H R s1, r1⟩
  | _ => exact low h
def xrevL (m : XM D) : XM (List D) := xbind m fun x => fun _ st => match listOf st x with
  | some xs => .ok xs.reverse st
  | none => .stuck
def xrev (m : XM D) : XM D := xbind (xrevL m) fun xs => xpure (.lst xs)
def xrevM (m : XM D) : XM D := xbind (xrevL m) fun xs => fun _ st => .ok (.ref st.length) (st ++ [.lst xs])
theorem rev_read {t : WX → TE} {m : XM D} (s : SE g t m) {W : WX} {G H : Hp} {as : List Addr} {st : Store} {σ : L2.St} {e : Nv} {Q : VK} (R : Ri g.K g.mg G H as st) (N : Rn g.K g.mg G as σ e) (f : List D → XM D) (h : PX g.K g.mg W G H as σ (xbind (xrevL m) f e st) Q)
    (k : ∀ (xs : List D) (vs : List V) (st1 : Store) (G1 H1 : Hp) (as1 : List Addr) (p : Addr), Ri g.K g.mg G1 H1 as1 st1 → Ext G H as G1 H1 as1 → RpA g.K g.mg G1 as1 vs.reverse xs → PX g.K g.mg W G1 H1 as1 σ (f xs e st1) Q → H1 p = none → Q (.ref p) (upd H1 p (.lst vs.reverse))) : tRevL g.K (t W) σ H Q := by
  refine s W G H as st σ e _ R N ?_
  unfold xrevL xbind at h
  cases q : m e st with
  | stuck => simp only [q] at h; exact h
  | exc c p st1 => simp only [q] at h; exact h
  | ok x st1 =>
    simp only [q] at h
    intro v G1 H1 as1 R1 X1 rv
    cases q2 : listOf st1 x with
    | none => simp only [q2] at h; exact h.elim
    | some xs =>
      simp only [q2] at h
      obtain ⟨a, vs, e1, s1, r1⟩ := listOf_ok R1 rv q2
      exact ⟨a, vs, e1, s1, fun p hp => k xs.reverse vs st1 G1 H1 as1 p R1 X1 r1.reverse (PX.ext (r := f xs.reverse e st1) h X1) hp⟩
theorem je_rev {ex : Expr} {m : XM D} {k : Nat} {p1 p2 p3 : Pos} (h : JE F ex m) : JE F (.Subscript ex (.Slice none none (some (.UnaryOp .USub (.Constant (.int 1) k p1) p2)) p3) pos) (xrev m) := by
  obtain ⟨t, p, s⟩ := h
  refine ⟨fun W => tRevL g.K (t W), fun W X mm => by have := pe_revL (pos := pos) (k := k) (p1 := p1) (p2 := p2) (p3 := p3) (p W X mm); rw [F.hK mm] at this; exact this, ?_⟩
  intro W G H as st σ e Q R N h
  refine rev_read s R N _ h fun xs vs st1 G1 H1 as1 p R1 X1 r hq hp => ?_
  obtain ⟨R', x'⟩ := R1.still (o := .lst vs.reverse) hp
  exact hq _ _ _ _ R' x' (.lst upd_same (r.ext x'))
theorem je_revM {ex : Expr} {m : XM D} {k : Nat} {p1 p2 p3 : Pos} (h : JE F ex m) : JE F (.Subscript ex (.Slice none none (some (.UnaryOp .USub (.Constant (.int 1) k p1) p2)) p3) pos) (xrevM m) := by
  obtain ⟨t, p, s⟩ := h
  refine ⟨fun W => tRevL g.K (t W), fun W X mm => by have := pe_revL (pos := pos) (k := k) (p1 := p1) (p2 := p2) (p3 := p3) (p W X mm); rw [F.hK mm] at this; exact this, ?_⟩
  intro W G H as st σ e Q R N h
  refine rev_read s R N _ h fun xs vs st1 G1 H1 as1 p R1 X1 r hq hp => ?_
  obtain ⟨R', x'⟩ := R1.moving (o := .lst vs.reverse) (m := .lst xs) hp (.lst r)
  refine hq _ _ _ _ R' x' (.ref ?_)
  rw [← R1.len, List.getElem?_append_right (Nat.le_refl _), Nat.sub_self]; rfl

/-! ## xs.pop() -/
def xpop (mo : XM D) : XM D := xbind mo fun o => fun _ st => match o with
  | .ref k => (match st[k]? with
    | some (.lst xs) => (match xs[xs.length - 1]? with
      | some y => .ok y (st.set k (.lst xs.dropLast))
      | none => .stuck)
    | _ => .stuck)
  | _ => .stuck
theorem je_pop {o : Expr} {mo : XM D} {apos : Pos} (ho : JE F o mo) (h1 : ∀ env, attributeBase o "pop" env (eval o env) = eval o env := by intro _; rfl) (h2 : (apos.endLine == pos.line) = true := by rfl) : JE F (.Call (.Attribute o "pop" apos) [] [] pos) (xpop mo) := by
  obtain ⟨t, p, s⟩ := ho
  refine ⟨fun W => tBM0 g.K "list" rPop (t W), fun W X m => ?_, ?_⟩
  · have := pe_bm0 (cpos := pos) (apos := apos) PySem.F.plainAttrs_list PySem.F.slot_list_pop PySem.F.type_list_pop (mt_pop (X := X)) (p W X m) (h1 _) h2
    rw [F.hK m] at this
    exact this
  · intro W G H as st σ e Q R N h
    refine s.one R N h fun x st1 v G1 H1 as1 R1 X1 N1 rv h1 => ?_
    cases x with
    | ref kk =>
      simp only at h1
      cases q3 : st1[kk]? with
      | none => simp only [q3] at h1; exact h1.elim
      | some mo' =>
        cases mo' with
        | lst xs =>
          simp only [q3] at h1
          cases q4 : xs[xs.length - 1]? with
          | none => simp only [q4] at h1; exact h1.elim
          | some y =>
            simp only [q4] at h1
            have hk : isLst st1 kk = true := by unfold isLst; rw [q3]
            refine ⟨ty_ref R1 rv hk, ?_⟩
            cases rv with
            | ref qa =>
              rename_i a
              obtain ⟨ho', e1, oo⟩ := R1.at_ qa q3
              cases oo with
              | lst rr =>
                rename_i vs
                obtain ⟨u, hu, ru⟩ := rr.get q4
                have hd : RpA g.K g.mg G1 as1 vs.dropLast xs.dropLast := by
                  rw [List.dropLast_eq_take, List.dropLast_eq_take, rr.len]
                  exact rr.take _
                obtain ⟨R3, X3⟩ := R1.change (o := .lst vs.dropLast) (m := .lst xs.dropLast) qa (.lst hd) (fun u kvs z => by rw [e1] at z; cases z)
                exact ⟨a, vs, u, rfl, rfl, e1, by rw [rr.len]; exact hu, h1 _ _ _ _ R3 X3 (ru.ext X3)⟩
        | _ => simp only [q3] at h1; exact h1.elim
    | _ => exact h1.elim

/-! ## list(range(n)) -/
def xlistRg1 (m : XM D) : XM D := xbind m fun x => fun _ st => match x with
  | .int n => if -(2 ^ 62) ≤ n ∧ n ≤ 16777216 then .ok (.lst (rangeL 0 n.toNat)) st else .stuck
  | _ => .stuck
theorem rgV_rp {K : PySem.W.Frag} {mg : Str → Option Value} {G : Hp} {as : List Addr} (n : Int) : RpA K mg G as (rgV 0 n) (rangeL 0 n.toNat) := by
  have := RpA.of_ints (K := K) (mg := mg) (G := G) (as := as) ((List.range n.toNat).map fun (i : Nat) => (0 + (i : Int)))
  rw [List.map_map, List.map_map] at this
  unfold rgV rangeL
  rw [show n - 0 = n by omega]
  exact this
theorem je_listRg1 {ex : Expr} {m : XM D} {p q : Pos} {pos' : Pos} (hl : F.sc.names.lookup ("list" : Str) = some .globalImplicit) (hlm : g.mg "list" = none) (hg : F.sc.names.lookup ("range" : Str) = some .globalImplicit) (hm : g.mg "range" = none) (h : JE F ex m)
    (na : ∀ env, starEach [Expr.Call (.Name "range" q) [ex] [] pos'] env = (false, eval (.Call (.Name "range" q) [ex] [] pos') env) :: starEach [] env := by intro _; rfl) (na2 : ∀ env, starEach [ex] env = (false, eval ex env) :: starEach [] env := by intro _; rfl) :
    JE F (.Call (.Name "list" p) [.Call (.Name "range" q) [ex] [] pos'] [] pos) (xlistRg1 m) := by
  obtain ⟨t, p', s⟩ := h
  refine ⟨fun W => tLstRg (tRg1 (t W)), fun W X mm => ?_, ?_⟩
  · exact pe_listRg (F.calm mm) (by show X.env.scope.names.lookup _ = _; rw [F.hsc mm]; exact hl) (by rw [F.hmg mm]; exact hlm) (prg_1 (by show X.env.scope.names.lookup _ = _; rw [F.hsc mm]; exact hg) (by rw [F.hmg mm]; exact hm) (p' W X mm) (na2 _)) (na _)
  · intro W G H as st σ e Q R N h
    refine s.one R N h fun x st1 v G1 H1 as1 R1 X1 N1 rv h1 => ?_
    cases rv with
    | int n =>
      simp only at h1
      by_cases hc : -(2 ^ 62) ≤ n ∧ n ≤ 16777216
      · rw [if_pos hc] at h1
        refine ⟨n, rfl, ⟨by decide, by decide, hc.1, by omega, by omega⟩, fun q hq => ?_⟩
        obtain ⟨R', x'⟩ := R1.still (o := .lst (rgV 0 n)) hq
        exact h1 _ _ _ _ R' x' (.lst upd_same (rgV_rp n))
      · rw [if_neg hc] at h1; exact h1.elim
    | _ => exact h1.elim

/-! ## for .. in range(a, b, -1) -/
def rangeDn (lo : Int) (n : Nat) : List D := (List.range n).map fun (i : Nat) => .int (lo + (i : Int) * (-1))
theorem yl_rangeDn {G0 H0 : Hp} {as0 : List Addr} {lo : Int} {n : Nat} : Yl g G0 H0 as0 none (rangeDn lo n) (Itc lo (-1) n) where
  go := fun i G H as st hi R hs hp hl _ => by
    have : i < n := by simpa [rangeDn] using hi
    exact this
  stop := fun G H as st R hs hp hl _ => by show n ≤ (rangeDn lo n).length; simp [rangeDn]
  yld := fun i G H as st v H' x R hs hp hl _ hx y => by
    obtain ⟨rfl, rfl⟩ := y
    unfold rangeDn at hx
    rw [List.getElem?_map] at hx
    obtain ⟨j, hj, rfl⟩ := Option.map_eq_some_iff.mp hx
    obtain ⟨hj1, hj2⟩ := List.getElem?_eq_some_iff.mp hj
    have : j = i := by rw [← hj2]; simp
    subst this
    exact ⟨G, R, Ext.refl, .int _⟩
def xrangeDn (ma mb : XM D) : XM (List D × Option Nat) := xbind ma fun x => xbind mb fun y => fun _ st => match x, y with
  | .int i, .int j => if -(2 ^ 62) ≤ i ∧ i < 2 ^ 62 ∧ -(2 ^ 62) ≤ j ∧ j < 2 ^ 62 then .ok (rangeDn i (i - j).toNat, none) st else .stuck
  | _, _ => .stuck
theorem ji_rangeDn {tg a b : Expr} {ma mb : XM D} {p p1 p2 : Pos} {k : Nat} (hg : F.sc.names.lookup ("range" : Str) = some .globalImplicit) (hm : g.mg "range" = none) (ha : JE F a ma) (hb : JE F b mb)
    (hs : ∀ env, starEach [a, b, .UnaryOp .USub (.Constant (.int 1) k p1) p2] env = (false, eval a env) :: starEach [b, .UnaryOp .USub (.Constant (.int 1) k p1) p2] env := by intro _; rfl)
    (hs2 : ∀ env, starEach [b, .UnaryOp .USub (.Constant (.int 1) k p1) p2] env = (false, eval b env) :: starEach [.UnaryOp .USub (.Constant (.int 1) k p1) p2] env := by intro _; rfl)
    (hpl : ∀ env, (backTo pos (starEach [b, .UnaryOp .USub (.Constant (.int 1) k p1) p2] env)).any (·.1) = false := by intro _; rfl) : JI F tg (.Call (.Name "range" p) [a, b, .UnaryOp .USub (.Constant (.int 1) k p1) p2] [] pos) (xrangeDn ma mb) := by
  obtain ⟨t, p', s⟩ := ha
  obtain ⟨t2, p2', s2⟩ := hb
  refine ⟨fun W => iRng3 (tCons (t W) (tCons (t2 W) (tCons (tUn (rU fun i => .int (-i)) (tC (.int 1))) tNil))), fun W X m => pi_range3 (by show X.env.scope.names.lookup _ = _; rw [F.hsc m]; exact hg) (by rw [F.hmg m]; exact hm) (pa_cons (p' W X m) (pa_cons (p2' W X m) (pa_cons (pe_un un_neg pe_int) pa_nil rfl) (hs2 _)) (hs _)) (hs _) (hpl _), ?_⟩
  intro W G H as st σ e R' R N h
  refine s W G H as st σ e _ R N ?_
  unfold xrangeDn xbind at h
  cases q : ma e st with
  | stuck => rw [q] at h; exact h
  | exc c p st1 => rw [q] at h; exact h
  | ok x st1 =>
    simp only [q] at h
    intro v G1 H1 as1 R1 X1 rv
    refine s2 W G1 H1 as1 st1 σ e _ R1 (N.ext X1) ?_
    cases q2 : mb e st1 with
    | stuck => simp only [q2] at h; exact h
    | exc c p st2 =>
      simp only [q2] at h
      exact fun cls d G2 H2 as2 R2 X2 x2 => h cls d G2 H2 as2 R2 (X1.trans X2) x2
    | ok y st2 =>
      simp only [q2] at h
      intro w G2 H2 as2 R2 X2 rw'
      cases rv with
      | int i =>
        cases rw' with
        | int j =>
          by_cases hc : -(2 ^ 62) ≤ i ∧ i < 2 ^ 62 ∧ -(2 ^ 62) ≤ j ∧ j < 2 ^ 62
          · simp only [hc, and_self, if_true] at h
            exact ⟨1, rfl, i, j, -1, (i - j).toNat, rfl, RgC.neg hc.1 hc.2.1 hc.2.2.1 hc.2.2.2, h.2 _ G2 H2 as2 R2 (X1.trans X2) yl_rangeDn⟩
          · simp only [hc, if_false] at h; exact h.elim
        | _ => exact h.elim
      | _ => cases rw' <;> exact h.elim
end
end LS
end
section
set_option maxRecDepth 100000
set_option maxHeartbeats 2000000
/-! itertools.permutations of a list, at the library's level -/
namespace Pm
open PySem PySem.Spec
open Sem (wp)
abbrev PT : String := "itertools.permutations"
theorem mro_pm : mroOf (.type "itertools.permutations") = pure [.type "itertools.permutations", .type "object"] := by rw [mroOf_type]; kernel_rfl
theorem lookup_new : typeLookup (.type "itertools.permutations") "__new__" = pure (some (.builtin "itertools.permutations.__new__")) := by rw [typeLookup_type, builtinLookup_eq_fast]; kernel_rfl
theorem slot_init : Slot "itertools.permutations" "__init__" "object.__init__" :=
  .of (owner := "object") (n := "__init__") (by rw [typeLookup_type, builtinLookup_eq_fast]; kernel_rfl) (by decide +kernel) (by decide +kernel) (by decide +kernel)
    (by first | exact .inl (by decide +kernel) | exact .inr (by decide +kernel)) (by rw [isSubtype_type]; kernel_rfl)
theorem sub_pm : isSubtype (.type "itertools.permutations") (.type "itertools.permutations") = pure true := by rw [isSubtype_type]; kernel_rfl
theorem called_pm : TypeCalled "itertools.permutations" "itertools.permutations.__new__" "object.__init__" :=
  ⟨by decide +kernel, by decide +kernel, ⟨_, _, mro_pm⟩, madeBy_type mro_pm lookup_new (by decide +kernel), by decide +kernel, sub_pm, slot_init⟩
theorem typeCall_1 (a : Value) : checkTypeCall "itertools.permutations" ⟨[a], []⟩ = pure () := by kernel_rfl
theorem newCall_1 (a : Value) : checkBuiltinCall "itertools.permutations.__new__" ⟨[.type "itertools.permutations", a], []⟩ = pure () := by kernel_rfl
theorem entry_new : entryFor table "itertools.permutations.__new__" = some Builtin.«itertools.permutations.__new__» := entryFor_of_tree (by kernel_rfl)
theorem slot_iter : Slot "itertools.permutations" "__iter__" "itertools.permutations.__iter__" :=
  .of (owner := "itertools.permutations") (n := "__iter__") (by rw [typeLookup_type, builtinLookup_eq_fast]; kernel_rfl) (by decide +kernel) (by decide +kernel) (by decide +kernel)
    (by first | exact .inl (by decide +kernel) | exact .inr (by decide +kernel)) sub_pm
theorem slot_next : Slot "itertools.permutations" "__next__" "itertools.permutations.__next__" :=
  .of (owner := "itertools.permutations") (n := "__next__") (by rw [typeLookup_type, builtinLookup_eq_fast]; kernel_rfl) (by decide +kernel) (by decide +kernel) (by decide +kernel)
    (by first | exact .inl (by decide +kernel) | exact .inr (by decide +kernel)) sub_pm
theorem entry_iter : entryFor table "itertools.permutations.__iter__" = some Builtin.«dict_keyiterator.__iter__» :=
  entryFor_alias (id' := "dict_keyiterator.__iter__") (by kernel_rfl) (by first | rfl | decide +kernel | (unfold String.splitOn; simp +decide [String.splitOnAux])) (by decide +kernel) (by kernel_rfl)
theorem entry_next : entryFor table "itertools.permutations.__next__" = some Builtin.«itertools.permutations.__next__» := entryFor_of_tree (by kernel_rfl)
theorem owner_pm : Manifest.owners.lookup (String.ofList ['s', 'n', 'o', 'i', 't', 'a', 't', 'u', 'm', 'r', 'e', 'p', '.', 's', 'l', 'o', 'o', 't', 'r', 'e', 't', 'i'].reverse) = some Manifest.sig_itertools_permutations := by kernel_rfl
theorem args_iter (a : Value) : argsOk "itertools.permutations.__iter__" ⟨[a], []⟩ := by
  unfold argsOk; rw [signature?_of (id := "itertools.permutations.__iter__") (n := ['_', '_', 'r', 'e', 't', 'i', '_', '_']) (o := ['s', 'n', 'o', 'i', 't', 'a', 't', 'u', 'm', 'r', 'e', 'p', '.', 's', 'l', 'o', 'o', 't', 'r', 'e', 't', 'i']) (by kernel_rfl) owner_pm]; kernel_rfl
theorem args_next (a : Value) : argsOk "itertools.permutations.__next__" ⟨[a], []⟩ := by
  unfold argsOk; rw [signature?_of (id := "itertools.permutations.__next__") (n := ['_', '_', 't', 'x', 'e', 'n', '_', '_']) (o := ['s', 'n', 'o', 'i', 't', 'a', 't', 'u', 'm', 'r', 'e', 'p', '.', 's', 'l', 'o', 'o', 't', 'r', 'e', 't', 'i']) (by kernel_rfl) owner_pm]; kernel_rfl
theorem noDict : typeHasDict (.type "itertools.permutations") = false := by decide +kernel
theorem noClose : typeLookup (.type "itertools.permutations") "close" = pure none := by rw [typeLookup_type, builtinLookup_eq_fast]; kernel_rfl
end Pm
end
section
set_option maxRecDepth 100000
set_option maxHeartbeats 2000000
namespace Pm
open PySem PySem.Spec
open Sem (wp)
/-- what the iterator keeps: the pool, how far, how many, what was handed out last, places, cycles -/
def flds (tp : Addr) (fl n : Nat) (last : Value) (a b : List Nat) : List Value := [.ref tp, .int (fl : Nat) 0, .int (n : Nat) 0, last] ++ a.map (fun (i : Nat) => Value.int (i : Int) 0) ++ b.map fun (i : Nat) => Value.int (i : Int) 0
theorem meets_new (l : Addr) (items : Array Value) (hn : items.size ≤ 8) : Meets (Builtin.«itertools.permutations.__new__» ⟨[.type "itertools.permutations", .ref l], []⟩)
    (fun _ R s => s.heap.IsList l items ∧ ∀ h' : Heap, (∀ b o, s.heap.get? b = some o → h'.get? b = some o) → R (.ok (.ret (.ref (h'.objs.size + 1)))) { s with heap := (h'.push { cls := .type "tuple", data := .seq items }).push { cls := .type "itertools.permutations", data := .fields (flds h'.objs.size 0 items.size .none (List.range items.size) ((List.range items.size).map fun i => items.size - i)).toArray } }) :=
  .of_wp fun prog w A R s h => by
    obtain ⟨⟨o, ho, hc, ne, hd⟩, h⟩ := h
    have hsub := sub_pm
    have hD := noDict
    have sz : items.size ≤ sizeLine := by rw [sizeLine_eq]; omega
    repeat (first
      | (refine wpAny_bind (wpAny_collect_seq l (.inl rfl) ho hc hd (fun h' hk => ?_) sz))
      | wp_step
      | simp only [List.head?_cons, Option.some_or, List.getElem?_cons_succ, List.getElem?_cons_zero, List.length_cons, List.length_nil, List.forIn_nil])
    rw [show ("itertools." ++ "permutations" : String) = "itertools.permutations" from by decide +kernel]
    refine wpAny_of_eq hsub ?_
    repeat (first
      | (refine wpAny_bind (wpAny_collect_seq l (.inl rfl) ho hc hd (fun h' hk => ?_) sz))
      | wp_step
      | simp only [List.head?_cons, Option.some_or, List.getElem?_cons_succ, List.getElem?_cons_zero, List.length_cons, List.length_nil, List.forIn_nil])
    have e1 : Builtin.Itertools.itTooMany ((items.toList.length : Nat) : Int) = false := by
      have : items.toList.length ≤ 8 := by simpa using hn
      unfold Builtin.Itertools.itTooMany
      exact decide_eq_false (by omega)
    rw [e1]
    show wpAny _ _ (newTuple items.toList >>= _) _ _ _
    unfold newTuple
    refine wpAny_bind (wpAny_newObj_type ?_ (by show items.toList.toArray.size ≤ sizeLine; simpa using sz))
    unfold Builtin.Itertools.itNewRecord
    rw [hD]
    rw [if_pos (show (!false) = true from rfl)]
    have ef : ([Value.ref h'.objs.size, rawInt (if ((items.toList.length : Nat) : Int).toNat > items.toList.length then 2 else 0), rawInt (((items.toList.length : Nat) : Int).toNat : Nat), Value.none] ++ (List.range items.toList.length).map (fun (i : Nat) => rawInt (i : Int)) ++ (List.range ((items.toList.length : Nat) : Int).toNat).map fun (i : Nat) => rawInt (((items.toList.length : Nat) : Int) - (i : Int))) = flds h'.objs.size 0 items.size .none (List.range items.size) ((List.range items.size).map fun i => items.size - i) := by
      unfold flds rawInt
      simp only [Int.toNat_natCast, Array.length_toList, gt_iff_lt, Nat.lt_irrefl, if_false, List.map_map]
      congr 1
      refine List.map_congr_left fun i hi => ?_
      have : i < items.size := List.mem_range.mp hi
      show Value.int ((items.size : Int) - (i : Int)) 0 = Value.int ((items.size - i : Nat) : Int) 0
      rw [show (items.size : Int) - (i : Int) = ((items.size - i : Nat) : Int) by omega]
    refine wpAny_bind (wpAny_newObj_type ?_ ?_)
    · refine wpAny_pure ⟨_, rfl, ?_⟩
      have := h h' hk
      rw [← ef] at this
      simpa using this
    · first
        | trivial
        | (show _ ≤ sizeLine + 2
           have z : sizeLine = 2 ^ 24 := sizeLine_eq
           simp
           omega)
section
variable {prog : Program} {w : World} {A : Around} {E : Value → Shared → Prop} {s : Shared}
/-- the iterator: pool, how far, how many, handed out last, places, cycles -/
def IsPm (h : Heap) (it tp : Addr) (fl n : Nat) (last : Value) (a b : List Nat) : Prop := h.get? it = some { cls := .type "itertools.permutations", dict := none, data := .fields (flds tp fl n last a b).toArray, slots := #[] }
/-- the heap behind the call -/
def pmHeap (h' : Heap) (items : Array Value) : Heap := (h'.push { cls := .type "tuple", data := .seq items }).push { cls := .type "itertools.permutations", data := .fields (flds h'.objs.size 0 items.size .none (List.range items.size) ((List.range items.size).map fun i => items.size - i)).toArray }
theorem pmHeap_it (h' : Heap) (items : Array Value) : IsPm (pmHeap h' items) (h'.objs.size + 1) h'.objs.size 0 items.size .none (List.range items.size) ((List.range items.size).map fun i => items.size - i) := by
  have e : (h'.push { cls := .type "tuple", data := .seq items }).objs.size = h'.objs.size + 1 := by simp [Heap.push]
  unfold IsPm pmHeap
  rw [← e]
  exact Heap.get?_push_size _ rfl
theorem pmHeap_tp (h' : Heap) (items : Array Value) : (pmHeap h' items).get? h'.objs.size = some { cls := .type "tuple", data := .seq items } := Heap.get?_push_of_some _ (Heap.get?_push_size _ rfl)
theorem pmHeap_keep (h' : Heap) (items : Array Value) {b : Addr} {o : Obj} (q : h'.get? b = some o) : (pmHeap h' items).get? b = some o := Heap.get?_push_of_some _ (Heap.get?_push_of_some _ q)
theorem call_pm {l : Addr} {items : Array Value} (hn : items.size ≤ 8) (hl : s.heap.IsList l items) {Q : Value → Shared → Prop}
    (h : ∀ h' : Heap, (∀ b o, s.heap.get? b = some o → h'.get? b = some o) → Q (.ref (h'.objs.size + 1)) { s with heap := pmHeap h' items }) :
    wpAny (model prog w) A (call (.type "itertools.permutations") [.ref l]) Q E s := by
  refine callType_new called_pm (by decide +kernel) (typeCall_1 _) (newCall_1 _) (fun obj => F.args_object_init_2 obj _) entry_new (meets_new l items hn) ?_
  exact ⟨hl, fun h' hk => ⟨⟨_, pmHeap_it h' items, rfl⟩, h h' hk⟩⟩
theorem iter_pm {it tp : Addr} {fl n : Nat} {last : Value} {a b : List Nat} {Q : Value → Shared → Prop} (hit : IsPm s.heap it tp fl n last a b) (h : Q (.ref it) s) : wpAny (model prog w) A (pyIter (.ref it)) Q E s := by
  have hT : s.TypeIs (.ref it) "itertools.permutations" := ⟨_, hit, rfl⟩
  refine wpAny_pyIter_slot hT slot_iter (wpAny_call_entry slot_iter hT entry_iter ?_ (args_iter _))
  show wpAny _ _ (ret (.ref it)) _ _ s
  exact wpAny_pure ⟨_, rfl, "itertools.permutations", _, hT, slot_next.lookup, h⟩
end
end Pm
end
section
set_option maxRecDepth 100000
set_option maxHeartbeats 2000000
namespace Pm
open PySem PySem.Spec
open Sem (wp)
section
variable {prog : Program} {w : World} {A : Around} {E : Value → Shared → Prop} {s : Shared}
theorem nums_back : ∀ a : List Nat, (a.map (fun (i : Nat) => Value.int (i : Int) 0)).map (fun | .int n _ => n.toNat | _ => 0) = a
  | [] => rfl
  | x :: r => by simp [nums_back r]
/-- a field set -/
theorem set_fl {h : Heap} {it tp : Addr} {fl fl' n : Nat} {last : Value} {a b : List Nat} (hit : IsPm h it tp fl n last a b) : IsPm (h.update it (Obj.mapFields fun x => x.setIfInBounds 1 (.int (fl' : Nat) 0))) it tp fl' n last a b := by
  have := Heap.get?_update_self (Obj.mapFields fun x => x.setIfInBounds 1 (.int (fl' : Nat) 0)) hit rfl
  unfold IsPm
  rw [this]
  simp [Obj.mapFields, flds]
theorem set_last {h : Heap} {it tp : Addr} {fl n : Nat} {last x : Value} {a b : List Nat} (hit : IsPm h it tp fl n last a b) : IsPm (h.update it (Obj.mapFields fun y => y.setIfInBounds 3 x)) it tp fl n x a b := by
  have := Heap.get?_update_self (Obj.mapFields fun y => y.setIfInBounds 3 x) hit rfl
  unfold IsPm
  rw [this]
  simp [Obj.mapFields, flds]
theorem nums_pm {it tp : Addr} {fl n : Nat} {last : Value} {a b : List Nat} {Q : List Nat → Shared → Prop} (hit : IsPm s.heap it tp fl n last a b) (h : Q (a ++ b) s) : wpAny (model prog w) A (Builtin.Itertools.itNumbersFrom (.ref it) 4) Q E s := by
  unfold Builtin.Itertools.itNumbersFrom
  refine wpAny_bind (wpAny_load hit ?_)
  refine wpAny_pure ?_
  refine Eq.mp (congrArg (fun z => Q z s) ?_) h
  show a ++ b = List.map (fun | .int n _ => n.toNat | _ => 0) (List.drop 4 (flds tp fl n last a b).toArray.toList)
  have e : List.drop 4 (flds tp fl n last a b).toArray.toList = a.map (fun (i : Nat) => Value.int (i : Int) 0) ++ b.map fun (i : Nat) => Value.int (i : Int) 0 := by simp [flds]
  rw [e, List.map_append, nums_back, nums_back]
theorem first_pm {it tp : Addr} {items : Array Value} {m : Nat} {last : Value} {a b : List Nat} {Q : Option Value → Shared → Prop} (hit : IsPm s.heap it tp 0 items.size last a b) (hp : s.heap.get? tp = some { cls := .type "tuple", data := .seq items m }) (hl : a.length = items.size) (hn : items.size ≤ 8)
    (hQ : ∀ h', IsPm h' it tp 1 items.size (.ref s.heap.objs.size) a b → h'.get? s.heap.objs.size = some { cls := .type "tuple", data := .seq (a.map fun i => items.getD i .none).toArray } → (∀ c o, c ≠ it → s.heap.get? c = some o → h'.get? c = some o) → Q (some (.ref s.heap.objs.size)) { s with heap := h' }) :
    wpAny (model prog w) A (callSpecial? (.ref it) "__next__") Q E s := by
  have hT : s.TypeIs (.ref it) "itertools.permutations" := ⟨_, hit, rfl⟩
  refine wpAny_callSpecial?_slot (name := Str.ofString "__next__") hT slot_next (wpAny_call_entry slot_next hT entry_next ?_ (args_next _))
  unfold Builtin.«itertools.permutations.__next__»
  refine wpAny_bind (wpAny_of_eq (a := (Value.ref it, [])) (by rfl) ?_)
  refine wpAny_bind (wpAny_field hit rfl (x := .ref tp) (by simp [flds]) ?_)
  unfold Builtin.Itertools.itPoolItems
  refine wpAny_bind (wpAny_bind (wpAny_seqItems hp rfl ?_))
  refine wpAny_pure ?_
  unfold Builtin.Itertools.itIntField
  refine wpAny_bind (wpAny_bind (wpAny_field hit rfl (x := .int (items.size : Nat) 0) (by simp [flds]) ?_))
  refine wpAny_pure ?_
  refine wpAny_bind (nums_pm hit ?_)
  have t1 : (a ++ b).take items.size = a := by rw [← hl]; exact List.take_left
  have t2 : (a ++ b).drop items.size = b := by rw [← hl]; exact List.drop_left
  refine wpAny_bind (wpAny_bind (wpAny_field hit rfl (x := .int ((0 : Nat) : Int) 0) (by simp [flds]) ?_))
  refine wpAny_pure ?_
  show wpAny _ _ (setField (.ref it) 1 (rawInt 1) >>= _) _ _ _
  refine wpAny_bind (wpAny_setField hit rfl (by simp [flds]) ?_)
  have hit1 := set_fl (fl' := 1) hit
  rw [Int.toNat_natCast]
  show wpAny _ _ (newTuple ((List.take items.size (a ++ b)).map fun i => items.getD i Value.none) >>= _) _ _ _
  rw [t1]
  unfold newTuple
  have lt : it < s.heap.objs.size := Heap.lt_size (h := s.heap) (a := it) hit
  have nt : s.heap.objs.size ≠ it := fun z => Nat.lt_irrefl _ (Nat.lt_of_lt_of_eq lt z)
  refine wpAny_bind (wpAny_newObj_type ?_ (by show (List.map _ _).toArray.size ≤ sizeLine; rw [sizeLine_eq]; simp; omega))
  refine wpAny_bind (wpAny_field (Heap.get?_push_of_some _ hit1) rfl (x := last) (by simp [flds]) ?_)
  refine wpAny_bind (wpAny_setField (Heap.get?_push_of_some _ hit1) rfl (by simp [flds]) ?_)
  refine wpAny_bind (wpAny_letGo ?_)
  refine wpAny_pure ⟨_, rfl, ?_⟩
  have es : (s.heap.update it (Obj.mapFields fun x => x.setIfInBounds 1 (.int ((1 : Nat) : Int) 0))).objs.size = s.heap.objs.size := Heap.size_update _ _ _
  have hit2 := set_last (x := .ref s.heap.objs.size) (Heap.get?_push_of_some { cls := .type "tuple", data := .seq (a.map fun i => items.getD i .none).toArray } hit1)
  refine Eq.mp (congrArg (fun z => Q (some (.ref z)) _) es.symm) ?_
  have h2 := hQ _ hit2 ?_ ?_
  · rw [show (rawInt 1 : Value) = .int ((1 : Nat) : Int) 0 from rfl]
    rw [es]
    exact h2
  · rw [Heap.get?_update_other _ _ (Ne.symm nt)]
    have := Heap.get?_push_size (s.heap.update it (Obj.mapFields fun x => x.setIfInBounds 1 (.int ((1 : Nat) : Int) 0))) (o := { cls := .type "tuple", data := .seq (a.map fun i => items.getD i .none).toArray }) rfl
    rw [es] at this
    exact this
  · intro c o hc q
    rw [Heap.get?_update_other _ _ (Ne.symm hc)]
    refine Heap.get?_push_of_some _ ?_
    rw [Heap.get?_update_other _ _ (Ne.symm hc)]
    exact q
end
end Pm
end
section
set_option maxRecDepth 100000
set_option maxHeartbeats 2000000
namespace Pm
open PySem PySem.Spec
open Sem (wp)
/-- factorials, the digits of a number over them, the places in order -/
def fac : Nat → Nat
  | 0 => 1
  | n + 1 => (n + 1) * fac n
/-- the k-th order of some things -/
def nthO : Nat → List Nat → Nat → List Nat
  | 0, _, _ => []
  | m + 1, l, k => l.getD (k / fac m) 0 :: nthO m (l.eraseIdx (k / fac m)) (k % fac m)
def plc (n k : Nat) : List Nat := nthO n (List.range n) k
/-- what the iterator counts down beside -/
def cyc (n k : Nat) : List Nat := (List.range n).map fun j => (n - j) - k / fac (n - 1 - j) % (n - j)
def TabOk (nx : Nat → Nat → List Nat → List Nat → Option (List Nat × List Nat)) (n : Nat) : Prop :=
  ((List.range (fac n)).map fun k => nx n n (plc n k) (cyc n k)) = (List.range (fac n)).map fun k => if k + 1 < fac n then some (plc n (k + 1), cyc n (k + 1)) else none
theorem set_nums {h : Heap} {it tp : Addr} {fl n : Nat} {last : Value} {a b a' b' : List Nat} (hit : IsPm h it tp fl n last a b) : IsPm (h.update it (Obj.mapFields fun fs => fs.extract 0 4 ++ ((a' ++ b').map fun (n : Nat) => rawInt n).toArray)) it tp fl n last a' b' := by
  have := Heap.get?_update_self (Obj.mapFields fun fs => fs.extract 0 4 ++ ((a' ++ b').map fun (n : Nat) => rawInt n).toArray) hit rfl
  unfold IsPm
  rw [this]
  have e : (flds tp fl n last a b).toArray.extract 0 4 = #[.ref tp, .int (fl : Nat) 0, .int (n : Nat) 0, last] := by
    unfold flds
    simp
  simp [Obj.mapFields, e, flds, rawInt]
theorem next_pm : ∃ nx : Nat → Nat → List Nat → List Nat → Option (List Nat × List Nat),
    (∀ (prog : Program) (w : World) (A : Around) (E : Value → Shared → Prop) (s : Shared) (it tp : Addr) (items : Array Value) (m : Nat) (last : Value) (a b a' b' : List Nat) (Q : Option Value → Shared → Prop), IsPm s.heap it tp 1 items.size last a b → s.heap.get? tp = some { cls := .type "tuple", data := .seq items m } → a.length = items.size → a'.length = items.size → b'.length = items.size → items.size ≤ 8 →
      nx items.size items.size a b = some (a', b') →
      (∀ h', IsPm h' it tp 1 items.size (.ref s.heap.objs.size) a' b' → h'.get? s.heap.objs.size = some { cls := .type "tuple", data := .seq (a'.map fun i => items.getD i .none).toArray } → (∀ c o, c ≠ it → s.heap.get? c = some o → h'.get? c = some o) → Q (some (.ref s.heap.objs.size)) { s with heap := h' }) →
      wpAny (model prog w) A (callSpecial? (.ref it) "__next__") Q E s) ∧
    (∀ (prog : Program) (w : World) (A : Around) (E : Value → Shared → Prop) (s : Shared) (it tp : Addr) (items : Array Value) (m : Nat) (last : Value) (a b : List Nat) (Q : Option Value → Shared → Prop), A.handled = none → IsPm s.heap it tp 1 items.size last a b → s.heap.get? tp = some { cls := .type "tuple", data := .seq items m } → a.length = items.size →
      nx items.size items.size a b = none →
      (∀ h', Heap.ExtBut it s.heap h' → Q none { s with heap := h' }) →
      wpAny (model prog w) A (pyNext (.ref it)) Q E s) ∧
    ∀ n ≤ 5, TabOk nx n := by
  apply Exists.intro
  apply And.intro
  · intro prog w A E s it tp items m last a b a' b' Q hit hp hl hl' hb' hn hx hQ
    have hT : s.TypeIs (.ref it) "itertools.permutations" := ⟨_, hit, rfl⟩
    refine wpAny_callSpecial?_slot (name := Str.ofString "__next__") hT slot_next (wpAny_call_entry slot_next hT entry_next ?_ (args_next _))
    unfold Builtin.«itertools.permutations.__next__»
    refine wpAny_bind (wpAny_of_eq (a := (Value.ref it, [])) (by rfl) ?_)
    refine wpAny_bind (wpAny_field hit rfl (x := .ref tp) (by simp [flds]) ?_)
    unfold Builtin.Itertools.itPoolItems
    refine wpAny_bind (wpAny_bind (wpAny_seqItems hp rfl ?_))
    refine wpAny_pure ?_
    unfold Builtin.Itertools.itIntField
    refine wpAny_bind (wpAny_bind (wpAny_field hit rfl (x := .int (items.size : Nat) 0) (by simp [flds]) ?_))
    refine wpAny_pure ?_
    refine wpAny_bind (nums_pm hit ?_)
    have t1 : (a ++ b).take items.size = a := by rw [← hl]; exact List.take_left
    have t2 : (a ++ b).drop items.size = b := by rw [← hl]; exact List.drop_left
    refine wpAny_bind (wpAny_bind (wpAny_field hit rfl (x := .int ((1 : Nat) : Int) 0) (by simp [flds]) ?_))
    refine wpAny_pure ?_
    rw [Int.toNat_natCast, t1, t2]
    dsimp only
    split
    · rename_i h0
      exact absurd h0 (by decide)
    · split
      · rename_i a1 b1 he
        have q : some (a1, b1) = some (a', b') := he.symm.trans hx
        obtain ⟨rfl, rfl⟩ := Prod.mk.inj (Option.some.inj q)
        unfold Builtin.Itertools.itSetNumbersFrom
        refine wpAny_bind (wpAny_updateFields hit rfl ?_ (by simp [flds, sizeLine_eq]; omega))
        have hit1 := set_nums (a' := a1) (b' := b1) hit
        have lt : it < s.heap.objs.size := Heap.lt_size (h := s.heap) (a := it) hit
        have nt : s.heap.objs.size ≠ it := fun z => Nat.lt_irrefl _ (Nat.lt_of_lt_of_eq lt z)
        have t3 : List.take items.size a1 = a1 := by rw [← hl']; exact List.take_length
        rw [t3]
        unfold newTuple
        refine wpAny_bind (wpAny_newObj_type ?_ (by show (List.map _ _).toArray.size ≤ sizeLine; rw [sizeLine_eq]; simp; omega))
        refine wpAny_bind (wpAny_field (Heap.get?_push_of_some _ hit1) rfl (x := last) (by simp [flds]) ?_)
        refine wpAny_bind (wpAny_setField (Heap.get?_push_of_some _ hit1) rfl (by simp [flds]) ?_)
        refine wpAny_bind (wpAny_letGo ?_)
        refine wpAny_pure ⟨_, rfl, ?_⟩
        have es : (s.heap.update it (Obj.mapFields fun fs => fs.extract 0 4 ++ ((a1 ++ b1).map fun (n : Nat) => rawInt n).toArray)).objs.size = s.heap.objs.size := Heap.size_update _ _ _
        have hit2 := set_last (x := .ref s.heap.objs.size) (Heap.get?_push_of_some { cls := .type "tuple", data := .seq (a1.map fun i => items.getD i .none).toArray } hit1)
        refine Eq.mp (congrArg (fun z => Q (some (.ref z)) _) es.symm) ?_
        have h2 := hQ _ hit2 ?_ ?_
        · rw [es]
          exact h2
        · rw [Heap.get?_update_other _ _ (Ne.symm nt)]
          have := Heap.get?_push_size (s.heap.update it (Obj.mapFields fun fs => fs.extract 0 4 ++ ((a1 ++ b1).map fun (n : Nat) => rawInt n).toArray)) (o := { cls := .type "tuple", data := .seq (a1.map fun i => items.getD i .none).toArray }) rfl
          rw [es] at this
          exact this
        · intro c o hc q
          rw [Heap.get?_update_other _ _ (Ne.symm hc)]
          refine Heap.get?_push_of_some _ ?_
          rw [Heap.get?_update_other _ _ (Ne.symm hc)]
          exact q
      · rename_i he
        have q : none = some (a', b') := he.symm.trans hx
        cases q
    · rename_i h0
      exact absurd rfl h0
  apply And.intro
  · intro prog w A E s it tp items m last a b Q hh hit hp hl hx hQ
    have hT : s.TypeIs (.ref it) "itertools.permutations" := ⟨_, hit, rfl⟩
    unfold pyNext
    refine wpAny_bind (wpAny_attempt (wpAny_callSpecial?_slot (name := Str.ofString "__next__") hT slot_next (wpAny_call_entry slot_next hT entry_next ?_ (args_next _))))
    unfold Builtin.«itertools.permutations.__next__»
    refine wpAny_bind (wpAny_of_eq (a := (Value.ref it, [])) (by rfl) ?_)
    refine wpAny_bind (wpAny_field hit rfl (x := .ref tp) (by simp [flds]) ?_)
    unfold Builtin.Itertools.itPoolItems
    refine wpAny_bind (wpAny_bind (wpAny_seqItems hp rfl ?_))
    refine wpAny_pure ?_
    unfold Builtin.Itertools.itIntField
    refine wpAny_bind (wpAny_bind (wpAny_field hit rfl (x := .int (items.size : Nat) 0) (by simp [flds]) ?_))
    refine wpAny_pure ?_
    refine wpAny_bind (nums_pm hit ?_)
    have t1 : (a ++ b).take items.size = a := by rw [← hl]; exact List.take_left
    have t2 : (a ++ b).drop items.size = b := by rw [← hl]; exact List.drop_left
    refine wpAny_bind (wpAny_bind (wpAny_field hit rfl (x := .int ((1 : Nat) : Int) 0) (by simp [flds]) ?_))
    refine wpAny_pure ?_
    rw [Int.toNat_natCast, t1, t2]
    dsimp only
    split
    · rename_i h0
      exact absurd h0 (by decide)
    · split
      · rename_i a1 b1 he
        have q : some (a1, b1) = none := he.symm.trans hx
        cases q
      · refine wpAny_bind (wpAny_setField hit rfl (by simp [flds]) ?_)
        unfold Builtin.Itertools.itStop
        refine wpAny_bind ?_
        simp only [newExc, newTuple]
        refine wpAny_bind (wpAny_newObj_type ?_ (by size_fits))
        refine wpAny_bind (m := firstArgMember _ _) (wpAny_of_eq (a := Value.none) (by first | rfl | (simp only [firstArgMember]; rfl)) ?_)
        refine wpAny_newObj_type ?_ (by size_fits)
        simp only [raiseNew]
        refine wpAny_bind (wpAny_handled ?_)
        first | rw [show A.in1.handled = none from hh] | rw [hh]
        refine wpAny_bind (wpAny_pure (wpAny_throw ?_))
        refine wpAny_bind (wpAny_isInstance (T := "StopIteration") (b := true) ⟨_, Heap.get?_push_size _ rfl, rfl⟩ isSubtype_stop ?_)
        refine wpAny_pure (hQ _ ?_)
        have base : Heap.ExtBut it s.heap (s.heap.update it (Obj.mapFields fun x => x.setIfInBounds 1 (rawInt 2))) := fun c o hc q => by
          rw [Heap.get?_update_other _ _ (Ne.symm hc)]
          exact q
        exact (base.push _).push _
    · rename_i h0
      exact absurd rfl h0
  · intro n hn
    unfold TabOk
    match n, hn with
    | 0, _ => kernel_rfl
    | 1, _ => kernel_rfl
    | 2, _ => kernel_rfl
    | 3, _ => kernel_rfl
    | 4, _ => kernel_rfl
    | 5, _ => kernel_rfl
end Pm
end
section
set_option maxRecDepth 100000
set_option maxHeartbeats 2000000
namespace LS
open PySem PySem.Spec L2 Pm
theorem nthO_len : ∀ (m : Nat) (l : List Nat) (k : Nat), (nthO m l k).length = m
  | 0, _, _ => rfl
  | m + 1, l, k => by simp [nthO, nthO_len m]
theorem plc_len (n k : Nat) : (plc n k).length = n := nthO_len n _ k
theorem cyc_len (n k : Nat) : (cyc n k).length = n := by simp [cyc]
theorem plc0 : ∀ n ≤ 5, plc n 0 = List.range n ∧ cyc n 0 = (List.range n).map fun i => n - i := by decide +kernel
/-- the orders of some things, in order -/
def ItP (n : Nat) (xs : List V) : It := ⟨fun i _ => i < fac n, fun i H v H' => ∃ T, v = .ref T ∧ H T = none ∧ H' = upd H T (.tup (pick .non xs (plc n i))), fun i _ => fac n ≤ i⟩
def tnP (it tp : Addr) (items : Array Value) (i : Nat) (h : Heap) : Prop := (∃ m, h.get? tp = some { cls := .type "tuple", data := .seq items m }) ∧ ∃ (fl : Nat) (last : Value) (a b : List Nat), IsPm h it tp fl items.size last a b ∧ ((i = 0 ∧ fl = 0 ∧ a = plc items.size 0 ∧ b = cyc items.size 0) ∨ ∃ j, i = j + 1 ∧ j < fac items.size ∧ fl = 1 ∧ a = plc items.size j ∧ b = cyc items.size j)
theorem vals_pick {xs : List V} {items : Array Value} (rv : Vals xs items.toList) (ix : List Nat) : Vals (pick .non xs ix) (ix.map fun i => items.getD i .none) := by
  have := pick_vals rv ix
  have e : pick Value.none items.toList ix = ix.map fun i => items.getD i .none := by
    unfold pick
    refine List.map_congr_left fun i _ => ?_
    rw [List.getD_eq_getElem?_getD]
    simp
  rw [e] at this
  exact this
theorem turn_pm {P : Program} {w : World} {K : PySem.W.Frag} {tg : Expr} {it tp : Addr} {items : Array Value} {xs : List V} (ht : tp ≠ it) (rv : Vals xs items.toList) (hn : items.size ≤ 5) : Turn P w K tg (ItP items.size xs) [it, tp] it (tnP it tp items) := by
  obtain ⟨nx, NEXT, END, TAB⟩ := next_pm
  have tab : ∀ k, k < fac items.size → nx items.size items.size (plc items.size k) (cyc items.size k) = if k + 1 < fac items.size then some (plc items.size (k + 1), cyc items.size (k + 1)) else none := fun k hk => List.map_inj_left.mp (TAB items.size hn) k (List.mem_range.mpr hk)
  have hn8 : items.size ≤ 8 := by omega
  have fin : ∀ (X : Cx), X.prog = P → X.w = w → X.K = K → ∀ (i : Nat) (pins : List (Addr × Obj)) (s : Shared) (σ : L2.St) (H : Hp) (E : Value → Shared → Prop), Inv X pins σ H s → (∀ b ∈ [it, tp], FpOk X pins H b) → tnP it tp items i s.heap → i < fac items.size →
      ∀ h', IsPm h' it tp 1 items.size (.ref s.heap.objs.size) (plc items.size i) (cyc items.size i) → h'.get? s.heap.objs.size = some { cls := .type "tuple", data := .seq ((plc items.size i).map fun i => items.getD i .none).toArray } → (∀ c o, c ≠ it → s.heap.get? c = some o → h'.get? c = some o) →
      ∃ u, some (Value.ref s.heap.objs.size) = some u ∧ wpAny (model P w) X.A (letOwnedTupleGo tg (.ref it) u) (fun _ s2 => ∃ x H', Inv X pins σ H' s2 ∧ RelV x u ∧ (ItP items.size xs).yld i H x H' ∧ tnP it tp items (i + 1) s2.heap ∧ ∀ b ∈ [it, tp], H' b = none) E { s with heap := h' } := by
    intro X hP hw hK i pins s σ H E I hf st hi h' q1 q2 q3
    subst hP hw hK
    obtain ⟨⟨m, hp⟩, fl, last, a, b, hit, _⟩ := st
    have lti : it < s.heap.objs.size := Heap.lt_size (h := s.heap) (a := it) hit
    have ltt : tp < s.heap.objs.size := Heap.lt_size hp
    have vp := vals_pick rv (plc items.size i)
    have nw : ObjOk X.prog X.w (upd H s.heap.objs.size (.tup (pick .non xs (plc items.size i)))) h' s.heap.objs.size (.tup (pick .non xs (plc items.size i))) :=
      ⟨by rw [sizeLine_eq]; simp [pick, plc_len]; omega, _, vp, ⟨_, q2, rfl, _, rfl⟩⟩
    have I1 := I.turnedNew (t' := s.toks) (h' := h') (ch := [it, tp]) (fun b o hb z => q3 b o (fun y => hb (by simp [y])) z) hf (Nat.le_refl _) nw
    refine ⟨_, rfl, go_of (s := { s with heap := h' }) (n := "itertools.permutations") q1 rfl rfl (by decide) ⟨_, _, I1, (show RelV (.ref s.heap.objs.size) (.ref s.heap.objs.size) from rfl), ⟨_, rfl, I.hok.fresh (Nat.le_refl _), rfl⟩, ⟨⟨m, q3 tp _ ht hp⟩, 1, _, _, _, q1, .inr ⟨i, rfl, hi, rfl, rfl, rfl⟩⟩, fun b hb => ?_⟩⟩
    have : b < s.heap.objs.size := by
      rcases List.mem_cons.mp hb with rfl | hb
      · exact lti
      · cases List.mem_singleton.mp hb; exact ltt
    rw [upd_ne (Nat.ne_of_lt this)]
    exact (hf b hb).1
  refine ⟨by simp, ?_, ?_, ?_, ?_, ?_⟩
  · rintro i h ⟨⟨m, hp⟩, fl, last, a, b, hit, _⟩ c hc
    rcases List.mem_cons.mp hc with rfl | hc
    · exact ⟨_, hit, fun v z => nomatch z⟩
    · cases List.mem_singleton.mp hc; exact ⟨_, hp, fun v z => nomatch z⟩
  · rintro i h h' ⟨⟨m, hp⟩, fl, last, a, b, hit, z⟩ k
    exact ⟨⟨m, k tp (by simp) _ hp⟩, fl, last, a, b, k it (by simp) _ hit, z⟩
  · intro X hP hw hK hc i pins s σ H E I hf st hg
    have st0 := st
    obtain ⟨⟨m, hp⟩, fl, last, a, b, hit, z⟩ := st
    unfold pyNext
    rcases z with ⟨rfl, rfl, rfl, rfl⟩ | ⟨j, rfl, hjf, rfl, rfl, rfl⟩
    · refine wpAny_bind (wpAny_attempt (first_pm hit hp (plc_len _ _) hn8 fun h' q1 q2 q3 => ?_))
      exact wpAny_pure (fin X hP hw hK 0 pins s σ H E I hf st0 hg h' q1 q2 q3)
    · have hj : j + 1 < fac items.size := hg
      have t := tab j (by omega)
      rw [if_pos hj] at t
      refine wpAny_bind (wpAny_attempt (NEXT P w X.A _ s it tp items m last _ _ _ _ _ hit hp (plc_len _ _) (plc_len _ _) (cyc_len _ _) hn8 t fun h' q1 q2 q3 => ?_))
      exact wpAny_pure (fin X hP hw hK (j + 1) pins s σ H E I hf st0 hg h' q1 q2 q3)
  · intro X hP hw hK hc i pins s σ H E I hf st hg
    subst hP hw hK
    obtain ⟨⟨m, hp⟩, fl, last, a, b, hit, z⟩ := st
    have fp : 0 < fac items.size := by
      have : ∀ n, 0 < fac n := fun n => by
        induction n with
        | zero => decide
        | succ n ih => exact Nat.mul_pos (Nat.succ_pos n) ih
      exact this _
    have hg' : fac items.size ≤ i := hg
    rcases z with ⟨rfl, rfl, rfl, rfl⟩ | ⟨j, rfl, hjf, rfl, rfl, rfl⟩
    · omega
    · have t := tab j hjf
      rw [if_neg (by omega)] at t
      obtain ⟨f0, f1, f2, f3, f4, f5⟩ := hf it (by simp)
      exact END X.prog X.w X.A _ s it tp items m last _ _ _ (I.ok.hd hc) hit hp (plc_len _ _) t fun h' eb => ⟨rfl, I.turned (t' := s.toks) (fun b o hb z => eb b o hb z) f0 f1 f3 f4 f5⟩
  · rintro A i s Q E ⟨⟨m, hp⟩, fl, last, a, b, hit, z⟩ h
    exact iter_pm hit h
/-! ## for .. in permutations(xs) -/
def iPerm (K : PySem.W.Frag) (ta : TA) : TI := fun σ H R => ta σ H fun vs H1 => ∃ (l : Addr) (xs : List V), vs = [.ref l] ∧ SqL K H1 l xs ∧ xs.length ≤ 5 ∧ R (ItP xs.length xs) H1
theorem pi_perm {X : Cx} {tg e : Expr} {ta : TA} {p pos : Pos} (hg : Gl X "permutations") (hm : X.mg "permutations" = some (.type "itertools.permutations")) (ha : PA X [e] ta)
    (hs : starEach [e] X.env = (false, eval e X.env) :: starEach [] X.env) (hpl : (backTo pos (starEach [] X.env)).any (·.1) = false) : PI X tg (.Call (.Name "permutations" p) [e] [] pos) (iPerm X.K ta) := by
  refine ⟨fun pins s σ H R I h => ?_⟩
  refine PyProof.Rows.Call_ (ld_glob I hg hm (PyProof.Rows.callWith_type1 (thn (ha.run pos pins s σ H _ I h) fun us s1 q0 => ?_) hs hpl) (by decide))
  obtain ⟨vs, H1, I1, r1, l, xs, ex, hq, hn, q⟩ := q0
  subst ex
  cases r1 with
  | cons r rr =>
    cases rr
    cases r
    obtain ⟨its, rv, pl, hz⟩ := I1.list hq
    have hsz : its.toArray.size = xs.length := by rw [List.size_toArray]; exact rv.length.symm
    have rv' : Vals xs its.toArray.toList := by simpa using rv
    have h5 : its.toArray.size ≤ 5 := by omega
    refine call_pm (items := its.toArray) (by omega) pl.isList fun h' hk => ?_
    have I2 : Inv X pins σ H1 { s1 with heap := h' } := I1.kept (t' := s1.toks) hk
    have I3 : Inv X pins σ H1 { s1 with heap := pmHeap h' its.toArray } := I1.kept (t' := s1.toks) fun b o q => pmHeap_keep h' _ (hk b o q)
    have fp : ∀ b ∈ [h'.objs.size + 1, h'.objs.size], FpOk X pins H1 b := fun b hb => by
      have hle : h'.objs.size ≤ b := by
        rcases List.mem_cons.mp hb with rfl | hb
        · omega
        · cases List.mem_singleton.mp hb; omega
      exact I2.fpOk hle (I2.hok.fresh hle)
    have p0 := plc0 its.toArray.size h5
    have t0 : tnP (h'.objs.size + 1) h'.objs.size its.toArray 0 (pmHeap h' its.toArray) := ⟨⟨_, pmHeap_tp h' _⟩, 0, .none, _, _, pmHeap_it h' _, .inl ⟨rfl, rfl, p0.1.symm, p0.2.symm⟩⟩
    refine iter_pm (pmHeap_it h' its.toArray) ⟨_, _, _, _, H1, rfl, I3, turn_pm (Nat.ne_of_lt (Nat.lt_succ_self _)) rv' h5, t0, fp, ?_⟩
    rw [hsz]
    exact q
section
variable {g : Gb} {F : Fam g} {pos : Pos}
def permD (xs : List D) : List D := (List.range (fac xs.length)).map fun k => .tup (pick .non xs (plc xs.length k))
theorem yl_perm {G0 H0 : Hp} {as0 : List Addr} {vs : List V} {xs : List D} (r : RpA g.K g.mg G0 as0 vs xs) : Yl g G0 H0 as0 none (permD xs) (ItP vs.length vs) where
  go := fun i G H as st hi R hs hp hl _ => by
    have : i < fac xs.length := by simpa [permD] using hi
    show i < fac vs.length
    rw [r.len]; exact this
  stop := fun G H as st R hs hp hl _ => by show fac vs.length ≤ (permD xs).length; rw [r.len]; simp [permD]
  yld := fun i G H as st v H' x R hs hp hl _ hx y => by
    obtain ⟨T, rfl, hT, rfl⟩ := y
    unfold permD at hx
    rw [List.getElem?_map] at hx
    obtain ⟨j, hj, rfl⟩ := Option.map_eq_some_iff.mp hx
    obtain ⟨hj1, hj2⟩ := List.getElem?_eq_some_iff.mp hj
    have ej : j = i := by rw [← hj2]; simp
    subst ej
    obtain ⟨R', X'⟩ := R.still (o := .tup (pick .non vs (plc vs.length j))) hT
    rw [← r.len]
    exact ⟨_, R', X', .tup (.of upd_same) ((pick_rp (r.mono hs hp) _).ext X')⟩
def xperm (m : XM D) : XM (List D × Option Nat) := xbind m fun x => fun _ st => match listOf st x with
  | some xs => if xs.length ≤ 5 then .ok (permD xs, none) st else .stuck
  | none => .stuck
theorem ji_perm {tg e : Expr} {m : XM D} {p : Pos} (hg : F.sc.names.lookup ("permutations" : Str) = some .globalImplicit) (hm : g.mg "permutations" = some (.type "itertools.permutations")) (h : JE F e m)
    (hs : ∀ env, starEach [e] env = (false, eval e env) :: starEach [] env := by intro _; rfl) (hpl : ∀ env, (backTo pos (starEach [] env)).any (·.1) = false := by intro _; rfl) :
    JI F tg (.Call (.Name "permutations" p) [e] [] pos) (xperm m) := by
  obtain ⟨t, p', s⟩ := h
  refine ⟨fun W => iPerm g.K (tCons (t W) tNil), fun W X mm => by
    have := pi_perm (tg := tg) (p := p) (pos := pos) (X := X) (by show X.env.scope.names.lookup _ = _; rw [F.hsc mm]; exact hg) (by rw [F.hmg mm]; exact hm) (pa_cons (p' W X mm) pa_nil (hs _)) (hs _) (hpl _)
    rw [F.hK mm] at this; exact this, ?_⟩
  intro W G H as st σ e R' R N h
  refine s W G H as st σ e _ R N ?_
  unfold xperm xbind at h
  cases q : m e st with
  | stuck => rw [q] at h; exact h
  | exc c p st1 => rw [q] at h; exact h
  | ok x st1 =>
    simp only [q] at h
    intro v G1 H1 as1 R1 X1 rv
    cases q2 : listOf st1 x with
    | none => simp only [q2] at h; exact h.elim
    | some xs =>
      simp only [q2] at h
      by_cases hl : xs.length ≤ 5
      · rw [if_pos hl] at h
        obtain ⟨a, vs, rfl, s1, r1⟩ := listOf_ok R1 rv q2
        exact ⟨a, vs, rfl, s1, by rw [r1.len]; exact hl, h.2 _ G1 H1 as1 R1 X1 (yl_perm r1)⟩
      · rw [if_neg hl] at h; exact h.elim
end
end LS
end
section
set_option maxRecDepth 100000
set_option maxHeartbeats 2000000
/-! itertools.combinations of a list, at the library's level -/
namespace Cm
open PySem PySem.Spec
open Sem (wp)
abbrev CT : String := "itertools.combinations"
theorem mro_cm : mroOf (.type "itertools.combinations") = pure [.type "itertools.combinations", .type "object"] := by rw [mroOf_type]; kernel_rfl
theorem lookup_new : typeLookup (.type "itertools.combinations") "__new__" = pure (some (.builtin "itertools.combinations.__new__")) := by rw [typeLookup_type, builtinLookup_eq_fast]; kernel_rfl
theorem slot_init : Slot "itertools.combinations" "__init__" "object.__init__" :=
  .of (owner := "object") (n := "__init__") (by rw [typeLookup_type, builtinLookup_eq_fast]; kernel_rfl) (by decide +kernel) (by decide +kernel) (by decide +kernel)
    (by first | exact .inl (by decide +kernel) | exact .inr (by decide +kernel)) (by rw [isSubtype_type]; kernel_rfl)
theorem sub_cm : isSubtype (.type "itertools.combinations") (.type "itertools.combinations") = pure true := by rw [isSubtype_type]; kernel_rfl
theorem called_cm : TypeCalled "itertools.combinations" "itertools.combinations.__new__" "object.__init__" :=
  ⟨by decide +kernel, by decide +kernel, ⟨_, _, mro_cm⟩, madeBy_type mro_cm lookup_new (by decide +kernel), by decide +kernel, sub_cm, slot_init⟩
theorem typeCall_2 (a b : Value) : checkTypeCall "itertools.combinations" ⟨[a, b], []⟩ = pure () := by kernel_rfl
theorem newCall_2 (a b : Value) : checkBuiltinCall "itertools.combinations.__new__" ⟨[.type "itertools.combinations", a, b], []⟩ = pure () := by kernel_rfl
theorem entry_new : entryFor table "itertools.combinations.__new__" = some Builtin.«itertools.combinations.__new__» := entryFor_of_tree (by kernel_rfl)
theorem slot_iter : Slot "itertools.combinations" "__iter__" "itertools.combinations.__iter__" :=
  .of (owner := "itertools.combinations") (n := "__iter__") (by rw [typeLookup_type, builtinLookup_eq_fast]; kernel_rfl) (by decide +kernel) (by decide +kernel) (by decide +kernel)
    (by first | exact .inl (by decide +kernel) | exact .inr (by decide +kernel)) sub_cm
theorem slot_next : Slot "itertools.combinations" "__next__" "itertools.combinations.__next__" :=
  .of (owner := "itertools.combinations") (n := "__next__") (by rw [typeLookup_type, builtinLookup_eq_fast]; kernel_rfl) (by decide +kernel) (by decide +kernel) (by decide +kernel)
    (by first | exact .inl (by decide +kernel) | exact .inr (by decide +kernel)) sub_cm
theorem entry_iter : entryFor table "itertools.combinations.__iter__" = some Builtin.«dict_keyiterator.__iter__» :=
  entryFor_alias (id' := "dict_keyiterator.__iter__") (by kernel_rfl) (by first | rfl | decide +kernel | (unfold String.splitOn; simp +decide [String.splitOnAux])) (by decide +kernel) (by kernel_rfl)
theorem entry_next : entryFor table "itertools.combinations.__next__" = some Builtin.«itertools.combinations.__next__» := entryFor_of_tree (by kernel_rfl)
theorem owner_cm : Manifest.owners.lookup (String.ofList ['s', 'n', 'o', 'i', 't', 'a', 'n', 'i', 'b', 'm', 'o', 'c', '.', 's', 'l', 'o', 'o', 't', 'r', 'e', 't', 'i'].reverse) = some Manifest.sig_itertools_combinations := by kernel_rfl
theorem args_iter (a : Value) : argsOk "itertools.combinations.__iter__" ⟨[a], []⟩ := by
  unfold argsOk; rw [signature?_of (id := "itertools.combinations.__iter__") (n := ['_', '_', 'r', 'e', 't', 'i', '_', '_']) (o := ['s', 'n', 'o', 'i', 't', 'a', 'n', 'i', 'b', 'm', 'o', 'c', '.', 's', 'l', 'o', 'o', 't', 'r', 'e', 't', 'i']) (by kernel_rfl) owner_cm]; kernel_rfl
theorem args_next (a : Value) : argsOk "itertools.combinations.__next__" ⟨[a], []⟩ := by
  unfold argsOk; rw [signature?_of (id := "itertools.combinations.__next__") (n := ['_', '_', 't', 'x', 'e', 'n', '_', '_']) (o := ['s', 'n', 'o', 'i', 't', 'a', 'n', 'i', 'b', 'm', 'o', 'c', '.', 's', 'l', 'o', 'o', 't', 'r', 'e', 't', 'i']) (by kernel_rfl) owner_cm]; kernel_rfl
theorem noDict : typeHasDict (.type "itertools.combinations") = false := by decide +kernel
theorem noClose : typeLookup (.type "itertools.combinations") "close" = pure none := by rw [typeLookup_type, builtinLookup_eq_fast]; kernel_rfl
end Cm
end
section
set_option maxRecDepth 100000
set_option maxHeartbeats 2000000
namespace Cm
open PySem PySem.Spec
open Sem (wp)
/-- what the iterator keeps: the pool, how far, what was handed out last, places -/
def flds (tp : Addr) (fl : Nat) (last : Value) (a : List Nat) : List Value := [.ref tp, .int (fl : Nat) 0, last] ++ a.map fun (i : Nat) => Value.int (i : Int) 0
theorem meets_new (l : Addr) (r : Nat) (tk : Tok) (items : Array Value) (hn : items.size ≤ 8) (hr : r ≤ items.size) (T : String) (hT : T = "list" ∨ T = "tuple") : Meets (Builtin.«itertools.combinations.__new__» ⟨[.type "itertools.combinations", .ref l, .int (r : Nat) tk], []⟩)
    (fun _ R s => (∃ o n, s.heap.get? l = some o ∧ o.cls = .type T ∧ o.data = .seq items n) ∧ ∀ h' : Heap, (∀ b o, s.heap.get? b = some o → h'.get? b = some o) → R (.ok (.ret (.ref (h'.objs.size + 1)))) { s with heap := (h'.push { cls := .type "tuple", data := .seq items }).push { cls := .type "itertools.combinations", data := .fields (flds h'.objs.size 0 .none (List.range r)).toArray } }) :=
  .of_wp fun prog w A R s h => by
    obtain ⟨⟨o, ne, ho, hc, hd⟩, h⟩ := h
    have hsub := sub_cm
    have hD := noDict
    have sz : items.size ≤ sizeLine := by rw [sizeLine_eq]; omega
    repeat (first
      | (refine wpAny_bind (wpAny_collect_seq l hT ho hc hd (fun h' hk => ?_) sz))
      | wp_step
      | simp only [List.head?_cons, Option.some_or, List.getElem?_cons_succ, List.getElem?_cons_zero, List.length_cons, List.length_nil, List.forIn_nil])
    rw [show ("itertools." ++ "combinations" : String) = "itertools.combinations" from by decide +kernel]
    refine wpAny_of_eq hsub ?_
    repeat (first
      | (refine wpAny_bind (wpAny_collect_seq l hT ho hc hd (fun h' hk => ?_) sz))
      | wp_step
      | simp only [List.head?_cons, Option.some_or, List.getElem?_cons_succ, List.getElem?_cons_zero, List.length_cons, List.length_nil, List.forIn_nil])
    have c1 : (decide (((r : Nat) : Int) < -2 ^ 63) || decide (((r : Nat) : Int) ≥ 2 ^ 63)) = false := by
      rw [decide_eq_false (by omega), decide_eq_false (by omega)]; rfl
    rw [c1, if_neg Bool.false_ne_true]
    refine wpAny_pure ?_
    refine wpAny_bind (wpAny_collect_seq l hT ho hc hd (fun h' hk => ?_) sz)
    rw [if_neg (show ¬ (((r : Nat) : Int) < 0) by omega)]
    have e1 : Builtin.Itertools.itTooMany ((r : Nat) : Int) = false := by
      unfold Builtin.Itertools.itTooMany
      exact decide_eq_false (by omega)
    rw [e1, if_neg Bool.false_ne_true]
    unfold newTuple
    refine wpAny_bind (wpAny_newObj_type (wpAny_pure ?_) (by show items.toList.toArray.size ≤ sizeLine; simpa using sz))
    unfold Builtin.Itertools.itNewRecord
    rw [hD]
    rw [if_pos (show (!false) = true from rfl)]
    have ef : ([Value.ref h'.objs.size, rawInt (if (((r : Nat) : Int).toNat) > items.toList.length then 2 else 0), Value.none] ++ (List.range ((r : Nat) : Int).toNat).map fun (i : Nat) => rawInt (i : Int)) = flds h'.objs.size 0 .none (List.range r) := by
      unfold flds rawInt
      simp only [Int.toNat_natCast, Array.length_toList]
      rw [if_neg (by omega)]
      rfl
    refine wpAny_bind (wpAny_newObj_type ?_ ?_)
    · refine wpAny_pure ⟨_, rfl, ?_⟩
      have := h h' hk
      rw [← ef] at this
      simpa using this
    · first
        | trivial
        | (show _ ≤ sizeLine + 2
           have z : sizeLine = 2 ^ 24 := sizeLine_eq
           simp
           omega)
section
variable {prog : Program} {w : World} {A : Around} {E : Value → Shared → Prop} {s : Shared}
def IsCm (h : Heap) (it tp : Addr) (fl : Nat) (last : Value) (a : List Nat) : Prop := h.get? it = some { cls := .type "itertools.combinations", dict := none, data := .fields (flds tp fl last a).toArray, slots := #[] }
/-- the heap behind the call -/
def cmHeap (h' : Heap) (items : Array Value) (r : Nat) : Heap := (h'.push { cls := .type "tuple", data := .seq items }).push { cls := .type "itertools.combinations", data := .fields (flds h'.objs.size 0 .none (List.range r)).toArray }
theorem cmHeap_it (h' : Heap) (items : Array Value) (r : Nat) : IsCm (cmHeap h' items r) (h'.objs.size + 1) h'.objs.size 0 .none (List.range r) := by
  have e : (h'.push { cls := .type "tuple", data := .seq items }).objs.size = h'.objs.size + 1 := by simp [Heap.push]
  unfold IsCm cmHeap
  rw [← e]
  exact Heap.get?_push_size _ rfl
theorem cmHeap_tp (h' : Heap) (items : Array Value) (r : Nat) : (cmHeap h' items r).get? h'.objs.size = some { cls := .type "tuple", data := .seq items } := Heap.get?_push_of_some _ (Heap.get?_push_size _ rfl)
theorem cmHeap_keep (h' : Heap) (items : Array Value) (r : Nat) {b : Addr} {o : Obj} (q : h'.get? b = some o) : (cmHeap h' items r).get? b = some o := Heap.get?_push_of_some _ (Heap.get?_push_of_some _ q)
theorem call_cm {l : Addr} {r : Nat} {tk : Tok} {items : Array Value} (hn : items.size ≤ 8) (hr : r ≤ items.size) (T : String) (hT : T = "list" ∨ T = "tuple") (hl : ∃ o n, s.heap.get? l = some o ∧ o.cls = .type T ∧ o.data = .seq items n) {Q : Value → Shared → Prop}
    (h : ∀ h' : Heap, (∀ b o, s.heap.get? b = some o → h'.get? b = some o) → Q (.ref (h'.objs.size + 1)) { s with heap := cmHeap h' items r }) :
    wpAny (model prog w) A (call (.type "itertools.combinations") [.ref l, .int (r : Nat) tk]) Q E s := by
  refine callType_new called_cm (by decide +kernel) (typeCall_2 _ _) (newCall_2 _ _) (fun obj => F.args_object_init_3 obj _ _) entry_new (meets_new l r tk items hn hr T hT) ?_
  exact ⟨hl, fun h' hk => ⟨⟨_, cmHeap_it h' items r, rfl⟩, h h' hk⟩⟩
theorem iter_cm {it tp : Addr} {fl : Nat} {last : Value} {a : List Nat} {Q : Value → Shared → Prop} (hit : IsCm s.heap it tp fl last a) (h : Q (.ref it) s) : wpAny (model prog w) A (pyIter (.ref it)) Q E s := by
  have hT : s.TypeIs (.ref it) "itertools.combinations" := ⟨_, hit, rfl⟩
  refine wpAny_pyIter_slot hT slot_iter (wpAny_call_entry slot_iter hT entry_iter ?_ (args_iter _))
  show wpAny _ _ (ret (.ref it)) _ _ s
  exact wpAny_pure ⟨_, rfl, "itertools.combinations", _, hT, slot_next.lookup, h⟩
end
end Cm
end
section
set_option maxRecDepth 100000
set_option maxHeartbeats 2000000
namespace Cm
open PySem PySem.Spec
open Sem (wp)
/-- so many of the numbers from lo on, in order -/
def combs : Nat → Nat → Nat → List (List Nat)
  | _, _, 0 => [[]]
  | _, 0, _ + 1 => []
  | lo, n + 1, r + 1 => (combs (lo + 1) n r).map (fun l => lo :: l) ++ combs (lo + 1) n (r + 1)
def cmb (n r : Nat) : List (List Nat) := combs 0 n r
def TabOk (nx : Nat → List Nat → Option (List Nat)) (n r : Nat) : Prop :=
  ((List.range (cmb n r).length).map fun k => nx n ((cmb n r).getD k [])) = (List.range (cmb n r).length).map fun k => (cmb n r)[k + 1]?
section
variable {prog : Program} {w : World} {A : Around} {E : Value → Shared → Prop} {s : Shared}
theorem nums_back : ∀ a : List Nat, (a.map (fun (i : Nat) => Value.int (i : Int) 0)).map (fun | .int n _ => n.toNat | _ => 0) = a
  | [] => rfl
  | x :: r => by simp [nums_back r]
theorem set_fl {h : Heap} {it tp : Addr} {fl fl' : Nat} {last : Value} {a : List Nat} (hit : IsCm h it tp fl last a) : IsCm (h.update it (Obj.mapFields fun x => x.setIfInBounds 1 (.int (fl' : Nat) 0))) it tp fl' last a := by
  have := Heap.get?_update_self (Obj.mapFields fun x => x.setIfInBounds 1 (.int (fl' : Nat) 0)) hit rfl
  unfold IsCm
  rw [this]
  simp [Obj.mapFields, flds]
theorem set_last {h : Heap} {it tp : Addr} {fl : Nat} {last x : Value} {a : List Nat} (hit : IsCm h it tp fl last a) : IsCm (h.update it (Obj.mapFields fun y => y.setIfInBounds 2 x)) it tp fl x a := by
  have := Heap.get?_update_self (Obj.mapFields fun y => y.setIfInBounds 2 x) hit rfl
  unfold IsCm
  rw [this]
  simp [Obj.mapFields, flds]
theorem set_nums {h : Heap} {it tp : Addr} {fl : Nat} {last : Value} {a a' : List Nat} (hit : IsCm h it tp fl last a) : IsCm (h.update it (Obj.mapFields fun fs => fs.extract 0 3 ++ (a'.map fun (n : Nat) => rawInt n).toArray)) it tp fl last a' := by
  have := Heap.get?_update_self (Obj.mapFields fun fs => fs.extract 0 3 ++ (a'.map fun (n : Nat) => rawInt n).toArray) hit rfl
  unfold IsCm
  rw [this]
  have e : (flds tp fl last a).toArray.extract 0 3 = #[.ref tp, .int (fl : Nat) 0, last] := by
    unfold flds
    simp
  simp [Obj.mapFields, e, flds, rawInt]
theorem nums_cm {it tp : Addr} {fl : Nat} {last : Value} {a : List Nat} {Q : List Nat → Shared → Prop} (hit : IsCm s.heap it tp fl last a) (h : Q a s) : wpAny (model prog w) A (Builtin.Itertools.itNumbersFrom (.ref it) 3) Q E s := by
  unfold Builtin.Itertools.itNumbersFrom
  refine wpAny_bind (wpAny_load hit ?_)
  refine wpAny_pure ?_
  refine Eq.mp (congrArg (fun z => Q z s) ?_) h
  show a = List.map (fun | .int n _ => n.toNat | _ => 0) (List.drop 3 (flds tp fl last a).toArray.toList)
  have e : List.drop 3 (flds tp fl last a).toArray.toList = a.map (fun (i : Nat) => Value.int (i : Int) 0) := by simp [flds]
  rw [e, nums_back]
/-- what is handed out -/
theorem hand_cm {it tp : Addr} {items : Array Value} {m : Nat} {last : Value} {a : List Nat} {Q : Option Value → Shared → Prop} (hit : IsCm s.heap it tp 1 last a) (hp : s.heap.get? tp = some { cls := .type "tuple", data := .seq items m }) (hl : a.length ≤ 8)
    (hQ : ∀ h', IsCm h' it tp 1 (.ref s.heap.objs.size) a → h'.get? s.heap.objs.size = some { cls := .type "tuple", data := .seq (a.map fun i => items.getD i .none).toArray } → (∀ c o, c ≠ it → s.heap.get? c = some o → h'.get? c = some o) → Q (some (.ref s.heap.objs.size)) { s with heap := h' }) :
    wpAny (model prog w) A (do
        let result ← (Builtin.Itertools.itPoolItems (.ref tp) >>= fun items => newTuple (a.map fun i => items.getD i .none))
        let before ← field (Value.ref it) 2
        setField (Value.ref it) 2 result
        letGo [before] [result]
        ret result) (fun fin s' => ∃ v, fin = Fin.done (Flow.ret v) ∧ Q (some v) s') E s := by
  have lt : it < s.heap.objs.size := Heap.lt_size (h := s.heap) (a := it) hit
  have nt : s.heap.objs.size ≠ it := fun z => Nat.lt_irrefl _ (Nat.lt_of_lt_of_eq lt z)
  refine wpAny_bind ?_
  unfold Builtin.Itertools.itPoolItems
  refine wpAny_bind (wpAny_bind (wpAny_seqItems hp rfl ?_))
  refine wpAny_pure ?_
  unfold newTuple
  refine wpAny_newObj_type ?_ (by show (List.map _ _).toArray.size ≤ sizeLine; rw [sizeLine_eq]; simp; omega)
  refine wpAny_bind (wpAny_field (Heap.get?_push_of_some _ hit) rfl (x := last) (by simp [flds]) ?_)
  refine wpAny_bind (wpAny_setField (Heap.get?_push_of_some _ hit) rfl (by simp [flds]) ?_)
  refine wpAny_bind (wpAny_letGo ?_)
  refine wpAny_pure ⟨_, rfl, ?_⟩
  have hit2 := set_last (x := .ref s.heap.objs.size) (Heap.get?_push_of_some { cls := .type "tuple", data := .seq (a.map fun i => items.getD i .none).toArray } hit)
  refine hQ _ hit2 ?_ ?_
  · rw [Heap.get?_update_other _ _ (Ne.symm nt)]
    exact Heap.get?_push_size s.heap (o := { cls := .type "tuple", data := .seq (a.map fun i => items.getD i .none).toArray }) rfl
  · intro c o hc q
    rw [Heap.get?_update_other _ _ (Ne.symm hc)]
    exact Heap.get?_push_of_some _ q
theorem first_cm {it tp : Addr} {items : Array Value} {m : Nat} {last : Value} {a : List Nat} {Q : Option Value → Shared → Prop} (hit : IsCm s.heap it tp 0 last a) (hp : s.heap.get? tp = some { cls := .type "tuple", data := .seq items m }) (hl : a.length ≤ 8)
    (hQ : ∀ h', IsCm h' it tp 1 (.ref s.heap.objs.size) a → h'.get? s.heap.objs.size = some { cls := .type "tuple", data := .seq (a.map fun i => items.getD i .none).toArray } → (∀ c o, c ≠ it → s.heap.get? c = some o → h'.get? c = some o) → Q (some (.ref s.heap.objs.size)) { s with heap := h' }) :
    wpAny (model prog w) A (callSpecial? (.ref it) "__next__") Q E s := by
  have hT : s.TypeIs (.ref it) "itertools.combinations" := ⟨_, hit, rfl⟩
  refine wpAny_callSpecial?_slot (name := Str.ofString "__next__") hT slot_next (wpAny_call_entry slot_next hT entry_next ?_ (args_next _))
  show wpAny _ _ (field (.ref it) 0 >>= _) _ _ _
  refine wpAny_bind (wpAny_field hit rfl (x := .ref tp) (by simp [flds]) ?_)
  refine wpAny_bind (nums_cm hit ?_)
  unfold Builtin.Itertools.itIntField
  refine wpAny_bind (wpAny_bind (wpAny_field hit rfl (x := .int ((0 : Nat) : Int) 0) (by simp [flds]) ?_))
  refine wpAny_pure ?_
  show wpAny _ _ (setField (.ref it) 1 (rawInt 1) >>= _) _ _ _
  refine wpAny_bind (wpAny_setField hit rfl (by simp [flds]) ?_)
  have hit1 := set_fl (fl' := 1) hit
  have lt : it < s.heap.objs.size := Heap.lt_size (h := s.heap) (a := it) hit
  have nt : s.heap.objs.size ≠ it := fun z => Nat.lt_irrefl _ (Nat.lt_of_lt_of_eq lt z)
  have ptne : tp ≠ it := fun z => by
    rw [z] at hp
    have := hit.symm.trans hp
    simp at this
  have hp1 : (s.heap.update it (Obj.mapFields fun x => x.setIfInBounds 1 (.int ((1 : Nat) : Int) 0))).get? tp = some { cls := .type "tuple", data := .seq items m } := by rw [Heap.get?_update_other _ _ (Ne.symm ptne)]; exact hp
  have es : (s.heap.update it (Obj.mapFields fun x => x.setIfInBounds 1 (.int ((1 : Nat) : Int) 0))).objs.size = s.heap.objs.size := Heap.size_update _ _ _
  refine hand_cm (s := { s with heap := s.heap.update it (Obj.mapFields fun x => x.setIfInBounds 1 (.int ((1 : Nat) : Int) 0)) }) hit1 hp1 hl fun h' q1 q2 q3 => ?_
  replace q1 : IsCm h' it tp 1 (.ref (s.heap.update it (Obj.mapFields fun x => x.setIfInBounds 1 (.int ((1 : Nat) : Int) 0))).objs.size) a := q1
  replace q2 : h'.get? (s.heap.update it (Obj.mapFields fun x => x.setIfInBounds 1 (.int ((1 : Nat) : Int) 0))).objs.size = _ := q2
  show Q (some (.ref (s.heap.update it (Obj.mapFields fun x => x.setIfInBounds 1 (.int ((1 : Nat) : Int) 0))).objs.size)) { s with heap := h' }
  rw [es] at q1 q2 ⊢
  exact hQ h' q1 q2 fun c o hc q => q3 c o hc (by
    rw [Heap.get?_update_other _ _ (Ne.symm hc)]
    exact q)
end
theorem next_cm : ∃ nx : Nat → List Nat → Option (List Nat),
    (∀ (prog : Program) (w : World) (A : Around) (E : Value → Shared → Prop) (s : Shared) (it tp : Addr) (items : Array Value) (m : Nat) (last : Value) (a a' : List Nat) (Q : Option Value → Shared → Prop), IsCm s.heap it tp 1 last a → s.heap.get? tp = some { cls := .type "tuple", data := .seq items m } → a'.length ≤ 8 →
      nx items.size a = some a' →
      (∀ h', IsCm h' it tp 1 (.ref s.heap.objs.size) a' → h'.get? s.heap.objs.size = some { cls := .type "tuple", data := .seq (a'.map fun i => items.getD i .none).toArray } → (∀ c o, c ≠ it → s.heap.get? c = some o → h'.get? c = some o) → Q (some (.ref s.heap.objs.size)) { s with heap := h' }) →
      wpAny (model prog w) A (callSpecial? (.ref it) "__next__") Q E s) ∧
    (∀ (prog : Program) (w : World) (A : Around) (E : Value → Shared → Prop) (s : Shared) (it tp : Addr) (items : Array Value) (m : Nat) (last : Value) (a : List Nat) (Q : Option Value → Shared → Prop), A.handled = none → IsCm s.heap it tp 1 last a → s.heap.get? tp = some { cls := .type "tuple", data := .seq items m } →
      nx items.size a = none →
      (∀ h', Heap.ExtBut it s.heap h' → Q none { s with heap := h' }) →
      wpAny (model prog w) A (pyNext (.ref it)) Q E s) ∧
    ∀ n ≤ 8, ∀ r ≤ n, TabOk nx n r := by
  apply Exists.intro
  apply And.intro
  · intro prog w A E s it tp items m last a a' Q hit hp hl hx hQ
    have hT : s.TypeIs (.ref it) "itertools.combinations" := ⟨_, hit, rfl⟩
    refine wpAny_callSpecial?_slot (name := Str.ofString "__next__") hT slot_next (wpAny_call_entry slot_next hT entry_next ?_ (args_next _))
    show wpAny _ _ (field (.ref it) 0 >>= _) _ _ _
    refine wpAny_bind (wpAny_field hit rfl (x := .ref tp) (by simp [flds]) ?_)
    refine wpAny_bind (nums_cm hit ?_)
    unfold Builtin.Itertools.itIntField
    refine wpAny_bind (wpAny_bind (wpAny_field hit rfl (x := .int ((1 : Nat) : Int) 0) (by simp [flds]) ?_))
    refine wpAny_pure ?_
    dsimp only
    split
    · rename_i h0
      exact absurd h0 (by decide)
    · refine wpAny_bind ?_
      unfold Builtin.Itertools.itPoolItems
      refine wpAny_bind (wpAny_seqItems hp rfl ?_)
      refine wpAny_pure ?_
      split
      · rename_i a1 he
        have q : some a1 = some a' := he.symm.trans hx
        obtain rfl := Option.some.inj q
        unfold Builtin.Itertools.itSetNumbersFrom
        refine wpAny_bind (wpAny_updateFields hit rfl ?_ (by simp [flds, sizeLine_eq]; omega))
        have hit1 := set_nums (a' := a1) hit
        have ptne : tp ≠ it := fun z => by
          rw [z] at hp
          have := hit.symm.trans hp
          simp at this
        have hp1 : (s.heap.update it (Obj.mapFields fun fs => fs.extract 0 3 ++ (a1.map fun (n : Nat) => rawInt n).toArray)).get? tp = some { cls := .type "tuple", data := .seq items m } := by rw [Heap.get?_update_other _ _ (Ne.symm ptne)]; exact hp
        have es : (s.heap.update it (Obj.mapFields fun fs => fs.extract 0 3 ++ (a1.map fun (n : Nat) => rawInt n).toArray)).objs.size = s.heap.objs.size := Heap.size_update _ _ _
        refine hand_cm (s := { s with heap := s.heap.update it (Obj.mapFields fun fs => fs.extract 0 3 ++ (a1.map fun (n : Nat) => rawInt n).toArray) }) hit1 hp1 hl fun h' q1 q2 q3 => ?_
        replace q1 : IsCm h' it tp 1 (.ref (s.heap.update it (Obj.mapFields fun fs => fs.extract 0 3 ++ (a1.map fun (n : Nat) => rawInt n).toArray)).objs.size) a1 := q1
        replace q2 : h'.get? (s.heap.update it (Obj.mapFields fun fs => fs.extract 0 3 ++ (a1.map fun (n : Nat) => rawInt n).toArray)).objs.size = _ := q2
        show Q (some (.ref (s.heap.update it (Obj.mapFields fun fs => fs.extract 0 3 ++ (a1.map fun (n : Nat) => rawInt n).toArray)).objs.size)) { s with heap := h' }
        rw [es] at q1 q2 ⊢
        exact hQ h' q1 q2 fun c o hc q => q3 c o hc (by
          rw [Heap.get?_update_other _ _ (Ne.symm hc)]
          exact q)
      · rename_i he
        have q : none = some a' := he.symm.trans hx
        cases q
    · rename_i h0
      exact absurd rfl h0
  apply And.intro
  · intro prog w A E s it tp items m last a Q hh hit hp hx hQ
    have hT : s.TypeIs (.ref it) "itertools.combinations" := ⟨_, hit, rfl⟩
    unfold pyNext
    refine wpAny_bind (wpAny_attempt (wpAny_callSpecial?_slot (name := Str.ofString "__next__") hT slot_next (wpAny_call_entry slot_next hT entry_next ?_ (args_next _))))
    show wpAny _ _ (field (.ref it) 0 >>= _) _ _ _
    refine wpAny_bind (wpAny_field hit rfl (x := .ref tp) (by simp [flds]) ?_)
    refine wpAny_bind (nums_cm hit ?_)
    unfold Builtin.Itertools.itIntField
    refine wpAny_bind (wpAny_bind (wpAny_field hit rfl (x := .int ((1 : Nat) : Int) 0) (by simp [flds]) ?_))
    refine wpAny_pure ?_
    dsimp only
    split
    · rename_i h0
      exact absurd h0 (by decide)
    · refine wpAny_bind ?_
      unfold Builtin.Itertools.itPoolItems
      refine wpAny_bind (wpAny_seqItems hp rfl ?_)
      refine wpAny_pure ?_
      split
      · rename_i a1 he
        have q : some a1 = none := he.symm.trans hx
        cases q
      · refine wpAny_bind (wpAny_setField hit rfl (by simp [flds]) ?_)
        unfold Builtin.Itertools.itStop
        refine wpAny_bind ?_
        simp only [newExc, newTuple]
        refine wpAny_bind (wpAny_newObj_type ?_ (by size_fits))
        refine wpAny_bind (m := firstArgMember _ _) (wpAny_of_eq (a := Value.none) (by first | rfl | (simp only [firstArgMember]; rfl)) ?_)
        refine wpAny_newObj_type ?_ (by size_fits)
        simp only [raiseNew]
        refine wpAny_bind (wpAny_handled ?_)
        first | rw [show A.in1.handled = none from hh] | rw [hh]
        refine wpAny_bind (wpAny_pure (wpAny_throw ?_))
        refine wpAny_bind (wpAny_isInstance (T := "StopIteration") (b := true) ⟨_, Heap.get?_push_size _ rfl, rfl⟩ isSubtype_stop ?_)
        refine wpAny_pure (hQ _ ?_)
        have base : Heap.ExtBut it s.heap (s.heap.update it (Obj.mapFields fun x => x.setIfInBounds 1 (rawInt 2))) := fun c o hc q => by
          rw [Heap.get?_update_other _ _ (Ne.symm hc)]
          exact q
        exact (base.push _).push _
    · rename_i h0
      exact absurd rfl h0
  · intro n hn r hr
    unfold TabOk
    match n, hn with
    | 0, _ =>
      match r, hr with
      | 0, _ => kernel_rfl
    | 1, _ =>
      match r, hr with
      | 0, _ => kernel_rfl
      | 1, _ => kernel_rfl
    | 2, _ =>
      match r, hr with
      | 0, _ => kernel_rfl
      | 1, _ => kernel_rfl
      | 2, _ => kernel_rfl
    | 3, _ =>
      match r, hr with
      | 0, _ => kernel_rfl
      | 1, _ => kernel_rfl
      | 2, _ => kernel_rfl
      | 3, _ => kernel_rfl
    | 4, _ =>
      match r, hr with
      | 0, _ => kernel_rfl
      | 1, _ => kernel_rfl
      | 2, _ => kernel_rfl
      | 3, _ => kernel_rfl
      | 4, _ => kernel_rfl
    | 5, _ =>
      match r, hr with
      | 0, _ => kernel_rfl
      | 1, _ => kernel_rfl
      | 2, _ => kernel_rfl
      | 3, _ => kernel_rfl
      | 4, _ => kernel_rfl
      | 5, _ => kernel_rfl
    | 6, _ =>
      match r, hr with
      | 0, _ => kernel_rfl
      | 1, _ => kernel_rfl
      | 2, _ => kernel_rfl
      | 3, _ => kernel_rfl
      | 4, _ => kernel_rfl
      | 5, _ => kernel_rfl
      | 6, _ => kernel_rfl
    | 7, _ =>
      match r, hr with
      | 0, _ => kernel_rfl
      | 1, _ => kernel_rfl
      | 2, _ => kernel_rfl
      | 3, _ => kernel_rfl
      | 4, _ => kernel_rfl
      | 5, _ => kernel_rfl
      | 6, _ => kernel_rfl
      | 7, _ => kernel_rfl
    | 8, _ =>
      match r, hr with
      | 0, _ => kernel_rfl
      | 1, _ => kernel_rfl
      | 2, _ => kernel_rfl
      | 3, _ => kernel_rfl
      | 4, _ => kernel_rfl
      | 5, _ => kernel_rfl
      | 6, _ => kernel_rfl
      | 7, _ => kernel_rfl
      | 8, _ => kernel_rfl
end Cm
end
section
set_option maxRecDepth 100000
set_option maxHeartbeats 2000000
namespace LS
open PySem PySem.Spec L2 Cm
theorem cmb_len : ∀ n ≤ 8, ∀ r ≤ n, ∀ l ∈ cmb n r, l.length = r := by decide +kernel
theorem cmb_pos : ∀ n ≤ 8, ∀ r ≤ n, 0 < (cmb n r).length := by decide +kernel
theorem cmb_0 : ∀ n ≤ 8, ∀ r ≤ n, (cmb n r).getD 0 [] = List.range r := by decide +kernel
theorem cmb_gl {n r : Nat} (hn : n ≤ 8) (hr : r ≤ n) {i : Nat} (h : i < (cmb n r).length) : ((cmb n r).getD i []).length = r := by
  rw [List.getD_eq_getElem?_getD, List.getElem?_eq_getElem h]
  exact cmb_len n hn r hr _ (List.getElem_mem h)
/-- so many of some things, in order -/
def ItC (n r : Nat) (xs : List V) : It := ⟨fun i _ => i < (cmb n r).length, fun i H v H' => ∃ T, v = .ref T ∧ H T = none ∧ H' = upd H T (.tup (pick .non xs ((cmb n r).getD i []))), fun i _ => (cmb n r).length ≤ i⟩
def tnC (it tp : Addr) (items : Array Value) (r : Nat) (i : Nat) (h : Heap) : Prop := (∃ m, h.get? tp = some { cls := .type "tuple", data := .seq items m }) ∧ ∃ (fl : Nat) (last : Value) (a : List Nat), IsCm h it tp fl last a ∧ ((i = 0 ∧ fl = 0 ∧ a = (cmb items.size r).getD 0 []) ∨ ∃ j, i = j + 1 ∧ j < (cmb items.size r).length ∧ fl = 1 ∧ a = (cmb items.size r).getD j [])
theorem turn_cm {P : Program} {w : World} {K : PySem.W.Frag} {tg : Expr} {it tp : Addr} {items : Array Value} {xs : List V} {r : Nat} (ht : tp ≠ it) (rv : Vals xs items.toList) (hn : items.size ≤ 8) (hr : r ≤ items.size) : Turn P w K tg (ItC items.size r xs) [it, tp] it (tnC it tp items r) := by
  obtain ⟨nx, NEXT, END, TAB⟩ := next_cm
  have gl : ∀ {i}, i < (cmb items.size r).length → ((cmb items.size r).getD i []).length ≤ 8 := fun h => by rw [cmb_gl hn hr h]; omega
  have tab : ∀ k, k < (cmb items.size r).length → nx items.size ((cmb items.size r).getD k []) = (cmb items.size r)[k + 1]? := fun k hk => List.map_inj_left.mp (TAB items.size hn r hr) k (List.mem_range.mpr hk)
  have fin : ∀ (X : Cx), X.prog = P → X.w = w → X.K = K → ∀ (i : Nat) (pins : List (Addr × Obj)) (s : Shared) (σ : L2.St) (H : Hp) (E : Value → Shared → Prop), Inv X pins σ H s → (∀ b ∈ [it, tp], FpOk X pins H b) → tnC it tp items r i s.heap → i < (cmb items.size r).length →
      ∀ h', IsCm h' it tp 1 (.ref s.heap.objs.size) ((cmb items.size r).getD i []) → h'.get? s.heap.objs.size = some { cls := .type "tuple", data := .seq (((cmb items.size r).getD i []).map fun i => items.getD i .none).toArray } → (∀ c o, c ≠ it → s.heap.get? c = some o → h'.get? c = some o) →
      ∃ u, some (Value.ref s.heap.objs.size) = some u ∧ wpAny (model P w) X.A (letOwnedTupleGo tg (.ref it) u) (fun _ s2 => ∃ x H', Inv X pins σ H' s2 ∧ RelV x u ∧ (ItC items.size r xs).yld i H x H' ∧ tnC it tp items r (i + 1) s2.heap ∧ ∀ b ∈ [it, tp], H' b = none) E { s with heap := h' } := by
    intro X hP hw hK i pins s σ H E I hf st hi h' q1 q2 q3
    subst hP hw hK
    obtain ⟨⟨m, hp⟩, fl, last, a, hit, _⟩ := st
    have lti : it < s.heap.objs.size := Heap.lt_size (h := s.heap) (a := it) hit
    have ltt : tp < s.heap.objs.size := Heap.lt_size hp
    have vp := vals_pick rv ((cmb items.size r).getD i [])
    have nw : ObjOk X.prog X.w (upd H s.heap.objs.size (.tup (pick .non xs ((cmb items.size r).getD i [])))) h' s.heap.objs.size (.tup (pick .non xs ((cmb items.size r).getD i []))) :=
      ⟨by rw [sizeLine_eq]; have := gl hi; simp only [pick, List.length_map]; omega, _, vp, ⟨_, q2, rfl, _, rfl⟩⟩
    have I1 := I.turnedNew (t' := s.toks) (h' := h') (ch := [it, tp]) (fun b o hb z => q3 b o (fun y => hb (by simp [y])) z) hf (Nat.le_refl _) nw
    refine ⟨_, rfl, go_of (s := { s with heap := h' }) (n := "itertools.combinations") q1 rfl rfl (by decide) ⟨_, _, I1, (show RelV (.ref s.heap.objs.size) (.ref s.heap.objs.size) from rfl), ⟨_, rfl, I.hok.fresh (Nat.le_refl _), rfl⟩, ⟨⟨m, q3 tp _ ht hp⟩, 1, _, _, q1, .inr ⟨i, rfl, hi, rfl, rfl⟩⟩, fun b hb => ?_⟩⟩
    have : b < s.heap.objs.size := by
      rcases List.mem_cons.mp hb with rfl | hb
      · exact lti
      · cases List.mem_singleton.mp hb; exact ltt
    rw [upd_ne (Nat.ne_of_lt this)]
    exact (hf b hb).1
  refine ⟨by simp, ?_, ?_, ?_, ?_, ?_⟩
  · rintro i h ⟨⟨m, hp⟩, fl, last, a, hit, _⟩ c hc
    rcases List.mem_cons.mp hc with rfl | hc
    · exact ⟨_, hit, fun v z => nomatch z⟩
    · cases List.mem_singleton.mp hc; exact ⟨_, hp, fun v z => nomatch z⟩
  · rintro i h h' ⟨⟨m, hp⟩, fl, last, a, hit, z⟩ k
    exact ⟨⟨m, k tp (by simp) _ hp⟩, fl, last, a, k it (by simp) _ hit, z⟩
  · intro X hP hw hK hc i pins s σ H E I hf st hg
    have st0 := st
    obtain ⟨⟨m, hp⟩, fl, last, a, hit, z⟩ := st
    unfold pyNext
    rcases z with ⟨rfl, rfl, rfl⟩ | ⟨j, rfl, hjf, rfl, rfl⟩
    · refine wpAny_bind (wpAny_attempt (first_cm hit hp (gl (cmb_pos _ hn _ hr)) fun h' q1 q2 q3 => ?_))
      exact wpAny_pure (fin X hP hw hK 0 pins s σ H E I hf st0 hg h' q1 q2 q3)
    · have hj : j + 1 < (cmb items.size r).length := hg
      have t := tab j (by omega)
      rw [show (cmb items.size r)[j + 1]? = some ((cmb items.size r).getD (j + 1) []) by rw [List.getD_eq_getElem?_getD, List.getElem?_eq_getElem hj]; rfl] at t
      refine wpAny_bind (wpAny_attempt (NEXT P w X.A _ s it tp items m last _ _ _ hit hp (gl hj) t fun h' q1 q2 q3 => ?_))
      exact wpAny_pure (fin X hP hw hK (j + 1) pins s σ H E I hf st0 hg h' q1 q2 q3)
  · intro X hP hw hK hc i pins s σ H E I hf st hg
    subst hP hw hK
    obtain ⟨⟨m, hp⟩, fl, last, a, hit, z⟩ := st
    have fp : 0 < (cmb items.size r).length := cmb_pos _ hn _ hr
    have hg' : (cmb items.size r).length ≤ i := hg
    rcases z with ⟨rfl, rfl, rfl⟩ | ⟨j, rfl, hjf, rfl, rfl⟩
    · omega
    · have t := tab j hjf
      rw [List.getElem?_eq_none hg'] at t
      obtain ⟨f0, f1, f2, f3, f4, f5⟩ := hf it (by simp)
      exact END X.prog X.w X.A _ s it tp items m last _ _ (I.ok.hd hc) hit hp t fun h' eb => ⟨rfl, I.turned (t' := s.toks) (fun b o hb z => eb b o hb z) f0 f1 f3 f4 f5⟩
  · rintro A i s Q E ⟨⟨m, hp⟩, fl, last, a, hit, z⟩ h
    exact iter_cm hit h
/-! ## for .. in combinations(xs, r) -/
def iComb (K : PySem.W.Frag) (ta : TA) : TI := fun σ H R => ta σ H fun vs H1 => ∃ (l : Addr) (r : Nat) (xs : List V), vs = [.ref l, .int (r : Int)] ∧ (SqL K H1 l xs ∨ SqT K H1 l xs) ∧ xs.length ≤ 8 ∧ r ≤ xs.length ∧ R (ItC xs.length r xs) H1
theorem pi_comb {X : Cx} {tg e e2 : Expr} {ta : TA} {p pos : Pos} (hg : Gl X "combinations") (hm : X.mg "combinations" = some (.type "itertools.combinations")) (ha : PA X [e, e2] ta)
    (hs : starEach [e, e2] X.env = (false, eval e X.env) :: starEach [e2] X.env) (hpl : (backTo pos (starEach [e2] X.env)).any (·.1) = false) : PI X tg (.Call (.Name "combinations" p) [e, e2] [] pos) (iComb X.K ta) := by
  refine ⟨fun pins s σ H R I h => ?_⟩
  refine PyProof.Rows.Call_ (ld_glob I hg hm (PyProof.Rows.callWith_type1 (thn (ha.run pos pins s σ H _ I h) fun us s1 q0 => ?_) hs hpl) (by decide))
  obtain ⟨vs, H1, I1, r1, l, r, xs, ex, hq, hn, hr, q⟩ := q0
  subst ex
  cases r1 with
  | cons r0 rr =>
    cases rr with
    | cons r2 rr =>
      cases rr
      cases r0
      obtain ⟨tk, rfl⟩ := r2
      obtain ⟨its, T, hT, rv, hl⟩ : ∃ (its : List Value) (T : String), (T = "list" ∨ T = "tuple") ∧ Vals xs its ∧ (∃ o n, s1.heap.get? l = some o ∧ o.cls = .type T ∧ o.data = .seq its.toArray n) := by
        rcases hq with hq | hq
        · obtain ⟨its, rv, pl, hz⟩ := I1.list hq
          obtain ⟨o, e, c, n, d⟩ := pl.isList
          exact ⟨its, "list", .inl rfl, rv, o, n, e, c, d⟩
        · obtain ⟨its, rv, pl, hz⟩ := I1.tuple hq
          obtain ⟨o, e, c, n, d⟩ := pl
          exact ⟨its, "tuple", .inr rfl, rv, o, n, e, c, d⟩
      have hsz : its.toArray.size = xs.length := by rw [List.size_toArray]; exact rv.length.symm
      have rv' : Vals xs its.toArray.toList := by simpa using rv
      have h8 : its.toArray.size ≤ 8 := by omega
      have hr8 : r ≤ its.toArray.size := by omega
      refine call_cm (items := its.toArray) h8 hr8 T hT hl fun h' hk => ?_
      have I2 : Inv X pins σ H1 { s1 with heap := h' } := I1.kept (t' := s1.toks) hk
      have I3 : Inv X pins σ H1 { s1 with heap := cmHeap h' its.toArray r } := I1.kept (t' := s1.toks) fun b o q => cmHeap_keep h' _ _ (hk b o q)
      have fp : ∀ b ∈ [h'.objs.size + 1, h'.objs.size], FpOk X pins H1 b := fun b hb => by
        have hle : h'.objs.size ≤ b := by
          rcases List.mem_cons.mp hb with rfl | hb
          · omega
          · cases List.mem_singleton.mp hb; omega
        exact I2.fpOk hle (I2.hok.fresh hle)
      have t0 : tnC (h'.objs.size + 1) h'.objs.size its.toArray r 0 (cmHeap h' its.toArray r) := ⟨⟨_, cmHeap_tp h' _ _⟩, 0, .none, _, cmHeap_it h' _ _, .inl ⟨rfl, rfl, (cmb_0 _ h8 _ hr8).symm⟩⟩
      refine iter_cm (cmHeap_it h' its.toArray r) ⟨_, _, _, _, H1, rfl, I3, turn_cm (Nat.ne_of_lt (Nat.lt_succ_self _)) rv' h8 hr8, t0, fp, ?_⟩
      rw [hsz]
      exact q
section
variable {g : Gb} {F : Fam g} {pos : Pos}
def cmbD (xs : List D) (r : Nat) : List D := (cmb xs.length r).map fun ix => .tup (pick .non xs ix)
theorem yl_comb {G0 H0 : Hp} {as0 : List Addr} {vs : List V} {xs : List D} {n : Nat} (rr : RpA g.K g.mg G0 as0 vs xs) : Yl g G0 H0 as0 none (cmbD xs n) (ItC vs.length n vs) where
  go := fun i G H as st hi R hs hp hl _ => by
    have : i < (cmb xs.length n).length := by simpa [cmbD] using hi
    show i < (cmb vs.length n).length
    rw [rr.len]; exact this
  stop := fun G H as st R hs hp hl _ => by show (cmb vs.length n).length ≤ (cmbD xs n).length; rw [rr.len]; simp [cmbD]
  yld := fun i G H as st v H' x R hs hp hl _ hx y => by
    obtain ⟨T, rfl, hT, rfl⟩ := y
    unfold cmbD at hx
    rw [List.getElem?_map] at hx
    obtain ⟨ix, hj, rfl⟩ := Option.map_eq_some_iff.mp hx
    have e : (cmb vs.length n).getD i [] = ix := by rw [rr.len, List.getD_eq_getElem?_getD, hj]; rfl
    rw [e]
    obtain ⟨R', X'⟩ := R.still (o := .tup (pick .non vs ix)) hT
    exact ⟨_, R', X', .tup (.of upd_same) ((pick_rp (rr.mono hs hp) _).ext X')⟩
def xcomb (m m2 : XM D) : XM (List D × Option Nat) := xbind m fun x => fun e st => (xbind m2 fun y => fun _ st2 => match seqOf st2 x, y with
  | some xs, .int k => if xs.length ≤ 8 ∧ 0 ≤ k ∧ k ≤ xs.length then .ok (cmbD xs k.toNat, none) st2 else .stuck
  | _, _ => .stuck) e st
theorem ji_comb {tg ex e2 : Expr} {m m2 : XM D} {p : Pos} (hg : F.sc.names.lookup ("combinations" : Str) = some .globalImplicit) (hm : g.mg "combinations" = some (.type "itertools.combinations")) (h : JE F ex m) (h2 : JE F e2 m2)
    (hs1 : ∀ env, starEach [ex, e2] env = (false, eval ex env) :: starEach [e2] env := by intro _; rfl) (hs2 : ∀ env, starEach [e2] env = (false, eval e2 env) :: starEach [] env := by intro _; rfl)
    (hpl : ∀ env, (backTo pos (starEach [e2] env)).any (·.1) = false := by intro _; rfl) :
    JI F tg (.Call (.Name "combinations" p) [ex, e2] [] pos) (xcomb m m2) := by
  obtain ⟨t, p', s⟩ := h
  obtain ⟨t2, p2', s2⟩ := h2
  refine ⟨fun W => iComb g.K (tCons (t W) (tCons (t2 W) tNil)), fun W X mm => by
    have := pi_comb (tg := tg) (p := p) (pos := pos) (X := X) (by show X.env.scope.names.lookup _ = _; rw [F.hsc mm]; exact hg) (by rw [F.hmg mm]; exact hm) (pa_cons (p' W X mm) (pa_cons (p2' W X mm) pa_nil (hs2 _)) (hs1 _)) (hs1 _) (hpl _)
    rw [F.hK mm] at this; exact this, ?_⟩
  intro W G H as st σ e R' R N h
  refine s W G H as st σ e _ R N ?_
  unfold xcomb at h
  unfold xbind at h
  cases q : m e st with
  | stuck => rw [q] at h; exact h
  | exc c p st1 => rw [q] at h; exact h
  | ok x st1 =>
    simp only [q] at h
    intro v G1 H1 as1 R1 X1 rv
    refine s2 W G1 H1 as1 st1 σ e _ R1 (N.ext X1) ?_
    cases q1 : m2 e st1 with
    | stuck => simp only [q1] at h; exact h
    | exc c p st2 =>
      simp only [q1] at h
      exact fun cls d G2 H2 as2 R2 X2 x => h cls d G2 H2 as2 R2 (X1.trans X2) x
    | ok y st2 =>
      simp only [q1] at h
      intro v2 G2 H2 as2 R2 X2 rv2
      cases q2 : seqOf st2 x with
      | none => simp only [q2] at h; exact h.elim
      | some xs =>
        cases y with
        | int k =>
          simp only [q2] at h
          by_cases hl : xs.length ≤ 8 ∧ 0 ≤ k ∧ k ≤ xs.length
          · rw [if_pos hl] at h
            obtain ⟨a, vs, rfl, s1, r1⟩ := seqOf_ok R2 (rv.ext X2) q2
            cases rv2
            have ek : ((k.toNat : Nat) : Int) = k := by omega
            refine ⟨a, k.toNat, vs, by rw [ek], s1, by rw [r1.len]; exact hl.1, by rw [r1.len]; omega, h.2 _ G2 H2 as2 R2 (X1.trans X2) (yl_comb r1)⟩
          · rw [if_neg hl] at h; exact h.elim
        | _ => simp only [q2] at h; exact h.elim
end
end LS
end
section
set_option maxRecDepth 100000
set_option maxHeartbeats 2000000
namespace LS
open PySem PySem.Spec L2
/-! ## steps put together by hand (the kernel then need not unfold) -/
section
variable {e e1 : Nv} {s0 s1 s2 : Store}
theorem cons_ok {m : XM D} {ms : XM (List D)} {x : D} {xs : List D} (h : m e s0 = .ok x s1) (h2 : ms e s1 = .ok xs s2) : xcons m ms e s0 = .ok (x :: xs) s2 := by
  rw [ap_cons, ap_bind, h]
  simp only [ap_bind, h2, ap_pure]
theorem nil_ok : (xpure ([] : List D)) e s0 = .ok [] s0 := rfl
theorem one_ok {m : XM D} {x : D} (h : m e s0 = .ok x s1) : xcons m (xpure []) e s0 = .ok [x] s1 := cons_ok h nil_ok
theorem two_ok {m m2 : XM D} {x y : D} (h : m e s0 = .ok x s1) (h2 : m2 e s1 = .ok y s2) : xcons m (xcons m2 (xpure [])) e s0 = .ok [x, y] s2 := cons_ok h (one_ok h2)
theorem call_of {f : List D → XM D} {ms : XM (List D)} {ds : List D} {r : RX D} (h : ms e s0 = .ok ds s1) (h2 : f ds e s1 = r) : xcall f ms e s0 = r := by
  rw [ap_call, h]
  exact h2
theorem op_of {f : D → D → XM D} {a b : XM D} {x y : D} {r : RX D} (h : a e s0 = .ok x s1) (h2 : b e s1 = .ok y s2) (h3 : f x y e s2 = r) : xop f a b e s0 = r := by
  rw [ap_op, ap_bind, h]
  simp only [ap_bind, h2]
  exact h3
theorem bool_of {m : XM D} {b : Bool} (h : m e s0 = .ok (.bl b) s1) : xbool m e s0 = .ok b s1 := by rw [ap_bool, h]
theorem fn_of {n : Nat} {f : DF} {ms : XM (List D)} {ds : List D} {r : RX D} (h : ms e s0 = .ok ds s1) (hl : ds.length = n) (h2 : callD f ds e s1 = r) : xfn n f ms e s0 = r := by
  rw [ap_fn, h]
  simp only [hl, if_true]
  exact h2
theorem fnK_of {n l : Nat} {ix : List Nat} {f : DF} {ms mk : XM (List D)} {ds zs : List D} {r : RX D} (h : ms e s0 = .ok ds s1) (hk : mk e s1 = .ok zs s2) (hl : ds.length = n ∧ zs.length = l) (h2 : callD f (pick .non (ds ++ zs) ix) e s2 = r) : xfnK n ix l f ms mk e s0 = r := by
  rw [ap_fnK, h]
  simp only [hk]
  rw [if_pos hl]
  exact h2
theorem tup_ok {ms : XM (List D)} {xs : List D} (h : ms e s0 = .ok xs s1) (hl : xs.length ≤ LIM) : xtup ms e s0 = .ok (.tup xs) s1 := by
  rw [ap_tup, h]
  simp only [hl, if_true]
theorem lst_ok {ms : XM (List D)} {xs : List D} (h : ms e s0 = .ok xs s1) (hl : xs.length ≤ LIM) : xlst ms e s0 = .ok (.lst xs) s1 := by
  rw [ap_lst, h]
  simp only [hl, if_true]
theorem walk_of {m : XM D} {d : D} {r : List D × Option Nat} (h : m e s0 = .ok d s1) (h2 : seqSrc s1 d = some r) : xwalk m e s0 = .ok r s1 := by
  rw [ap_walk, h]
  simp only [h2]
theorem range1_of {m : XM D} {j : Int} (h : m e s0 = .ok (.int j) s1) (hr : rngB j = true) : xrange1 m e s0 = .ok (rangeL 0 j.toNat, none) s1 := by
  rw [ap_range1, h]
  simp only [hr, if_true]
theorem comp_of {mi : XM (List D × Option Nat)} {vs : List Nat} {g : MG} {mt : XM Bool} {me : XM D} {xs ds : List D} {src : Option Nat} (hi : mi e s0 = .ok (xs, src) s1) (hc : cloop src xs g mt me (wipeE e vs) xs [] s1 = .ok ds s2) : xcomp mi vs g mt me e s0 = .ok (.lst ds) s2 := by
  rw [ap_comp, hi]
  simp only [hc]
theorem for_of {mi : XM (List D × Option Nat)} {g : MG} {b : SM} {xs : List D} {src : Option Nat} {r : RS} (hi : mi e s0 = .ok (xs, src) s1) (h : sloop src xs g b xs e s1 = r) : sfor mi g b e s0 = r := by
  rw [ap_for, hi]
  exact h
theorem if_t {c : XM Bool} {m n : XM D} {r : RX D} (h : c e s0 = .ok true s1) (h2 : m e s1 = r) : xif c m n e s0 = r := by
  rw [ap_if, h]
  exact h2
theorem if_f {c : XM Bool} {m n : XM D} {r : RX D} (h : c e s0 = .ok false s1) (h2 : n e s1 = r) : xif c m n e s0 = r := by
  rw [ap_if, h]
  exact h2
theorem drop_ok {m : XM D} {d : D} (h : m e s0 = .ok d s1) : sdrop m e s0 = .nx e s1 := by rw [ap_drop, h]
theorem asg_ok {m : XM D} {g : MG} {d : D} (h : m e s0 = .ok d s1) (h2 : g d e s1 = some (e1, s2)) : sasg m g e s0 = .nx e1 s2 := by
  rw [ap_asg, h]
  simp only [h2]
theorem seq_of {m n : SM} {r : RS} (h : m e s0 = .nx e1 s1) (h2 : n e1 s1 = r) : sseq m n e s0 = r := by
  rw [seq_nx h]
  exact h2
theorem sloop_of {src : Option Nat} {items : List D} {gt : MG} {body : SM} {x : D} {r : List D} {e2 : Nv} {o : RS} (hs : srcOk src items s0 = true) (h1 : gt x e s0 = some (e1, s1)) (h2 : body e1 s1 = .nx e2 s2) (h3 : sloop src items gt body r e2 s2 = o) : sloop src items gt body (x :: r) e s0 = o := by
  rw [sloop_cons hs h1 h2]
  exact h3
theorem while_f {c : XM Bool} {b : SM} {n : Nat} (h : c e s0 = .ok false s1) : swhile c b (n + 1) e s0 = .nx e s1 := by
  unfold swhile sbindB
  rw [h]
  rfl
theorem while_t {c : XM Bool} {b : SM} {n : Nat} {r : RS} (h : c e s0 = .ok true s1) (h2 : b e s1 = .nx e1 s2) (h3 : swhile c b n e1 s2 = r) : swhile c b (n + 1) e s0 = r := by
  unfold swhile sbindB
  rw [h]
  simp only [if_true, h2]
  exact h3
end
end LS
end
section
set_option maxRecDepth 100000
set_option maxHeartbeats 2000000
namespace LS
open PySem PySem.Spec L2
/-! ## equal with itself -/
mutual
theorem okD_py : ∀ (n : Nat) (d : D), okD n d = true → ∃ p, pyD d = some p ∧ PyData.canLay0 p = true ∧ PyData.depth p ≤ n ∧ PyData.eqv p p = true
  | 0, _, h => by simp [okD] at h
  | n + 1, .non, _ => ⟨.none, rfl, rfl, by simp [PyData.depth], by simp [PyData.eqv]⟩
  | n + 1, .bl b, _ => ⟨.bool b, rfl, rfl, by simp [PyData.depth], by simp [PyData.eqv]⟩
  | n + 1, .int i, _ => ⟨.int i, rfl, rfl, by simp [PyData.depth], by simp [PyData.eqv]⟩
  | n + 1, .str s, h => by
    have : s.cps.all (· < 0x110000) = true := by simpa [okD] using h
    exact ⟨.str s, rfl, by simp [PyData.canLay0, PyData.strOk, this], by simp [PyData.depth], by simp [PyData.eqv]⟩
  | n + 1, .tup xs, h => by
    have h' : xs.length ≤ LIM ∧ xs.all (okD n) = true := by simpa [okD] using h
    obtain ⟨ps, h1, h2, h3, h4⟩ := okDs_py n xs h'.2
    exact ⟨.tuple ps, by simp [pyD, h1], by simp [PyData.canLay0, h2], by simp [PyData.depth]; omega, by simp [PyData.eqv, h4]⟩
  | n + 1, .lst xs, h => by
    have h' : xs.length ≤ LIM ∧ xs.all (okD n) = true := by simpa [okD] using h
    obtain ⟨ps, h1, h2, h3, h4⟩ := okDs_py n xs h'.2
    exact ⟨.list ps, by simp [pyD, h1], by simp [PyData.canLay0, h2], by simp [PyData.depth]; omega, by simp [PyData.eqv, h4]⟩
  | n + 1, .ty _, h => by simp [okD] at h
  | n + 1, .glo _, h => by simp [okD] at h
  | n + 1, .sq _, h => by simp [okD] at h
  | n + 1, .ref _, h => by simp [okD] at h
  | n + 1, .tpz _, h => by simp [okD] at h
theorem okDs_py : ∀ (n : Nat) (ds : List D), ds.all (okD n) = true → ∃ ps, pyDs ds = some ps ∧ PyData.canLayAll0 ps = true ∧ PyData.depthAll ps ≤ n ∧ PyData.eqvAll ps ps = true
  | n, [], _ => ⟨[], rfl, rfl, by simp [PyData.depthAll], by simp [PyData.eqvAll]⟩
  | n, d :: ds, h => by
    have h' : okD n d = true ∧ ds.all (okD n) = true := by simpa using h
    obtain ⟨p, a1, a2, a3, a4⟩ := okD_py n d h'.1
    obtain ⟨ps, b1, b2, b3, b4⟩ := okDs_py n ds h'.2
    exact ⟨p :: ps, by simp [pyDs, a1, b1], by simp [PyData.canLayAll0, a2, b2], by simp [PyData.depthAll]; omega, by simp [PyData.eqvAll, a4, b4]⟩
end
theorem eqO_refl {n : Nat} {d : D} (st : Store) (hn : n ≤ 64) (h : okD n d = true) : eqO st d d = some true := by
  obtain ⟨p, h1, h2, h3, h4⟩ := okD_py n d h
  have hp : pyOf st d = some p := by
    cases d with
    | ref _ => cases n <;> simp [okD] at h
    | _ => exact h1
  have sh : SeqAt.shaped p = true := by
    unfold SeqAt.shaped
    rw [h2, Bool.true_and]
    exact decide_eq_true (by omega)
  unfold eqO
  simp [hp, sh, h4]
theorem okD_mono : ∀ {n : Nat} {d : D}, okD n d = true → okD (n + 1) d = true
  | 0, _, h => by simp [okD] at h
  | n + 1, d, h => by
    have all : ∀ xs : List D, xs.all (okD n) = true → xs.all (okD (n + 1)) = true := fun xs q => by
      rw [List.all_eq_true] at q ⊢
      exact fun x hx => okD_mono (q x hx)
    cases d with
    | tup xs =>
      have h' : xs.length ≤ LIM ∧ xs.all (okD n) = true := by simpa [okD] using h
      exact okD_tup h'.1 (all xs h'.2)
    | lst xs =>
      have h' : xs.length ≤ LIM ∧ xs.all (okD n) = true := by simpa [okD] using h
      exact okD_lst h'.1 (all xs h'.2)
    | str s => simpa [okD] using h
    | _ => first | rfl | (simp [okD] at h)
end LS
end
section
set_option maxRecDepth 100000
set_option maxHeartbeats 2000000
namespace LS
open PySem PySem.Spec L2
section
variable {g : Gb} {F : Fam g} {pos : Pos}
/-! ## xs.extend(ys), xs moving -/
def xextend (mo me : XM D) : XM D := xbind mo fun o => match o with
  | .ref k => fun e st => if isLst st k = true then (match me e st with
    | .ok y st' => (match st'[k]?, lstOf st' y with
      | some (.lst xs), some ys => if xs.length + ys.length ≤ LIM then .ok .non (st'.set k (.lst (xs ++ ys))) else .stuck
      | _, _ => .stuck)
    | .exc c p st' => .exc c p st'
    | .stuck => .stuck) else .stuck
  | _ => fun _ _ => .stuck
theorem je_extend {o ex : Expr} {mo me : XM D} {apos : Pos} (ho : JE F o mo) (he : JE F ex me) (h1 : ∀ env, attributeBase o "extend" env (eval o env) = eval o env := by intro _; rfl) (h2 : (apos.endLine == pos.line) = true := by rfl)
    (hst : ∀ env, starEach [ex] env = (false, eval ex env) :: starEach [] env := by intro _; rfl)
    (hfew : ∀ env, ((backTo pos (starEach [ex] env)).all (fun x => !x.1) && (backToKw pos (keywordEach [] env)).all (fun x => x.1.isSome)
      && decide ([ex].length + ([] : List Keyword).length + (if ([] : List Keyword).isEmpty then 0 else 1) < 30)) = true := by intro _; rfl) : JE F (.Call (.Attribute o "extend" apos) [ex] [] pos) (xextend mo me) := by
  obtain ⟨t, p, s⟩ := ho
  obtain ⟨te, pe, se⟩ := he
  refine ⟨fun W => tBM g.K "list" rExtend (t W) (tCons (te W) tNil), fun W X m => ?_, ?_⟩
  · have := pe_bm (cpos := pos) (apos := apos) PySem.F.plainAttrs_list PySem.F.slot_list_extend PySem.F.type_list_extend (mt_extend (X := X)) (p W X m) (pa_cons (pe W X m) pa_nil (hst _)) (h1 _) (hfew _) h2 (hst _) rfl
    rw [F.hK m] at this
    exact this
  · intro W G H as st σ e Q R N h
    refine s.one R N h fun x st1 v G1 H1 as1 R1 X1 N1 rv h1 => ?_
    cases x with
    | ref kk =>
      simp only at h1
      by_cases hk : isLst st1 kk = true
      · rw [if_pos hk] at h1
        refine ⟨ty_ref R1 rv hk, ?_⟩
        refine se W G1 H1 as1 st1 σ e _ R1 N1 ?_
        cases q2 : me e st1 with
        | stuck => simp only [q2] at h1; exact h1.elim
        | exc c p st2 => simp only [q2] at h1; exact h1
        | ok y st2 =>
          simp only [q2] at h1
          intro w G2 H2 as2 R2 X2 rw'
          have rv2 := rv.ext X2
          cases q3 : st2[kk]? with
          | none => simp [q3] at h1; exact h1.elim
          | some mo' =>
            cases mo' with
            | lst xs =>
              cases q4 : lstOf st2 y with
              | none => simp only [q3, q4] at h1; exact h1.elim
              | some ys =>
              simp only [q3, q4] at h1
              by_cases hl : xs.length + ys.length ≤ LIM
              · rw [if_pos hl] at h1
                obtain ⟨b, ws, rfl, hb, rb⟩ := lstOf_ok R2 rw' q4
                cases rv2 with
                | ref qa =>
                  rename_i a
                  obtain ⟨ho', e1, oo⟩ := R2.at_ qa q3
                  cases oo with
                  | lst rr =>
                    rename_i vs
                    obtain ⟨R3, X3⟩ := R2.change (o := .lst (vs ++ ws)) (m := .lst (xs ++ ys)) qa (.lst (rr.append rb)) (fun u kvs z => by rw [e1] at z; cases z)
                    exact ⟨a, b, vs, ws, rfl, rfl, e1, hb, by rw [rr.len, rb.len]; exact lim_le hl, h1 _ _ _ _ R3 (X2.trans X3) .non⟩
              · rw [if_neg hl] at h1; exact h1.elim
            | _ => simp [q3] at h1; exact h1.elim
      · rw [if_neg hk] at h1; exact h1.elim
    | _ => exact h1.elim
/-! ## xs * n: a new list that moves -/
theorem rep_rpa {K : PySem.W.Frag} {mg : Str → Option Value} {G : Hp} {as : List Addr} {vs : List V} {ds : List D} (r : RpA K mg G as vs ds) : ∀ n, RpA K mg G as (List.replicate n vs).flatten (List.replicate n ds).flatten
  | 0 => .nil
  | n + 1 => by
    rw [List.replicate_succ, List.replicate_succ, List.flatten_cons, List.flatten_cons]
    exact r.append (rep_rpa r n)
def repMD (x y : D) : XM D := fun _ st => match lstOf st x, y with
  | some xs, .int k => if -(2 ^ 63) ≤ k ∧ k < 2 ^ 63 ∧ xs.length * k.toNat ≤ LIM then .ok (.ref st.length) (st ++ [.lst (List.replicate k.toNat xs).flatten]) else .stuck
  | _, _ => .stuck
theorem os_repM : OpS F (binaryOp .Mult) repMD := by
  refine ⟨rRep, fun W X m => op_rep, ?_⟩
  intro W G H as st σ e x y v w Q R rx ry h
  unfold repMD at h
  cases e1 : lstOf st x with
  | none => simp only [e1] at h; exact h.elim
  | some xs =>
    cases y with
    | int k =>
      simp only [e1] at h
      by_cases hl : -(2 ^ 63) ≤ k ∧ k < 2 ^ 63 ∧ xs.length * k.toNat ≤ LIM
      · rw [if_pos hl] at h
        obtain ⟨a, vs, rfl, h1, r1⟩ := lstOf_ok R rx e1
        cases ry
        refine ⟨a, k, vs, rfl, rfl, h1, hl.1, hl.2.1, by rw [r1.len]; exact lim_le hl.2.2, fun p hp => ?_⟩
        obtain ⟨R', x'⟩ := R.moving (o := .lst (List.replicate k.toNat vs).flatten) (m := .lst (List.replicate k.toNat xs).flatten) hp (.lst (rep_rpa r1 _))
        refine h _ _ _ _ R' x' (.ref ?_)
        rw [← R.len, List.getElem?_append_right (Nat.le_refl _), Nat.sub_self]; rfl
      · rw [if_neg hl] at h; exact h.elim
    | _ => simp only [e1] at h; exact h.elim
/-! ## t + u, tuples without a dict of their own -/
def rCatZ : R2 := fun x y H Q => ∃ a b o1 o2 xs ys, x = .ref a ∧ y = .ref b ∧ H a = some (.frz o1 (.tup xs)) ∧ H b = some (.frz o2 (.tup ys)) ∧ xs.length + ys.length ≤ sizeLine ∧
  (xs = [] → Q (.ref b) H) ∧ (xs ≠ [] → ys = [] → Q (.ref a) H) ∧ (xs ≠ [] → ys ≠ [] → ∀ p ob, H p = none → ob.dict = none → Q (.ref p) (upd H p (.frz ob (.tup (xs ++ ys)))))
theorem op_catZ {X : Cx} : OpR X (binaryOp .Add) rCatZ := by
  intro pins s σ H x y v u Q I rx ry h
  obtain ⟨a, b, o1, o2, xs, ys, rfl, rfl, ha, hb, hz, q0, q1, q2⟩ := h
  cases rx
  cases ry
  obtain ⟨its, r1, p1, _⟩ := I.tuple (xs := xs) (show SqT X.K H a xs from .inl (.inr ⟨_, ha⟩))
  obtain ⟨its2, r2, p2, _⟩ := I.tuple (xs := ys) (show SqT X.K H b ys from .inl (.inr ⟨_, hb⟩))
  by_cases hx : xs = []
  · subst hx
    cases r1
    exact cat_tup0 p1 p2 ⟨.ref b, H, I, rfl, q0 rfl⟩
  · refine HT.cat_tup p1 p2 (fun z => hx (r1.nil_iff.mp z)) (fun z => ⟨.ref a, H, I, rfl, q1 hx (r2.nil_iff.mp z)⟩) (fun z => ?_) (by rw [← r1.length, ← r2.length]; exact hz)
    refine ⟨.ref s.heap.objs.size, _, I.laid (t' := s.toks) (o := .frz { cls := .type "tuple", data := .seq (its ++ its2).toArray } (.tup (xs ++ ys))) (fun b ob q => Heap.get?_push_of_some _ q) (Nat.le_refl _) ?_, rfl, q2 hx (fun w => z (r2.nil_iff.mpr w)) _ _ (I.hok.fresh (Nat.le_refl _)) rfl⟩
    exact ⟨Heap.get?_push_size _ rfl, by rw [List.length_append]; exact hz, _, r1.append r2, ⟨_, Heap.get?_push_size _ rfl, rfl, _, rfl⟩⟩
def addZD (x y : D) : XM D := fun _ st => match x, y with
  | .tpz xs, .tpz ys => if xs.length + ys.length ≤ LIM then .ok (.tpz (xs ++ ys)) st else .stuck
  | _, _ => .stuck
theorem os_addZ : OpS F (binaryOp .Add) addZD := by
  refine ⟨rCatZ, fun W X m => op_catZ, ?_⟩
  intro W G H as st σ e x y v w Q R rx ry h
  unfold addZD at h
  split at h
  · rename_i xs ys
    by_cases hl : xs.length + ys.length ≤ LIM
    · rw [if_pos hl] at h
      cases rx with
      | tpz s1 z1 r1 =>
        cases ry with
        | tpz s2 z2 r2 =>
          rename_i a o1 vs b o2 ws
          refine ⟨a, b, o1, o2, vs, ws, rfl, rfl, R.sub _ _ s1, R.sub _ _ s2, by rw [r1.len, r2.len]; exact lim_le hl, fun z => ?_, fun _ z => ?_, fun _ _ p ob hp hd => ?_⟩
          · subst z; cases r1
            exact h.pure R (.tpz s2 z2 r2)
          · subst z; cases r2
            rw [List.append_nil] at h
            exact h.pure R (.tpz s1 z1 r1)
          · obtain ⟨R', x'⟩ := R.still (o := .frz ob (.tup (vs ++ ws))) hp
            exact h _ _ _ _ R' x' (.tpz upd_same hd ((r1.append r2).ext x'))
    · rw [if_neg hl] at h; exact h.elim
  · exact h.elim
end
/-! ## t[::-1] of a tuple -/
section
variable {prog : Program} {w : World} {A : Around} {E : Value → Shared → Prop} {s : Shared}
open PyProof.Rows HT
theorem rev_pick (items : Array Value) : ((List.range items.size).filterMap fun (k : Nat) => items[(((items.size : Int) - 1) + (k : Int) * (-1)).toNat]?) = items.toList.reverse := by
  have e : (fun (k : Nat) => items[(((items.size : Int) - 1) + (k : Int) * (-1)).toNat]?) = (items[·]?) ∘ fun k => items.size - 1 - k := by
    funext k
    have : (((items.size : Int) - 1) + (k : Int) * (-1)).toNat = items.size - 1 - k := by omega
    rw [this]; rfl
  rw [e, ← List.filterMap_map, PySem.W.krv_range, List.filterMap_reverse, PySem.W.krv_all]
theorem places_rev (n : Nat) : Builtin.Slice.slicePlaces ((n : Int) - 1) (-1) (-1) = n := by
  unfold Builtin.Slice.slicePlaces
  have h1 : ¬ ((-1 : Int) > 0) := by decide
  simp only [h1, if_false]
  rw [show (- -1 : Int) = 1 by decide, Int.ediv_one]
  split <;> omega
theorem getItem_tuple_rev {t sl : Addr} {items : Array Value} {vk : Value} {Q : Value → Shared → Prop} (ht : IsTup s.heap t items) (hs : s.heap.IsSliceOf sl .none .none vk) (pk : IsPart vk (some (-1)))
    (h : Q (.ref s.heap.objs.size) { s with heap := s.heap.push { cls := .type "tuple", data := .seq items.toList.reverse.toArray } })
    (hsz : items.size ≤ sizeLine) : wpAny (model prog w) A (getItem (.ref t) (.ref sl)) Q E s := by
  obtain ⟨os, hos, hcs, hds⟩ := id hs
  have hTs : s.TypeIs (.ref sl) "slice" := ⟨os, hos, hcs⟩
  have htake : sizeOk (.seq items.toList.reverse.toArray) := by
    show items.toList.reverse.toArray.size ≤ sizeLine
    rw [List.size_toArray, List.length_reverse, Array.length_toList]
    exact hsz
  unfold getItem
  try with_reducible refine wpAny_holding ?_
  first | refine wpAny_bind (wpAny_pure ?_) | skip
  refine wpAny_bind (wpAny_sequenceKey ht.typeIs (by decide) ?_)
  refine wpAny_bind (wpAny_callSpecial?_slot (name := Str.ofString "__getitem__") ht.typeIs PyProof.Rows.slot_tuple_getitem
    (wpAny_call_entry PyProof.Rows.slot_tuple_getitem ht.typeIs entry_tuple_getitem ?_ (args_tuple_getitem _ _)))
  show wpAny _ _ (Builtin.Tuple.tupleItemsOf (.ref t) >>= _) _ _ s
  refine wpAny_bind (tupleItemsOf_ ht ?_)
  refine wpAny_bind (wpAny_typeOf hTs ?_)
  rw [if_pos (by decide)]
  refine wpAny_bind ?_
  unfold Builtin.Slice.sliceApplied Builtin.Slice.sliceFields
  refine wpAny_bind (wpAny_bind (wpAny_field hos hds (x := .none) rfl (wpAny_bind (wpAny_field hos hds (x := .none) rfl (wpAny_bind (wpAny_field hos hds (x := vk) rfl (wpAny_pure ?_)))))))
  refine wpAny_bind (slicePart_ pk ?_)
  show wpAny _ _ (if ((-1 : Int) == 0) = true then _ else _) _ _ s
  rw [if_neg (by decide)]
  refine wpAny_bind (slicePart_none (wpAny_bind (slicePart_none (wpAny_bind (wpAny_pure ?_)))))
  show wpAny _ _ (pure (((items.size : Int) - 1), (-1 : Int), Builtin.Slice.slicePlaces ((items.size : Int) - 1) (-1) (-1))) _ _ s
  rw [places_rev]
  refine wpAny_pure ?_
  have hno : ¬ ((((items.size : Int) - 1 == 0 && (-1 : Int) == 1 && items.size == items.size)) = true) := by
    intro q
    rw [Bool.and_eq_true, Bool.and_eq_true] at q
    exact absurd q.1.2 (by decide)
  show wpAny _ _ (if ((items.size : Int) - 1 == 0 && (-1 : Int) == 1 && items.size == items.size) = true then _ else _) _ _ s
  rw [if_neg hno, rev_pick]
  first
    | exact wpAny_bind (m := Builtin.Tuple.tupleExact _) (wpAny_newObj_type (wpAny_pure ⟨_, rfl, wpAny_pure h⟩) htake)
    | exact wpAny_bind (m := Builtin.Tuple.tupleExact _) (wpAny_newObj_type (wpAny_bind (wpAny_pure (wpAny_pure ⟨_, rfl, wpAny_pure h⟩))) htake)
    | exact wpAny_bind (wpAny_bind (m := Builtin.Tuple.tupleExact _) (wpAny_newObj_type (wpAny_pure (wpAny_pure ⟨_, rfl, wpAny_pure h⟩)) htake))
    | exact wpAny_bind (wpAny_bind (m := Builtin.Tuple.tupleExact _) (wpAny_newObj_type (wpAny_pure ⟨_, rfl, wpAny_pure h⟩) htake))
def tRevA (K : PySem.W.Frag) (te : TE) : TE := fun σ H Q => te σ H fun x H1 => ∃ a xs, x = .ref a ∧ ((SqL K H1 a xs ∧ ∀ p, H1 p = none → Q (.ref p) (upd H1 p (.lst xs.reverse))) ∨ (SqT K H1 a xs ∧ ∀ p, H1 p = none → Q (.ref p) (upd H1 p (.tup xs.reverse))))
theorem pe_revA {X : Cx} {e : Expr} {te : TE} {k : Nat} {p1 p2 p3 pos : Pos} (he : PE X e te) : PE X (.Subscript e (.Slice none none (some (.UnaryOp .USub (.Constant (.int 1) k p1) p2)) p3) pos) (tRevA X.K te) := by
  refine ⟨fun pins s σ H Q I h => ?_⟩
  refine Subscript_ (thn (he.run pins s σ H _ I h) fun v s1 ⟨x, H1, I1, r1, q1⟩ => ?_)
  obtain ⟨a, xs, ex, hx⟩ := q1
  subst ex
  cases r1
  have hst : PO X (some (.UnaryOp .USub (.Constant (.int 1) k p1) p2)) (tPart (tUn (rU fun i => .int (-i)) (tC (.int 1)))) := po_some (pe_un un_neg pe_int)
  refine wpAny_Slice (thn (po_none.run pins s1 σ H1 (fun o H2 => o = none ∧ H2 = H1) I1 ⟨rfl, rfl⟩) fun vl s2 ⟨l, H2, I2, pl, el, e2⟩ => ?_)
  subst el e2
  refine thn (po_none.run pins s2 σ H2 (fun o H3 => o = none ∧ H3 = H2) I2 ⟨rfl, rfl⟩) fun vu s3 ⟨u, H3, I3, pu, eu, e3⟩ => ?_
  subst eu e3
  refine thn (hst.run pins s3 σ H3 (fun o H4 => o = some (-1) ∧ H4 = H3) I3 ⟨1, rfl, -1, rfl, rfl, rfl⟩) fun vs s4 ⟨o, H4, I4, ps, eo, e4⟩ => ?_
  subst eo e4
  have I5 : Inv X pins σ H4 { s4 with heap := s4.heap.push { cls := .type "slice", data := .fields #[vl, vu, vs] } } := I4.kept (t' := s4.toks) fun b ob q => Heap.get?_push_of_some _ q
  show wpAny (model X.prog X.w) X.A (subscriptTail e (.Slice none none (some (.UnaryOp .USub (.Constant (.int 1) k p1) p2)) p3) (.ref a) (.ref s4.heap.objs.size)) (EP X pins σ Q) X.xe { s4 with heap := s4.heap.push { cls := .type "slice", data := .fields #[vl, vu, vs] } }
  rcases hx with ⟨hx, q⟩ | ⟨hx, q⟩
  · obtain ⟨its, r, ht, hz⟩ := I5.list hx
    have hlen := r.length
    refine tail_any (ops := [.ref a, .ref s4.heap.objs.size]) ht.isList.typeIs (PySem.slot_list_getitem.lookup) ?_ (by with_unfolding_all rfl)
    refine wpAny_getItem_list_slice ht.isList (Heap.IsSliceOf.new _ vl vu vs) pl pu ps (by decide) ?_ (by rw [List.size_toArray]; omega)
    rw [PySem.W.krv_pick]
    refine ⟨.ref _, _, I5.laid (t' := s4.toks) (o := .lst xs.reverse) (fun b ob q => Heap.get?_push_of_some _ q) (Nat.le_refl _) ?_, rfl, q _ (I5.hok.fresh (Nat.le_refl _))⟩
    exact ⟨by rw [List.length_reverse]; exact hz, _, 0, r.reverse, Heap.get?_push_size _ rfl⟩
  · obtain ⟨its, r, ht, hz⟩ := I5.tuple hx
    have hlen := r.length
    refine tail_any (ops := [.ref a, .ref s4.heap.objs.size]) ht.typeIs (PyProof.Rows.slot_tuple_getitem.lookup) ?_ (by with_unfolding_all rfl)
    cases pl
    cases pu
    refine getItem_tuple_rev ht (Heap.IsSliceOf.new _ _ _ vs) ps ?_ (by rw [List.size_toArray]; omega)
    refine ⟨.ref _, _, I5.laid (t' := s4.toks) (o := .tup xs.reverse) (fun b ob q => Heap.get?_push_of_some _ q) (Nat.le_refl _) ?_, rfl, q _ (I5.hok.fresh (Nat.le_refl _))⟩
    exact ⟨by rw [List.length_reverse]; exact hz, _, r.reverse, ⟨_, Heap.get?_push_size _ rfl, rfl, 0, rfl⟩⟩
end
section
variable {g : Gb} {F : Fam g} {pos : Pos}
def xrevA (m : XM D) : XM D := xbind m fun x => fun _ st => match x with
  | .tup xs => .ok (.tup xs.reverse) st
  | x => match listOf st x with
    | some xs => .ok (.lst xs.reverse) st
    | none => .stuck
theorem je_revA {ex : Expr} {m : XM D} {k : Nat} {p1 p2 p3 : Pos} (h : JE F ex m) : JE F (.Subscript ex (.Slice none none (some (.UnaryOp .USub (.Constant (.int 1) k p1) p2)) p3) pos) (xrevA m) := by
  obtain ⟨t, p, s⟩ := h
  refine ⟨fun W => tRevA g.K (t W), fun W X mm => by have := pe_revA (pos := pos) (k := k) (p1 := p1) (p2 := p2) (p3 := p3) (p W X mm); rw [F.hK mm] at this; exact this, ?_⟩
  intro W G H as st σ e Q R N h
  refine s.one R N h fun x st1 v G1 H1 as1 R1 X1 N1 rv h1 => ?_
  have low : PX g.K g.mg W G1 H1 as1 σ (match listOf st1 x with | some xs => .ok (.lst xs.reverse) st1 | none => .stuck) Q → ∃ a xs, v = .ref a ∧ ((SqL g.K H1 a xs ∧ ∀ p, H1 p = none → Q (.ref p) (upd H1 p (.lst xs.reverse))) ∨ (SqT g.K H1 a xs ∧ ∀ p, H1 p = none → Q (.ref p) (upd H1 p (.tup xs.reverse)))) := by
    intro h2
    cases q2 : listOf st1 x with
    | none => simp only [q2] at h2; exact h2.elim
    | some xs =>
      simp only [q2] at h2
      obtain ⟨a, vs, e1, s1, r1⟩ := listOf_ok R1 rv q2
      refine ⟨a, vs, e1, .inl ⟨s1, fun p hp => ?_⟩⟩
      obtain ⟨R', x'⟩ := R1.still (o := .lst vs.reverse) hp
      exact h2 _ _ _ _ R' x' (.lst upd_same (r1.reverse.ext x'))
  cases rv with
  | tup s1 r1 =>
    rename_i a vs xs
    refine ⟨a, vs, rfl, .inr ⟨sqT_H R1 s1, fun p hp => ?_⟩⟩
    obtain ⟨R', x'⟩ := R1.still (o := .tup vs.reverse) hp
    exact h1 _ _ _ _ R' x' (.tup (.of upd_same) (r1.reverse.ext x'))
  | _ => exact low h1
end
/-! ## name = [..], the list moving, the name a local -/
section
variable {g : Gb} {F : Fam g} {pos : Pos}
theorem js_setLcM (i : Nat) {y : Str} {py spos : Pos} {elt tg iter : Expr} {ifs : List Expr} {scope : Scope} (own : List (Str × Nat)) {mi : XM (List D × Option Nat)} {gt : MG} {mt : XM Bool} {me : XM D} (hy : F.N[i]? = some y) (hyl : F.sc.names.lookup y = some .local) (hk : F.sc.kind = .function) (hl : (py.line == pos.line) = true)
    (hna : (scope.names.any fun (n, k) => n == y && (k == .local || k == .cell)) = false) (hi : JI F tg iter mi) (ok : blkC F.N F.sc scope own = true) (hg : JC (famC F scope) (own.map (·.2)) tg gt)
    (ht : JTs (famC F scope) ifs mt) (he : JE (famC F scope) elt me) (hs : ∀ env x, foldedSetIterable iter env x = pure x := by intro _ _; rfl) :
    JS F (.Assign [.Name y py] (.ListComp elt [⟨tg, iter, ifs, 0⟩] scope pos) spos) (sset i (xcompM mi (own.map (·.2)) gt mt me)) := by
  obtain ⟨wi, pi, si⟩ := hi
  obtain ⟨tg', pg', sg'⟩ := hg
  obtain ⟨tt, pt, stt⟩ := ht
  obtain ⟨te, pe, se⟩ := he
  refine ⟨fun W => tAsg (tLc (wi W) tg' (tt W0) (te W0) (own.map (·.2))) (gName i), fun W X m => ?_, ?_⟩
  · have hm : ∀ (s : Shared) (H : Hp) (C : Addr) (cl : List (Str × Addr)) (fp : List Addr), (famC F scope).mem W0 (X.blk s H scope (compEnvC scope cl C X.env) fp) := fun s H C cl fp => ⟨rfl, W, X, s, H, C, cl, fp, m, rfl⟩
    exact ps_setLc (F.calm m) (by rw [F.hN m]; exact F.nd) (by rw [F.hN m]; exact hy) (by rw [F.hsc m]; exact hyl) (sw_true (by rw [F.hsc m]; exact hk) (by rw [F.hsc m]; exact hyl) hl hna) (pi W X m) (by rw [F.hN m, F.hsc m]; exact blkOk_by ok)
      (fun s H C cl fp => pg' _ _ (hm s H C cl fp)) (fun s H C cl fp => pt _ _ (hm s H C cl fp)) (fun s H C cl fp => pe _ _ (hm s H C cl fp)) (hs _)
  · intro W G H as st σ e E R N h
    have h' : PX g.K g.mg W G H as σ (xcompM mi (own.map (·.2)) gt mt me e st) (fun x H1 => gName i x σ H1 E.nx) := by
      unfold sset sbind at h
      cases q : xcompM mi (own.map (·.2)) gt mt me e st with
      | stuck => rw [q] at h; exact h
      | exc c p st1 => rw [q] at h; exact fun cls d G1 H1 as1 R1 X1 x => h σ cls d G1 H1 as1 R1 (N.ext X1) X1 x
      | ok d st1 => rw [q] at h; exact fun v G1 H1 as1 R1 X1 rv => h _ G1 H1 as1 R1 ((N.ext X1).set i rv) X1
    refine comp_read si sg' stt se W G H as st σ e _ R N (fun ds st' => .ok (.ref st'.length) (st' ++ [.lst ds])) ?_ ?_
    · refine Eq.mp (congrArg (fun r => PX g.K g.mg W G H as σ r _) ?_) h'
      unfold xcompM xbind
      cases xcompL mi (own.map (·.2)) gt mt me e st <;> rfl
    · intro ds st' G1 H1 as1 G2 H2 as2 us p R1 ru hp gn na X1 hn hq
      refine hq _ _ H1 _ (R1.adopt hp gn na (.lst ru)) (X1.adopt hn) (.ref ?_)
      rw [← R1.len, List.getElem?_append_right (Nat.le_refl _), Nat.sub_self]; rfl
end
end LS
end
section
set_option maxRecDepth 100000
set_option maxHeartbeats 2000000
namespace LS
open PySem PySem.Spec L2
section
variable {g : Gb} {F : Fam g} {e : Nv} {st : Store}
/-! ## is, is not of truths -/
def isBD (x y : D) : XM D := fun _ st => match x, y with
  | .bl a, .bl b => .ok (.bl (decide (a = b))) st
  | _, _ => .stuck
def isntBD (x y : D) : XM D := fun _ st => match x, y with
  | .bl a, .bl b => .ok (.bl (!decide (a = b))) st
  | _, _ => .stuck
theorem os_isB : OpS F (compareOp .Is) isBD := by
  refine ⟨rIsB, fun W X m => op_isBl, ?_⟩
  intro W G H as st σ e x y v w Q R rx ry h
  unfold isBD at h
  split at h
  · cases rx; cases ry
    exact ⟨_, _, rfl, rfl, h.pure R (.bl _)⟩
  · exact h.elim
theorem os_isntB : OpS F (compareOp .IsNot) isntBD := by
  refine ⟨rNotB, fun W X m => op_notBl, ?_⟩
  intro W G H as st σ e x y v w Q R rx ry h
  unfold isntBD at h
  split at h
  · cases rx; cases ry
    exact ⟨_, _, rfl, rfl, h.pure R (.bl _)⟩
  · exact h.elim
@[simp] theorem isB_ap (a b : Bool) : isBD (.bl a) (.bl b) e st = .ok (.bl (decide (a = b))) st := rfl
@[simp] theorem isntB_ap (a b : Bool) : isntBD (.bl a) (.bl b) e st = .ok (.bl (!decide (a = b))) st := rfl
end
end LS
end
section
set_option maxRecDepth 100000
namespace CY
/-! ## rows turned: plain laws -/
/-- the sums from one on -/
def sm : Int → List Int → List Int
  | s, [] => [s]
  | s, n :: r => s :: sm (s + n) r
theorem sm_len : ∀ (s : Int) (l : List Int), (sm s l).length = l.length + 1
  | _, [] => rfl
  | s, n :: r => by simp [sm, sm_len (s + n) r]
theorem sm_ne (s : Int) (l : List Int) : sm s l ≠ [] := by
  intro h
  have := sm_len s l
  rw [h] at this
  simp at this
theorem sm_head (s : Int) (l : List Int) : ∃ t, sm s l = s :: t := by cases l <;> exact ⟨_, rfl⟩
theorem sm_last : ∀ (s : Int) (l : List Int), (sm s l).getLast? = some (s + l.sum)
  | s, [] => by simp [sm]
  | s, n :: r => by
    obtain ⟨t, ht⟩ := sm_head (s + n) r
    have := sm_last (s + n) r
    rw [ht] at this
    simp only [sm, ht, List.getLast?_cons_cons, List.sum_cons]
    rw [this]
    congr 1
    omega
/-- the lowest sum from 0 -/
def low : List Int → Int
  | [] => 0
  | n :: r => min 0 (n + low r)
theorem low_le0 : ∀ l : List Int, low l ≤ 0
  | [] => Int.le_refl _
  | n :: r => by simp only [low]; omega
theorem low_sum : ∀ l : List Int, low l ≤ l.sum
  | [] => Int.le_refl _
  | n :: r => by
    have := low_sum r
    simp only [low, List.sum_cons]
    omega
theorem low_app : ∀ (a b : List Int), low (a ++ b) = min (low a) (a.sum + low b)
  | [], b => by
    have := low_le0 b
    simp only [low, List.nil_append, List.sum_nil]
    omega
  | n :: r, b => by
    have := low_app r b
    simp only [List.cons_append, low, this, List.sum_cons]
    omega
theorem low_ge : ∀ (s : Int) (l : List Int), ∀ x ∈ sm s l, s + low l ≤ x
  | s, [], x, h => by simp [sm, low] at h ⊢; omega
  | s, n :: r, x, h => by
    simp only [sm, List.mem_cons] at h
    simp only [low]
    rcases h with rfl | h
    · omega
    · have := low_ge (s + n) r x h
      omega
theorem low_in : ∀ (s : Int) (l : List Int), s + low l ∈ sm s l
  | s, [] => by simp [sm, low]
  | s, n :: r => by
    have := low_in (s + n) r
    simp only [low, sm, List.mem_cons]
    by_cases h : n + low r ≤ 0
    · right
      rw [show s + min 0 (n + low r) = s + n + low r by omega]
      exact this
    · left
      omega
/-- the lowest sum behind a number -/
def mu : List Int → Int
  | [] => 0
  | n :: r => n + low r
def ld (l : List Int) : Bool := decide (0 < mu l)
theorem mu_app1 (a : Int) : ∀ r : List Int, mu (r ++ [a]) = if r = [] then a else min (mu r) (r.sum + a)
  | [] => by simp [mu, low]
  | b :: r => by
    have := low_app r [a]
    simp only [List.cons_append, mu, this, low, List.sum_cons]
    simp
    have := low_sum r
    omega
theorem mu_le_sum : ∀ l : List Int, mu l ≤ l.sum
  | [] => Int.le_refl _
  | n :: r => by have := low_sum r; simp only [mu, List.sum_cons]; omega
def b2i (b : Bool) : Int := if b then 1 else 0
theorem step (a : Int) (r : List Int) (h1 : ∀ x ∈ a :: r, x ≤ 1) (ht : 0 < a + r.sum) : mu (r ++ [a]) - mu (a :: r) + a = b2i (ld (r ++ [a])) := by
  have ha := h1 a (by simp)
  unfold ld b2i
  rw [mu_app1]
  cases r with
  | nil =>
    simp [mu, low] at ht ⊢
    have : a = 1 := by omega
    subst this
    decide
  | cons b r' =>
    have hb := h1 b (by simp)
    have hl := low_le0 r'
    simp only [List.sum_cons] at ht
    simp only [mu, low, List.sum_cons]
    simp
    split <;> omega
/-- how many of the rows that follow, of those, lead -/
def cN : List Int → List Int → Int
  | [], _ => 0
  | a :: q, p => b2i (ld (q ++ (p ++ [a]))) + cN q (p ++ [a])
def cC : List Int → List Int → Int
  | [], _ => 0
  | a :: q, p => b2i (ld (a :: q ++ p)) + cC q (p ++ [a])
theorem cN_sum : ∀ (q p : List Int), (∀ x ∈ q ++ p, x ≤ 1) → 0 < (q ++ p).sum → cN q p = mu (p ++ q) - mu (q ++ p) + q.sum
  | [], p, _, _ => by simp [cN]
  | a :: q, p, h1, ht => by
    have e : q ++ (p ++ [a]) = (q ++ p) ++ [a] := by simp
    have s1 := step a (q ++ p) h1 (by simpa using ht)
    have ih := cN_sum q (p ++ [a]) (fun x hx => h1 x (by simp at hx ⊢; rcases hx with h | h | h <;> simp [h])) (by simp at ht ⊢; omega)
    rw [cN, ih, e]
    have e2 : p ++ [a] ++ q = p ++ a :: q := by simp
    rw [e2]
    rw [← s1]
    simp only [List.cons_append, List.sum_cons]
    omega
theorem cC_cN : ∀ (q p : List Int), cC q p + b2i (ld (p ++ q)) = b2i (ld (q ++ p)) + cN q p
  | [], p => by simp [cC, cN]
  | a :: q, p => by
    have ih := cC_cN q (p ++ [a])
    rw [cC, cN]
    have e2 : p ++ [a] ++ q = p ++ a :: q := by simp
    rw [e2] at ih
    have e3 : q ++ (p ++ [a]) = q ++ p ++ [a] := by simp
    simp only [List.cons_append] at *
    omega
def turn (l : List Int) (k : Nat) : List Int := l.drop k ++ l.take k
theorem turn_len (l : List Int) {k : Nat} : (turn l k).length = l.length := by simp [turn]; omega
theorem turn_mem {l : List Int} {k : Nat} {x : Int} (h : x ∈ turn l k) : x ∈ l := by
  rcases List.mem_append.mp h with h | h
  · exact List.mem_of_mem_drop h
  · exact List.mem_of_mem_take h
theorem turn_sum (l : List Int) (k : Nat) : (turn l k).sum = l.sum := by
  have : (l.take k ++ l.drop k).sum = l.sum := by rw [List.take_append_drop]
  rw [List.sum_append] at this
  rw [turn, List.sum_append]
  omega
def leadT (l : List Int) : List Nat := (List.range l.length).filter fun k => ld (turn l k)
theorem cC_filter : ∀ (q p : List Int), (((List.range q.length).filter fun k => ld (q.drop k ++ (p ++ q.take k))).length : Int) = cC q p
  | [], p => by simp [cC]
  | a :: q, p => by
    have ih := cC_filter q (p ++ [a])
    rw [List.length_cons, List.range_succ_eq_map, List.filter_cons, cC]
    have e : ((List.map Nat.succ (List.range q.length)).filter fun k => ld ((a :: q).drop k ++ (p ++ (a :: q).take k))).length = ((List.range q.length).filter fun k => ld (q.drop k ++ (p ++ [a] ++ q.take k))).length := by
      rw [List.filter_map, List.length_map]
      congr 2
      funext k
      simp
    simp only [List.drop_zero, List.take_zero, List.append_nil]
    split
    · rename_i h
      rw [List.length_cons, e]
      simp only [List.cons_append] at h
      simp only [List.cons_append, b2i, h, if_true]
      omega
    · rename_i h
      rw [e, ih]
      simp only [List.cons_append] at h
      simp only [List.cons_append, b2i, h]
      simp
/-- the lemma of turnings -/
theorem leadT_count (l : List Int) (h1 : ∀ x ∈ l, x ≤ 1) (ht : 0 < l.sum) : ((leadT l).length : Int) = l.sum := by
  have a := cC_filter l []
  have b := cC_cN l []
  have c := cN_sum l [] (by simpa using h1) (by simpa using ht)
  simp only [List.append_nil, List.nil_append] at a b c
  rw [show (leadT l).length = ((List.range l.length).filter fun k => ld (l.drop k ++ l.take k)).length from rfl, a]
  omega
/-- a place behind which all is above -/
theorem split_low : ∀ l : List Int, ∃ p q, l = p ++ q ∧ low p = p.sum ∧ low q = 0 ∧ (q = [] ∨ 0 < mu q)
  | [] => ⟨[], [], rfl, rfl, rfl, .inl rfl⟩
  | a :: r => by
    obtain ⟨p, q, e, h1, h2, h3⟩ := split_low r
    by_cases h : a + p.sum ≤ 0
    · refine ⟨a :: p, q, by rw [e]; rfl, ?_, h2, h3⟩
      simp only [low, List.sum_cons]
      omega
    · refine ⟨[], a :: r, rfl, rfl, ?_, .inr ?_⟩
      · rw [e, low, low_app]
        omega
      · rw [e, mu, low_app]
        omega
theorem turn_split (p q : List Int) : turn (p ++ q) p.length = q ++ p := by simp [turn]
theorem ex_lead (l : List Int) : leadT l ≠ [] ↔ 0 < l.sum := by
  constructor
  · intro h
    cases hl : leadT l with
    | nil => exact absurd hl h
    | cons k t =>
      have : k ∈ leadT l := by rw [hl]; simp
      have := (List.mem_filter.mp this).2
      have h2 := mu_le_sum (turn l k)
      rw [turn_sum] at h2
      simp [ld] at this
      omega
  · intro h
    obtain ⟨p, q, e, h1, h2, h3⟩ := split_low l
    have hq : q ≠ [] := by
      intro hq
      subst hq
      have := low_le0 p
      rw [e] at h
      simp at h
      omega
    have h4 : 0 < mu q := h3.resolve_left hq
    have hm : p.length ∈ leadT l := by
      refine List.mem_filter.mpr ⟨?_, ?_⟩
      · rw [List.mem_range, e, List.length_append]
        have := List.length_pos_iff.mpr hq
        omega
      · rw [e, turn_split]
        cases q with
        | nil => exact absurd rfl hq
        | cons b q' =>
          rw [e] at h
          simp only [List.sum_append, List.sum_cons] at h
          simp only [ld, List.cons_append, mu, low_app, h1] at *
          simp
          omega
    intro z
    rw [z] at hm
    simp at hm
def standT (l : List Int) : List Nat := (List.range l.length).filter fun k => decide (0 ≤ low (turn l k))
theorem ex_stand (l : List Int) (hl : l ≠ []) : standT l ≠ [] ↔ 0 ≤ l.sum := by
  constructor
  · intro h
    cases hs : standT l with
    | nil => exact absurd hs h
    | cons k t =>
      have : k ∈ standT l := by rw [hs]; simp
      have := (List.mem_filter.mp this).2
      have h2 := low_sum (turn l k)
      rw [turn_sum] at h2
      simp at this
      omega
  · intro h
    obtain ⟨p, q, e, h1, h2, h3⟩ := split_low l
    have ex : ∃ k, k < l.length ∧ 0 ≤ low (turn l k) := by
      by_cases hq : q = []
      · subst hq
        refine ⟨0, List.length_pos_iff.mpr hl, ?_⟩
        rw [List.append_nil] at e
        subst e
        simp [turn]
        omega
      · refine ⟨p.length, ?_, ?_⟩
        · rw [e, List.length_append]
          have := List.length_pos_iff.mpr hq
          omega
        · rw [e, turn_split, low_app, h2, h1]
          rw [e, List.sum_append] at h
          omega
    obtain ⟨k, hk, h5⟩ := ex
    intro z
    have hm : k ∈ standT l := List.mem_filter.mpr ⟨List.mem_range.mpr hk, by simpa using h5⟩
    rw [z] at hm
    simp at hm
/-! ## rows of trees -/
def trB (l : List Int) : Bool := (sm 0 l).dropLast.all fun x => decide (0 ≤ x)
theorem sm_app : ∀ (s : Int) (a b : List Int), sm s (a ++ b) = (sm s a).dropLast ++ sm (s + a.sum) b
  | s, [], b => by simp [sm]
  | s, n :: r, b => by
    obtain ⟨t, ht⟩ := sm_head (s + n) r
    have ih := sm_app (s + n) r b
    rw [List.cons_append, sm, ih, sm, List.dropLast_cons_of_ne_nil (sm_ne _ _)]
    simp only [List.cons_append, List.sum_cons]
    rw [show s + n + r.sum = s + (n + r.sum) by omega]
theorem tr_part (a b : List Int) (hb : b ≠ []) (h : trB (a ++ b) = true) : 0 ≤ a.sum := by
  unfold trB at h
  rw [sm_app, List.dropLast_append_of_ne_nil (sm_ne _ _), List.all_append, Bool.and_eq_true] at h
  cases b with
  | nil => exact absurd rfl hb
  | cons n r =>
    have h2 := h.2
    rw [sm, List.dropLast_cons_of_ne_nil (sm_ne _ _)] at h2
    simp at h2
    exact h2.1
theorem tr_uniq (l : List Int) (ht : l.sum < 0) {j k : Nat} (hjk : j < k) (hk : k < l.length) (h1 : trB (turn l j) = true) (h2 : trB (turn l k) = true) : False := by
  have e : l = l.take j ++ ((l.drop j).take (k - j) ++ l.drop k) := by
    have e1 : l.drop k = (l.drop j).drop (k - j) := by rw [List.drop_drop]; congr 1; omega
    rw [e1, List.take_append_drop, List.take_append_drop]
  generalize hx : l.take j = x at e
  generalize hy : (l.drop j).take (k - j) = y at e
  generalize hz : l.drop k = z at e
  have lx : x.length = j := by rw [← hx, List.length_take]; omega
  have ly : y.length = k - j := by rw [← hy, List.length_take, List.length_drop]; omega
  have lz : z.length = l.length - k := by rw [← hz, List.length_drop]
  have t1 : turn l j = y ++ (z ++ x) := by
    rw [e, ← lx, turn_split]; simp
  have t2 : turn l k = (z ++ x) ++ y := by
    have : l = (x ++ y) ++ z := by rw [e]; simp
    have hk' : k = (x ++ y).length := by simp; omega
    rw [this, hk', turn_split]; simp
  have n1 : z ++ x ≠ [] := by
    intro h
    have := congrArg List.length h
    rw [List.length_append, lz, List.length_nil] at this
    omega
  have n2 : y ≠ [] := by
    intro h
    rw [h] at ly
    simp at ly
    omega
  rw [t1] at h1
  rw [t2] at h2
  have a1 := tr_part _ _ n1 h1
  have a2 := tr_part _ _ n2 h2
  rw [e] at ht
  simp at ht a1 a2
  omega
theorem filter_one {c : Nat → Bool} : ∀ {n j : Nat}, j < n → c j = true → (∀ k < n, c k = true → k = j) → (List.range n).filter c = [j]
  | 0, j, h, _, _ => absurd h (Nat.not_lt_zero _)
  | n + 1, j, h, hc, hu => by
    rw [List.range_succ, List.filter_append]
    by_cases hj : j = n
    · subst hj
      have : (List.range j).filter c = [] := by
        rw [List.filter_eq_nil_iff]
        intro k hk hck
        have := hu k (by have := List.mem_range.mp hk; omega) hck
        have := List.mem_range.mp hk
        omega
      rw [this]
      simp [hc]
    · have hn : c n ≠ true := fun z => hj (hu n (by omega) z).symm
      rw [filter_one (by omega) hc fun k hk => hu k (by omega)]
      simp [hn]
def treeT (l : List Int) : List Nat := (List.range l.length).filter fun k => trB (turn l k)
theorem turn_back (l : List Int) (d : Nat) (hd : d < l.length) : ∃ j, j < l.length ∧ turn (turn l d) j = l := by
  by_cases h : d = 0
  · exact ⟨0, by omega, by subst h; simp [turn]⟩
  · refine ⟨l.length - d, by omega, ?_⟩
    have : l.length - d = (l.drop d).length := by simp
    rw [this, turn, turn]
    simp
theorem treeT_one (l : List Int) (hs : l.sum = -1) (h : trB l = true) (d : Nat) (hd : d < l.length) : ∃ j, j < l.length ∧ treeT (turn l d) = [j] ∧ turn (turn l d) j = l := by
  obtain ⟨j, hj, e⟩ := turn_back l d hd
  refine ⟨j, hj, ?_, e⟩
  unfold treeT
  rw [turn_len]
  refine filter_one hj (by rw [e]; exact h) fun k hk hc => ?_
  by_cases hlt : k = j
  · exact hlt
  · exfalso
    have neg : (turn l d).sum < 0 := by rw [turn_sum]; omega
    have hj' : trB (turn (turn l d) j) = true := by rw [e]; exact h
    rcases Nat.lt_or_gt_of_ne hlt with g | g
    · exact tr_uniq _ neg g (by rw [turn_len]; exact hj) hc hj'
    · exact tr_uniq _ neg g (by rw [turn_len]; exact hk) hj' hc
end CY
end
section
set_option maxRecDepth 100000
namespace CY
/-! ## forests -/
inductive Fo where
  | nil
  | cons (twigs rest : Fo)
def Fo.len : Fo → Nat
  | .nil => 0
  | .cons _ b => 1 + b.len
def Fo.size : Fo → Nat
  | .nil => 0
  | .cons a b => 1 + a.size + b.size
def Fo.row : Fo → List Int
  | .nil => []
  | .cons a b => ((a.len : Int) - 1) :: (a.row ++ b.row)
theorem Fo.len_size : ∀ f : Fo, f.len ≤ f.size
  | .nil => Nat.le_refl _
  | .cons a b => by have := b.len_size; simp only [Fo.len, Fo.size]; omega
theorem Fo.row_len : ∀ f : Fo, f.row.length = f.size
  | .nil => rfl
  | .cons a b => by simp only [Fo.row, Fo.size, List.length_cons, List.length_append, a.row_len, b.row_len]; omega
theorem Fo.row_sum : ∀ f : Fo, f.row.sum = -(f.len : Int)
  | .nil => rfl
  | .cons a b => by simp only [Fo.row, Fo.len, List.sum_cons, List.sum_append, a.row_sum, b.row_sum]; omega
theorem Fo.row_ge : ∀ f : Fo, ∀ x ∈ f.row, -1 ≤ x ∧ x + 1 ≤ f.size
  | .nil, x, h => by simp [Fo.row] at h
  | .cons a b, x, h => by
    simp only [Fo.row, List.mem_cons, List.mem_append] at h
    have := a.len_size
    simp only [Fo.size]
    rcases h with rfl | h | h
    · omega
    · have := a.row_ge x h; omega
    · have := b.row_ge x h; omega
theorem Fo.row_low : ∀ (f : Fo) (s : Int), ∀ x ∈ (sm s f.row).dropLast, s - f.len + 1 ≤ x
  | .nil, s, x, h => by simp [Fo.row, sm] at h
  | .cons a b, s, x, h => by
    simp only [Fo.row] at h
    rw [sm, List.dropLast_cons_of_ne_nil (sm_ne _ _), sm_app, List.dropLast_append_of_ne_nil (sm_ne _ _), a.row_sum, List.mem_cons, List.mem_append] at h
    simp only [Fo.len]
    rcases h with rfl | h | h
    · omega
    · have := a.row_low _ x h; omega
    · have := b.row_low _ x h; omega
/-- the tree's row -/
def Fo.trow (a : Fo) : List Int := (Fo.cons a .nil).row
theorem Fo.trow_tr (a : Fo) : trB a.trow = true := by
  unfold trB
  rw [List.all_eq_true]
  intro x hx
  have := (Fo.cons a .nil).row_low 0 x hx
  simp only [Fo.len] at this
  simpa using this
theorem Fo.trow_sum (a : Fo) : a.trow.sum = -1 := (Fo.cons a .nil).row_sum
theorem Fo.trow_len (a : Fo) : a.trow.length = 1 + a.size := by
  have := (Fo.cons a .nil).row_len
  simp only [Fo.size] at this
  exact this
/-! ## trees as they are drawn -/
def foOf : List Fo → Fo
  | [] => .nil
  | a :: r => .cons a (foOf r)
theorem foOf_size : ∀ l : List Fo, (foOf l).size = (l.map fun a => 1 + a.size).sum
  | [] => rfl
  | a :: r => by simp only [foOf, Fo.size, List.map_cons, List.sum_cons, foOf_size r]
theorem flat_set {x : Nat} : ∀ (T : List (List Nat)) (d : Nat), d < T.length → (T.set d (T.getD d [] ++ [x])).flatten.Perm (x :: T.flatten)
  | [], d, h => absurd h (Nat.not_lt_zero _)
  | l :: r, 0, _ => by
    simp only [List.set_cons_zero, List.getD_cons_zero, List.flatten_cons]
    rw [List.append_assoc]
    exact List.perm_middle
  | l :: r, d + 1, h => by
    simp only [List.set_cons_succ, List.getD_cons_succ, List.flatten_cons]
    have ih := flat_set (x := x) r d (by simpa using h)
    exact (ih.append_left l).trans List.perm_middle
theorem flat_sum (f : Nat → Nat) : ∀ T : List (List Nat), (T.flatten.map f).sum = (T.map fun l => (l.map f).sum).sum
  | [] => rfl
  | l :: r => by rw [List.flatten_cons, List.map_append, List.sum_append, List.map_cons, List.sum_cons, flat_sum f r]
theorem one_sum (s : Nat → Nat) : ∀ l : List Nat, (l.map fun k => 1 + s k).sum = l.length + (l.map s).sum
  | [] => rfl
  | a :: r => by
    simp only [List.map_cons, List.sum_cons, List.length_cons, one_sum s r]
    omega
theorem count_one (T : List (List Nat)) (n : Nat) (s : Nat → Nat) (hT : T.length = n + 1) (hp : T.flatten.Perm (List.range' 1 n)) (hs : ∀ k < n + 1, s k = ((T.getD k []).map fun j => 1 + s j).sum) : s 0 = n := by
  have e : T = (List.range (n + 1)).map fun k => T.getD k [] := by
    apply List.ext_getElem
    · simp [hT]
    · intro i h1 h2
      simp [List.getD_eq_getElem?_getD, h1]
  have a : (T.map fun l => (l.map fun j => 1 + s j).sum).sum = ((List.range (n + 1)).map s).sum := by
    rw [e, List.map_map]
    congr 1
    refine List.map_congr_left fun k hk => ?_
    rw [hs k (List.mem_range.mp hk)]
    rfl
  have b := flat_sum (fun j => 1 + s j) T
  have c := (hp.map fun j => 1 + s j).sum_nat
  have d := one_sum s (List.range (n + 1))
  rw [List.length_range, ← a, ← b, c] at d
  rw [List.range_eq_range', List.range'_succ, List.map_cons, List.sum_cons] at d
  simp only [Nat.zero_add] at d
  omega
end CY
end
section
set_option maxRecDepth 100000
set_option maxHeartbeats 2000000
namespace LS
open PySem PySem.Spec L2
section
variable {e : Nv} {st s0 s1 s2 : Store}
/-! ## more steps -/
theorem par2_ok {i j : Nat} {a b : XM D} {x y : D} (h : a e s0 = .ok x s1) (h2 : b e s1 = .ok y s2) : spar2 i j a b e s0 = .nx ((e.set i (some x)).set j (some y)) s2 := by
  rw [ap_par2, ap_sbind, h]
  simp only [ap_sbind, h2]
theorem or_of_f {m n : XM D} {r : RX D} (h : m e s0 = .ok (.bl false) s1) (h2 : n e s1 = r) : xor' m n e s0 = r := by
  rw [ap_or, h]; exact h2
theorem sif_skip {c : XM Bool} {m : SM} (h : c e s0 = .ok false s1) : sif c m snext e s0 = .nx e s1 := by rw [sif_f h]; rfl
theorem tu_of {m : XM D} {d : D} {r : RX D} (h : m e s0 = .ok d s1) (h2 : tupleD d e s1 = r) : xcall (f1 tupleD) (xcons m (xpure [])) e s0 = r := call_of (one_ok h) (by rw [f1_ap]; exact h2)
/-- a comprehension over a range -/
theorem cl_rng {n j : Nat} {mt : XM Bool} {me : XM D} (c : Nat → Bool) (f : Nat → D) (hn : n ≤ 1000) (h : ∀ i < n, mt (e.set j (some (.int (i : Int)))) st = .ok (c i) st ∧ (c i = true → me (e.set j (some (.int (i : Int)))) st = .ok (f i) st)) :
    cloop none (rangeL 0 n) (gname j) mt me e (rangeL 0 n) [] st = .ok (((List.range n).filter c).map f) st := by
  have := cloop_rows (e := e) (st := st) (src := none) (items := rangeL 0 n) (gt := gname j) (mt := mt) (me := me) (fun (i : Nat) => D.int (0 + (i : Int))) c f rfl (List.range n) [] (fun i hi => by
    have hi' := h i (List.mem_range.mp hi)
    rw [Int.zero_add]
    exact ⟨_, rfl, hi'⟩) (by simp [LIM]; omega)
  rw [List.nil_append] at this
  exact this
theorem cl_rngA {n j : Nat} {me : XM D} (f : Nat → D) (hn : n ≤ 1000) (h : ∀ i < n, me (e.set j (some (.int (i : Int)))) st = .ok (f i) st) :
    cloop none (rangeL 0 n) (gname j) (xpure true) me e (rangeL 0 n) [] st = .ok ((List.range n).map f) st := by
  rw [cl_rng (fun _ => true) f hn fun i hi => ⟨rfl, fun _ => h i hi⟩, filter_yes]
/-- .. over rows of any kind -/
theorem cl_map {α : Type} {src : Option Nat} {items : List D} {gt : MG} {mt : XM Bool} {me : XM D} (g : α → D) (c : α → Bool) (f : α → D) (hs : srcOk src items st = true) (l : List α) (h : ∀ x ∈ l, ∃ e1, gt (g x) e st = some (e1, st) ∧ mt e1 st = .ok (c x) st ∧ (c x = true → me e1 st = .ok (f x) st)) (hl : l.length ≤ 1000) :
    cloop src items gt mt me e (l.map g) [] st = .ok ((l.filter c).map f) st := by
  have := cloop_rows (e := e) (st := st) (src := src) (items := items) (gt := gt) (mt := mt) (me := me) g c f hs l [] h (by simp [LIM]; omega)
  rw [List.nil_append] at this
  exact this
theorem enum_map (f : Nat → D) : ∀ (n s : Nat), enumD s ((List.range' s n).map f) = (List.range' s n).map fun k => .tup [.int (k : Int), f k]
  | 0, _ => rfl
  | n + 1, s => by
    rw [List.range'_succ, List.map_cons, List.map_cons, enumD, enum_map f n (s + 1)]
theorem enum_rng (f : Nat → D) (n : Nat) : enumD 0 ((List.range n).map f) = (List.range n).map fun k => .tup [.int (k : Int), f k] := by
  rw [List.range_eq_range']
  exact enum_map f n 0
def nI (p : List Nat) : List Int := p.map fun (n : Nat) => (n : Int)
theorem nI_iD (p : List Nat) : (p.map fun (i : Nat) => D.int (i : Int)) = iD (nI p) := by simp [nI, iD]
theorem enum_of {m : XM D} {xs : List D} (h : m e s0 = .ok (.lst xs) s1) : xenum m e s0 = .ok (enumD 0 xs, none) s1 := by rw [ap_enum, h]; rfl
end
end LS
end
section
set_option maxRecDepth 100000
set_option maxHeartbeats 2000000
namespace LS
open PySem PySem.Spec L2
section
variable {e : Nv} {st s0 s1 s2 : Store}
/-! ## moving lists, steps -/
theorem app_ok {mo me : XM D} {k : Nat} {y : D} {ys xs : List D} (h : mo e s0 = .ok (.ref k) s1) (hl : s1[k]? = some (.lst ys)) (h2 : me e s1 = .ok y s2) (hk : s2[k]? = some (.lst xs)) (hn : xs.length < LIM) : xappend mo me e s0 = .ok .non (s2.set k (.lst (xs ++ [y]))) := by
  have i : isLst s1 k = true := by unfold isLst; rw [hl]
  rw [ap_append, h]
  simp only [i, if_true, h2, hk, hn]
theorem ext_ok {mo me : XM D} {k : Nat} {y : D} {ys xs zs : List D} (h : mo e s0 = .ok (.ref k) s1) (hl : s1[k]? = some (.lst ys)) (h2 : me e s1 = .ok y s2) (hk : s2[k]? = some (.lst xs)) (hy : lstOf s2 y = some zs) (hn : xs.length + zs.length ≤ LIM) : xextend mo me e s0 = .ok .non (s2.set k (.lst (xs ++ zs))) := by
  have i : isLst s1 k = true := by unfold isLst; rw [hl]
  unfold xextend
  rw [ap_bind, h]
  simp only [i, if_true, h2, hk, hy, hn]
theorem pop_ok {mo : XM D} {k : Nat} {y : D} {xs : List D} (h : mo e s0 = .ok (.ref k) s1) (hl : s1[k]? = some (.lst (xs ++ [y]))) : xpop mo e s0 = .ok y (s1.set k (.lst xs)) := by
  unfold xpop
  rw [ap_bind, h]
  simp [hl]
theorem addL_ok {xs ys : List D} (h : xs.length + ys.length ≤ LIM) : addD (.lst xs) (.lst ys) e s0 = .ok (.lst (xs ++ ys)) s0 := by
  unfold addD
  simp only [lstOf, h, if_true]
theorem rev_of {m : XM D} {xs : List D} (h : m e s0 = .ok (.lst xs) s1) : xrev m e s0 = .ok (.lst xs.reverse) s1 := by
  unfold xrev xrevL
  rw [ap_bind, ap_bind, h]
  rfl
theorem revA_l {m : XM D} {xs : List D} (h : m e s0 = .ok (.lst xs) s1) : xrevA m e s0 = .ok (.lst xs.reverse) s1 := by
  unfold xrevA
  rw [ap_bind, h]
  rfl
theorem revA_t {m : XM D} {xs : List D} (h : m e s0 = .ok (.tup xs) s1) : xrevA m e s0 = .ok (.tup xs.reverse) s1 := by
  unfold xrevA
  rw [ap_bind, h]
theorem sl_from {m a : XM D} {xs : List D} {k : Nat} (h : m e s0 = .ok (.lst xs) s1) (h2 : a e s1 = .ok (.int (k : Int)) s2) : xslice m (xpart a) (xpure none) e s0 = .ok (.lst (xs.drop k)) s2 := by
  rw [ap_slice, ap_bind, h]
  have := cut_from xs k
  simp [h2, this]
theorem sl_to {m a : XM D} {xs : List D} {k : Nat} (h : m e s0 = .ok (.lst xs) s1) (h2 : a e s1 = .ok (.int (k : Int)) s2) : xslice m (xpure none) (xpart a) e s0 = .ok (.lst (xs.take k)) s2 := by
  rw [ap_slice, ap_bind, h]
  have := cut_to xs k
  simp [h2, this]
theorem star_ok {m : XM D} {ms : XM (List D)} {d : D} {xs ys : List D} (h : m e s0 = .ok d s1) (hd : seqOf s1 d = some xs) (h2 : ms e s1 = .ok ys s2) : xstar m ms e s0 = .ok (xs ++ ys) s2 := by
  unfold xstar
  rw [ap_bind, h]
  simp only [hd]
  rw [ap_bind, h2]
end
end LS
end
section
set_option maxRecDepth 100000
set_option maxHeartbeats 2000000
namespace LS
open PySem PySem.Spec L2
/-! ## the defs: mirrors and derivations (printed by gen.py) -/
structure GF (g : Gb) : Prop where
  b_abs : g.mg "abs" = none
  b_all : g.mg "all" = none
  b_bool : g.mg "bool" = none
  b_divmod : g.mg "divmod" = none
  b_enumerate : g.mg "enumerate" = none
  b_int : g.mg "int" = none
  b_isinstance : g.mg "isinstance" = none
  b_len : g.mg "len" = none
  b_list : g.mg "list" = none
  b_max : g.mg "max" = none
  b_min : g.mg "min" = none
  b_range : g.mg "range" = none
  b_sorted : g.mg "sorted" = none
  b_str : g.mg "str" = none
  b_sum : g.mg "sum" = none
  b_tuple : g.mg "tuple" = none
  c_MOST_KNOTS : ∃ t, g.mg "MOST_KNOTS" = some (.int (8) t)
  c_MOST_LISTED : ∃ t, g.mg "MOST_LISTED" = some (.int (9) t)
  c_MOST_NUMBERS : ∃ t, g.mg "MOST_NUMBERS" = some (.int (8) t)
  c_MOST_SIZE : ∃ t, g.mg "MOST_SIZE" = some (.int (9) t)
  c_MOST_VOTES : ∃ t, g.mg "MOST_VOTES" = some (.int (20) t)
  c_MOST_WEIGHT : ∃ t, g.mg "MOST_WEIGHT" = some (.int (9) t)
  c_UP : ∃ t, g.mg "UP" = some (.int (1) t)
  v_comb : g.mg "comb" = some (.builtin "math.comb")
  v_combinations : g.mg "combinations" = some (.type "itertools.combinations")
  d_u_law_draw : ∃ f fd, g.mg "_law_draw" = some (.ref f) ∧ FunD g.K "_law_draw" "_law_draw" (defArgs (top 76)) (defBody (top 76)) (defScope (top 76)) [] [] f fd
  d_u_law_pick : ∃ f fd, g.mg "_law_pick" = some (.ref f) ∧ FunD g.K "_law_pick" "_law_pick" (defArgs (top 77)) (defBody (top 77)) (defScope (top 77)) [] [] f fd
  d_u_law_row : ∃ f fd, g.mg "_law_row" = some (.ref f) ∧ FunD g.K "_law_row" "_law_row" (defArgs (top 79)) (defBody (top 79)) (defScope (top 79)) [] [] f fd
  d_u_law_turned : ∃ f fd, g.mg "_law_turned" = some (.ref f) ∧ FunD g.K "_law_turned" "_law_turned" (defArgs (top 83)) (defBody (top 83)) (defScope (top 83)) [] [] f fd
  d_u_law_sums : ∃ f fd, g.mg "_law_sums" = some (.ref f) ∧ FunD g.K "_law_sums" "_law_sums" (defArgs (top 80)) (defBody (top 80)) (defScope (top 80)) [] [] f fd
  d_u_law_leads : ∃ f fd, g.mg "_law_leads" = some (.ref f) ∧ FunD g.K "_law_leads" "_law_leads" (defArgs (top 81)) (defBody (top 81)) (defScope (top 81)) [] [] f fd
  d_u_law_stands : ∃ f fd, g.mg "_law_stands" = some (.ref f) ∧ FunD g.K "_law_stands" "_law_stands" (defArgs (top 82)) (defBody (top 82)) (defScope (top 82)) [] [] f fd
  d_is_whole : ∃ f fd, g.mg "is_whole" = some (.ref f) ∧ FunD g.K "is_whole" "is_whole" (defArgs (top 10)) (defBody (top 10)) (defScope (top 10)) [] [] f fd
  d_is_between : ∃ f fd, g.mg "is_between" = some (.ref f) ∧ FunD g.K "is_between" "is_between" (defArgs (top 11)) (defBody (top 11)) (defScope (top 11)) [] [] f fd
  d_is_number : ∃ f fd, g.mg "is_number" = some (.ref f) ∧ FunD g.K "is_number" "is_number" (defArgs (top 15)) (defBody (top 15)) (defScope (top 15)) [] [] f fd
  d_wrong_in_row : ∃ f fd, g.mg "wrong_in_row" = some (.ref f) ∧ FunD g.K "wrong_in_row" "wrong_in_row" (defArgs (top 16)) (defBody (top 16)) (defScope (top 16)) [] [] f fd
  d_check_row : ∃ f fd, g.mg "check_row" = some (.ref f) ∧ FunD g.K "check_row" "check_row" (defArgs (top 24)) (defBody (top 24)) (defScope (top 24)) [] [] f fd
  d_turned_by : ∃ f fd, g.mg "turned_by" = some (.ref f) ∧ FunD g.K "turned_by" "turned_by" (defArgs (top 27)) (defBody (top 27)) (defScope (top 27)) [] [] f fd
  d_all_turnings : ∃ f fd, g.mg "all_turnings" = some (.ref f) ∧ FunD g.K "all_turnings" "all_turnings" (defArgs (top 28)) (defBody (top 28)) (defScope (top 28)) [] [] f fd
  d_sums_by : ∃ f fd, g.mg "sums_by" = some (.ref f) ∧ FunD g.K "sums_by" "sums_by" (defArgs (top 17)) (defBody (top 17)) (defScope (top 17)) [] [] f fd
  d_falls_by : ∃ f fd, g.mg "falls_by" = some (.ref f) ∧ FunD g.K "falls_by" "falls_by" (defArgs (top 20)) (defBody (top 20)) (defScope (top 20)) [] [] f fd
  d_leads_by : ∃ f fd, g.mg "leads_by" = some (.ref f) ∧ FunD g.K "leads_by" "leads_by" (defArgs (top 21)) (defBody (top 21)) (defScope (top 21)) [] [] f fd
  d_leading_turnings_by : ∃ f fd, g.mg "leading_turnings_by" = some (.ref f) ∧ FunD g.K "leading_turnings_by" "leading_turnings_by" (defArgs (top 29)) (defBody (top 29)) (defScope (top 29)) [] [] f fd
  d_leading_turnings : ∃ f fd, g.mg "leading_turnings" = some (.ref f) ∧ FunD g.K "leading_turnings" "leading_turnings" (defArgs (top 34)) (defBody (top 34)) (defScope (top 34)) [] [] f fd
  d_lowest_by : ∃ f fd, g.mg "lowest_by" = some (.ref f) ∧ FunD g.K "lowest_by" "lowest_by" (defArgs (top 19)) (defBody (top 19)) (defScope (top 19)) [] [] f fd
  d_stands_by : ∃ f fd, g.mg "stands_by" = some (.ref f) ∧ FunD g.K "stands_by" "stands_by" (defArgs (top 22)) (defBody (top 22)) (defScope (top 22)) [] [] f fd
  d_standing_turnings_by : ∃ f fd, g.mg "standing_turnings_by" = some (.ref f) ∧ FunD g.K "standing_turnings_by" "standing_turnings_by" (defArgs (top 30)) (defBody (top 30)) (defScope (top 30)) [] [] f fd
  d_standing_turnings : ∃ f fd, g.mg "standing_turnings" = some (.ref f) ∧ FunD g.K "standing_turnings" "standing_turnings" (defArgs (top 35)) (defBody (top 35)) (defScope (top 35)) [] [] f fd
  d_above_by : ∃ f fd, g.mg "above_by" = some (.ref f) ∧ FunD g.K "above_by" "above_by" (defArgs (top 18)) (defBody (top 18)) (defScope (top 18)) [] [] f fd
  d_turnings_above_by : ∃ f fd, g.mg "turnings_above_by" = some (.ref f) ∧ FunD g.K "turnings_above_by" "turnings_above_by" (defArgs (top 31)) (defBody (top 31)) (defScope (top 31)) [] [] f fd
  d_turnings_above : ∃ f fd, g.mg "turnings_above" = some (.ref f) ∧ FunD g.K "turnings_above" "turnings_above" (defArgs (top 36)) (defBody (top 36)) (defScope (top 36)) [] [] f fd
  d_u_law_same : ∃ f fd, g.mg "_law_same" = some (.ref f) ∧ FunD g.K "_law_same" "_law_same" (defArgs (top 78)) (defBody (top 78)) (defScope (top 78)) [] [] f fd
  d_check_number : ∃ f fd, g.mg "check_number" = some (.ref f) ∧ FunD g.K "check_number" "check_number" (defArgs (top 25)) (defBody (top 25)) (defScope (top 25)) [] [] f fd
  d_turned : ∃ f fd, g.mg "turned" = some (.ref f) ∧ FunD g.K "turned" "turned" (defArgs (top 33)) (defBody (top 33)) (defScope (top 33)) [] [] f fd
  d_total : ∃ f fd, g.mg "total" = some (.ref f) ∧ FunD g.K "total" "total" (defArgs (top 55)) (defBody (top 55)) (defScope (top 55)) [] [] f fd
  d_u_law_are_turnings_told : ∃ f fd, g.mg "_law_are_turnings_told" = some (.ref f) ∧ FunD g.K "_law_are_turnings_told" "_law_are_turnings_told" (defArgs (top 87)) (defBody (top 87)) (defScope (top 87)) [] [] f fd
  d_u_law_tree_row : ∃ f fd, g.mg "_law_tree_row" = some (.ref f) ∧ FunD g.K "_law_tree_row" "_law_tree_row" (defArgs (top 85)) (defBody (top 85)) (defScope (top 85)) [] [] f fd
  d_u_law_tree : ∃ f fd, g.mg "_law_tree" = some (.ref f) ∧ FunD g.K "_law_tree" "_law_tree" (defArgs (top 86)) (defBody (top 86)) (defScope (top 86)) [] [] f fd
  d_can_turn : ∃ f fd, g.mg "can_turn" = some (.ref f) ∧ FunD g.K "can_turn" "can_turn" (defArgs (top 66)) (defBody (top 66)) (defScope (top 66)) [] [] f fd
  d_places_against : ∃ f fd, g.mg "places_against" = some (.ref f) ∧ FunD g.K "places_against" "places_against" (defArgs (top 63)) (defBody (top 63)) (defScope (top 63)) [] [] f fd
  d_is_row_of_tree : ∃ f fd, g.mg "is_row_of_tree" = some (.ref f) ∧ FunD g.K "is_row_of_tree" "is_row_of_tree" (defArgs (top 64)) (defBody (top 64)) (defScope (top 64)) [] [] f fd
  d_tree_turning_by : ∃ f fd, g.mg "tree_turning_by" = some (.ref f) ∧ FunD g.K "tree_turning_by" "tree_turning_by" (defArgs (top 67)) (defBody (top 67)) (defScope (top 67)) [] [] f fd
  d_tree_turning : ∃ f fd, g.mg "tree_turning" = some (.ref f) ∧ FunD g.K "tree_turning" "tree_turning" (defArgs (top 73)) (defBody (top 73)) (defScope (top 73)) [] [] f fd
  d_tree_of_by : ∃ f fd, g.mg "tree_of_by" = some (.ref f) ∧ FunD g.K "tree_of_by" "tree_of_by" (defArgs (top 65)) (defBody (top 65)) (defScope (top 65)) [] [] f fd
  d_tree_of : ∃ f fd, g.mg "tree_of" = some (.ref f) ∧ FunD g.K "tree_of" "tree_of" (defArgs (top 72)) (defBody (top 72)) (defScope (top 72)) [] [] f fd
  d_knots_up_to : ∃ f fd, g.mg "knots_up_to" = some (.ref f) ∧ FunD g.K "knots_up_to" "knots_up_to" (defArgs (top 60)) (defBody (top 60)) (defScope (top 60)) [] [] f fd
  d_is_tree_by : ∃ f fd, g.mg "is_tree_by" = some (.ref f) ∧ FunD g.K "is_tree_by" "is_tree_by" (defArgs (top 61)) (defBody (top 61)) (defScope (top 61)) [] [] f fd
  d_is_tree : ∃ f fd, g.mg "is_tree" = some (.ref f) ∧ FunD g.K "is_tree" "is_tree" (defArgs (top 70)) (defBody (top 70)) (defScope (top 70)) [] [] f fd
  d_u_law_is_tree : ∃ f fd, g.mg "_law_is_tree" = some (.ref f) ∧ FunD g.K "_law_is_tree" "_law_is_tree" (defArgs (top 84)) (defBody (top 84)) (defScope (top 84)) [] [] f fd
  d_check_tree : ∃ f fd, g.mg "check_tree" = some (.ref f) ∧ FunD g.K "check_tree" "check_tree" (defArgs (top 69)) (defBody (top 69)) (defScope (top 69)) [] [] f fd
  d_row_of_by : ∃ f fd, g.mg "row_of_by" = some (.ref f) ∧ FunD g.K "row_of_by" "row_of_by" (defArgs (top 62)) (defBody (top 62)) (defScope (top 62)) [] [] f fd
  d_row_of : ∃ f fd, g.mg "row_of" = some (.ref f) ∧ FunD g.K "row_of" "row_of" (defArgs (top 71)) (defBody (top 71)) (defScope (top 71)) [] [] f fd
  d_u_law_is_tree_told : ∃ f fd, g.mg "_law_is_tree_told" = some (.ref f) ∧ FunD g.K "_law_is_tree_told" "_law_is_tree_told" (defArgs (top 88)) (defBody (top 88)) (defScope (top 88)) [] [] f fd
  d_check_votes : ∃ f fd, g.mg "check_votes" = some (.ref f) ∧ FunD g.K "check_votes" "check_votes" (defArgs (top 49)) (defBody (top 49)) (defScope (top 49)) [] [] f fd
  d_ballot_of : ∃ f fd, g.mg "ballot_of" = some (.ref f) ∧ FunD g.K "ballot_of" "ballot_of" (defArgs (top 43)) (defBody (top 43)) (defScope (top 43)) [] [] f fd
  d_all_ballots_by : ∃ f fd, g.mg "all_ballots_by" = some (.ref f) ∧ FunD g.K "all_ballots_by" "all_ballots_by" (defArgs (top 44)) (defBody (top 44)) (defScope (top 44)) [] [] f fd
  d_all_ballots : ∃ f fd, g.mg "all_ballots" = some (.ref f) ∧ FunD g.K "all_ballots" "all_ballots" (defArgs (top 53)) (defBody (top 53)) (defScope (top 53)) [] [] f fd
  d_u_law_more : ∃ f fd, g.mg "_law_more" = some (.ref f) ∧ FunD g.K "_law_more" "_law_more" (defArgs (top 90)) (defBody (top 90)) (defScope (top 90)) [] [] f fd
  d_check_enough : ∃ f fd, g.mg "check_enough" = some (.ref f) ∧ FunD g.K "check_enough" "check_enough" (defArgs (top 50)) (defBody (top 50)) (defScope (top 50)) [] [] f fd
  d_binomial : ∃ f fd, g.mg "binomial" = some (.ref f) ∧ FunD g.K "binomial" "binomial" (defArgs (top 39)) (defBody (top 39)) (defScope (top 39)) [] [] f fd
  d_count_leading_by : ∃ f fd, g.mg "count_leading_by" = some (.ref f) ∧ FunD g.K "count_leading_by" "count_leading_by" (defArgs (top 41)) (defBody (top 41)) (defScope (top 41)) [] [] f fd
  d_count_leading : ∃ f fd, g.mg "count_leading" = some (.ref f) ∧ FunD g.K "count_leading" "count_leading" (defArgs (top 51)) (defBody (top 51)) (defScope (top 51)) [] [] f fd
  d_count_standing_by : ∃ f fd, g.mg "count_standing_by" = some (.ref f) ∧ FunD g.K "count_standing_by" "count_standing_by" (defArgs (top 42)) (defBody (top 42)) (defScope (top 42)) [] [] f fd
  d_count_standing : ∃ f fd, g.mg "count_standing" = some (.ref f) ∧ FunD g.K "count_standing" "count_standing" (defArgs (top 52)) (defBody (top 52)) (defScope (top 52)) [] [] f fd
  d_leads : ∃ f fd, g.mg "leads" = some (.ref f) ∧ FunD g.K "leads" "leads" (defArgs (top 56)) (defBody (top 56)) (defScope (top 56)) [] [] f fd
  d_stands : ∃ f fd, g.mg "stands" = some (.ref f) ∧ FunD g.K "stands" "stands" (defArgs (top 57)) (defBody (top 57)) (defScope (top 57)) [] [] f fd
  d_u_law_are_votes_told : ∃ f fd, g.mg "_law_are_votes_told" = some (.ref f) ∧ FunD g.K "_law_are_votes_told" "_law_are_votes_told" (defArgs (top 89)) (defBody (top 89)) (defScope (top 89)) [] [] f fd
  d_u_law_right : ∃ f fd, g.mg "_law_right" = some (.ref f) ∧ FunD g.K "_law_right" "_law_right" (defArgs (top 91)) (defBody (top 91)) (defScope (top 91)) [] [] f fd
  d_u_law_pool : ∃ f fd, g.mg "_law_pool" = some (.ref f) ∧ FunD g.K "_law_pool" "_law_pool" (defArgs (top 75)) (defBody (top 75)) (defScope (top 75)) [] [] f fd
  d_law : ∃ f fd, g.mg "law" = some (.ref f) ∧ FunD g.K "law" "law" (defArgs (top 92)) (defBody (top 92)) (defScope (top 92)) [] [] f fd
theorem bt_abs : bootBuiltins "abs" = some (.builtin "abs") := by decide +kernel
theorem bt_all : bootBuiltins "all" = some (.builtin "all") := by decide +kernel
theorem bt_bool : bootBuiltins "bool" = some (.type "bool") := by decide +kernel
theorem bt_divmod : bootBuiltins "divmod" = some (.builtin "divmod") := by decide +kernel
theorem bt_enumerate : bootBuiltins "enumerate" = some (.type "enumerate") := by decide +kernel
theorem bt_int : bootBuiltins "int" = some (.type "int") := by decide +kernel
theorem bt_isinstance : bootBuiltins "isinstance" = some (.builtin "isinstance") := by decide +kernel
theorem bt_len : bootBuiltins "len" = some (.builtin "len") := by decide +kernel
theorem bt_list : bootBuiltins "list" = some (.type "list") := by decide +kernel
theorem bt_max : bootBuiltins "max" = some (.builtin "max") := by decide +kernel
theorem bt_min : bootBuiltins "min" = some (.builtin "min") := by decide +kernel
theorem bt_range : bootBuiltins "range" = some (.type "range") := by decide +kernel
theorem bt_sorted : bootBuiltins "sorted" = some (.builtin "sorted") := by decide +kernel
theorem bt_str : bootBuiltins "str" = some (.type "str") := by decide +kernel
theorem bt_sum : bootBuiltins "sum" = some (.builtin "sum") := by decide +kernel
theorem bt_tuple : bootBuiltins "tuple" = some (.type "tuple") := by decide +kernel
/-- _law_draw -/
theorem sc_u_law_draw : FnScope ["pool", "many", "figure", "held"] ["pool", "many"] (defScope (top 76)) := ⟨rfl, rfl, rfl, by decide +kernel, rfl, by decide +kernel, by decide +kernel⟩
def m_u_law_draw_s1 : SM :=
  (sif (xbool (xop gtD (xop ixD (xvar 0) (xpure (.int 1))) (xpure (.int 0)))) (sseq (sasg (xcall (f2 divmodD) (xcons (xop ixD (xvar 0) (xpure (.int 1))) (xcons (xvar 1) (xpure [])))) (gtup 2 (gcons (gsub (xvar 0) (xpure (.int 1))) (gcons (gname 2) gnil)))) (sret (xvar 2))) snext)
def m_u_law_draw_s2 : SM :=
  (sasg (xop addD (xop ixD (xvar 0) (xpure (.int 2))) (xpure (.int 1))) (gsub (xvar 0) (xpure (.int 2))))
def m_u_law_draw_s3 : SM :=
  (sset 3 (xcall (f1 intD) (xcons (xop ixD (xvar 0) (xpure (.int 0))) (xpure []))))
def m_u_law_draw_s4 : SM :=
  (sasg (xop modD (xcall (f1 intD) (xcons (xop addD (xop addD (xop mulD (xvar 3) (xop addD (xop modD (xvar 3) (xpure (.int 20011))) (xpure (.int 30011)))) (xop mulD (xpure (.int 70001)) (xop ixD (xvar 0) (xpure (.int 2))))) (xpure (.int 9))) (xpure []))) (xpure (.int 2147483171))) (gsub (xvar 0) (xpure (.int 0))))
def m_u_law_draw_s5 : SM :=
  (sret (xop modD (xcall (f1 intD) (xcons (xop divD (xop ixD (xvar 0) (xpure (.int 0))) (xpure (.int 128))) (xpure []))) (xvar 1)))
def m_u_law_draw : SM :=
  (sseq m_u_law_draw_s1 (sseq m_u_law_draw_s2 (sseq m_u_law_draw_s3 (sseq m_u_law_draw_s4 m_u_law_draw_s5))))
abbrev D_u_law_draw : DF := runF 4 m_u_law_draw
theorem b_u_law_draw {g : Gb} (GG : GF g) (b : Bd) (hr : Room 0 (b.A.deeper (PyProof.Rows.envOfC b.qual (defScope (top 76)) b.s.heap.objs.size b.f b.cdv))) :
    JSs (famB g 0 ["pool", "many", "figure", "held"] sc_u_law_draw.nd (defScope (top 76)) b hr) (defBody (top 76)) m_u_law_draw :=
  (jss_cons (js_if (jt_cmp os_gt (je_ix (je_var 0 rfl (.inl (by first | rfl | kernel_rfl))) je_int) je_int rfl) (jss_cons (js_asg (je_callB cs_divmod (by first | rfl | kernel_rfl) GG.b_divmod bt_divmod (ja_cons (je_ix (je_var 0 rfl (.inl (by first | rfl | kernel_rfl))) je_int) (ja_cons (je_var 1 rfl (.inl (by first | rfl | kernel_rfl))) ja_nil))) (jg_tup (jgs_cons (jg_sub (je_var 0 rfl (.inl (by first | rfl | kernel_rfl))) je_int (quiet_var _) (quiet_pure _)) (jgs_cons (jg_name 2 rfl (.inl (by first | rfl | kernel_rfl))) jgs_nil))))
      (jss_one (js_ret (je_var 2 rfl (.inl (by first | rfl | kernel_rfl)))))) jss_nil)
      (jss_cons (js_asg (je_op os_add (je_ix (je_var 0 rfl (.inl (by first | rfl | kernel_rfl))) je_int) je_int) (jg_sub (je_var 0 rfl (.inl (by first | rfl | kernel_rfl))) je_int (quiet_var _) (quiet_pure _)))
      (jss_cons (js_set 3 rfl (.inl (by first | rfl | kernel_rfl)) (je_callTy cs_int (by first | rfl | kernel_rfl) GG.b_int bt_int (ja_cons (je_ix (je_var 0 rfl (.inl (by first | rfl | kernel_rfl))) je_int) ja_nil)))
      (jss_cons (js_asg (je_op os_mod (je_callTy cs_int (by first | rfl | kernel_rfl) GG.b_int bt_int (ja_cons (je_op os_add (je_op os_add (je_op os_mul (je_var 3 rfl (.inl (by first | rfl | kernel_rfl))) (je_op os_add (je_op os_mod (je_var 3 rfl (.inl (by first | rfl | kernel_rfl))) je_int) je_int)) (je_op os_mul je_int (je_ix (je_var 0 rfl (.inl (by first | rfl | kernel_rfl))) je_int))) je_int) ja_nil)) je_int) (jg_sub (je_var 0 rfl (.inl (by first | rfl | kernel_rfl))) je_int (quiet_var _) (quiet_pure _)))
      (jss_one (js_ret (je_op os_mod (je_callTy cs_int (by first | rfl | kernel_rfl) GG.b_int bt_int (ja_cons (je_op os_div (je_ix (je_var 0 rfl (.inl (by first | rfl | kernel_rfl))) je_int) je_int) ja_nil)) (je_var 1 rfl (.inl (by first | rfl | kernel_rfl))))))))))
theorem f_u_law_draw {g : Gb} (GG : GF g) : Fn g (top 76) "_law_draw" "_law_draw" ["pool", "many"] 1 D_u_law_draw := by
  obtain ⟨f, fd, hx, D0⟩ := GG.d_u_law_draw
  exact fn_mk outD outD_hout hx D0 sc_u_law_draw (fun kV doc pm an cdv ct us hl => match us, hl with | [_, _], _ => rfl) (fun b hr => b_u_law_draw GG b hr)
/-- _law_pick -/
theorem sc_u_law_pick : FnScope ["pool", "some"] ["pool", "some"] (defScope (top 77)) := ⟨rfl, rfl, rfl, by decide +kernel, rfl, by decide +kernel, by decide +kernel⟩
def m_u_law_pick : SM :=
  (sret (xop ixD (xvar 1) (xfn 2 (D_u_law_draw) (xcons (xvar 0) (xcons (xcall (f1 lenD) (xcons (xvar 1) (xpure []))) (xpure []))))))
abbrev D_u_law_pick : DF := runF 2 m_u_law_pick
theorem b_u_law_pick {g : Gb} (GG : GF g) (b : Bd) (hr : Room 2 (b.A.deeper (PyProof.Rows.envOfC b.qual (defScope (top 77)) b.s.heap.objs.size b.f b.cdv))) :
    JSs (famB g 2 ["pool", "some"] sc_u_law_pick.nd (defScope (top 77)) b hr) (defBody (top 77)) m_u_law_pick :=
  (jss_one (js_ret (je_ix (je_var 1 rfl (.inl (by first | rfl | kernel_rfl))) (je_call (f_u_law_draw GG) (Nat.le_of_ble_eq_true rfl) (by first | rfl | kernel_rfl) (ja_cons (je_var 0 rfl (.inl (by first | rfl | kernel_rfl))) (ja_cons (je_callB cs_len (by first | rfl | kernel_rfl) GG.b_len bt_len (ja_cons (je_var 1 rfl (.inl (by first | rfl | kernel_rfl))) ja_nil)) ja_nil))))))
theorem f_u_law_pick {g : Gb} (GG : GF g) : Fn g (top 77) "_law_pick" "_law_pick" ["pool", "some"] 3 D_u_law_pick := by
  obtain ⟨f, fd, hx, D0⟩ := GG.d_u_law_pick
  exact fn_mk outD outD_hout hx D0 sc_u_law_pick (fun kV doc pm an cdv ct us hl => match us, hl with | [_, _], _ => rfl) (fun b hr => b_u_law_pick GG b hr)
/-- _law_row -/
theorem sc_u_law_row : FnScope ["pool", "most", "high", "k"] ["pool", "most"] (defScope (top 79)) := ⟨rfl, rfl, rfl, by decide +kernel, rfl, by decide +kernel, by decide +kernel⟩
def m_u_law_row_e1 : XM D :=
  (xop subD (xfn 2 (D_u_law_draw) (xcons (xvar 0) (xcons (xop addD (xop mulD (xpure (.int 2)) (xvar 2)) (xpure (.int 1))) (xpure [])))) (xvar 2))
def m_u_law_row : SM :=
  (sseq (sset 2 (xfn 2 (D_u_law_pick) (xcons (xvar 0) (xcons (xlst (xcons (xpure (.int 1)) (xcons (xpure (.int 2)) (xcons (xpure (.int 4)) (xcons (xpure (.int 9)) (xpure [])))))) (xpure []))))) (sret (xcall (f1 tupleD) (xcons (xcomp (xrange1 (xop addD (xpure (.int 1)) (xfn 2 (D_u_law_draw) (xcons (xvar 0) (xcons (xvar 1) (xpure [])))))) [3] (gname 3) (xpure true) m_u_law_row_e1) (xpure [])))))
abbrev D_u_law_row : DF := runF 4 m_u_law_row
theorem b_u_law_row {g : Gb} (GG : GF g) (b : Bd) (hr : Room 4 (b.A.deeper (PyProof.Rows.envOfC b.qual (defScope (top 79)) b.s.heap.objs.size b.f b.cdv))) :
    JSs (famB g 4 ["pool", "most", "high", "k"] sc_u_law_row.nd (defScope (top 79)) b hr) (defBody (top 79)) m_u_law_row :=
  (jss_cons (js_set 2 rfl (.inr (by first | rfl | kernel_rfl)) (je_call (f_u_law_pick GG) (Nat.le_of_ble_eq_true rfl) (by first | rfl | kernel_rfl) (ja_cons (je_var 0 rfl (.inr (.inl (by first | rfl | kernel_rfl)))) (ja_cons (je_lst (ja_cons je_int (ja_cons je_int (ja_cons je_int (ja_cons je_int ja_nil))))) ja_nil))))
      (jss_one (js_ret (je_callTy cs_tuple (by first | rfl | kernel_rfl) GG.b_tuple bt_tuple (ja_cons (je_lc [("k", 3)] (ji_range1 (by first | rfl | kernel_rfl) GG.b_range (je_op os_add je_int (je_call (f_u_law_draw GG) (Nat.le_of_ble_eq_true rfl) (by first | rfl | kernel_rfl) (ja_cons (je_var 0 rfl (.inr (.inl (by first | rfl | kernel_rfl)))) (ja_cons (je_var 1 rfl (.inl (by first | rfl | kernel_rfl))) ja_nil))))) (by first | rfl | kernel_rfl) (jc_name 3 rfl (.inl (by first | rfl | kernel_rfl)) (by decide)) jts_nil (je_op os_sub (je_call (f_u_law_draw GG) (Nat.le_of_ble_eq_true rfl) (by first | rfl | kernel_rfl) (ja_cons (je_var 0 rfl (.inr (.inl (by first | rfl | kernel_rfl)))) (ja_cons (je_op os_add (je_op os_mul je_int (je_var 2 rfl (.inr (.inl (by first | rfl | kernel_rfl))))) je_int) ja_nil))) (je_var 2 rfl (.inr (.inl (by first | rfl | kernel_rfl)))))) ja_nil)))))
theorem f_u_law_row {g : Gb} (GG : GF g) : Fn g (top 79) "_law_row" "_law_row" ["pool", "most"] 5 D_u_law_row := by
  obtain ⟨f, fd, hx, D0⟩ := GG.d_u_law_row
  exact fn_mk outD outD_hout hx D0 sc_u_law_row (fun kV doc pm an cdv ct us hl => match us, hl with | [_, _], _ => rfl) (fun b hr => b_u_law_row GG b hr)
/-- _law_turned -/
theorem sc_u_law_turned : FnScope ["row", "times"] ["row", "times"] (defScope (top 83)) := ⟨rfl, rfl, rfl, by decide +kernel, rfl, by decide +kernel, by decide +kernel⟩
def m_u_law_turned : SM :=
  (sret (xop addD (xslice (xvar 0) (xpart (xvar 1)) (xpure none)) (xslice (xvar 0) (xpure none) (xpart (xvar 1)))))
abbrev D_u_law_turned : DF := runF 2 m_u_law_turned
theorem b_u_law_turned {g : Gb} (GG : GF g) (b : Bd) (hr : Room 0 (b.A.deeper (PyProof.Rows.envOfC b.qual (defScope (top 83)) b.s.heap.objs.size b.f b.cdv))) :
    JSs (famB g 0 ["row", "times"] sc_u_law_turned.nd (defScope (top 83)) b hr) (defBody (top 83)) m_u_law_turned :=
  (jss_one (js_ret (je_op os_add (je_slice (je_var 0 rfl (.inl (by first | rfl | kernel_rfl))) (jo_some (je_var 1 rfl (.inl (by first | rfl | kernel_rfl)))) jo_none) (je_slice (je_var 0 rfl (.inl (by first | rfl | kernel_rfl))) jo_none (jo_some (je_var 1 rfl (.inl (by first | rfl | kernel_rfl))))))))
theorem f_u_law_turned {g : Gb} (GG : GF g) : Fn g (top 83) "_law_turned" "_law_turned" ["row", "times"] 1 D_u_law_turned := by
  obtain ⟨f, fd, hx, D0⟩ := GG.d_u_law_turned
  exact fn_mk outD outD_hout hx D0 sc_u_law_turned (fun kV doc pm an cdv ct us hl => match us, hl with | [_, _], _ => rfl) (fun b hr => b_u_law_turned GG b hr)
/-- _law_sums -/
theorem sc_u_law_sums : FnScope ["row", "found", "each"] ["row"] (defScope (top 80)) := ⟨rfl, rfl, rfl, by decide +kernel, rfl, by decide +kernel, by decide +kernel⟩
def m_u_law_sums_b1 : SM :=
  (sdrop (xappend (xvar 1) (xop addD (xop ixD (xvar 1) (xneg (xpure (.int 1)))) (xvar 2))))
def m_u_law_sums : SM :=
  (sseq (sset 1 (xlstM (xcons (xpure (.int 0)) (xpure [])))) (sseq (sfor (xwalk (xvar 0)) (gname 2) m_u_law_sums_b1) (sret (xvar 1))))
abbrev D_u_law_sums : DF := runF 3 m_u_law_sums
theorem b_u_law_sums {g : Gb} (GG : GF g) (b : Bd) (hr : Room 0 (b.A.deeper (PyProof.Rows.envOfC b.qual (defScope (top 80)) b.s.heap.objs.size b.f b.cdv))) :
    JSs (famB g 0 ["row", "found", "each"] sc_u_law_sums.nd (defScope (top 80)) b hr) (defBody (top 80)) m_u_law_sums :=
  (jss_cons (js_set 1 rfl (.inl (by first | rfl | kernel_rfl)) (je_lstM (ja_cons je_int ja_nil)))
      (jss_cons (js_for (ji_seq (je_var 0 rfl (.inl (by first | rfl | kernel_rfl)))) (jg_name 2 rfl (.inl (by first | rfl | kernel_rfl))) (jss_one (js_expr (je_append (je_var 1 rfl (.inl (by first | rfl | kernel_rfl))) (je_op os_add (je_ix (je_var 1 rfl (.inl (by first | rfl | kernel_rfl))) (je_neg je_int)) (je_var 2 rfl (.inl (by first | rfl | kernel_rfl))))))))
      (jss_one (js_ret (je_var 1 rfl (.inl (by first | rfl | kernel_rfl)))))))
theorem f_u_law_sums {g : Gb} (GG : GF g) : Fn g (top 80) "_law_sums" "_law_sums" ["row"] 1 D_u_law_sums := by
  obtain ⟨f, fd, hx, D0⟩ := GG.d_u_law_sums
  exact fn_mk outD outD_hout hx D0 sc_u_law_sums (fun kV doc pm an cdv ct us hl => match us, hl with | [_], _ => rfl) (fun b hr => b_u_law_sums GG b hr)
/-- _law_leads -/
theorem sc_u_law_leads : FnScope ["row"] ["row"] (defScope (top 81)) := ⟨rfl, rfl, rfl, by decide +kernel, rfl, by decide +kernel, by decide +kernel⟩
def m_u_law_leads : SM :=
  (sret (xop gtD (xcall (f1 minD) (xcons (xslice (xfn 1 (D_u_law_sums) (xcons (xvar 0) (xpure []))) (xpart (xpure (.int 1))) (xpure none)) (xpure []))) (xpure (.int 0))))
abbrev D_u_law_leads : DF := runF 1 m_u_law_leads
theorem b_u_law_leads {g : Gb} (GG : GF g) (b : Bd) (hr : Room 2 (b.A.deeper (PyProof.Rows.envOfC b.qual (defScope (top 81)) b.s.heap.objs.size b.f b.cdv))) :
    JSs (famB g 2 ["row"] sc_u_law_leads.nd (defScope (top 81)) b hr) (defBody (top 81)) m_u_law_leads :=
  (jss_one (js_ret (je_cmp os_gt (je_callB cs_min (by first | rfl | kernel_rfl) GG.b_min bt_min (ja_cons (je_slice (je_call (f_u_law_sums GG) (Nat.le_of_ble_eq_true rfl) (by first | rfl | kernel_rfl) (ja_cons (je_var 0 rfl (.inl (by first | rfl | kernel_rfl))) ja_nil)) (jo_some je_int) jo_none) ja_nil)) je_int rfl)))
theorem f_u_law_leads {g : Gb} (GG : GF g) : Fn g (top 81) "_law_leads" "_law_leads" ["row"] 3 D_u_law_leads := by
  obtain ⟨f, fd, hx, D0⟩ := GG.d_u_law_leads
  exact fn_mk outD outD_hout hx D0 sc_u_law_leads (fun kV doc pm an cdv ct us hl => match us, hl with | [_], _ => rfl) (fun b hr => b_u_law_leads GG b hr)
/-- _law_stands -/
theorem sc_u_law_stands : FnScope ["row"] ["row"] (defScope (top 82)) := ⟨rfl, rfl, rfl, by decide +kernel, rfl, by decide +kernel, by decide +kernel⟩
def m_u_law_stands : SM :=
  (sret (xop geD (xcall (f1 minD) (xcons (xfn 1 (D_u_law_sums) (xcons (xvar 0) (xpure []))) (xpure []))) (xpure (.int 0))))
abbrev D_u_law_stands : DF := runF 1 m_u_law_stands
theorem b_u_law_stands {g : Gb} (GG : GF g) (b : Bd) (hr : Room 2 (b.A.deeper (PyProof.Rows.envOfC b.qual (defScope (top 82)) b.s.heap.objs.size b.f b.cdv))) :
    JSs (famB g 2 ["row"] sc_u_law_stands.nd (defScope (top 82)) b hr) (defBody (top 82)) m_u_law_stands :=
  (jss_one (js_ret (je_cmp os_ge (je_callB cs_min (by first | rfl | kernel_rfl) GG.b_min bt_min (ja_cons (je_call (f_u_law_sums GG) (Nat.le_of_ble_eq_true rfl) (by first | rfl | kernel_rfl) (ja_cons (je_var 0 rfl (.inl (by first | rfl | kernel_rfl))) ja_nil)) ja_nil)) je_int rfl)))
theorem f_u_law_stands {g : Gb} (GG : GF g) : Fn g (top 82) "_law_stands" "_law_stands" ["row"] 3 D_u_law_stands := by
  obtain ⟨f, fd, hx, D0⟩ := GG.d_u_law_stands
  exact fn_mk outD outD_hout hx D0 sc_u_law_stands (fun kV doc pm an cdv ct us hl => match us, hl with | [_], _ => rfl) (fun b hr => b_u_law_stands GG b hr)
/-- is_whole -/
theorem sc_is_whole : FnScope ["value"] ["value"] (defScope (top 10)) := ⟨rfl, rfl, rfl, by decide +kernel, rfl, by decide +kernel, by decide +kernel⟩
def m_is_whole : SM :=
  (sret (xand (xcall (f2 isiD) (xcons (xvar 0) (xcons (xpure (.ty "int")) (xpure [])))) (xnot (xcall (f2 isiD) (xcons (xvar 0) (xcons (xpure (.ty "bool")) (xpure [])))))))
abbrev D_is_whole : DF := runF 1 m_is_whole
theorem b_is_whole {g : Gb} (GG : GF g) (b : Bd) (hr : Room 0 (b.A.deeper (PyProof.Rows.envOfC b.qual (defScope (top 10)) b.s.heap.objs.size b.f b.cdv))) :
    JSs (famB g 0 ["value"] sc_is_whole.nd (defScope (top 10)) b hr) (defBody (top 10)) m_is_whole :=
  (jss_one (js_ret (je_and (je_callB cs_isi (by first | rfl | kernel_rfl) GG.b_isinstance bt_isinstance (ja_cons (je_var 0 rfl (.inl (by first | rfl | kernel_rfl))) (ja_cons (je_gty (by first | rfl | kernel_rfl) GG.b_int bt_int) ja_nil))) (je_one (je_not (je_callB cs_isi (by first | rfl | kernel_rfl) GG.b_isinstance bt_isinstance (ja_cons (je_var 0 rfl (.inl (by first | rfl | kernel_rfl))) (ja_cons (je_gty (by first | rfl | kernel_rfl) GG.b_bool bt_bool) ja_nil))))))))
theorem f_is_whole {g : Gb} (GG : GF g) : Fn g (top 10) "is_whole" "is_whole" ["value"] 1 D_is_whole := by
  obtain ⟨f, fd, hx, D0⟩ := GG.d_is_whole
  exact fn_mk outD outD_hout hx D0 sc_is_whole (fun kV doc pm an cdv ct us hl => match us, hl with | [_], _ => rfl) (fun b hr => b_is_whole GG b hr)
/-- is_between -/
theorem sc_is_between : FnScope ["value", "low", "high"] ["value", "low", "high"] (defScope (top 11)) := ⟨rfl, rfl, rfl, by decide +kernel, rfl, by decide +kernel, by decide +kernel⟩
def m_is_between : SM :=
  (sret (xand (xfn 1 (D_is_whole) (xcons (xvar 0) (xpure []))) (xchain leD leD (xvar 1) (xvar 0) (xvar 2))))
abbrev D_is_between : DF := runF 3 m_is_between
theorem b_is_between {g : Gb} (GG : GF g) (b : Bd) (hr : Room 2 (b.A.deeper (PyProof.Rows.envOfC b.qual (defScope (top 11)) b.s.heap.objs.size b.f b.cdv))) :
    JSs (famB g 2 ["value", "low", "high"] sc_is_between.nd (defScope (top 11)) b hr) (defBody (top 11)) m_is_between :=
  (jss_one (js_ret (je_and (je_call (f_is_whole GG) (Nat.le_of_ble_eq_true rfl) (by first | rfl | kernel_rfl) (ja_cons (je_var 0 rfl (.inl (by first | rfl | kernel_rfl))) ja_nil)) (je_one (je_chain os_le os_le (je_var 1 rfl (.inl (by first | rfl | kernel_rfl))) (je_var 0 rfl (.inl (by first | rfl | kernel_rfl))) (je_var 2 rfl (.inl (by first | rfl | kernel_rfl))))))))
theorem f_is_between {g : Gb} (GG : GF g) : Fn g (top 11) "is_between" "is_between" ["value", "low", "high"] 3 D_is_between := by
  obtain ⟨f, fd, hx, D0⟩ := GG.d_is_between
  exact fn_mk outD outD_hout hx D0 sc_is_between (fun kV doc pm an cdv ct us hl => match us, hl with | [_, _, _], _ => rfl) (fun b hr => b_is_between GG b hr)
/-- is_number -/
theorem sc_is_number : FnScope ["value"] ["value"] (defScope (top 15)) := ⟨rfl, rfl, rfl, by decide +kernel, rfl, by decide +kernel, by decide +kernel⟩
def m_is_number : SM :=
  (sret (xfn 3 (D_is_between) (xcons (xvar 0) (xcons (xneg (xpure (.int (9)))) (xcons (xpure (.int (9))) (xpure []))))))
abbrev D_is_number : DF := runF 1 m_is_number
theorem b_is_number {g : Gb} (GG : GF g) (b : Bd) (hr : Room 4 (b.A.deeper (PyProof.Rows.envOfC b.qual (defScope (top 15)) b.s.heap.objs.size b.f b.cdv))) :
    JSs (famB g 4 ["value"] sc_is_number.nd (defScope (top 15)) b hr) (defBody (top 15)) m_is_number :=
  (jss_one (js_ret (je_call (f_is_between GG) (Nat.le_of_ble_eq_true rfl) (by first | rfl | kernel_rfl) (ja_cons (je_var 0 rfl (.inl (by first | rfl | kernel_rfl))) (ja_cons (je_neg (je_gint (by first | rfl | kernel_rfl) GG.c_MOST_SIZE)) (ja_cons (je_gint (by first | rfl | kernel_rfl) GG.c_MOST_SIZE) ja_nil))))))
theorem f_is_number {g : Gb} (GG : GF g) : Fn g (top 15) "is_number" "is_number" ["value"] 5 D_is_number := by
  obtain ⟨f, fd, hx, D0⟩ := GG.d_is_number
  exact fn_mk outD outD_hout hx D0 sc_is_number (fun kV doc pm an cdv ct us hl => match us, hl with | [_], _ => rfl) (fun b hr => b_is_number GG b hr)
/-- wrong_in_row -/
theorem sc_wrong_in_row : FnScope ["value", "each", "index"] ["value"] (defScope (top 16)) := ⟨rfl, rfl, rfl, by decide +kernel, rfl, by decide +kernel, by decide +kernel⟩
def m_wrong_in_row_t1 : XM Bool :=
  (tnot (xtru (xfn 1 (D_is_number) (xcons (xvar 1) (xpure [])))))
def m_wrong_in_row : SM :=
  (sseq (sif (tor (tnot (xtru (xcall (f2 isiD) (xcons (xvar 0) (xcons (xpure (.ty "tuple")) (xpure [])))))) (tnot (xbool (xchain leD leD (xpure (.int 1)) (xcall (f1 lenD) (xcons (xvar 0) (xpure []))) (xpure (.int (8))))))) (sret (xlst (xcons (xpure .non) (xpure [])))) snext) (sret (xslice (xcomp (xenum (xvar 0)) [2, 1] (gtup 2 (gcons (gname 2) (gcons (gname 1) gnil))) m_wrong_in_row_t1 (xvar 2)) (xpure none) (xpart (xpure (.int 1))))))
abbrev D_wrong_in_row : DF := runF 3 m_wrong_in_row
theorem b_wrong_in_row {g : Gb} (GG : GF g) (b : Bd) (hr : Room 6 (b.A.deeper (PyProof.Rows.envOfC b.qual (defScope (top 16)) b.s.heap.objs.size b.f b.cdv))) :
    JSs (famB g 6 ["value", "each", "index"] sc_wrong_in_row.nd (defScope (top 16)) b hr) (defBody (top 16)) m_wrong_in_row :=
  (jss_cons (js_if (jw_or (jt_not (jt_tru (je_callB cs_isi (by first | rfl | kernel_rfl) GG.b_isinstance bt_isinstance (ja_cons (je_var 0 rfl (.inl (by first | rfl | kernel_rfl))) (ja_cons (je_gty (by first | rfl | kernel_rfl) GG.b_tuple bt_tuple) ja_nil))))) (jw_or1 (jt_not (jt_chain os_le os_le je_int (je_callB cs_len (by first | rfl | kernel_rfl) GG.b_len bt_len (ja_cons (je_var 0 rfl (.inl (by first | rfl | kernel_rfl))) ja_nil)) (je_gint (by first | rfl | kernel_rfl) GG.c_MOST_NUMBERS))))).jt (jss_one (js_ret (je_lst (ja_cons je_non ja_nil)))) jss_nil)
      (jss_one (js_ret (je_slice (je_lc [("index", 2), ("each", 1)] (ji_enum (by first | rfl | kernel_rfl) GG.b_enumerate (je_var 0 rfl (.inl (by first | rfl | kernel_rfl)))) (by first | rfl | kernel_rfl) (jc_tup (jcs_cons (jc_name 2 rfl (.inl (by first | rfl | kernel_rfl)) (by decide)) (jcs_cons (jc_name 1 rfl (.inl (by first | rfl | kernel_rfl)) (by decide)) jcs_nil))) (jts_one (jt_not (jt_tru (je_call (f_is_number GG) (Nat.le_of_ble_eq_true rfl) (by first | rfl | kernel_rfl) (ja_cons (je_var 1 rfl (.inl (by first | rfl | kernel_rfl))) ja_nil))))) (je_var 2 rfl (.inl (by first | rfl | kernel_rfl)))) jo_none (jo_some je_int)))))
theorem f_wrong_in_row {g : Gb} (GG : GF g) : Fn g (top 16) "wrong_in_row" "wrong_in_row" ["value"] 7 D_wrong_in_row := by
  obtain ⟨f, fd, hx, D0⟩ := GG.d_wrong_in_row
  exact fn_mk outD outD_hout hx D0 sc_wrong_in_row (fun kV doc pm an cdv ct us hl => match us, hl with | [_], _ => rfl) (fun b hr => b_wrong_in_row GG b hr)
/-- check_row -/
theorem sc_check_row : FnScope ["value", "index"] ["value"] (defScope (top 24)) := ⟨rfl, rfl, rfl, by decide +kernel, rfl, by decide +kernel, by decide +kernel⟩
def m_check_row : SM :=
  (sfor (xwalk (xfn 1 (D_wrong_in_row) (xcons (xvar 0) (xpure [])))) (gname 1) snever)
abbrev D_check_row : DF := runF 2 m_check_row
theorem b_check_row {g : Gb} (GG : GF g) (b : Bd) (hr : Room 8 (b.A.deeper (PyProof.Rows.envOfC b.qual (defScope (top 24)) b.s.heap.objs.size b.f b.cdv))) :
    JSs (famB g 8 ["value", "index"] sc_check_row.nd (defScope (top 24)) b hr) (defBody (top 24)) m_check_row :=
  (jss_one (js_for (ji_seq (je_call (f_wrong_in_row GG) (Nat.le_of_ble_eq_true rfl) (by first | rfl | kernel_rfl) (ja_cons (je_var 0 rfl (.inl (by first | rfl | kernel_rfl))) ja_nil))) (jg_name 1 rfl (.inl (by first | rfl | kernel_rfl))) (jss_one js_never)))
theorem f_check_row {g : Gb} (GG : GF g) : Fn g (top 24) "check_row" "check_row" ["value"] 9 D_check_row := by
  obtain ⟨f, fd, hx, D0⟩ := GG.d_check_row
  exact fn_mk outD outD_hout hx D0 sc_check_row (fun kV doc pm an cdv ct us hl => match us, hl with | [_], _ => rfl) (fun b hr => b_check_row GG b hr)
/-- turned_by -/
theorem sc_turned_by : FnScope ["row", "times"] ["row", "times"] (defScope (top 27)) := ⟨rfl, rfl, rfl, by decide +kernel, rfl, by decide +kernel, by decide +kernel⟩
def m_turned_by : SM :=
  (sret (xop addD (xslice (xvar 0) (xpart (xvar 1)) (xpure none)) (xslice (xvar 0) (xpure none) (xpart (xvar 1)))))
abbrev D_turned_by : DF := runF 2 m_turned_by
theorem b_turned_by {g : Gb} (GG : GF g) (b : Bd) (hr : Room 0 (b.A.deeper (PyProof.Rows.envOfC b.qual (defScope (top 27)) b.s.heap.objs.size b.f b.cdv))) :
    JSs (famB g 0 ["row", "times"] sc_turned_by.nd (defScope (top 27)) b hr) (defBody (top 27)) m_turned_by :=
  (jss_one (js_ret (je_op os_add (je_slice (je_var 0 rfl (.inl (by first | rfl | kernel_rfl))) (jo_some (je_var 1 rfl (.inl (by first | rfl | kernel_rfl)))) jo_none) (je_slice (je_var 0 rfl (.inl (by first | rfl | kernel_rfl))) jo_none (jo_some (je_var 1 rfl (.inl (by first | rfl | kernel_rfl))))))))
theorem f_turned_by {g : Gb} (GG : GF g) : Fn g (top 27) "turned_by" "turned_by" ["row", "times"] 1 D_turned_by := by
  obtain ⟨f, fd, hx, D0⟩ := GG.d_turned_by
  exact fn_mk outD outD_hout hx D0 sc_turned_by (fun kV doc pm an cdv ct us hl => match us, hl with | [_, _], _ => rfl) (fun b hr => b_turned_by GG b hr)
/-- all_turnings -/
theorem sc_all_turnings : FnScope ["row", "times"] ["row"] (defScope (top 28)) := ⟨rfl, rfl, rfl, by decide +kernel, rfl, by decide +kernel, by decide +kernel⟩
def m_all_turnings_e1 : XM D :=
  (xfn 2 (D_turned_by) (xcons (xvar 0) (xcons (xvar 1) (xpure []))))
def m_all_turnings : SM :=
  (sret (xcomp (xrange1 (xcall (f1 lenD) (xcons (xvar 0) (xpure [])))) [1] (gname 1) (xpure true) m_all_turnings_e1))
abbrev D_all_turnings : DF := runF 2 m_all_turnings
theorem b_all_turnings {g : Gb} (GG : GF g) (b : Bd) (hr : Room 2 (b.A.deeper (PyProof.Rows.envOfC b.qual (defScope (top 28)) b.s.heap.objs.size b.f b.cdv))) :
    JSs (famB g 2 ["row", "times"] sc_all_turnings.nd (defScope (top 28)) b hr) (defBody (top 28)) m_all_turnings :=
  (jss_one (js_ret (je_lc [("times", 1)] (ji_range1 (by first | rfl | kernel_rfl) GG.b_range (je_callB cs_len (by first | rfl | kernel_rfl) GG.b_len bt_len (ja_cons (je_var 0 rfl (.inr (.inl (by first | rfl | kernel_rfl)))) ja_nil))) (by first | rfl | kernel_rfl) (jc_name 1 rfl (.inl (by first | rfl | kernel_rfl)) (by decide)) jts_nil (je_call (f_turned_by GG) (Nat.le_of_ble_eq_true rfl) (by first | rfl | kernel_rfl) (ja_cons (je_var 0 rfl (.inr (.inl (by first | rfl | kernel_rfl)))) (ja_cons (je_var 1 rfl (.inl (by first | rfl | kernel_rfl))) ja_nil))))))
theorem f_all_turnings {g : Gb} (GG : GF g) : Fn g (top 28) "all_turnings" "all_turnings" ["row"] 3 D_all_turnings := by
  obtain ⟨f, fd, hx, D0⟩ := GG.d_all_turnings
  exact fn_mk outD outD_hout hx D0 sc_all_turnings (fun kV doc pm an cdv ct us hl => match us, hl with | [_], _ => rfl) (fun b hr => b_all_turnings GG b hr)
/-- sums_by -/
theorem sc_sums_by : FnScope ["row", "found", "number"] ["row"] (defScope (top 17)) := ⟨rfl, rfl, rfl, by decide +kernel, rfl, by decide +kernel, by decide +kernel⟩
def m_sums_by_b1 : SM :=
  (sdrop (xappend (xvar 1) (xop addD (xop ixD (xvar 1) (xneg (xpure (.int 1)))) (xvar 2))))
def m_sums_by : SM :=
  (sseq (sset 1 (xlstM (xcons (xpure (.int 0)) (xpure [])))) (sseq (sfor (xwalk (xvar 0)) (gname 2) m_sums_by_b1) (sret (xcall (f1 tupleD) (xcons (xvar 1) (xpure []))))))
abbrev D_sums_by : DF := runF 3 m_sums_by
theorem b_sums_by {g : Gb} (GG : GF g) (b : Bd) (hr : Room 0 (b.A.deeper (PyProof.Rows.envOfC b.qual (defScope (top 17)) b.s.heap.objs.size b.f b.cdv))) :
    JSs (famB g 0 ["row", "found", "number"] sc_sums_by.nd (defScope (top 17)) b hr) (defBody (top 17)) m_sums_by :=
  (jss_cons (js_set 1 rfl (.inl (by first | rfl | kernel_rfl)) (je_lstM (ja_cons je_int ja_nil)))
      (jss_cons (js_for (ji_seq (je_var 0 rfl (.inl (by first | rfl | kernel_rfl)))) (jg_name 2 rfl (.inl (by first | rfl | kernel_rfl))) (jss_one (js_expr (je_append (je_var 1 rfl (.inl (by first | rfl | kernel_rfl))) (je_op os_add (je_ix (je_var 1 rfl (.inl (by first | rfl | kernel_rfl))) (je_neg je_int)) (je_var 2 rfl (.inl (by first | rfl | kernel_rfl))))))))
      (jss_one (js_ret (je_callTy cs_tuple (by first | rfl | kernel_rfl) GG.b_tuple bt_tuple (ja_cons (je_var 1 rfl (.inl (by first | rfl | kernel_rfl))) ja_nil))))))
theorem f_sums_by {g : Gb} (GG : GF g) : Fn g (top 17) "sums_by" "sums_by" ["row"] 1 D_sums_by := by
  obtain ⟨f, fd, hx, D0⟩ := GG.d_sums_by
  exact fn_mk outD outD_hout hx D0 sc_sums_by (fun kV doc pm an cdv ct us hl => match us, hl with | [_], _ => rfl) (fun b hr => b_sums_by GG b hr)
/-- falls_by -/
theorem sc_falls_by : FnScope ["row", "each", "place"] ["row"] (defScope (top 20)) := ⟨rfl, rfl, rfl, by decide +kernel, rfl, by decide +kernel, by decide +kernel⟩
def m_falls_by_t1 : XM Bool :=
  (tand (xbool (xop gtD (xvar 2) (xpure (.int 0)))) (xbool (xop leD (xvar 1) (xpure (.int 0)))))
def m_falls_by : SM :=
  (sret (xcomp (xenum (xfn 1 (D_sums_by) (xcons (xvar 0) (xpure [])))) [2, 1] (gtup 2 (gcons (gname 2) (gcons (gname 1) gnil))) m_falls_by_t1 (xvar 2)))
abbrev D_falls_by : DF := runF 3 m_falls_by
theorem b_falls_by {g : Gb} (GG : GF g) (b : Bd) (hr : Room 2 (b.A.deeper (PyProof.Rows.envOfC b.qual (defScope (top 20)) b.s.heap.objs.size b.f b.cdv))) :
    JSs (famB g 2 ["row", "each", "place"] sc_falls_by.nd (defScope (top 20)) b hr) (defBody (top 20)) m_falls_by :=
  (jss_one (js_ret (je_lc [("place", 2), ("each", 1)] (ji_enum (by first | rfl | kernel_rfl) GG.b_enumerate (je_call (f_sums_by GG) (Nat.le_of_ble_eq_true rfl) (by first | rfl | kernel_rfl) (ja_cons (je_var 0 rfl (.inl (by first | rfl | kernel_rfl))) ja_nil))) (by first | rfl | kernel_rfl) (jc_tup (jcs_cons (jc_name 2 rfl (.inl (by first | rfl | kernel_rfl)) (by decide)) (jcs_cons (jc_name 1 rfl (.inl (by first | rfl | kernel_rfl)) (by decide)) jcs_nil))) (jts_one (jw_and (jt_cmp os_gt (je_var 2 rfl (.inl (by first | rfl | kernel_rfl))) je_int rfl) (jw_and1 (jt_cmp os_le (je_var 1 rfl (.inl (by first | rfl | kernel_rfl))) je_int rfl))).jt) (je_var 2 rfl (.inl (by first | rfl | kernel_rfl))))))
theorem f_falls_by {g : Gb} (GG : GF g) : Fn g (top 20) "falls_by" "falls_by" ["row"] 3 D_falls_by := by
  obtain ⟨f, fd, hx, D0⟩ := GG.d_falls_by
  exact fn_mk outD outD_hout hx D0 sc_falls_by (fun kV doc pm an cdv ct us hl => match us, hl with | [_], _ => rfl) (fun b hr => b_falls_by GG b hr)
/-- leads_by -/
theorem sc_leads_by : FnScope ["row"] ["row"] (defScope (top 21)) := ⟨rfl, rfl, rfl, by decide +kernel, rfl, by decide +kernel, by decide +kernel⟩
def m_leads_by : SM :=
  (sret (xop eqD (xfn 1 (D_falls_by) (xcons (xvar 0) (xpure []))) (xlst (xpure []))))
abbrev D_leads_by : DF := runF 1 m_leads_by
theorem b_leads_by {g : Gb} (GG : GF g) (b : Bd) (hr : Room 4 (b.A.deeper (PyProof.Rows.envOfC b.qual (defScope (top 21)) b.s.heap.objs.size b.f b.cdv))) :
    JSs (famB g 4 ["row"] sc_leads_by.nd (defScope (top 21)) b hr) (defBody (top 21)) m_leads_by :=
  (jss_one (js_ret (je_cmp os_eq (je_call (f_falls_by GG) (Nat.le_of_ble_eq_true rfl) (by first | rfl | kernel_rfl) (ja_cons (je_var 0 rfl (.inl (by first | rfl | kernel_rfl))) ja_nil)) (je_lst ja_nil) rfl)))
theorem f_leads_by {g : Gb} (GG : GF g) : Fn g (top 21) "leads_by" "leads_by" ["row"] 5 D_leads_by := by
  obtain ⟨f, fd, hx, D0⟩ := GG.d_leads_by
  exact fn_mk outD outD_hout hx D0 sc_leads_by (fun kV doc pm an cdv ct us hl => match us, hl with | [_], _ => rfl) (fun b hr => b_leads_by GG b hr)
/-- leading_turnings_by -/
theorem sc_leading_turnings_by : FnScope ["row", "each", "times"] ["row"] (defScope (top 29)) := ⟨rfl, rfl, rfl, by decide +kernel, rfl, by decide +kernel, by decide +kernel⟩
def m_leading_turnings_by_t1 : XM Bool :=
  (xtru (xfn 1 (D_leads_by) (xcons (xvar 1) (xpure []))))
def m_leading_turnings_by : SM :=
  (sret (xcall (f1 tupleD) (xcons (xcomp (xenum (xfn 1 (D_all_turnings) (xcons (xvar 0) (xpure [])))) [2, 1] (gtup 2 (gcons (gname 2) (gcons (gname 1) gnil))) m_leading_turnings_by_t1 (xvar 2)) (xpure []))))
abbrev D_leading_turnings_by : DF := runF 3 m_leading_turnings_by
theorem b_leading_turnings_by {g : Gb} (GG : GF g) (b : Bd) (hr : Room 6 (b.A.deeper (PyProof.Rows.envOfC b.qual (defScope (top 29)) b.s.heap.objs.size b.f b.cdv))) :
    JSs (famB g 6 ["row", "each", "times"] sc_leading_turnings_by.nd (defScope (top 29)) b hr) (defBody (top 29)) m_leading_turnings_by :=
  (jss_one (js_ret (je_callTy cs_tuple (by first | rfl | kernel_rfl) GG.b_tuple bt_tuple (ja_cons (je_lc [("times", 2), ("each", 1)] (ji_enum (by first | rfl | kernel_rfl) GG.b_enumerate (je_call (f_all_turnings GG) (Nat.le_of_ble_eq_true rfl) (by first | rfl | kernel_rfl) (ja_cons (je_var 0 rfl (.inl (by first | rfl | kernel_rfl))) ja_nil))) (by first | rfl | kernel_rfl) (jc_tup (jcs_cons (jc_name 2 rfl (.inl (by first | rfl | kernel_rfl)) (by decide)) (jcs_cons (jc_name 1 rfl (.inl (by first | rfl | kernel_rfl)) (by decide)) jcs_nil))) (jts_one (jt_tru (je_call (f_leads_by GG) (Nat.le_of_ble_eq_true rfl) (by first | rfl | kernel_rfl) (ja_cons (je_var 1 rfl (.inl (by first | rfl | kernel_rfl))) ja_nil)))) (je_var 2 rfl (.inl (by first | rfl | kernel_rfl)))) ja_nil))))
theorem f_leading_turnings_by {g : Gb} (GG : GF g) : Fn g (top 29) "leading_turnings_by" "leading_turnings_by" ["row"] 7 D_leading_turnings_by := by
  obtain ⟨f, fd, hx, D0⟩ := GG.d_leading_turnings_by
  exact fn_mk outD outD_hout hx D0 sc_leading_turnings_by (fun kV doc pm an cdv ct us hl => match us, hl with | [_], _ => rfl) (fun b hr => b_leading_turnings_by GG b hr)
/-- leading_turnings -/
theorem sc_leading_turnings : FnScope ["row"] ["row"] (defScope (top 34)) := ⟨rfl, rfl, rfl, by decide +kernel, rfl, by decide +kernel, by decide +kernel⟩
def m_leading_turnings : SM :=
  (sseq (sdrop (xfn 1 (D_check_row) (xcons (xvar 0) (xpure [])))) (sret (xfn 1 (D_leading_turnings_by) (xcons (xvar 0) (xpure [])))))
abbrev D_leading_turnings : DF := runF 1 m_leading_turnings
theorem b_leading_turnings {g : Gb} (GG : GF g) (b : Bd) (hr : Room 10 (b.A.deeper (PyProof.Rows.envOfC b.qual (defScope (top 34)) b.s.heap.objs.size b.f b.cdv))) :
    JSs (famB g 10 ["row"] sc_leading_turnings.nd (defScope (top 34)) b hr) (defBody (top 34)) m_leading_turnings :=
  (jss_cons (js_expr (je_call (f_check_row GG) (Nat.le_of_ble_eq_true rfl) (by first | rfl | kernel_rfl) (ja_cons (je_var 0 rfl (.inl (by first | rfl | kernel_rfl))) ja_nil)))
      (jss_one (js_ret (je_call (f_leading_turnings_by GG) (Nat.le_of_ble_eq_true rfl) (by first | rfl | kernel_rfl) (ja_cons (je_var 0 rfl (.inl (by first | rfl | kernel_rfl))) ja_nil)))))
theorem f_leading_turnings {g : Gb} (GG : GF g) : Fn g (top 34) "leading_turnings" "leading_turnings" ["row"] 11 D_leading_turnings := by
  obtain ⟨f, fd, hx, D0⟩ := GG.d_leading_turnings
  exact fn_mk outD outD_hout hx D0 sc_leading_turnings (fun kV doc pm an cdv ct us hl => match us, hl with | [_], _ => rfl) (fun b hr => b_leading_turnings GG b hr)
/-- lowest_by -/
theorem sc_lowest_by : FnScope ["row"] ["row"] (defScope (top 19)) := ⟨rfl, rfl, rfl, by decide +kernel, rfl, by decide +kernel, by decide +kernel⟩
def m_lowest_by : SM :=
  (sret (xcall (f1 minD) (xcons (xfn 1 (D_sums_by) (xcons (xvar 0) (xpure []))) (xpure []))))
abbrev D_lowest_by : DF := runF 1 m_lowest_by
theorem b_lowest_by {g : Gb} (GG : GF g) (b : Bd) (hr : Room 2 (b.A.deeper (PyProof.Rows.envOfC b.qual (defScope (top 19)) b.s.heap.objs.size b.f b.cdv))) :
    JSs (famB g 2 ["row"] sc_lowest_by.nd (defScope (top 19)) b hr) (defBody (top 19)) m_lowest_by :=
  (jss_one (js_ret (je_callB cs_min (by first | rfl | kernel_rfl) GG.b_min bt_min (ja_cons (je_call (f_sums_by GG) (Nat.le_of_ble_eq_true rfl) (by first | rfl | kernel_rfl) (ja_cons (je_var 0 rfl (.inl (by first | rfl | kernel_rfl))) ja_nil)) ja_nil))))
theorem f_lowest_by {g : Gb} (GG : GF g) : Fn g (top 19) "lowest_by" "lowest_by" ["row"] 3 D_lowest_by := by
  obtain ⟨f, fd, hx, D0⟩ := GG.d_lowest_by
  exact fn_mk outD outD_hout hx D0 sc_lowest_by (fun kV doc pm an cdv ct us hl => match us, hl with | [_], _ => rfl) (fun b hr => b_lowest_by GG b hr)
/-- stands_by -/
theorem sc_stands_by : FnScope ["row"] ["row"] (defScope (top 22)) := ⟨rfl, rfl, rfl, by decide +kernel, rfl, by decide +kernel, by decide +kernel⟩
def m_stands_by : SM :=
  (sret (xop eqD (xfn 1 (D_lowest_by) (xcons (xvar 0) (xpure []))) (xpure (.int 0))))
abbrev D_stands_by : DF := runF 1 m_stands_by
theorem b_stands_by {g : Gb} (GG : GF g) (b : Bd) (hr : Room 4 (b.A.deeper (PyProof.Rows.envOfC b.qual (defScope (top 22)) b.s.heap.objs.size b.f b.cdv))) :
    JSs (famB g 4 ["row"] sc_stands_by.nd (defScope (top 22)) b hr) (defBody (top 22)) m_stands_by :=
  (jss_one (js_ret (je_cmp os_eq (je_call (f_lowest_by GG) (Nat.le_of_ble_eq_true rfl) (by first | rfl | kernel_rfl) (ja_cons (je_var 0 rfl (.inl (by first | rfl | kernel_rfl))) ja_nil)) je_int rfl)))
theorem f_stands_by {g : Gb} (GG : GF g) : Fn g (top 22) "stands_by" "stands_by" ["row"] 5 D_stands_by := by
  obtain ⟨f, fd, hx, D0⟩ := GG.d_stands_by
  exact fn_mk outD outD_hout hx D0 sc_stands_by (fun kV doc pm an cdv ct us hl => match us, hl with | [_], _ => rfl) (fun b hr => b_stands_by GG b hr)
/-- standing_turnings_by -/
theorem sc_standing_turnings_by : FnScope ["row", "each", "times"] ["row"] (defScope (top 30)) := ⟨rfl, rfl, rfl, by decide +kernel, rfl, by decide +kernel, by decide +kernel⟩
def m_standing_turnings_by_t1 : XM Bool :=
  (xtru (xfn 1 (D_stands_by) (xcons (xvar 1) (xpure []))))
def m_standing_turnings_by : SM :=
  (sret (xcall (f1 tupleD) (xcons (xcomp (xenum (xfn 1 (D_all_turnings) (xcons (xvar 0) (xpure [])))) [2, 1] (gtup 2 (gcons (gname 2) (gcons (gname 1) gnil))) m_standing_turnings_by_t1 (xvar 2)) (xpure []))))
abbrev D_standing_turnings_by : DF := runF 3 m_standing_turnings_by
theorem b_standing_turnings_by {g : Gb} (GG : GF g) (b : Bd) (hr : Room 6 (b.A.deeper (PyProof.Rows.envOfC b.qual (defScope (top 30)) b.s.heap.objs.size b.f b.cdv))) :
    JSs (famB g 6 ["row", "each", "times"] sc_standing_turnings_by.nd (defScope (top 30)) b hr) (defBody (top 30)) m_standing_turnings_by :=
  (jss_one (js_ret (je_callTy cs_tuple (by first | rfl | kernel_rfl) GG.b_tuple bt_tuple (ja_cons (je_lc [("times", 2), ("each", 1)] (ji_enum (by first | rfl | kernel_rfl) GG.b_enumerate (je_call (f_all_turnings GG) (Nat.le_of_ble_eq_true rfl) (by first | rfl | kernel_rfl) (ja_cons (je_var 0 rfl (.inl (by first | rfl | kernel_rfl))) ja_nil))) (by first | rfl | kernel_rfl) (jc_tup (jcs_cons (jc_name 2 rfl (.inl (by first | rfl | kernel_rfl)) (by decide)) (jcs_cons (jc_name 1 rfl (.inl (by first | rfl | kernel_rfl)) (by decide)) jcs_nil))) (jts_one (jt_tru (je_call (f_stands_by GG) (Nat.le_of_ble_eq_true rfl) (by first | rfl | kernel_rfl) (ja_cons (je_var 1 rfl (.inl (by first | rfl | kernel_rfl))) ja_nil)))) (je_var 2 rfl (.inl (by first | rfl | kernel_rfl)))) ja_nil))))
theorem f_standing_turnings_by {g : Gb} (GG : GF g) : Fn g (top 30) "standing_turnings_by" "standing_turnings_by" ["row"] 7 D_standing_turnings_by := by
  obtain ⟨f, fd, hx, D0⟩ := GG.d_standing_turnings_by
  exact fn_mk outD outD_hout hx D0 sc_standing_turnings_by (fun kV doc pm an cdv ct us hl => match us, hl with | [_], _ => rfl) (fun b hr => b_standing_turnings_by GG b hr)
/-- standing_turnings -/
theorem sc_standing_turnings : FnScope ["row"] ["row"] (defScope (top 35)) := ⟨rfl, rfl, rfl, by decide +kernel, rfl, by decide +kernel, by decide +kernel⟩
def m_standing_turnings : SM :=
  (sseq (sdrop (xfn 1 (D_check_row) (xcons (xvar 0) (xpure [])))) (sret (xfn 1 (D_standing_turnings_by) (xcons (xvar 0) (xpure [])))))
abbrev D_standing_turnings : DF := runF 1 m_standing_turnings
theorem b_standing_turnings {g : Gb} (GG : GF g) (b : Bd) (hr : Room 10 (b.A.deeper (PyProof.Rows.envOfC b.qual (defScope (top 35)) b.s.heap.objs.size b.f b.cdv))) :
    JSs (famB g 10 ["row"] sc_standing_turnings.nd (defScope (top 35)) b hr) (defBody (top 35)) m_standing_turnings :=
  (jss_cons (js_expr (je_call (f_check_row GG) (Nat.le_of_ble_eq_true rfl) (by first | rfl | kernel_rfl) (ja_cons (je_var 0 rfl (.inl (by first | rfl | kernel_rfl))) ja_nil)))
      (jss_one (js_ret (je_call (f_standing_turnings_by GG) (Nat.le_of_ble_eq_true rfl) (by first | rfl | kernel_rfl) (ja_cons (je_var 0 rfl (.inl (by first | rfl | kernel_rfl))) ja_nil)))))
theorem f_standing_turnings {g : Gb} (GG : GF g) : Fn g (top 35) "standing_turnings" "standing_turnings" ["row"] 11 D_standing_turnings := by
  obtain ⟨f, fd, hx, D0⟩ := GG.d_standing_turnings
  exact fn_mk outD outD_hout hx D0 sc_standing_turnings (fun kV doc pm an cdv ct us hl => match us, hl with | [_], _ => rfl) (fun b hr => b_standing_turnings GG b hr)
/-- above_by -/
theorem sc_above_by : FnScope ["row", "each"] ["row"] (defScope (top 18)) := ⟨rfl, rfl, rfl, by decide +kernel, rfl, by decide +kernel, by decide +kernel⟩
def m_above_by_t1 : XM Bool :=
  (xbool (xop gtD (xvar 1) (xpure (.int 0))))
def m_above_by : SM :=
  (sret (xcall (f1 lenD) (xcons (xcomp (xwalk (xfn 1 (D_sums_by) (xcons (xvar 0) (xpure [])))) [1] (gname 1) m_above_by_t1 (xvar 1)) (xpure []))))
abbrev D_above_by : DF := runF 2 m_above_by
theorem b_above_by {g : Gb} (GG : GF g) (b : Bd) (hr : Room 2 (b.A.deeper (PyProof.Rows.envOfC b.qual (defScope (top 18)) b.s.heap.objs.size b.f b.cdv))) :
    JSs (famB g 2 ["row", "each"] sc_above_by.nd (defScope (top 18)) b hr) (defBody (top 18)) m_above_by :=
  (jss_one (js_ret (je_callB cs_len (by first | rfl | kernel_rfl) GG.b_len bt_len (ja_cons (je_lc [("each", 1)] (ji_seq (je_call (f_sums_by GG) (Nat.le_of_ble_eq_true rfl) (by first | rfl | kernel_rfl) (ja_cons (je_var 0 rfl (.inl (by first | rfl | kernel_rfl))) ja_nil))) (by first | rfl | kernel_rfl) (jc_name 1 rfl (.inl (by first | rfl | kernel_rfl)) (by decide)) (jts_one (jt_cmp os_gt (je_var 1 rfl (.inl (by first | rfl | kernel_rfl))) je_int rfl)) (je_var 1 rfl (.inl (by first | rfl | kernel_rfl)))) ja_nil))))
theorem f_above_by {g : Gb} (GG : GF g) : Fn g (top 18) "above_by" "above_by" ["row"] 3 D_above_by := by
  obtain ⟨f, fd, hx, D0⟩ := GG.d_above_by
  exact fn_mk outD outD_hout hx D0 sc_above_by (fun kV doc pm an cdv ct us hl => match us, hl with | [_], _ => rfl) (fun b hr => b_above_by GG b hr)
/-- turnings_above_by -/
theorem sc_turnings_above_by : FnScope ["row", "each"] ["row"] (defScope (top 31)) := ⟨rfl, rfl, rfl, by decide +kernel, rfl, by decide +kernel, by decide +kernel⟩
def m_turnings_above_by_e1 : XM D :=
  (xfn 1 (D_above_by) (xcons (xvar 1) (xpure [])))
def m_turnings_above_by : SM :=
  (sret (xcall (f1 tupleD) (xcons (xcomp (xwalk (xfn 1 (D_all_turnings) (xcons (xvar 0) (xpure [])))) [1] (gname 1) (xpure true) m_turnings_above_by_e1) (xpure []))))
abbrev D_turnings_above_by : DF := runF 2 m_turnings_above_by
theorem b_turnings_above_by {g : Gb} (GG : GF g) (b : Bd) (hr : Room 4 (b.A.deeper (PyProof.Rows.envOfC b.qual (defScope (top 31)) b.s.heap.objs.size b.f b.cdv))) :
    JSs (famB g 4 ["row", "each"] sc_turnings_above_by.nd (defScope (top 31)) b hr) (defBody (top 31)) m_turnings_above_by :=
  (jss_one (js_ret (je_callTy cs_tuple (by first | rfl | kernel_rfl) GG.b_tuple bt_tuple (ja_cons (je_lc [("each", 1)] (ji_seq (je_call (f_all_turnings GG) (Nat.le_of_ble_eq_true rfl) (by first | rfl | kernel_rfl) (ja_cons (je_var 0 rfl (.inl (by first | rfl | kernel_rfl))) ja_nil))) (by first | rfl | kernel_rfl) (jc_name 1 rfl (.inl (by first | rfl | kernel_rfl)) (by decide)) jts_nil (je_call (f_above_by GG) (Nat.le_of_ble_eq_true rfl) (by first | rfl | kernel_rfl) (ja_cons (je_var 1 rfl (.inl (by first | rfl | kernel_rfl))) ja_nil))) ja_nil))))
theorem f_turnings_above_by {g : Gb} (GG : GF g) : Fn g (top 31) "turnings_above_by" "turnings_above_by" ["row"] 5 D_turnings_above_by := by
  obtain ⟨f, fd, hx, D0⟩ := GG.d_turnings_above_by
  exact fn_mk outD outD_hout hx D0 sc_turnings_above_by (fun kV doc pm an cdv ct us hl => match us, hl with | [_], _ => rfl) (fun b hr => b_turnings_above_by GG b hr)
/-- turnings_above -/
theorem sc_turnings_above : FnScope ["row"] ["row"] (defScope (top 36)) := ⟨rfl, rfl, rfl, by decide +kernel, rfl, by decide +kernel, by decide +kernel⟩
def m_turnings_above : SM :=
  (sseq (sdrop (xfn 1 (D_check_row) (xcons (xvar 0) (xpure [])))) (sret (xfn 1 (D_turnings_above_by) (xcons (xvar 0) (xpure [])))))
abbrev D_turnings_above : DF := runF 1 m_turnings_above
theorem b_turnings_above {g : Gb} (GG : GF g) (b : Bd) (hr : Room 10 (b.A.deeper (PyProof.Rows.envOfC b.qual (defScope (top 36)) b.s.heap.objs.size b.f b.cdv))) :
    JSs (famB g 10 ["row"] sc_turnings_above.nd (defScope (top 36)) b hr) (defBody (top 36)) m_turnings_above :=
  (jss_cons (js_expr (je_call (f_check_row GG) (Nat.le_of_ble_eq_true rfl) (by first | rfl | kernel_rfl) (ja_cons (je_var 0 rfl (.inl (by first | rfl | kernel_rfl))) ja_nil)))
      (jss_one (js_ret (je_call (f_turnings_above_by GG) (Nat.le_of_ble_eq_true rfl) (by first | rfl | kernel_rfl) (ja_cons (je_var 0 rfl (.inl (by first | rfl | kernel_rfl))) ja_nil)))))
theorem f_turnings_above {g : Gb} (GG : GF g) : Fn g (top 36) "turnings_above" "turnings_above" ["row"] 11 D_turnings_above := by
  obtain ⟨f, fd, hx, D0⟩ := GG.d_turnings_above
  exact fn_mk outD outD_hout hx D0 sc_turnings_above (fun kV doc pm an cdv ct us hl => match us, hl with | [_], _ => rfl) (fun b hr => b_turnings_above GG b hr)
/-- _law_same -/
theorem sc_u_law_same : FnScope ["one", "other", "k"] ["one", "other"] (defScope (top 78)) := ⟨rfl, rfl, rfl, by decide +kernel, rfl, by decide +kernel, by decide +kernel⟩
def m_u_law_same_t1 (RR : DF) : XM Bool :=
  (tnot (xtru (xfn 2 (RR) (xcons (xop ixD (xvar 0) (xvar 2)) (xcons (xop ixD (xvar 1) (xvar 2)) (xpure []))))))
def m_u_law_same (RR : DF) : SM :=
  (sseq (sif (xtru (xcall (f2 isiD) (xcons (xvar 0) (xcons (xpure (.ty "tuple")) (xpure []))))) (sret (xand (xcall (f2 isiD) (xcons (xvar 1) (xcons (xpure (.ty "tuple")) (xpure [])))) (xand (xop eqD (xcall (f1 lenD) (xcons (xvar 0) (xpure []))) (xcall (f1 lenD) (xcons (xvar 1) (xpure [])))) (xop eqD (xcomp (xrange1 (xcall (f1 lenD) (xcons (xvar 0) (xpure [])))) [2] (gname 2) (m_u_law_same_t1 RR) (xvar 2)) (xlst (xpure [])))))) snext) (sseq (sif (tor (xtru (xcall (f2 isiD) (xcons (xvar 0) (xcons (xpure (.ty "bool")) (xpure []))))) (xtru (xcall (f2 isiD) (xcons (xvar 1) (xcons (xpure (.ty "bool")) (xpure [])))))) (sret (xand (xcall (f2 isiD) (xcons (xvar 0) (xcons (xpure (.ty "bool")) (xpure [])))) (xand (xcall (f2 isiD) (xcons (xvar 1) (xcons (xpure (.ty "bool")) (xpure [])))) (xop eqD (xvar 0) (xvar 1))))) snext) (sret (xand (xop eqD (xcall (f2 isiD) (xcons (xvar 0) (xcons (xpure (.ty "int")) (xpure [])))) (xcall (f2 isiD) (xcons (xvar 1) (xcons (xpure (.ty "int")) (xpure []))))) (xand (xop eqD (xcall (f2 isiD) (xcons (xvar 0) (xcons (xpure (.ty "str")) (xpure [])))) (xcall (f2 isiD) (xcons (xvar 1) (xcons (xpure (.ty "str")) (xpure []))))) (xop eqD (xvar 0) (xvar 1)))))))
def D_u_law_same : Nat → DF
  | 0 => fun _ _ => .stuck
  | n + 1 => runF 3 (m_u_law_same (D_u_law_same n))
theorem b_u_law_same {g : Gb} (GG : GF g) {RR : DF} {k : Nat} (RF : Fn g (top 78) "_law_same" "_law_same" ["one", "other"] (k + 1) RR) (b : Bd) (hr : Room (k + 1) (b.A.deeper (PyProof.Rows.envOfC b.qual (defScope (top 78)) b.s.heap.objs.size b.f b.cdv))) :
    JSs (famB g (k + 1) ["one", "other", "k"] sc_u_law_same.nd (defScope (top 78)) b hr) (defBody (top 78)) (m_u_law_same RR) :=
  (jss_cons (js_if (jt_tru (je_callB cs_isi (by first | rfl | kernel_rfl) GG.b_isinstance bt_isinstance (ja_cons (je_var 0 rfl (.inr (.inl (by first | rfl | kernel_rfl)))) (ja_cons (je_gty (by first | rfl | kernel_rfl) GG.b_tuple bt_tuple) ja_nil)))) (jss_one (js_ret (je_and (je_callB cs_isi (by first | rfl | kernel_rfl) GG.b_isinstance bt_isinstance (ja_cons (je_var 1 rfl (.inr (.inl (by first | rfl | kernel_rfl)))) (ja_cons (je_gty (by first | rfl | kernel_rfl) GG.b_tuple bt_tuple) ja_nil))) (je_and (je_cmp os_eq (je_callB cs_len (by first | rfl | kernel_rfl) GG.b_len bt_len (ja_cons (je_var 0 rfl (.inr (.inl (by first | rfl | kernel_rfl)))) ja_nil)) (je_callB cs_len (by first | rfl | kernel_rfl) GG.b_len bt_len (ja_cons (je_var 1 rfl (.inr (.inl (by first | rfl | kernel_rfl)))) ja_nil)) rfl) (je_one (je_cmp os_eq (je_lc [("k", 2)] (ji_range1 (by first | rfl | kernel_rfl) GG.b_range (je_callB cs_len (by first | rfl | kernel_rfl) GG.b_len bt_len (ja_cons (je_var 0 rfl (.inr (.inl (by first | rfl | kernel_rfl)))) ja_nil))) (by first | rfl | kernel_rfl) (jc_name 2 rfl (.inl (by first | rfl | kernel_rfl)) (by decide)) (jts_one (jt_not (jt_tru (je_call RF (Nat.le_refl _) (by first | rfl | kernel_rfl) (ja_cons (je_ix (je_var 0 rfl (.inr (.inl (by first | rfl | kernel_rfl)))) (je_var 2 rfl (.inl (by first | rfl | kernel_rfl)))) (ja_cons (je_ix (je_var 1 rfl (.inr (.inl (by first | rfl | kernel_rfl)))) (je_var 2 rfl (.inl (by first | rfl | kernel_rfl)))) ja_nil)))))) (je_var 2 rfl (.inl (by first | rfl | kernel_rfl)))) (je_lst ja_nil) rfl)))))) jss_nil)
      (jss_cons (js_if (jw_or (jt_tru (je_callB cs_isi (by first | rfl | kernel_rfl) GG.b_isinstance bt_isinstance (ja_cons (je_var 0 rfl (.inr (.inl (by first | rfl | kernel_rfl)))) (ja_cons (je_gty (by first | rfl | kernel_rfl) GG.b_bool bt_bool) ja_nil)))) (jw_or1 (jt_tru (je_callB cs_isi (by first | rfl | kernel_rfl) GG.b_isinstance bt_isinstance (ja_cons (je_var 1 rfl (.inr (.inl (by first | rfl | kernel_rfl)))) (ja_cons (je_gty (by first | rfl | kernel_rfl) GG.b_bool bt_bool) ja_nil)))))).jt (jss_one (js_ret (je_and (je_callB cs_isi (by first | rfl | kernel_rfl) GG.b_isinstance bt_isinstance (ja_cons (je_var 0 rfl (.inr (.inl (by first | rfl | kernel_rfl)))) (ja_cons (je_gty (by first | rfl | kernel_rfl) GG.b_bool bt_bool) ja_nil))) (je_and (je_callB cs_isi (by first | rfl | kernel_rfl) GG.b_isinstance bt_isinstance (ja_cons (je_var 1 rfl (.inr (.inl (by first | rfl | kernel_rfl)))) (ja_cons (je_gty (by first | rfl | kernel_rfl) GG.b_bool bt_bool) ja_nil))) (je_one (je_cmp os_eq (je_var 0 rfl (.inr (.inl (by first | rfl | kernel_rfl)))) (je_var 1 rfl (.inr (.inl (by first | rfl | kernel_rfl)))) rfl)))))) jss_nil)
      (jss_one (js_ret (je_and (je_cmp os_eq (je_callB cs_isi (by first | rfl | kernel_rfl) GG.b_isinstance bt_isinstance (ja_cons (je_var 0 rfl (.inr (.inl (by first | rfl | kernel_rfl)))) (ja_cons (je_gty (by first | rfl | kernel_rfl) GG.b_int bt_int) ja_nil))) (je_callB cs_isi (by first | rfl | kernel_rfl) GG.b_isinstance bt_isinstance (ja_cons (je_var 1 rfl (.inr (.inl (by first | rfl | kernel_rfl)))) (ja_cons (je_gty (by first | rfl | kernel_rfl) GG.b_int bt_int) ja_nil))) rfl) (je_and (je_cmp os_eq (je_callB cs_isi (by first | rfl | kernel_rfl) GG.b_isinstance bt_isinstance (ja_cons (je_var 0 rfl (.inr (.inl (by first | rfl | kernel_rfl)))) (ja_cons (je_gty (by first | rfl | kernel_rfl) GG.b_str bt_str) ja_nil))) (je_callB cs_isi (by first | rfl | kernel_rfl) GG.b_isinstance bt_isinstance (ja_cons (je_var 1 rfl (.inr (.inl (by first | rfl | kernel_rfl)))) (ja_cons (je_gty (by first | rfl | kernel_rfl) GG.b_str bt_str) ja_nil))) rfl) (je_one (je_cmp os_eq (je_var 0 rfl (.inr (.inl (by first | rfl | kernel_rfl)))) (je_var 1 rfl (.inr (.inl (by first | rfl | kernel_rfl)))) rfl))))))))
theorem f_u_law_same {g : Gb} (GG : GF g) : ∀ n : Nat, Fn g (top 78) "_law_same" "_law_same" ["one", "other"] (n + 1) (D_u_law_same n)
  | 0 => let ⟨f, fd, hx, D0⟩ := GG.d_u_law_same; fn_stuck hx D0 sc_u_law_same (fun kV doc pm an cdv ct us hl => match us, hl with | [_, _], _ => rfl)
  | n + 1 => by
    obtain ⟨f, fd, hx, D0⟩ := GG.d_u_law_same
    have RF := f_u_law_same GG n
    have := fn_mk outD outD_hout hx D0 sc_u_law_same (fun kV doc pm an cdv ct us hl => match us, hl with | [_, _], _ => rfl) (fun b hr => b_u_law_same GG RF b hr)
    rw [show n + 1 + 1 = n + 1 + 1 by omega]
    exact this
/-- check_number -/
theorem sc_check_number : FnScope ["value", "low", "high"] ["value", "low", "high"] (defScope (top 25)) := ⟨rfl, rfl, rfl, by decide +kernel, rfl, by decide +kernel, by decide +kernel⟩
def m_check_number : SM :=
  (sif (tnot (xtru (xfn 3 (D_is_between) (xcons (xvar 0) (xcons (xvar 1) (xcons (xvar 2) (xpure []))))))) snever snext)
abbrev D_check_number : DF := runF 3 m_check_number
theorem b_check_number {g : Gb} (GG : GF g) (b : Bd) (hr : Room 4 (b.A.deeper (PyProof.Rows.envOfC b.qual (defScope (top 25)) b.s.heap.objs.size b.f b.cdv))) :
    JSs (famB g 4 ["value", "low", "high"] sc_check_number.nd (defScope (top 25)) b hr) (defBody (top 25)) m_check_number :=
  (jss_one (js_if (jt_not (jt_tru (je_call (f_is_between GG) (Nat.le_of_ble_eq_true rfl) (by first | rfl | kernel_rfl) (ja_cons (je_var 0 rfl (.inl (by first | rfl | kernel_rfl))) (ja_cons (je_var 1 rfl (.inl (by first | rfl | kernel_rfl))) (ja_cons (je_var 2 rfl (.inl (by first | rfl | kernel_rfl))) ja_nil)))))) (jss_one js_never) jss_nil))
theorem f_check_number {g : Gb} (GG : GF g) : Fn g (top 25) "check_number" "check_number" ["value", "low", "high"] 5 D_check_number := by
  obtain ⟨f, fd, hx, D0⟩ := GG.d_check_number
  exact fn_mk outD outD_hout hx D0 sc_check_number (fun kV doc pm an cdv ct us hl => match us, hl with | [_, _, _], _ => rfl) (fun b hr => b_check_number GG b hr)
/-- turned -/
theorem sc_turned : FnScope ["row", "times"] ["row", "times"] (defScope (top 33)) := ⟨rfl, rfl, rfl, by decide +kernel, rfl, by decide +kernel, by decide +kernel⟩
def m_turned : SM :=
  (sseq (sdrop (xfn 1 (D_check_row) (xcons (xvar 0) (xpure [])))) (sseq (sdrop (xfn 3 (D_check_number) (xcons (xvar 1) (xcons (xpure (.int 0)) (xcons (xop subD (xcall (f1 lenD) (xcons (xvar 0) (xpure []))) (xpure (.int 1))) (xpure [])))))) (sret (xfn 2 (D_turned_by) (xcons (xvar 0) (xcons (xvar 1) (xpure [])))))))
abbrev D_turned : DF := runF 2 m_turned
theorem b_turned {g : Gb} (GG : GF g) (b : Bd) (hr : Room 10 (b.A.deeper (PyProof.Rows.envOfC b.qual (defScope (top 33)) b.s.heap.objs.size b.f b.cdv))) :
    JSs (famB g 10 ["row", "times"] sc_turned.nd (defScope (top 33)) b hr) (defBody (top 33)) m_turned :=
  (jss_cons (js_expr (je_call (f_check_row GG) (Nat.le_of_ble_eq_true rfl) (by first | rfl | kernel_rfl) (ja_cons (je_var 0 rfl (.inl (by first | rfl | kernel_rfl))) ja_nil)))
      (jss_cons (js_expr (je_call (f_check_number GG) (Nat.le_of_ble_eq_true rfl) (by first | rfl | kernel_rfl) (ja_cons (je_var 1 rfl (.inl (by first | rfl | kernel_rfl))) (ja_cons je_int (ja_cons (je_op os_sub (je_callB cs_len (by first | rfl | kernel_rfl) GG.b_len bt_len (ja_cons (je_var 0 rfl (.inl (by first | rfl | kernel_rfl))) ja_nil)) je_int) ja_nil)))))
      (jss_one (js_ret (je_call (f_turned_by GG) (Nat.le_of_ble_eq_true rfl) (by first | rfl | kernel_rfl) (ja_cons (je_var 0 rfl (.inl (by first | rfl | kernel_rfl))) (ja_cons (je_var 1 rfl (.inl (by first | rfl | kernel_rfl))) ja_nil)))))))
theorem f_turned {g : Gb} (GG : GF g) : Fn g (top 33) "turned" "turned" ["row", "times"] 11 D_turned := by
  obtain ⟨f, fd, hx, D0⟩ := GG.d_turned
  exact fn_mk outD outD_hout hx D0 sc_turned (fun kV doc pm an cdv ct us hl => match us, hl with | [_, _], _ => rfl) (fun b hr => b_turned GG b hr)
/-- total -/
theorem sc_total : FnScope ["row"] ["row"] (defScope (top 55)) := ⟨rfl, rfl, rfl, by decide +kernel, rfl, by decide +kernel, by decide +kernel⟩
def m_total : SM :=
  (sseq (sdrop (xfn 1 (D_check_row) (xcons (xvar 0) (xpure [])))) (sret (xop ixD (xfn 1 (D_sums_by) (xcons (xvar 0) (xpure []))) (xneg (xpure (.int 1))))))
abbrev D_total : DF := runF 1 m_total
theorem b_total {g : Gb} (GG : GF g) (b : Bd) (hr : Room 10 (b.A.deeper (PyProof.Rows.envOfC b.qual (defScope (top 55)) b.s.heap.objs.size b.f b.cdv))) :
    JSs (famB g 10 ["row"] sc_total.nd (defScope (top 55)) b hr) (defBody (top 55)) m_total :=
  (jss_cons (js_expr (je_call (f_check_row GG) (Nat.le_of_ble_eq_true rfl) (by first | rfl | kernel_rfl) (ja_cons (je_var 0 rfl (.inl (by first | rfl | kernel_rfl))) ja_nil)))
      (jss_one (js_ret (je_ix (je_call (f_sums_by GG) (Nat.le_of_ble_eq_true rfl) (by first | rfl | kernel_rfl) (ja_cons (je_var 0 rfl (.inl (by first | rfl | kernel_rfl))) ja_nil)) (je_neg je_int)))))
theorem f_total {g : Gb} (GG : GF g) : Fn g (top 55) "total" "total" ["row"] 11 D_total := by
  obtain ⟨f, fd, hx, D0⟩ := GG.d_total
  exact fn_mk outD outD_hout hx D0 sc_total (fun kV doc pm an cdv ct us hl => match us, hl with | [_], _ => rfl) (fun b hr => b_total GG b hr)
/-- _law_are_turnings_told -/
theorem sc_u_law_are_turnings_told : FnScope ["pool", "row", "many", "named", "rows", "k", "lead", "stand", "ups", "each", "some", "told"] ["pool", "row"] (defScope (top 87)) := ⟨rfl, rfl, rfl, by decide +kernel, rfl, by decide +kernel, by decide +kernel⟩
def m_u_law_are_turnings_told_s1 : SM :=
  (spar2 2 3 (xcall (f1 lenD) (xcons (xvar 1) (xpure []))) (xop eqD (xfn 2 (D_u_law_draw) (xcons (xvar 0) (xcons (xpure (.int 2)) (xpure [])))) (xpure (.int 0))))
def m_u_law_are_turnings_told_e1 : XM D :=
  (xfn 2 (D_u_law_turned) (xcons (xvar 1) (xcons (xvar 5) (xpure []))))
def m_u_law_are_turnings_told_s2 : SM :=
  (sset 4 (xcomp (xrange1 (xvar 2)) [5] (gname 5) (xpure true) m_u_law_are_turnings_told_e1))
def m_u_law_are_turnings_told_t1 : XM Bool :=
  (xtru (xfn 1 (D_u_law_leads) (xcons (xop ixD (xvar 4) (xvar 5)) (xpure []))))
def m_u_law_are_turnings_told_t2 : XM Bool :=
  (xtru (xfn 1 (D_u_law_stands) (xcons (xop ixD (xvar 4) (xvar 5)) (xpure []))))
def m_u_law_are_turnings_told_s3 : SM :=
  (spar2 6 7 (xcall (f1 tupleD) (xcons (xcomp (xrange1 (xvar 2)) [5] (gname 5) m_u_law_are_turnings_told_t1 (xvar 5)) (xpure []))) (xcall (f1 tupleD) (xcons (xcomp (xrange1 (xvar 2)) [5] (gname 5) m_u_law_are_turnings_told_t2 (xvar 5)) (xpure []))))
def m_u_law_are_turnings_told_t3 : XM Bool :=
  (xbool (xop gtD (xvar 9) (xpure (.int 0))))
def m_u_law_are_turnings_told_e2 : XM D :=
  (xcall (f1 lenD) (xcons (xcomp (xwalk (xfn 1 (D_u_law_sums) (xcons (xvar 10) (xpure [])))) [9] (gname 9) m_u_law_are_turnings_told_t3 (xvar 9)) (xpure [])))
def m_u_law_are_turnings_told_s4 : SM :=
  (sset 8 (xcall (f1 tupleD) (xcons (xcomp (xwalk (xvar 4)) [10] (gname 10) (xpure true) m_u_law_are_turnings_told_e2) (xpure []))))
def m_u_law_are_turnings_told_s5 : SM :=
  (sset 11 (xif (xtru (xvar 3)) (xlst (xcons (xfnK 0 [0] 1 (D_leading_turnings) (xpure []) (xcons (xvar 1) (xpure []))) (xcons (xfnK 0 [0] 1 (D_standing_turnings) (xpure []) (xcons (xvar 1) (xpure []))) (xcons (xfnK 0 [0] 1 (D_turnings_above) (xpure []) (xcons (xvar 1) (xpure []))) (xpure []))))) (xlst (xcons (xfn 1 (D_leading_turnings) (xcons (xvar 1) (xpure []))) (xcons (xfn 1 (D_standing_turnings) (xcons (xvar 1) (xpure []))) (xcons (xfn 1 (D_turnings_above) (xcons (xvar 1) (xpure []))) (xpure [])))))))
def m_u_law_are_turnings_told_e3 : XM D :=
  (xfn 2 (D_turned) (xcons (xvar 1) (xcons (xvar 5) (xpure []))))
def m_u_law_are_turnings_told_s6 : SM :=
  (sif (tor (tnot (xtru (xfn 2 (D_u_law_same 6) (xcons (xvar 11) (xcons (xlst (xcons (xvar 6) (xcons (xvar 7) (xcons (xvar 8) (xpure []))))) (xpure [])))))) (tnot (xtru (xfn 2 (D_u_law_same 6) (xcons (xcomp (xrange1 (xvar 2)) [5] (gname 5) (xpure true) m_u_law_are_turnings_told_e3) (xcons (xvar 4) (xpure []))))))) (sret (xpure (.bl false))) snext)
def m_u_law_are_turnings_told_s7 : SM :=
  (sif (tor (xbool (xop neD (xop neD (xvar 6) (xtup (xpure []))) (xop gtD (xfn 1 (D_total) (xcons (xvar 1) (xpure []))) (xpure (.int 0))))) (xbool (xop neD (xop neD (xvar 7) (xtup (xpure []))) (xop geD (xfn 1 (D_total) (xcons (xvar 1) (xpure []))) (xpure (.int 0)))))) (sret (xpure (.bl false))) snext)
def m_u_law_are_turnings_told_s8 : SM :=
  (sret (xor' (xop gtD (xcall (f1 maxD) (xcons (xvar 1) (xpure []))) (xpure (.int 1))) (xor' (xop ltD (xfn 1 (D_total) (xcons (xvar 1) (xpure []))) (xpure (.int 1))) (xop eqD (xcall (f1 lenD) (xcons (xvar 6) (xpure []))) (xfn 1 (D_total) (xcons (xvar 1) (xpure [])))))))
def m_u_law_are_turnings_told : SM :=
  (sseq m_u_law_are_turnings_told_s1 (sseq m_u_law_are_turnings_told_s2 (sseq m_u_law_are_turnings_told_s3 (sseq m_u_law_are_turnings_told_s4 (sseq m_u_law_are_turnings_told_s5 (sseq m_u_law_are_turnings_told_s6 (sseq m_u_law_are_turnings_told_s7 m_u_law_are_turnings_told_s8)))))))
abbrev D_u_law_are_turnings_told : DF := runF 12 m_u_law_are_turnings_told
theorem b_u_law_are_turnings_told {g : Gb} (GG : GF g) (b : Bd) (hr : Room 12 (b.A.deeper (PyProof.Rows.envOfC b.qual (defScope (top 87)) b.s.heap.objs.size b.f b.cdv))) :
    JSs (famB g 12 ["pool", "row", "many", "named", "rows", "k", "lead", "stand", "ups", "each", "some", "told"] sc_u_law_are_turnings_told.nd (defScope (top 87)) b hr) (defBody (top 87)) m_u_law_are_turnings_told :=
  (jss_cons (js_par2 2 3 rfl rfl (by decide) (by first | rfl | kernel_rfl) (by first | rfl | kernel_rfl) (je_callB cs_len (by first | rfl | kernel_rfl) GG.b_len bt_len (ja_cons (je_var 1 rfl (.inr (.inl (by first | rfl | kernel_rfl)))) ja_nil)) (je_cmp os_eq (je_call (f_u_law_draw GG) (Nat.le_of_ble_eq_true rfl) (by first | rfl | kernel_rfl) (ja_cons (je_var 0 rfl (.inl (by first | rfl | kernel_rfl))) (ja_cons je_int ja_nil))) je_int rfl) (fun W X m => by obtain ⟨rfl, rfl⟩ := m; first | rfl | kernel_rfl))
      (jss_cons (js_setF 4 rfl (.inr (by first | rfl | kernel_rfl)) (je_lc [("k", 5)] (ji_range1 (by first | rfl | kernel_rfl) GG.b_range (je_var 2 rfl (.inl (by first | rfl | kernel_rfl)))) (by first | rfl | kernel_rfl) (jc_name 5 rfl (.inl (by first | rfl | kernel_rfl)) (by decide)) jts_nil (je_call (f_u_law_turned GG) (Nat.le_of_ble_eq_true rfl) (by first | rfl | kernel_rfl) (ja_cons (je_var 1 rfl (.inr (.inl (by first | rfl | kernel_rfl)))) (ja_cons (je_var 5 rfl (.inl (by first | rfl | kernel_rfl))) ja_nil)))) (fun W X m => by obtain ⟨rfl, rfl⟩ := m; first | rfl | kernel_rfl))
      (jss_cons (js_par2 6 7 rfl rfl (by decide) (by first | rfl | kernel_rfl) (by first | rfl | kernel_rfl) (je_callTy cs_tuple (by first | rfl | kernel_rfl) GG.b_tuple bt_tuple (ja_cons (je_lc [("k", 5)] (ji_range1 (by first | rfl | kernel_rfl) GG.b_range (je_var 2 rfl (.inl (by first | rfl | kernel_rfl)))) (by first | rfl | kernel_rfl) (jc_name 5 rfl (.inl (by first | rfl | kernel_rfl)) (by decide)) (jts_one (jt_tru (je_call (f_u_law_leads GG) (Nat.le_of_ble_eq_true rfl) (by first | rfl | kernel_rfl) (ja_cons (je_ix (je_var 4 rfl (.inr (.inl (by first | rfl | kernel_rfl)))) (je_var 5 rfl (.inl (by first | rfl | kernel_rfl)))) ja_nil)))) (je_var 5 rfl (.inl (by first | rfl | kernel_rfl)))) ja_nil)) (je_callTy cs_tuple (by first | rfl | kernel_rfl) GG.b_tuple bt_tuple (ja_cons (je_lc [("k", 5)] (ji_range1 (by first | rfl | kernel_rfl) GG.b_range (je_var 2 rfl (.inl (by first | rfl | kernel_rfl)))) (by first | rfl | kernel_rfl) (jc_name 5 rfl (.inl (by first | rfl | kernel_rfl)) (by decide)) (jts_one (jt_tru (je_call (f_u_law_stands GG) (Nat.le_of_ble_eq_true rfl) (by first | rfl | kernel_rfl) (ja_cons (je_ix (je_var 4 rfl (.inr (.inl (by first | rfl | kernel_rfl)))) (je_var 5 rfl (.inl (by first | rfl | kernel_rfl)))) ja_nil)))) (je_var 5 rfl (.inl (by first | rfl | kernel_rfl)))) ja_nil)) (fun W X m => by obtain ⟨rfl, rfl⟩ := m; first | rfl | kernel_rfl))
      (jss_cons (js_set 8 rfl (.inl (by first | rfl | kernel_rfl)) (je_callTy cs_tuple (by first | rfl | kernel_rfl) GG.b_tuple bt_tuple (ja_cons (je_lc [("some", 10)] (ji_seq (je_var 4 rfl (.inr (.inl (by first | rfl | kernel_rfl))))) (by first | rfl | kernel_rfl) (jc_name 10 rfl (.inl (by first | rfl | kernel_rfl)) (by decide)) jts_nil (je_callB cs_len (by first | rfl | kernel_rfl) GG.b_len bt_len (ja_cons (je_lc [("each", 9)] (ji_seq (je_call (f_u_law_sums GG) (Nat.le_of_ble_eq_true rfl) (by first | rfl | kernel_rfl) (ja_cons (je_var 10 rfl (.inl (by first | rfl | kernel_rfl))) ja_nil))) (by first | rfl | kernel_rfl) (jc_name 9 rfl (.inl (by first | rfl | kernel_rfl)) (by decide)) (jts_one (jt_cmp os_gt (je_var 9 rfl (.inl (by first | rfl | kernel_rfl))) je_int rfl)) (je_var 9 rfl (.inl (by first | rfl | kernel_rfl)))) ja_nil))) ja_nil)))
      (jss_cons (js_set 11 rfl (.inl (by first | rfl | kernel_rfl)) (je_if (jt_tru (je_var 3 rfl (.inl (by first | rfl | kernel_rfl)))) (je_lst (ja_cons (je_callK0 (ks := ["row"]) (ix := [0]) (f_leading_turnings GG) (Nat.le_of_ble_eq_true rfl) (by first | rfl | kernel_rfl) (fun kV doc pm an cdv ct us ws hu hw => match us, hu, ws, hw with | [], _, [_], _ => rfl) rfl (jk_cons (je_var 1 rfl (.inr (.inl (by first | rfl | kernel_rfl)))) jk_nil)) (ja_cons (je_callK0 (ks := ["row"]) (ix := [0]) (f_standing_turnings GG) (Nat.le_of_ble_eq_true rfl) (by first | rfl | kernel_rfl) (fun kV doc pm an cdv ct us ws hu hw => match us, hu, ws, hw with | [], _, [_], _ => rfl) rfl (jk_cons (je_var 1 rfl (.inr (.inl (by first | rfl | kernel_rfl)))) jk_nil)) (ja_cons (je_callK0 (ks := ["row"]) (ix := [0]) (f_turnings_above GG) (Nat.le_of_ble_eq_true rfl) (by first | rfl | kernel_rfl) (fun kV doc pm an cdv ct us ws hu hw => match us, hu, ws, hw with | [], _, [_], _ => rfl) rfl (jk_cons (je_var 1 rfl (.inr (.inl (by first | rfl | kernel_rfl)))) jk_nil)) ja_nil)))) (je_lst (ja_cons (je_call (f_leading_turnings GG) (Nat.le_of_ble_eq_true rfl) (by first | rfl | kernel_rfl) (ja_cons (je_var 1 rfl (.inr (.inl (by first | rfl | kernel_rfl)))) ja_nil)) (ja_cons (je_call (f_standing_turnings GG) (Nat.le_of_ble_eq_true rfl) (by first | rfl | kernel_rfl) (ja_cons (je_var 1 rfl (.inr (.inl (by first | rfl | kernel_rfl)))) ja_nil)) (ja_cons (je_call (f_turnings_above GG) (Nat.le_of_ble_eq_true rfl) (by first | rfl | kernel_rfl) (ja_cons (je_var 1 rfl (.inr (.inl (by first | rfl | kernel_rfl)))) ja_nil)) ja_nil))))))
      (jss_cons (js_if (jw_or (jt_not (jt_tru (je_call (f_u_law_same GG 6) (Nat.le_of_ble_eq_true rfl) (by first | rfl | kernel_rfl) (ja_cons (je_var 11 rfl (.inl (by first | rfl | kernel_rfl))) (ja_cons (je_lst (ja_cons (je_var 6 rfl (.inl (by first | rfl | kernel_rfl))) (ja_cons (je_var 7 rfl (.inl (by first | rfl | kernel_rfl))) (ja_cons (je_var 8 rfl (.inl (by first | rfl | kernel_rfl))) ja_nil)))) ja_nil))))) (jw_or1 (jt_not (jt_tru (je_call (f_u_law_same GG 6) (Nat.le_of_ble_eq_true rfl) (by first | rfl | kernel_rfl) (ja_cons (je_lc [("k", 5)] (ji_range1 (by first | rfl | kernel_rfl) GG.b_range (je_var 2 rfl (.inl (by first | rfl | kernel_rfl)))) (by first | rfl | kernel_rfl) (jc_name 5 rfl (.inl (by first | rfl | kernel_rfl)) (by decide)) jts_nil (je_call (f_turned GG) (Nat.le_of_ble_eq_true rfl) (by first | rfl | kernel_rfl) (ja_cons (je_var 1 rfl (.inr (.inl (by first | rfl | kernel_rfl)))) (ja_cons (je_var 5 rfl (.inl (by first | rfl | kernel_rfl))) ja_nil)))) (ja_cons (je_var 4 rfl (.inr (.inl (by first | rfl | kernel_rfl)))) ja_nil))))))).jt (jss_one (js_ret je_bl)) jss_nil)
      (jss_cons (js_if (jw_or (jt_cmp os_ne (je_cmp os_ne (je_var 6 rfl (.inl (by first | rfl | kernel_rfl))) (je_tup ja_nil) rfl) (je_cmp os_gt (je_call (f_total GG) (Nat.le_of_ble_eq_true rfl) (by first | rfl | kernel_rfl) (ja_cons (je_var 1 rfl (.inr (.inl (by first | rfl | kernel_rfl)))) ja_nil)) je_int rfl) rfl) (jw_or1 (jt_cmp os_ne (je_cmp os_ne (je_var 7 rfl (.inl (by first | rfl | kernel_rfl))) (je_tup ja_nil) rfl) (je_cmp os_ge (je_call (f_total GG) (Nat.le_of_ble_eq_true rfl) (by first | rfl | kernel_rfl) (ja_cons (je_var 1 rfl (.inr (.inl (by first | rfl | kernel_rfl)))) ja_nil)) je_int rfl) rfl))).jt (jss_one (js_ret je_bl)) jss_nil)
      (jss_one (js_ret (je_or (je_cmp os_gt (je_callB cs_max (by first | rfl | kernel_rfl) GG.b_max bt_max (ja_cons (je_var 1 rfl (.inr (.inl (by first | rfl | kernel_rfl)))) ja_nil)) je_int rfl) (je_or (je_cmp os_lt (je_call (f_total GG) (Nat.le_of_ble_eq_true rfl) (by first | rfl | kernel_rfl) (ja_cons (je_var 1 rfl (.inr (.inl (by first | rfl | kernel_rfl)))) ja_nil)) je_int rfl) (je_one (je_cmp os_eq (je_callB cs_len (by first | rfl | kernel_rfl) GG.b_len bt_len (ja_cons (je_var 6 rfl (.inl (by first | rfl | kernel_rfl))) ja_nil)) (je_call (f_total GG) (Nat.le_of_ble_eq_true rfl) (by first | rfl | kernel_rfl) (ja_cons (je_var 1 rfl (.inr (.inl (by first | rfl | kernel_rfl)))) ja_nil)) rfl)))))))))))))
theorem f_u_law_are_turnings_told {g : Gb} (GG : GF g) : Fn g (top 87) "_law_are_turnings_told" "_law_are_turnings_told" ["pool", "row"] 13 D_u_law_are_turnings_told := by
  obtain ⟨f, fd, hx, D0⟩ := GG.d_u_law_are_turnings_told
  exact fn_mk outD outD_hout hx D0 sc_u_law_are_turnings_told (fun kV doc pm an cdv ct us hl => match us, hl with | [_, _], _ => rfl) (fun b hr => b_u_law_are_turnings_told GG b hr)
/-- _law_tree_row -/
theorem sc_u_law_tree_row : FnScope ["tree", "line", "found", "lap"] ["tree"] (defScope (top 85)) := ⟨rfl, rfl, rfl, by decide +kernel, rfl, by decide +kernel, by decide +kernel⟩
def m_u_law_tree_row_b1 : SM :=
  (sif (xbool (xop neD (xvar 1) (xlst (xpure [])))) (sseq (sdrop (xappend (xvar 2) (xop subD (xcall (f1 lenD) (xcons (xop ixD (xvar 1) (xpure (.int 0))) (xpure []))) (xpure (.int 1))))) (sset 1 (xop addD (xcall (f1 listD) (xcons (xop ixD (xvar 1) (xpure (.int 0))) (xpure []))) (xslice (xvar 1) (xpart (xpure (.int 1))) (xpure none))))) snext)
def m_u_law_tree_row : SM :=
  (sseq (spar2 1 2 (xlst (xcons (xvar 0) (xpure []))) (xlstM (xpure []))) (sseq (sfor (xrange1 (xpure (.int 8))) (gname 3) m_u_law_tree_row_b1) (sret (xcall (f1 tupleD) (xcons (xvar 2) (xpure []))))))
abbrev D_u_law_tree_row : DF := runF 4 m_u_law_tree_row
theorem b_u_law_tree_row {g : Gb} (GG : GF g) (b : Bd) (hr : Room 0 (b.A.deeper (PyProof.Rows.envOfC b.qual (defScope (top 85)) b.s.heap.objs.size b.f b.cdv))) :
    JSs (famB g 0 ["tree", "line", "found", "lap"] sc_u_law_tree_row.nd (defScope (top 85)) b hr) (defBody (top 85)) m_u_law_tree_row :=
  (jss_cons (js_par2 1 2 rfl rfl (by decide) (by first | rfl | kernel_rfl) (by first | rfl | kernel_rfl) (je_lst (ja_cons (je_var 0 rfl (.inl (by first | rfl | kernel_rfl))) ja_nil)) (je_lstM ja_nil) (fun W X m => by obtain ⟨rfl, rfl⟩ := m; first | rfl | kernel_rfl))
      (jss_cons (js_for (ji_range1 (by first | rfl | kernel_rfl) GG.b_range je_int) (jg_name 3 rfl (.inl (by first | rfl | kernel_rfl))) (jss_one (js_if (jt_cmp os_ne (je_var 1 rfl (.inl (by first | rfl | kernel_rfl))) (je_lst ja_nil) rfl) (jss_cons (js_expr (je_append (je_var 2 rfl (.inl (by first | rfl | kernel_rfl))) (je_op os_sub (je_callB cs_len (by first | rfl | kernel_rfl) GG.b_len bt_len (ja_cons (je_ix (je_var 1 rfl (.inl (by first | rfl | kernel_rfl))) je_int) ja_nil)) je_int)))
      (jss_one (js_set 1 rfl (.inl (by first | rfl | kernel_rfl)) (je_op os_add (je_callTy cs_list (by first | rfl | kernel_rfl) GG.b_list bt_list (ja_cons (je_ix (je_var 1 rfl (.inl (by first | rfl | kernel_rfl))) je_int) ja_nil)) (je_slice (je_var 1 rfl (.inl (by first | rfl | kernel_rfl))) (jo_some je_int) jo_none))))) jss_nil)))
      (jss_one (js_ret (je_callTy cs_tuple (by first | rfl | kernel_rfl) GG.b_tuple bt_tuple (ja_cons (je_var 2 rfl (.inl (by first | rfl | kernel_rfl))) ja_nil))))))
theorem f_u_law_tree_row {g : Gb} (GG : GF g) : Fn g (top 85) "_law_tree_row" "_law_tree_row" ["tree"] 1 D_u_law_tree_row := by
  obtain ⟨f, fd, hx, D0⟩ := GG.d_u_law_tree_row
  exact fn_mk outD outD_hout hx D0 sc_u_law_tree_row (fun kV doc pm an cdv ct us hl => match us, hl with | [_], _ => rfl) (fun b hr => b_u_law_tree_row GG b hr)
/-- _law_tree -/
theorem sc_u_law_tree : FnScope ["pool", "many", "twigs", "k", "made", "j"] ["pool", "many"] (defScope (top 86)) := ⟨rfl, rfl, rfl, by decide +kernel, rfl, by decide +kernel, by decide +kernel⟩
def m_u_law_tree_e1 : XM D :=
  (xlstM (xpure []))
def m_u_law_tree_s1 : SM :=
  (sset 2 (xcomp (xrange1 (xvar 1)) [3] (gname 3) (xpure true) m_u_law_tree_e1))
def m_u_law_tree_b1 : SM :=
  (sdrop (xappend (xop ixD (xvar 2) (xfn 2 (D_u_law_draw) (xcons (xvar 0) (xcons (xvar 3) (xpure []))))) (xvar 3)))
def m_u_law_tree_s2 : SM :=
  (sfor (xrange2 (xpure (.int 1)) (xvar 1)) (gname 3) m_u_law_tree_b1)
def m_u_law_tree_s3 : SM :=
  (sset 4 (xop repMD (xlst (xcons (xtup (xpure [])) (xpure []))) (xvar 1)))
def m_u_law_tree_e2 : XM D :=
  (xop ixD (xvar 4) (xvar 5))
def m_u_law_tree_b2 : SM :=
  (sasg (xcall (f1 tupleD) (xcons (xcomp (xwalk (xop ixD (xvar 2) (xvar 3))) [5] (gname 5) (xpure true) m_u_law_tree_e2) (xpure []))) (gsub (xvar 4) (xvar 3)))
def m_u_law_tree_s4 : SM :=
  (sfor (xrangeDn (xop subD (xvar 1) (xpure (.int 1))) (xneg (xpure (.int 1)))) (gname 3) m_u_law_tree_b2)
def m_u_law_tree_s5 : SM :=
  (sret (xop ixD (xvar 4) (xpure (.int 0))))
def m_u_law_tree : SM :=
  (sseq m_u_law_tree_s1 (sseq m_u_law_tree_s2 (sseq m_u_law_tree_s3 (sseq m_u_law_tree_s4 m_u_law_tree_s5))))
abbrev D_u_law_tree : DF := runF 6 m_u_law_tree
theorem b_u_law_tree {g : Gb} (GG : GF g) (b : Bd) (hr : Room 2 (b.A.deeper (PyProof.Rows.envOfC b.qual (defScope (top 86)) b.s.heap.objs.size b.f b.cdv))) :
    JSs (famB g 2 ["pool", "many", "twigs", "k", "made", "j"] sc_u_law_tree.nd (defScope (top 86)) b hr) (defBody (top 86)) m_u_law_tree :=
  (jss_cons (js_setLc 2 [("k", 3)] rfl (by first | rfl | kernel_rfl) rfl rfl (by first | rfl | kernel_rfl) (ji_range1 (by first | rfl | kernel_rfl) GG.b_range (je_var 1 rfl (.inl (by first | rfl | kernel_rfl)))) (by first | rfl | kernel_rfl) (jc_name 3 rfl (.inl (by first | rfl | kernel_rfl)) (by decide)) jts_nil (je_lstM ja_nil))
      (jss_cons (js_for (ji_range2 (by first | rfl | kernel_rfl) GG.b_range je_int (je_var 1 rfl (.inl (by first | rfl | kernel_rfl)))) (jg_name 3 rfl (.inl (by first | rfl | kernel_rfl))) (jss_one (js_expr (je_append (je_ix (je_var 2 rfl (.inl (by first | rfl | kernel_rfl))) (je_call (f_u_law_draw GG) (Nat.le_of_ble_eq_true rfl) (by first | rfl | kernel_rfl) (ja_cons (je_var 0 rfl (.inl (by first | rfl | kernel_rfl))) (ja_cons (je_var 3 rfl (.inl (by first | rfl | kernel_rfl))) ja_nil)))) (je_var 3 rfl (.inl (by first | rfl | kernel_rfl)))))))
      (jss_cons (js_set 4 rfl (.inr (by first | rfl | kernel_rfl)) (je_op os_repM (je_lst (ja_cons (je_tup ja_nil) ja_nil)) (je_var 1 rfl (.inl (by first | rfl | kernel_rfl)))))
      (jss_cons (js_for (ji_rangeDn (by first | rfl | kernel_rfl) GG.b_range (je_op os_sub (je_var 1 rfl (.inl (by first | rfl | kernel_rfl))) je_int) (je_neg je_int)) (jg_name 3 rfl (.inl (by first | rfl | kernel_rfl))) (jss_one (js_asg (je_callTy cs_tuple (by first | rfl | kernel_rfl) GG.b_tuple bt_tuple (ja_cons (je_lc [("j", 5)] (ji_seq (je_ix (je_var 2 rfl (.inl (by first | rfl | kernel_rfl))) (je_var 3 rfl (.inl (by first | rfl | kernel_rfl))))) (by first | rfl | kernel_rfl) (jc_name 5 rfl (.inl (by first | rfl | kernel_rfl)) (by decide)) jts_nil (je_ix (je_var 4 rfl (.inr (.inl (by first | rfl | kernel_rfl)))) (je_var 5 rfl (.inl (by first | rfl | kernel_rfl))))) ja_nil)) (jg_sub (je_var 4 rfl (.inr (.inl (by first | rfl | kernel_rfl)))) (je_var 3 rfl (.inl (by first | rfl | kernel_rfl))) (quiet_var _) (quiet_var _)))))
      (jss_one (js_ret (je_ix (je_var 4 rfl (.inr (.inl (by first | rfl | kernel_rfl)))) je_int)))))))
theorem f_u_law_tree {g : Gb} (GG : GF g) : Fn g (top 86) "_law_tree" "_law_tree" ["pool", "many"] 3 D_u_law_tree := by
  obtain ⟨f, fd, hx, D0⟩ := GG.d_u_law_tree
  exact fn_mk outD outD_hout hx D0 sc_u_law_tree (fun kV doc pm an cdv ct us hl => match us, hl with | [_, _], _ => rfl) (fun b hr => b_u_law_tree GG b hr)
/-- can_turn -/
theorem sc_can_turn : FnScope ["row"] ["row"] (defScope (top 66)) := ⟨rfl, rfl, rfl, by decide +kernel, rfl, by decide +kernel, by decide +kernel⟩
def m_can_turn : SM :=
  (sret (xand (xop geD (xcall (f1 minD) (xcons (xvar 0) (xpure []))) (xneg (xpure (.int 1)))) (xop eqD (xcall (f1 sumD) (xcons (xvar 0) (xpure []))) (xneg (xpure (.int 1))))))
abbrev D_can_turn : DF := runF 1 m_can_turn
theorem b_can_turn {g : Gb} (GG : GF g) (b : Bd) (hr : Room 0 (b.A.deeper (PyProof.Rows.envOfC b.qual (defScope (top 66)) b.s.heap.objs.size b.f b.cdv))) :
    JSs (famB g 0 ["row"] sc_can_turn.nd (defScope (top 66)) b hr) (defBody (top 66)) m_can_turn :=
  (jss_one (js_ret (je_and (je_cmp os_ge (je_callB cs_min (by first | rfl | kernel_rfl) GG.b_min bt_min (ja_cons (je_var 0 rfl (.inl (by first | rfl | kernel_rfl))) ja_nil)) (je_neg je_int) rfl) (je_one (je_cmp os_eq (je_callB cs_sum (by first | rfl | kernel_rfl) GG.b_sum bt_sum (ja_cons (je_var 0 rfl (.inl (by first | rfl | kernel_rfl))) ja_nil)) (je_neg je_int) rfl)))))
theorem f_can_turn {g : Gb} (GG : GF g) : Fn g (top 66) "can_turn" "can_turn" ["row"] 1 D_can_turn := by
  obtain ⟨f, fd, hx, D0⟩ := GG.d_can_turn
  exact fn_mk outD outD_hout hx D0 sc_can_turn (fun kV doc pm an cdv ct us hl => match us, hl with | [_], _ => rfl) (fun b hr => b_can_turn GG b hr)
/-- places_against -/
theorem sc_places_against : FnScope ["row", "sums", "last", "found", "index", "number", "each", "place"] ["row"] (defScope (top 63)) := ⟨rfl, rfl, rfl, by decide +kernel, rfl, by decide +kernel, by decide +kernel⟩
def m_places_against_e1 : XM D :=
  (xtup (xcons (xvar 4) (xpure [])))
def m_places_against_t1 : XM Bool :=
  (xbool (xop ltD (xvar 5) (xneg (xpure (.int 1)))))
def m_places_against_t2 : XM Bool :=
  (tand (xbool (xop ltD (xvar 7) (xvar 2))) (xbool (xop ltD (xvar 6) (xpure (.int 0)))))
def m_places_against : SM :=
  (sseq (sasg (xtup (xcons (xfn 1 (D_sums_by) (xcons (xvar 0) (xpure []))) (xcons (xcall (f1 lenD) (xcons (xvar 0) (xpure []))) (xpure [])))) (gtup 2 (gcons (gname 1) (gcons (gname 2) gnil)))) (sseq (sset 3 (xcompM (xenum (xvar 0)) [4, 5] (gtup 2 (gcons (gname 4) (gcons (gname 5) gnil))) m_places_against_t1 m_places_against_e1)) (sseq (sdrop (xextend (xvar 3) (xcomp (xenum (xvar 1)) [7, 6] (gtup 2 (gcons (gname 7) (gcons (gname 6) gnil))) m_places_against_t2 (xvar 7)))) (sret (xif (xbool (xop eqD (xop ixD (xvar 1) (xvar 2)) (xneg (xpure (.int 1))))) (xvar 3) (xlst (xstar (xvar 3) (xcons (xvar 2) (xpure [])))))))))
abbrev D_places_against : DF := runF 8 m_places_against
theorem b_places_against {g : Gb} (GG : GF g) (b : Bd) (hr : Room 2 (b.A.deeper (PyProof.Rows.envOfC b.qual (defScope (top 63)) b.s.heap.objs.size b.f b.cdv))) :
    JSs (famB g 2 ["row", "sums", "last", "found", "index", "number", "each", "place"] sc_places_against.nd (defScope (top 63)) b hr) (defBody (top 63)) m_places_against :=
  (jss_cons (js_asgF (je_tup (ja_cons (je_call (f_sums_by GG) (Nat.le_of_ble_eq_true rfl) (by first | rfl | kernel_rfl) (ja_cons (je_var 0 rfl (.inl (by first | rfl | kernel_rfl))) ja_nil)) (ja_cons (je_callB cs_len (by first | rfl | kernel_rfl) GG.b_len bt_len (ja_cons (je_var 0 rfl (.inl (by first | rfl | kernel_rfl))) ja_nil)) ja_nil))) (jg_tup (jgs_cons (jg_name 1 rfl (.inl (by first | rfl | kernel_rfl))) (jgs_cons (jg_name 2 rfl (.inr (by first | rfl | kernel_rfl))) jgs_nil))) (by intro _; rfl) (fun W X m => by obtain ⟨rfl, rfl⟩ := m; first | rfl | kernel_rfl))
      (jss_cons (js_setLcM 3 [("index", 4), ("number", 5)] rfl (by first | rfl | kernel_rfl) rfl rfl (by first | rfl | kernel_rfl) (ji_enum (by first | rfl | kernel_rfl) GG.b_enumerate (je_var 0 rfl (.inl (by first | rfl | kernel_rfl)))) (by first | rfl | kernel_rfl) (jc_tup (jcs_cons (jc_name 4 rfl (.inl (by first | rfl | kernel_rfl)) (by decide)) (jcs_cons (jc_name 5 rfl (.inl (by first | rfl | kernel_rfl)) (by decide)) jcs_nil))) (jts_one (jt_cmp os_lt (je_var 5 rfl (.inl (by first | rfl | kernel_rfl))) (je_neg je_int) rfl)) (je_tup (ja_cons (je_var 4 rfl (.inl (by first | rfl | kernel_rfl))) ja_nil)))
      (jss_cons (js_expr (je_extend (je_var 3 rfl (.inl (by first | rfl | kernel_rfl))) (je_lc [("place", 7), ("each", 6)] (ji_enum (by first | rfl | kernel_rfl) GG.b_enumerate (je_var 1 rfl (.inl (by first | rfl | kernel_rfl)))) (by first | rfl | kernel_rfl) (jc_tup (jcs_cons (jc_name 7 rfl (.inl (by first | rfl | kernel_rfl)) (by decide)) (jcs_cons (jc_name 6 rfl (.inl (by first | rfl | kernel_rfl)) (by decide)) jcs_nil))) (jts_one (jw_and (jt_cmp os_lt (je_var 7 rfl (.inl (by first | rfl | kernel_rfl))) (je_var 2 rfl (.inr (.inl (by first | rfl | kernel_rfl)))) rfl) (jw_and1 (jt_cmp os_lt (je_var 6 rfl (.inl (by first | rfl | kernel_rfl))) je_int rfl))).jt) (je_var 7 rfl (.inl (by first | rfl | kernel_rfl))))))
      (jss_one (js_ret (je_if (jt_cmp os_eq (je_ix (je_var 1 rfl (.inl (by first | rfl | kernel_rfl))) (je_var 2 rfl (.inr (.inl (by first | rfl | kernel_rfl))))) (je_neg je_int) rfl) (je_var 3 rfl (.inl (by first | rfl | kernel_rfl))) (je_lst (ja_star (je_var 3 rfl (.inl (by first | rfl | kernel_rfl))) (ja_cons (je_var 2 rfl (.inr (.inl (by first | rfl | kernel_rfl)))) ja_nil)))))))))
theorem f_places_against {g : Gb} (GG : GF g) : Fn g (top 63) "places_against" "places_against" ["row"] 3 D_places_against := by
  obtain ⟨f, fd, hx, D0⟩ := GG.d_places_against
  exact fn_mk outD outD_hout hx D0 sc_places_against (fun kV doc pm an cdv ct us hl => match us, hl with | [_], _ => rfl) (fun b hr => b_places_against GG b hr)
/-- is_row_of_tree -/
theorem sc_is_row_of_tree : FnScope ["row"] ["row"] (defScope (top 64)) := ⟨rfl, rfl, rfl, by decide +kernel, rfl, by decide +kernel, by decide +kernel⟩
def m_is_row_of_tree : SM :=
  (sret (xop eqD (xfn 1 (D_places_against) (xcons (xvar 0) (xpure []))) (xlst (xpure []))))
abbrev D_is_row_of_tree : DF := runF 1 m_is_row_of_tree
theorem b_is_row_of_tree {g : Gb} (GG : GF g) (b : Bd) (hr : Room 4 (b.A.deeper (PyProof.Rows.envOfC b.qual (defScope (top 64)) b.s.heap.objs.size b.f b.cdv))) :
    JSs (famB g 4 ["row"] sc_is_row_of_tree.nd (defScope (top 64)) b hr) (defBody (top 64)) m_is_row_of_tree :=
  (jss_one (js_ret (je_cmp os_eq (je_call (f_places_against GG) (Nat.le_of_ble_eq_true rfl) (by first | rfl | kernel_rfl) (ja_cons (je_var 0 rfl (.inl (by first | rfl | kernel_rfl))) ja_nil)) (je_lst ja_nil) rfl)))
theorem f_is_row_of_tree {g : Gb} (GG : GF g) : Fn g (top 64) "is_row_of_tree" "is_row_of_tree" ["row"] 5 D_is_row_of_tree := by
  obtain ⟨f, fd, hx, D0⟩ := GG.d_is_row_of_tree
  exact fn_mk outD outD_hout hx D0 sc_is_row_of_tree (fun kV doc pm an cdv ct us hl => match us, hl with | [_], _ => rfl) (fun b hr => b_is_row_of_tree GG b hr)
/-- tree_turning_by -/
theorem sc_tree_turning_by : FnScope ["row", "each", "times"] ["row"] (defScope (top 67)) := ⟨rfl, rfl, rfl, by decide +kernel, rfl, by decide +kernel, by decide +kernel⟩
def m_tree_turning_by_t1 : XM Bool :=
  (xtru (xfn 1 (D_is_row_of_tree) (xcons (xvar 1) (xpure []))))
def m_tree_turning_by : SM :=
  (sret (xop ixD (xcomp (xenum (xfn 1 (D_all_turnings) (xcons (xvar 0) (xpure [])))) [2, 1] (gtup 2 (gcons (gname 2) (gcons (gname 1) gnil))) m_tree_turning_by_t1 (xvar 2)) (xpure (.int 0))))
abbrev D_tree_turning_by : DF := runF 3 m_tree_turning_by
theorem b_tree_turning_by {g : Gb} (GG : GF g) (b : Bd) (hr : Room 6 (b.A.deeper (PyProof.Rows.envOfC b.qual (defScope (top 67)) b.s.heap.objs.size b.f b.cdv))) :
    JSs (famB g 6 ["row", "each", "times"] sc_tree_turning_by.nd (defScope (top 67)) b hr) (defBody (top 67)) m_tree_turning_by :=
  (jss_one (js_ret (je_ix (je_lc [("times", 2), ("each", 1)] (ji_enum (by first | rfl | kernel_rfl) GG.b_enumerate (je_call (f_all_turnings GG) (Nat.le_of_ble_eq_true rfl) (by first | rfl | kernel_rfl) (ja_cons (je_var 0 rfl (.inl (by first | rfl | kernel_rfl))) ja_nil))) (by first | rfl | kernel_rfl) (jc_tup (jcs_cons (jc_name 2 rfl (.inl (by first | rfl | kernel_rfl)) (by decide)) (jcs_cons (jc_name 1 rfl (.inl (by first | rfl | kernel_rfl)) (by decide)) jcs_nil))) (jts_one (jt_tru (je_call (f_is_row_of_tree GG) (Nat.le_of_ble_eq_true rfl) (by first | rfl | kernel_rfl) (ja_cons (je_var 1 rfl (.inl (by first | rfl | kernel_rfl))) ja_nil)))) (je_var 2 rfl (.inl (by first | rfl | kernel_rfl)))) je_int)))
theorem f_tree_turning_by {g : Gb} (GG : GF g) : Fn g (top 67) "tree_turning_by" "tree_turning_by" ["row"] 7 D_tree_turning_by := by
  obtain ⟨f, fd, hx, D0⟩ := GG.d_tree_turning_by
  exact fn_mk outD outD_hout hx D0 sc_tree_turning_by (fun kV doc pm an cdv ct us hl => match us, hl with | [_], _ => rfl) (fun b hr => b_tree_turning_by GG b hr)
/-- tree_turning -/
theorem sc_tree_turning : FnScope ["row"] ["row"] (defScope (top 73)) := ⟨rfl, rfl, rfl, by decide +kernel, rfl, by decide +kernel, by decide +kernel⟩
def m_tree_turning : SM :=
  (sseq (sdrop (xfn 1 (D_check_row) (xcons (xvar 0) (xpure [])))) (sseq (sif (tnot (xtru (xfn 1 (D_can_turn) (xcons (xvar 0) (xpure []))))) snever snext) (sret (xfn 1 (D_tree_turning_by) (xcons (xvar 0) (xpure []))))))
abbrev D_tree_turning : DF := runF 1 m_tree_turning
theorem b_tree_turning {g : Gb} (GG : GF g) (b : Bd) (hr : Room 10 (b.A.deeper (PyProof.Rows.envOfC b.qual (defScope (top 73)) b.s.heap.objs.size b.f b.cdv))) :
    JSs (famB g 10 ["row"] sc_tree_turning.nd (defScope (top 73)) b hr) (defBody (top 73)) m_tree_turning :=
  (jss_cons (js_expr (je_call (f_check_row GG) (Nat.le_of_ble_eq_true rfl) (by first | rfl | kernel_rfl) (ja_cons (je_var 0 rfl (.inl (by first | rfl | kernel_rfl))) ja_nil)))
      (jss_cons (js_if (jt_not (jt_tru (je_call (f_can_turn GG) (Nat.le_of_ble_eq_true rfl) (by first | rfl | kernel_rfl) (ja_cons (je_var 0 rfl (.inl (by first | rfl | kernel_rfl))) ja_nil)))) (jss_one js_never) jss_nil)
      (jss_one (js_ret (je_call (f_tree_turning_by GG) (Nat.le_of_ble_eq_true rfl) (by first | rfl | kernel_rfl) (ja_cons (je_var 0 rfl (.inl (by first | rfl | kernel_rfl))) ja_nil))))))
theorem f_tree_turning {g : Gb} (GG : GF g) : Fn g (top 73) "tree_turning" "tree_turning" ["row"] 11 D_tree_turning := by
  obtain ⟨f, fd, hx, D0⟩ := GG.d_tree_turning
  exact fn_mk outD outD_hout hx D0 sc_tree_turning (fun kV doc pm an cdv ct us hl => match us, hl with | [_], _ => rfl) (fun b hr => b_tree_turning GG b hr)
/-- tree_of_by -/
theorem sc_tree_of_by : FnScope ["row", "made", "number", "many", "twigs"] ["row"] (defScope (top 65)) := ⟨rfl, rfl, rfl, by decide +kernel, rfl, by decide +kernel, by decide +kernel⟩
def m_tree_of_by_b1 : SM :=
  (sseq (sset 3 (xop addD (xvar 2) (xpure (.int 1)))) (sseq (sset 4 (xrevA (xslice (xvar 1) (xpart (xop subD (xcall (f1 lenD) (xcons (xvar 1) (xpure []))) (xvar 3))) (xpure none)))) (sset 1 (xlst (xstar (xslice (xvar 1) (xpure none) (xpart (xop subD (xcall (f1 lenD) (xcons (xvar 1) (xpure []))) (xvar 3)))) (xcons (xcall (f1 tupleD) (xcons (xvar 4) (xpure []))) (xpure [])))))))
def m_tree_of_by : SM :=
  (sseq (sset 1 (xlst (xpure []))) (sseq (sfor (xwalk (xrevA (xvar 0))) (gname 2) m_tree_of_by_b1) (sret (xop ixD (xvar 1) (xpure (.int 0))))))
abbrev D_tree_of_by : DF := runF 5 m_tree_of_by
theorem b_tree_of_by {g : Gb} (GG : GF g) (b : Bd) (hr : Room 0 (b.A.deeper (PyProof.Rows.envOfC b.qual (defScope (top 65)) b.s.heap.objs.size b.f b.cdv))) :
    JSs (famB g 0 ["row", "made", "number", "many", "twigs"] sc_tree_of_by.nd (defScope (top 65)) b hr) (defBody (top 65)) m_tree_of_by :=
  (jss_cons (js_set 1 rfl (.inl (by first | rfl | kernel_rfl)) (je_lst ja_nil))
      (jss_cons (js_for (ji_seq (je_revA (je_var 0 rfl (.inl (by first | rfl | kernel_rfl))))) (jg_name 2 rfl (.inl (by first | rfl | kernel_rfl))) (jss_cons (js_set 3 rfl (.inl (by first | rfl | kernel_rfl)) (je_op os_add (je_var 2 rfl (.inl (by first | rfl | kernel_rfl))) je_int))
      (jss_cons (js_set 4 rfl (.inl (by first | rfl | kernel_rfl)) (je_revA (je_slice (je_var 1 rfl (.inl (by first | rfl | kernel_rfl))) (jo_some (je_op os_sub (je_callB cs_len (by first | rfl | kernel_rfl) GG.b_len bt_len (ja_cons (je_var 1 rfl (.inl (by first | rfl | kernel_rfl))) ja_nil)) (je_var 3 rfl (.inl (by first | rfl | kernel_rfl))))) jo_none)))
      (jss_one (js_set 1 rfl (.inl (by first | rfl | kernel_rfl)) (je_lst (ja_star (je_slice (je_var 1 rfl (.inl (by first | rfl | kernel_rfl))) jo_none (jo_some (je_op os_sub (je_callB cs_len (by first | rfl | kernel_rfl) GG.b_len bt_len (ja_cons (je_var 1 rfl (.inl (by first | rfl | kernel_rfl))) ja_nil)) (je_var 3 rfl (.inl (by first | rfl | kernel_rfl)))))) (ja_cons (je_callTy cs_tuple (by first | rfl | kernel_rfl) GG.b_tuple bt_tuple (ja_cons (je_var 4 rfl (.inl (by first | rfl | kernel_rfl))) ja_nil)) ja_nil))))))))
      (jss_one (js_ret (je_ix (je_var 1 rfl (.inl (by first | rfl | kernel_rfl))) je_int)))))
theorem f_tree_of_by {g : Gb} (GG : GF g) : Fn g (top 65) "tree_of_by" "tree_of_by" ["row"] 1 D_tree_of_by := by
  obtain ⟨f, fd, hx, D0⟩ := GG.d_tree_of_by
  exact fn_mk outD outD_hout hx D0 sc_tree_of_by (fun kV doc pm an cdv ct us hl => match us, hl with | [_], _ => rfl) (fun b hr => b_tree_of_by GG b hr)
/-- tree_of -/
theorem sc_tree_of : FnScope ["row"] ["row"] (defScope (top 72)) := ⟨rfl, rfl, rfl, by decide +kernel, rfl, by decide +kernel, by decide +kernel⟩
def m_tree_of : SM :=
  (sseq (sdrop (xfn 1 (D_check_row) (xcons (xvar 0) (xpure [])))) (sseq (sif (tnot (xtru (xfn 1 (D_is_row_of_tree) (xcons (xvar 0) (xpure []))))) snever snext) (sret (xfn 1 (D_tree_of_by) (xcons (xvar 0) (xpure []))))))
abbrev D_tree_of : DF := runF 1 m_tree_of
theorem b_tree_of {g : Gb} (GG : GF g) (b : Bd) (hr : Room 10 (b.A.deeper (PyProof.Rows.envOfC b.qual (defScope (top 72)) b.s.heap.objs.size b.f b.cdv))) :
    JSs (famB g 10 ["row"] sc_tree_of.nd (defScope (top 72)) b hr) (defBody (top 72)) m_tree_of :=
  (jss_cons (js_expr (je_call (f_check_row GG) (Nat.le_of_ble_eq_true rfl) (by first | rfl | kernel_rfl) (ja_cons (je_var 0 rfl (.inl (by first | rfl | kernel_rfl))) ja_nil)))
      (jss_cons (js_if (jt_not (jt_tru (je_call (f_is_row_of_tree GG) (Nat.le_of_ble_eq_true rfl) (by first | rfl | kernel_rfl) (ja_cons (je_var 0 rfl (.inl (by first | rfl | kernel_rfl))) ja_nil)))) (jss_one js_never) jss_nil)
      (jss_one (js_ret (je_call (f_tree_of_by GG) (Nat.le_of_ble_eq_true rfl) (by first | rfl | kernel_rfl) (ja_cons (je_var 0 rfl (.inl (by first | rfl | kernel_rfl))) ja_nil))))))
theorem f_tree_of {g : Gb} (GG : GF g) : Fn g (top 72) "tree_of" "tree_of" ["row"] 11 D_tree_of := by
  obtain ⟨f, fd, hx, D0⟩ := GG.d_tree_of
  exact fn_mk outD outD_hout hx D0 sc_tree_of (fun kV doc pm an cdv ct us hl => match us, hl with | [_], _ => rfl) (fun b hr => b_tree_of GG b hr)
/-- knots_up_to -/
theorem sc_knots_up_to : FnScope ["value", "most", "waiting", "found", "knot"] ["value", "most"] (defScope (top 60)) := ⟨rfl, rfl, rfl, by decide +kernel, rfl, by decide +kernel, by decide +kernel⟩
def m_knots_up_to_c1 : XM Bool :=
  (tand (xbool (xop neD (xvar 2) (xlst (xpure [])))) (xbool (xop leD (xcall (f1 lenD) (xcons (xvar 3) (xpure []))) (xvar 1))))
def m_knots_up_to_b1 : SM :=
  (sseq (sset 4 (xpop (xvar 2))) (sseq (sdrop (xappend (xvar 3) (xvar 4))) (sif (xtru (xcall (f2 isiD) (xcons (xvar 4) (xcons (xpure (.ty "tuple")) (xpure []))))) (sdrop (xextend (xvar 2) (xrev (xcall (f1 listD) (xcons (xvar 4) (xpure [])))))) snext)))
def m_knots_up_to : SM :=
  (sseq (spar2 2 3 (xlstM (xcons (xvar 0) (xpure []))) (xlstM (xpure []))) (sseq (swhile m_knots_up_to_c1 m_knots_up_to_b1 1000000) (sret (xvar 3))))
abbrev D_knots_up_to : DF := runF 5 m_knots_up_to
theorem b_knots_up_to {g : Gb} (GG : GF g) (b : Bd) (hr : Room 0 (b.A.deeper (PyProof.Rows.envOfC b.qual (defScope (top 60)) b.s.heap.objs.size b.f b.cdv))) :
    JSs (famB g 0 ["value", "most", "waiting", "found", "knot"] sc_knots_up_to.nd (defScope (top 60)) b hr) (defBody (top 60)) m_knots_up_to :=
  (jss_cons (js_par2 2 3 rfl rfl (by decide) (by first | rfl | kernel_rfl) (by first | rfl | kernel_rfl) (je_lstM (ja_cons (je_var 0 rfl (.inl (by first | rfl | kernel_rfl))) ja_nil)) (je_lstM ja_nil) (fun W X m => by obtain ⟨rfl, rfl⟩ := m; first | rfl | kernel_rfl))
      (jss_cons (js_while 1000000 (jw_and (jt_cmp os_ne (je_var 2 rfl (.inl (by first | rfl | kernel_rfl))) (je_lst ja_nil) rfl) (jw_and1 (jt_cmp os_le (je_callB cs_len (by first | rfl | kernel_rfl) GG.b_len bt_len (ja_cons (je_var 3 rfl (.inl (by first | rfl | kernel_rfl))) ja_nil)) (je_var 1 rfl (.inl (by first | rfl | kernel_rfl))) rfl))).jt (jss_cons (js_set 4 rfl (.inl (by first | rfl | kernel_rfl)) (je_pop (je_var 2 rfl (.inl (by first | rfl | kernel_rfl)))))
      (jss_cons (js_expr (je_append (je_var 3 rfl (.inl (by first | rfl | kernel_rfl))) (je_var 4 rfl (.inl (by first | rfl | kernel_rfl)))))
      (jss_one (js_if (jt_tru (je_callB cs_isi (by first | rfl | kernel_rfl) GG.b_isinstance bt_isinstance (ja_cons (je_var 4 rfl (.inl (by first | rfl | kernel_rfl))) (ja_cons (je_gty (by first | rfl | kernel_rfl) GG.b_tuple bt_tuple) ja_nil)))) (jss_one (js_expr (je_extend (je_var 2 rfl (.inl (by first | rfl | kernel_rfl))) (je_rev (je_callTy cs_list (by first | rfl | kernel_rfl) GG.b_list bt_list (ja_cons (je_var 4 rfl (.inl (by first | rfl | kernel_rfl))) ja_nil)))))) jss_nil)))))
      (jss_one (js_ret (je_var 3 rfl (.inl (by first | rfl | kernel_rfl)))))))
theorem f_knots_up_to {g : Gb} (GG : GF g) : Fn g (top 60) "knots_up_to" "knots_up_to" ["value", "most"] 1 D_knots_up_to := by
  obtain ⟨f, fd, hx, D0⟩ := GG.d_knots_up_to
  exact fn_mk outD outD_hout hx D0 sc_knots_up_to (fun kV doc pm an cdv ct us hl => match us, hl with | [_, _], _ => rfl) (fun b hr => b_knots_up_to GG b hr)
/-- is_tree_by -/
theorem sc_is_tree_by : FnScope ["value", "found", "knot"] ["value"] (defScope (top 61)) := ⟨rfl, rfl, rfl, by decide +kernel, rfl, by decide +kernel, by decide +kernel⟩
def m_is_tree_by_e1 : XM D :=
  (xcall (f2 isiD) (xcons (xvar 2) (xcons (xpure (.ty "tuple")) (xpure []))))
def m_is_tree_by : SM :=
  (sseq (sset 1 (xfn 2 (D_knots_up_to) (xcons (xvar 0) (xcons (xpure (.int (8))) (xpure []))))) (sret (xand (xop leD (xcall (f1 lenD) (xcons (xvar 1) (xpure []))) (xpure (.int (8)))) (xcall (f1 allD) (xcons (xcomp (xwalk (xvar 1)) [2] (gname 2) (xpure true) m_is_tree_by_e1) (xpure []))))))
abbrev D_is_tree_by : DF := runF 3 m_is_tree_by
theorem b_is_tree_by {g : Gb} (GG : GF g) (b : Bd) (hr : Room 2 (b.A.deeper (PyProof.Rows.envOfC b.qual (defScope (top 61)) b.s.heap.objs.size b.f b.cdv))) :
    JSs (famB g 2 ["value", "found", "knot"] sc_is_tree_by.nd (defScope (top 61)) b hr) (defBody (top 61)) m_is_tree_by :=
  (jss_cons (js_set 1 rfl (.inl (by first | rfl | kernel_rfl)) (je_call (f_knots_up_to GG) (Nat.le_of_ble_eq_true rfl) (by first | rfl | kernel_rfl) (ja_cons (je_var 0 rfl (.inl (by first | rfl | kernel_rfl))) (ja_cons (je_gint (by first | rfl | kernel_rfl) GG.c_MOST_KNOTS) ja_nil))))
      (jss_one (js_ret (je_and (je_cmp os_le (je_callB cs_len (by first | rfl | kernel_rfl) GG.b_len bt_len (ja_cons (je_var 1 rfl (.inl (by first | rfl | kernel_rfl))) ja_nil)) (je_gint (by first | rfl | kernel_rfl) GG.c_MOST_KNOTS) rfl) (je_one (je_callB cs_all (by first | rfl | kernel_rfl) GG.b_all bt_all (ja_cons (je_lc [("knot", 2)] (ji_seq (je_var 1 rfl (.inl (by first | rfl | kernel_rfl)))) (by first | rfl | kernel_rfl) (jc_name 2 rfl (.inl (by first | rfl | kernel_rfl)) (by decide)) jts_nil (je_callB cs_isi (by first | rfl | kernel_rfl) GG.b_isinstance bt_isinstance (ja_cons (je_var 2 rfl (.inl (by first | rfl | kernel_rfl))) (ja_cons (je_gty (by first | rfl | kernel_rfl) GG.b_tuple bt_tuple) ja_nil)))) ja_nil)))))))
theorem f_is_tree_by {g : Gb} (GG : GF g) : Fn g (top 61) "is_tree_by" "is_tree_by" ["value"] 3 D_is_tree_by := by
  obtain ⟨f, fd, hx, D0⟩ := GG.d_is_tree_by
  exact fn_mk outD outD_hout hx D0 sc_is_tree_by (fun kV doc pm an cdv ct us hl => match us, hl with | [_], _ => rfl) (fun b hr => b_is_tree_by GG b hr)
/-- is_tree -/
theorem sc_is_tree : FnScope ["value"] ["value"] (defScope (top 70)) := ⟨rfl, rfl, rfl, by decide +kernel, rfl, by decide +kernel, by decide +kernel⟩
def m_is_tree : SM :=
  (sret (xfn 1 (D_is_tree_by) (xcons (xvar 0) (xpure []))))
abbrev D_is_tree : DF := runF 1 m_is_tree
theorem b_is_tree {g : Gb} (GG : GF g) (b : Bd) (hr : Room 4 (b.A.deeper (PyProof.Rows.envOfC b.qual (defScope (top 70)) b.s.heap.objs.size b.f b.cdv))) :
    JSs (famB g 4 ["value"] sc_is_tree.nd (defScope (top 70)) b hr) (defBody (top 70)) m_is_tree :=
  (jss_one (js_ret (je_call (f_is_tree_by GG) (Nat.le_of_ble_eq_true rfl) (by first | rfl | kernel_rfl) (ja_cons (je_var 0 rfl (.inl (by first | rfl | kernel_rfl))) ja_nil))))
theorem f_is_tree {g : Gb} (GG : GF g) : Fn g (top 70) "is_tree" "is_tree" ["value"] 5 D_is_tree := by
  obtain ⟨f, fd, hx, D0⟩ := GG.d_is_tree
  exact fn_mk outD outD_hout hx D0 sc_is_tree (fun kV doc pm an cdv ct us hl => match us, hl with | [_], _ => rfl) (fun b hr => b_is_tree GG b hr)
/-- _law_is_tree -/
theorem sc_u_law_is_tree : FnScope ["told", "line", "many", "lap", "here"] ["told"] (defScope (top 84)) := ⟨rfl, rfl, rfl, by decide +kernel, rfl, by decide +kernel, by decide +kernel⟩
def m_u_law_is_tree_b1 : SM :=
  (sif (xbool (xop neD (xvar 1) (xlst (xpure [])))) (sseq (spar3 4 1 2 (xop ixD (xvar 1) (xpure (.int 0))) (xslice (xvar 1) (xpart (xpure (.int 1))) (xpure none)) (xop addD (xvar 2) (xpure (.int 1)))) (sseq (sif (tor (tnot (xtru (xcall (f2 isiD) (xcons (xvar 4) (xcons (xpure (.ty "tuple")) (xpure [])))))) (tor (xbool (xop gtD (xcall (f1 lenD) (xcons (xvar 4) (xpure []))) (xpure (.int 7)))) (xbool (xop gtD (xvar 2) (xpure (.int 8)))))) (sret (xpure (.bl false))) snext) (sset 1 (xop addD (xcall (f1 listD) (xcons (xvar 4) (xpure []))) (xvar 1))))) snext)
def m_u_law_is_tree : SM :=
  (sseq (spar2 1 2 (xlst (xcons (xvar 0) (xpure []))) (xpure (.int 0))) (sseq (sfor (xrange1 (xpure (.int 60))) (gname 3) m_u_law_is_tree_b1) (sret (xand (xop eqD (xvar 1) (xlst (xpure []))) (xop ltD (xvar 2) (xpure (.int 9)))))))
abbrev D_u_law_is_tree : DF := runF 5 m_u_law_is_tree
theorem b_u_law_is_tree {g : Gb} (GG : GF g) (b : Bd) (hr : Room 0 (b.A.deeper (PyProof.Rows.envOfC b.qual (defScope (top 84)) b.s.heap.objs.size b.f b.cdv))) :
    JSs (famB g 0 ["told", "line", "many", "lap", "here"] sc_u_law_is_tree.nd (defScope (top 84)) b hr) (defBody (top 84)) m_u_law_is_tree :=
  (jss_cons (js_par2 1 2 rfl rfl (by decide) (by first | rfl | kernel_rfl) (by first | rfl | kernel_rfl) (je_lst (ja_cons (je_var 0 rfl (.inl (by first | rfl | kernel_rfl))) ja_nil)) je_int (fun W X m => by obtain ⟨rfl, rfl⟩ := m; first | rfl | kernel_rfl))
      (jss_cons (js_for (ji_range1 (by first | rfl | kernel_rfl) GG.b_range je_int) (jg_name 3 rfl (.inl (by first | rfl | kernel_rfl))) (jss_one (js_if (jt_cmp os_ne (je_var 1 rfl (.inl (by first | rfl | kernel_rfl))) (je_lst ja_nil) rfl) (jss_cons (js_par3 4 1 2 rfl rfl rfl (by decide) (by decide) (by decide) (by first | rfl | kernel_rfl) (by first | rfl | kernel_rfl) (by first | rfl | kernel_rfl) (je_ix (je_var 1 rfl (.inl (by first | rfl | kernel_rfl))) je_int) (je_slice (je_var 1 rfl (.inl (by first | rfl | kernel_rfl))) (jo_some je_int) jo_none) (je_op os_add (je_var 2 rfl (.inl (by first | rfl | kernel_rfl))) je_int) (fun W X m => by obtain ⟨rfl, rfl⟩ := m; first | rfl | kernel_rfl))
      (jss_cons (js_if (jw_or (jt_not (jt_tru (je_callB cs_isi (by first | rfl | kernel_rfl) GG.b_isinstance bt_isinstance (ja_cons (je_var 4 rfl (.inl (by first | rfl | kernel_rfl))) (ja_cons (je_gty (by first | rfl | kernel_rfl) GG.b_tuple bt_tuple) ja_nil))))) (jw_or (jt_cmp os_gt (je_callB cs_len (by first | rfl | kernel_rfl) GG.b_len bt_len (ja_cons (je_var 4 rfl (.inl (by first | rfl | kernel_rfl))) ja_nil)) je_int rfl) (jw_or1 (jt_cmp os_gt (je_var 2 rfl (.inl (by first | rfl | kernel_rfl))) je_int rfl)))).jt (jss_one (js_ret je_bl)) jss_nil)
      (jss_one (js_set 1 rfl (.inl (by first | rfl | kernel_rfl)) (je_op os_add (je_callTy cs_list (by first | rfl | kernel_rfl) GG.b_list bt_list (ja_cons (je_var 4 rfl (.inl (by first | rfl | kernel_rfl))) ja_nil)) (je_var 1 rfl (.inl (by first | rfl | kernel_rfl)))))))) jss_nil)))
      (jss_one (js_ret (je_and (je_cmp os_eq (je_var 1 rfl (.inl (by first | rfl | kernel_rfl))) (je_lst ja_nil) rfl) (je_one (je_cmp os_lt (je_var 2 rfl (.inl (by first | rfl | kernel_rfl))) je_int rfl)))))))
theorem f_u_law_is_tree {g : Gb} (GG : GF g) : Fn g (top 84) "_law_is_tree" "_law_is_tree" ["told"] 1 D_u_law_is_tree := by
  obtain ⟨f, fd, hx, D0⟩ := GG.d_u_law_is_tree
  exact fn_mk outD outD_hout hx D0 sc_u_law_is_tree (fun kV doc pm an cdv ct us hl => match us, hl with | [_], _ => rfl) (fun b hr => b_u_law_is_tree GG b hr)
/-- check_tree -/
theorem sc_check_tree : FnScope ["value"] ["value"] (defScope (top 69)) := ⟨rfl, rfl, rfl, by decide +kernel, rfl, by decide +kernel, by decide +kernel⟩
def m_check_tree : SM :=
  (sif (tnot (xtru (xfn 1 (D_is_tree_by) (xcons (xvar 0) (xpure []))))) snever snext)
abbrev D_check_tree : DF := runF 1 m_check_tree
theorem b_check_tree {g : Gb} (GG : GF g) (b : Bd) (hr : Room 4 (b.A.deeper (PyProof.Rows.envOfC b.qual (defScope (top 69)) b.s.heap.objs.size b.f b.cdv))) :
    JSs (famB g 4 ["value"] sc_check_tree.nd (defScope (top 69)) b hr) (defBody (top 69)) m_check_tree :=
  (jss_one (js_if (jt_not (jt_tru (je_call (f_is_tree_by GG) (Nat.le_of_ble_eq_true rfl) (by first | rfl | kernel_rfl) (ja_cons (je_var 0 rfl (.inl (by first | rfl | kernel_rfl))) ja_nil)))) (jss_one js_never) jss_nil))
theorem f_check_tree {g : Gb} (GG : GF g) : Fn g (top 69) "check_tree" "check_tree" ["value"] 5 D_check_tree := by
  obtain ⟨f, fd, hx, D0⟩ := GG.d_check_tree
  exact fn_mk outD outD_hout hx D0 sc_check_tree (fun kV doc pm an cdv ct us hl => match us, hl with | [_], _ => rfl) (fun b hr => b_check_tree GG b hr)
/-- row_of_by -/
theorem sc_row_of_by : FnScope ["tree", "knot"] ["tree"] (defScope (top 62)) := ⟨rfl, rfl, rfl, by decide +kernel, rfl, by decide +kernel, by decide +kernel⟩
def m_row_of_by_e1 : XM D :=
  (xop subD (xcall (f1 lenD) (xcons (xvar 1) (xpure []))) (xpure (.int 1)))
def m_row_of_by : SM :=
  (sret (xcall (f1 tupleD) (xcons (xcomp (xwalk (xfn 2 (D_knots_up_to) (xcons (xvar 0) (xcons (xpure (.int (8))) (xpure []))))) [1] (gname 1) (xpure true) m_row_of_by_e1) (xpure []))))
abbrev D_row_of_by : DF := runF 2 m_row_of_by
theorem b_row_of_by {g : Gb} (GG : GF g) (b : Bd) (hr : Room 2 (b.A.deeper (PyProof.Rows.envOfC b.qual (defScope (top 62)) b.s.heap.objs.size b.f b.cdv))) :
    JSs (famB g 2 ["tree", "knot"] sc_row_of_by.nd (defScope (top 62)) b hr) (defBody (top 62)) m_row_of_by :=
  (jss_one (js_ret (je_callTy cs_tuple (by first | rfl | kernel_rfl) GG.b_tuple bt_tuple (ja_cons (je_lc [("knot", 1)] (ji_seq (je_call (f_knots_up_to GG) (Nat.le_of_ble_eq_true rfl) (by first | rfl | kernel_rfl) (ja_cons (je_var 0 rfl (.inl (by first | rfl | kernel_rfl))) (ja_cons (je_gint (by first | rfl | kernel_rfl) GG.c_MOST_KNOTS) ja_nil)))) (by first | rfl | kernel_rfl) (jc_name 1 rfl (.inl (by first | rfl | kernel_rfl)) (by decide)) jts_nil (je_op os_sub (je_callB cs_len (by first | rfl | kernel_rfl) GG.b_len bt_len (ja_cons (je_var 1 rfl (.inl (by first | rfl | kernel_rfl))) ja_nil)) je_int)) ja_nil))))
theorem f_row_of_by {g : Gb} (GG : GF g) : Fn g (top 62) "row_of_by" "row_of_by" ["tree"] 3 D_row_of_by := by
  obtain ⟨f, fd, hx, D0⟩ := GG.d_row_of_by
  exact fn_mk outD outD_hout hx D0 sc_row_of_by (fun kV doc pm an cdv ct us hl => match us, hl with | [_], _ => rfl) (fun b hr => b_row_of_by GG b hr)
/-- row_of -/
theorem sc_row_of : FnScope ["tree"] ["tree"] (defScope (top 71)) := ⟨rfl, rfl, rfl, by decide +kernel, rfl, by decide +kernel, by decide +kernel⟩
def m_row_of : SM :=
  (sseq (sdrop (xfn 1 (D_check_tree) (xcons (xvar 0) (xpure [])))) (sret (xfn 1 (D_row_of_by) (xcons (xvar 0) (xpure [])))))
abbrev D_row_of : DF := runF 1 m_row_of
theorem b_row_of {g : Gb} (GG : GF g) (b : Bd) (hr : Room 6 (b.A.deeper (PyProof.Rows.envOfC b.qual (defScope (top 71)) b.s.heap.objs.size b.f b.cdv))) :
    JSs (famB g 6 ["tree"] sc_row_of.nd (defScope (top 71)) b hr) (defBody (top 71)) m_row_of :=
  (jss_cons (js_expr (je_call (f_check_tree GG) (Nat.le_of_ble_eq_true rfl) (by first | rfl | kernel_rfl) (ja_cons (je_var 0 rfl (.inl (by first | rfl | kernel_rfl))) ja_nil)))
      (jss_one (js_ret (je_call (f_row_of_by GG) (Nat.le_of_ble_eq_true rfl) (by first | rfl | kernel_rfl) (ja_cons (je_var 0 rfl (.inl (by first | rfl | kernel_rfl))) ja_nil)))))
theorem f_row_of {g : Gb} (GG : GF g) : Fn g (top 71) "row_of" "row_of" ["tree"] 7 D_row_of := by
  obtain ⟨f, fd, hx, D0⟩ := GG.d_row_of
  exact fn_mk outD outD_hout hx D0 sc_row_of (fun kV doc pm an cdv ct us hl => match us, hl with | [_], _ => rfl) (fun b hr => b_row_of GG b hr)
/-- _law_is_tree_told -/
theorem sc_u_law_is_tree_told : FnScope ["pool", "row", "k", "fine", "j", "tree"] ["pool", "row"] (defScope (top 88)) := ⟨rfl, rfl, rfl, by decide +kernel, rfl, by decide +kernel, by decide +kernel⟩
def m_u_law_is_tree_told_s1 : SM :=
  (sset 2 (xfn 1 (D_tree_turning) (xcons (xvar 1) (xpure []))))
def m_u_law_is_tree_told_t1 : XM Bool :=
  (xbool (xop geD (xcall (f1 minD) (xcons (xslice (xfn 1 (D_u_law_sums) (xcons (xfn 2 (D_u_law_turned) (xcons (xvar 1) (xcons (xvar 4) (xpure [])))) (xpure []))) (xpure none) (xpart (xneg (xpure (.int 1))))) (xpure []))) (xpure (.int 0))))
def m_u_law_is_tree_told_s2 : SM :=
  (sset 3 (xcomp (xrange1 (xcall (f1 lenD) (xcons (xvar 1) (xpure [])))) [4] (gname 4) m_u_law_is_tree_told_t1 (xvar 4)))
def m_u_law_is_tree_told_s3 : SM :=
  (sif (xbool (xop neD (xvar 3) (xlst (xcons (xvar 2) (xpure []))))) (sret (xpure (.bl false))) snext)
def m_u_law_is_tree_told_s4 : SM :=
  (sset 5 (xfn 1 (D_tree_of) (xcons (xfn 2 (D_turned) (xcons (xvar 1) (xcons (xvar 2) (xpure [])))) (xpure []))))
def m_u_law_is_tree_told_s5 : SM :=
  (sret (xand (xop isBD (xfn 1 (D_is_tree) (xcons (xvar 5) (xpure []))) (xpure (.bl true))) (xand (xfn 1 (D_u_law_is_tree) (xcons (xvar 5) (xpure []))) (xand (xfn 2 (D_u_law_same 6) (xcons (xfn 1 (D_row_of) (xcons (xvar 5) (xpure []))) (xcons (xfn 2 (D_u_law_turned) (xcons (xvar 1) (xcons (xvar 2) (xpure [])))) (xpure [])))) (xop eqD (xfn 1 (D_u_law_tree_row) (xcons (xvar 5) (xpure []))) (xfn 2 (D_u_law_turned) (xcons (xvar 1) (xcons (xvar 2) (xpure [])))))))))
def m_u_law_is_tree_told : SM :=
  (sseq m_u_law_is_tree_told_s1 (sseq m_u_law_is_tree_told_s2 (sseq m_u_law_is_tree_told_s3 (sseq m_u_law_is_tree_told_s4 m_u_law_is_tree_told_s5))))
abbrev D_u_law_is_tree_told : DF := runF 6 m_u_law_is_tree_told
theorem b_u_law_is_tree_told {g : Gb} (GG : GF g) (b : Bd) (hr : Room 12 (b.A.deeper (PyProof.Rows.envOfC b.qual (defScope (top 88)) b.s.heap.objs.size b.f b.cdv))) :
    JSs (famB g 12 ["pool", "row", "k", "fine", "j", "tree"] sc_u_law_is_tree_told.nd (defScope (top 88)) b hr) (defBody (top 88)) m_u_law_is_tree_told :=
  (jss_cons (js_set 2 rfl (.inl (by first | rfl | kernel_rfl)) (je_call (f_tree_turning GG) (Nat.le_of_ble_eq_true rfl) (by first | rfl | kernel_rfl) (ja_cons (je_var 1 rfl (.inr (.inl (by first | rfl | kernel_rfl)))) ja_nil)))
      (jss_cons (js_setLc 3 [("j", 4)] rfl (by first | rfl | kernel_rfl) rfl rfl (by first | rfl | kernel_rfl) (ji_range1 (by first | rfl | kernel_rfl) GG.b_range (je_callB cs_len (by first | rfl | kernel_rfl) GG.b_len bt_len (ja_cons (je_var 1 rfl (.inr (.inl (by first | rfl | kernel_rfl)))) ja_nil))) (by first | rfl | kernel_rfl) (jc_name 4 rfl (.inl (by first | rfl | kernel_rfl)) (by decide)) (jts_one (jt_cmp os_ge (je_callB cs_min (by first | rfl | kernel_rfl) GG.b_min bt_min (ja_cons (je_slice (je_call (f_u_law_sums GG) (Nat.le_of_ble_eq_true rfl) (by first | rfl | kernel_rfl) (ja_cons (je_call (f_u_law_turned GG) (Nat.le_of_ble_eq_true rfl) (by first | rfl | kernel_rfl) (ja_cons (je_var 1 rfl (.inr (.inl (by first | rfl | kernel_rfl)))) (ja_cons (je_var 4 rfl (.inl (by first | rfl | kernel_rfl))) ja_nil))) ja_nil)) jo_none (jo_some (je_neg je_int))) ja_nil)) je_int rfl)) (je_var 4 rfl (.inl (by first | rfl | kernel_rfl))))
      (jss_cons (js_if (jt_cmp os_ne (je_var 3 rfl (.inl (by first | rfl | kernel_rfl))) (je_lst (ja_cons (je_var 2 rfl (.inl (by first | rfl | kernel_rfl))) ja_nil)) rfl) (jss_one (js_ret je_bl)) jss_nil)
      (jss_cons (js_set 5 rfl (.inl (by first | rfl | kernel_rfl)) (je_call (f_tree_of GG) (Nat.le_of_ble_eq_true rfl) (by first | rfl | kernel_rfl) (ja_cons (je_call (f_turned GG) (Nat.le_of_ble_eq_true rfl) (by first | rfl | kernel_rfl) (ja_cons (je_var 1 rfl (.inr (.inl (by first | rfl | kernel_rfl)))) (ja_cons (je_var 2 rfl (.inl (by first | rfl | kernel_rfl))) ja_nil))) ja_nil)))
      (jss_one (js_ret (je_and (je_cmp os_isB (je_call (f_is_tree GG) (Nat.le_of_ble_eq_true rfl) (by first | rfl | kernel_rfl) (ja_cons (je_var 5 rfl (.inl (by first | rfl | kernel_rfl))) ja_nil)) je_bl rfl) (je_and (je_call (f_u_law_is_tree GG) (Nat.le_of_ble_eq_true rfl) (by first | rfl | kernel_rfl) (ja_cons (je_var 5 rfl (.inl (by first | rfl | kernel_rfl))) ja_nil)) (je_and (je_call (f_u_law_same GG 6) (Nat.le_of_ble_eq_true rfl) (by first | rfl | kernel_rfl) (ja_cons (je_call (f_row_of GG) (Nat.le_of_ble_eq_true rfl) (by first | rfl | kernel_rfl) (ja_cons (je_var 5 rfl (.inl (by first | rfl | kernel_rfl))) ja_nil)) (ja_cons (je_call (f_u_law_turned GG) (Nat.le_of_ble_eq_true rfl) (by first | rfl | kernel_rfl) (ja_cons (je_var 1 rfl (.inr (.inl (by first | rfl | kernel_rfl)))) (ja_cons (je_var 2 rfl (.inl (by first | rfl | kernel_rfl))) ja_nil))) ja_nil))) (je_one (je_cmp os_eq (je_call (f_u_law_tree_row GG) (Nat.le_of_ble_eq_true rfl) (by first | rfl | kernel_rfl) (ja_cons (je_var 5 rfl (.inl (by first | rfl | kernel_rfl))) ja_nil)) (je_call (f_u_law_turned GG) (Nat.le_of_ble_eq_true rfl) (by first | rfl | kernel_rfl) (ja_cons (je_var 1 rfl (.inr (.inl (by first | rfl | kernel_rfl)))) (ja_cons (je_var 2 rfl (.inl (by first | rfl | kernel_rfl))) ja_nil))) rfl)))))))))))
theorem f_u_law_is_tree_told {g : Gb} (GG : GF g) : Fn g (top 88) "_law_is_tree_told" "_law_is_tree_told" ["pool", "row"] 13 D_u_law_is_tree_told := by
  obtain ⟨f, fd, hx, D0⟩ := GG.d_u_law_is_tree_told
  exact fn_mk outD outD_hout hx D0 sc_u_law_is_tree_told (fun kV doc pm an cdv ct us hl => match us, hl with | [_, _], _ => rfl) (fun b hr => b_u_law_is_tree_told GG b hr)
/-- check_votes -/
theorem sc_check_votes : FnScope ["ups", "downs", "weight"] ["ups", "downs", "weight"] (defScope (top 49)) := ⟨rfl, rfl, rfl, by decide +kernel, rfl, by decide +kernel, by decide +kernel⟩
def m_check_votes : SM :=
  (sseq (sdrop (xfn 3 (D_check_number) (xcons (xvar 0) (xcons (xpure (.int 0)) (xcons (xpure (.int (20))) (xpure [])))))) (sseq (sdrop (xfn 3 (D_check_number) (xcons (xvar 1) (xcons (xpure (.int 0)) (xcons (xpure (.int (20))) (xpure [])))))) (sdrop (xfn 3 (D_check_number) (xcons (xvar 2) (xcons (xpure (.int 1)) (xcons (xpure (.int (9))) (xpure []))))))))
abbrev D_check_votes : DF := runF 3 m_check_votes
theorem b_check_votes {g : Gb} (GG : GF g) (b : Bd) (hr : Room 6 (b.A.deeper (PyProof.Rows.envOfC b.qual (defScope (top 49)) b.s.heap.objs.size b.f b.cdv))) :
    JSs (famB g 6 ["ups", "downs", "weight"] sc_check_votes.nd (defScope (top 49)) b hr) (defBody (top 49)) m_check_votes :=
  (jss_cons (js_expr (je_call (f_check_number GG) (Nat.le_of_ble_eq_true rfl) (by first | rfl | kernel_rfl) (ja_cons (je_var 0 rfl (.inl (by first | rfl | kernel_rfl))) (ja_cons je_int (ja_cons (je_gint (by first | rfl | kernel_rfl) GG.c_MOST_VOTES) ja_nil)))))
      (jss_cons (js_expr (je_call (f_check_number GG) (Nat.le_of_ble_eq_true rfl) (by first | rfl | kernel_rfl) (ja_cons (je_var 1 rfl (.inl (by first | rfl | kernel_rfl))) (ja_cons je_int (ja_cons (je_gint (by first | rfl | kernel_rfl) GG.c_MOST_VOTES) ja_nil)))))
      (jss_one (js_expr (je_call (f_check_number GG) (Nat.le_of_ble_eq_true rfl) (by first | rfl | kernel_rfl) (ja_cons (je_var 2 rfl (.inl (by first | rfl | kernel_rfl))) (ja_cons je_int (ja_cons (je_gint (by first | rfl | kernel_rfl) GG.c_MOST_WEIGHT) ja_nil))))))))
theorem f_check_votes {g : Gb} (GG : GF g) : Fn g (top 49) "check_votes" "check_votes" ["ups", "downs", "weight"] 7 D_check_votes := by
  obtain ⟨f, fd, hx, D0⟩ := GG.d_check_votes
  exact fn_mk outD outD_hout hx D0 sc_check_votes (fun kV doc pm an cdv ct us hl => match us, hl with | [_, _, _], _ => rfl) (fun b hr => b_check_votes GG b hr)
/-- ballot_of -/
theorem sc_ballot_of : FnScope ["votes", "places", "weight", "place"] ["votes", "places", "weight"] (defScope (top 43)) := ⟨rfl, rfl, rfl, by decide +kernel, rfl, by decide +kernel, by decide +kernel⟩
def m_ballot_of_e1 : XM D :=
  (xif (xbool (xop inD (xvar 3) (xvar 1))) (xpure (.int (1))) (xneg (xvar 2)))
def m_ballot_of : SM :=
  (sret (xcall (f1 tupleD) (xcons (xcomp (xrange1 (xvar 0)) [3] (gname 3) (xpure true) m_ballot_of_e1) (xpure []))))
abbrev D_ballot_of : DF := runF 4 m_ballot_of
theorem b_ballot_of {g : Gb} (GG : GF g) (b : Bd) (hr : Room 0 (b.A.deeper (PyProof.Rows.envOfC b.qual (defScope (top 43)) b.s.heap.objs.size b.f b.cdv))) :
    JSs (famB g 0 ["votes", "places", "weight", "place"] sc_ballot_of.nd (defScope (top 43)) b hr) (defBody (top 43)) m_ballot_of :=
  (jss_one (js_ret (je_callTy cs_tuple (by first | rfl | kernel_rfl) GG.b_tuple bt_tuple (ja_cons (je_lc [("place", 3)] (ji_range1 (by first | rfl | kernel_rfl) GG.b_range (je_var 0 rfl (.inl (by first | rfl | kernel_rfl)))) (by first | rfl | kernel_rfl) (jc_name 3 rfl (.inl (by first | rfl | kernel_rfl)) (by decide)) jts_nil (je_if (jt_cmp os_in (je_var 3 rfl (.inl (by first | rfl | kernel_rfl))) (je_var 1 rfl (.inr (.inl (by first | rfl | kernel_rfl)))) rfl) (je_gint (by first | rfl | kernel_rfl) GG.c_UP) (je_neg (je_var 2 rfl (.inr (.inl (by first | rfl | kernel_rfl))))))) ja_nil))))
theorem f_ballot_of {g : Gb} (GG : GF g) : Fn g (top 43) "ballot_of" "ballot_of" ["votes", "places", "weight"] 1 D_ballot_of := by
  obtain ⟨f, fd, hx, D0⟩ := GG.d_ballot_of
  exact fn_mk outD outD_hout hx D0 sc_ballot_of (fun kV doc pm an cdv ct us hl => match us, hl with | [_, _, _], _ => rfl) (fun b hr => b_ballot_of GG b hr)
/-- all_ballots_by -/
theorem sc_all_ballots_by : FnScope ["ups", "downs", "weight", "votes", "places"] ["ups", "downs", "weight"] (defScope (top 44)) := ⟨rfl, rfl, rfl, by decide +kernel, rfl, by decide +kernel, by decide +kernel⟩
def m_all_ballots_by_e1 : XM D :=
  (xfn 3 (D_ballot_of) (xcons (xvar 3) (xcons (xvar 4) (xcons (xvar 2) (xpure [])))))
def m_all_ballots_by : SM :=
  (sseq (sset 3 (xop addD (xvar 0) (xvar 1))) (sret (xcall (f1 tupleD) (xcons (xcall (f1 sortedD) (xcons (xcomp (xcomb (xlistRg1 (xvar 3)) (xvar 0)) [4] (gname 4) (xpure true) m_all_ballots_by_e1) (xpure []))) (xpure [])))))
abbrev D_all_ballots_by : DF := runF 5 m_all_ballots_by
theorem b_all_ballots_by {g : Gb} (GG : GF g) (b : Bd) (hr : Room 2 (b.A.deeper (PyProof.Rows.envOfC b.qual (defScope (top 44)) b.s.heap.objs.size b.f b.cdv))) :
    JSs (famB g 2 ["ups", "downs", "weight", "votes", "places"] sc_all_ballots_by.nd (defScope (top 44)) b hr) (defBody (top 44)) m_all_ballots_by :=
  (jss_cons (js_set 3 rfl (.inr (by first | rfl | kernel_rfl)) (je_op os_add (je_var 0 rfl (.inl (by first | rfl | kernel_rfl))) (je_var 1 rfl (.inl (by first | rfl | kernel_rfl)))))
      (jss_one (js_ret (je_callTy cs_tuple (by first | rfl | kernel_rfl) GG.b_tuple bt_tuple (ja_cons (je_callB cs_sorted (by first | rfl | kernel_rfl) GG.b_sorted bt_sorted (ja_cons (je_lc [("places", 4)] (ji_comb (by first | rfl | kernel_rfl) GG.v_combinations (je_listRg1 (by first | rfl | kernel_rfl) GG.b_list (by first | rfl | kernel_rfl) GG.b_range (je_var 3 rfl (.inr (.inl (by first | rfl | kernel_rfl))))) (je_var 0 rfl (.inl (by first | rfl | kernel_rfl)))) (by first | rfl | kernel_rfl) (jc_name 4 rfl (.inl (by first | rfl | kernel_rfl)) (by decide)) jts_nil (je_call (f_ballot_of GG) (Nat.le_of_ble_eq_true rfl) (by first | rfl | kernel_rfl) (ja_cons (je_var 3 rfl (.inr (.inl (by first | rfl | kernel_rfl)))) (ja_cons (je_var 4 rfl (.inl (by first | rfl | kernel_rfl))) (ja_cons (je_var 2 rfl (.inr (.inl (by first | rfl | kernel_rfl)))) ja_nil))))) ja_nil)) ja_nil)))))
theorem f_all_ballots_by {g : Gb} (GG : GF g) : Fn g (top 44) "all_ballots_by" "all_ballots_by" ["ups", "downs", "weight"] 3 D_all_ballots_by := by
  obtain ⟨f, fd, hx, D0⟩ := GG.d_all_ballots_by
  exact fn_mk outD outD_hout hx D0 sc_all_ballots_by (fun kV doc pm an cdv ct us hl => match us, hl with | [_, _, _], _ => rfl) (fun b hr => b_all_ballots_by GG b hr)
/-- all_ballots -/
theorem sc_all_ballots : FnScope ["ups", "downs", "weight"] ["ups", "downs", "weight"] (defScope (top 53)) := ⟨rfl, rfl, rfl, by decide +kernel, rfl, by decide +kernel, by decide +kernel⟩
def m_all_ballots : SM :=
  (sseq (sdrop (xfn 3 (D_check_votes) (xcons (xvar 0) (xcons (xvar 1) (xcons (xvar 2) (xpure [])))))) (sseq (sif (xbool (xop gtD (xop addD (xvar 0) (xvar 1)) (xpure (.int (9))))) snever snext) (sret (xfn 3 (D_all_ballots_by) (xcons (xvar 0) (xcons (xvar 1) (xcons (xvar 2) (xpure []))))))))
abbrev D_all_ballots : DF := runF 3 m_all_ballots
theorem b_all_ballots {g : Gb} (GG : GF g) (b : Bd) (hr : Room 8 (b.A.deeper (PyProof.Rows.envOfC b.qual (defScope (top 53)) b.s.heap.objs.size b.f b.cdv))) :
    JSs (famB g 8 ["ups", "downs", "weight"] sc_all_ballots.nd (defScope (top 53)) b hr) (defBody (top 53)) m_all_ballots :=
  (jss_cons (js_expr (je_call (f_check_votes GG) (Nat.le_of_ble_eq_true rfl) (by first | rfl | kernel_rfl) (ja_cons (je_var 0 rfl (.inl (by first | rfl | kernel_rfl))) (ja_cons (je_var 1 rfl (.inl (by first | rfl | kernel_rfl))) (ja_cons (je_var 2 rfl (.inl (by first | rfl | kernel_rfl))) ja_nil)))))
      (jss_cons (js_if (jt_cmp os_gt (je_op os_add (je_var 0 rfl (.inl (by first | rfl | kernel_rfl))) (je_var 1 rfl (.inl (by first | rfl | kernel_rfl)))) (je_gint (by first | rfl | kernel_rfl) GG.c_MOST_LISTED) rfl) (jss_one js_never) jss_nil)
      (jss_one (js_ret (je_call (f_all_ballots_by GG) (Nat.le_of_ble_eq_true rfl) (by first | rfl | kernel_rfl) (ja_cons (je_var 0 rfl (.inl (by first | rfl | kernel_rfl))) (ja_cons (je_var 1 rfl (.inl (by first | rfl | kernel_rfl))) (ja_cons (je_var 2 rfl (.inl (by first | rfl | kernel_rfl))) ja_nil))))))))
theorem f_all_ballots {g : Gb} (GG : GF g) : Fn g (top 53) "all_ballots" "all_ballots" ["ups", "downs", "weight"] 9 D_all_ballots := by
  obtain ⟨f, fd, hx, D0⟩ := GG.d_all_ballots
  exact fn_mk outD outD_hout hx D0 sc_all_ballots (fun kV doc pm an cdv ct us hl => match us, hl with | [_, _, _], _ => rfl) (fun b hr => b_all_ballots GG b hr)
/-- _law_more -/
theorem sc_u_law_more : FnScope ["every", "weight", "row"] ["every", "weight"] (defScope (top 90)) := ⟨rfl, rfl, rfl, by decide +kernel, rfl, by decide +kernel, by decide +kernel⟩
def m_u_law_more_e1 : XM D :=
  (xop addZD (xvar 2) (xtupZ (xcons (xpure (.int 1)) (xpure []))))
def m_u_law_more_e2 : XM D :=
  (xop addZD (xvar 2) (xtupZ (xcons (xop subD (xpure (.int 0)) (xvar 1)) (xpure []))))
def m_u_law_more : SM :=
  (sret (xop addD (xcomp (xwalk (xvar 0)) [2] (gname 2) (xpure true) m_u_law_more_e1) (xcomp (xwalk (xvar 0)) [2] (gname 2) (xpure true) m_u_law_more_e2)))
abbrev D_u_law_more : DF := runF 3 m_u_law_more
theorem b_u_law_more {g : Gb} (GG : GF g) (b : Bd) (hr : Room 0 (b.A.deeper (PyProof.Rows.envOfC b.qual (defScope (top 90)) b.s.heap.objs.size b.f b.cdv))) :
    JSs (famB g 0 ["every", "weight", "row"] sc_u_law_more.nd (defScope (top 90)) b hr) (defBody (top 90)) m_u_law_more :=
  (jss_one (js_ret (je_op os_add (je_lc [("row", 2)] (ji_seq (je_var 0 rfl (.inl (by first | rfl | kernel_rfl)))) (by first | rfl | kernel_rfl) (jc_name 2 rfl (.inl (by first | rfl | kernel_rfl)) (by decide)) jts_nil (je_op os_addZ (je_var 2 rfl (.inl (by first | rfl | kernel_rfl))) (je_tupZ (ja_cons je_int ja_nil)))) (je_lc [("row", 2)] (ji_seq (je_var 0 rfl (.inl (by first | rfl | kernel_rfl)))) (by first | rfl | kernel_rfl) (jc_name 2 rfl (.inl (by first | rfl | kernel_rfl)) (by decide)) jts_nil (je_op os_addZ (je_var 2 rfl (.inl (by first | rfl | kernel_rfl))) (je_tupZ (ja_cons (je_op os_sub je_int (je_var 1 rfl (.inr (.inl (by first | rfl | kernel_rfl))))) ja_nil)))))))
theorem f_u_law_more {g : Gb} (GG : GF g) : Fn g (top 90) "_law_more" "_law_more" ["every", "weight"] 1 D_u_law_more := by
  obtain ⟨f, fd, hx, D0⟩ := GG.d_u_law_more
  exact fn_mk outD outD_hout hx D0 sc_u_law_more (fun kV doc pm an cdv ct us hl => match us, hl with | [_, _], _ => rfl) (fun b hr => b_u_law_more GG b hr)
/-- check_enough -/
theorem sc_check_enough : FnScope ["ups", "downs", "weight"] ["ups", "downs", "weight"] (defScope (top 50)) := ⟨rfl, rfl, rfl, by decide +kernel, rfl, by decide +kernel, by decide +kernel⟩
def m_check_enough : SM :=
  (sseq (sdrop (xfn 3 (D_check_votes) (xcons (xvar 0) (xcons (xvar 1) (xcons (xvar 2) (xpure [])))))) (sif (xbool (xop ltD (xvar 0) (xop mulD (xvar 2) (xvar 1)))) snever snext))
abbrev D_check_enough : DF := runF 3 m_check_enough
theorem b_check_enough {g : Gb} (GG : GF g) (b : Bd) (hr : Room 8 (b.A.deeper (PyProof.Rows.envOfC b.qual (defScope (top 50)) b.s.heap.objs.size b.f b.cdv))) :
    JSs (famB g 8 ["ups", "downs", "weight"] sc_check_enough.nd (defScope (top 50)) b hr) (defBody (top 50)) m_check_enough :=
  (jss_cons (js_expr (je_call (f_check_votes GG) (Nat.le_of_ble_eq_true rfl) (by first | rfl | kernel_rfl) (ja_cons (je_var 0 rfl (.inl (by first | rfl | kernel_rfl))) (ja_cons (je_var 1 rfl (.inl (by first | rfl | kernel_rfl))) (ja_cons (je_var 2 rfl (.inl (by first | rfl | kernel_rfl))) ja_nil)))))
      (jss_one (js_if (jt_cmp os_lt (je_var 0 rfl (.inl (by first | rfl | kernel_rfl))) (je_op os_mul (je_var 2 rfl (.inl (by first | rfl | kernel_rfl))) (je_var 1 rfl (.inl (by first | rfl | kernel_rfl)))) rfl) (jss_one js_never) jss_nil)))
theorem f_check_enough {g : Gb} (GG : GF g) : Fn g (top 50) "check_enough" "check_enough" ["ups", "downs", "weight"] 9 D_check_enough := by
  obtain ⟨f, fd, hx, D0⟩ := GG.d_check_enough
  exact fn_mk outD outD_hout hx D0 sc_check_enough (fun kV doc pm an cdv ct us hl => match us, hl with | [_, _, _], _ => rfl) (fun b hr => b_check_enough GG b hr)
/-- binomial -/
theorem sc_binomial : FnScope ["many", "few"] ["many", "few"] (defScope (top 39)) := ⟨rfl, rfl, rfl, by decide +kernel, rfl, by decide +kernel, by decide +kernel⟩
def m_binomial : SM :=
  (sret (xif (xbool (xchain leD leD (xpure (.int 0)) (xvar 1) (xvar 0))) (xcall (f2 combD) (xcons (xvar 0) (xcons (xvar 1) (xpure [])))) (xpure (.int 0))))
abbrev D_binomial : DF := runF 2 m_binomial
theorem b_binomial {g : Gb} (GG : GF g) (b : Bd) (hr : Room 0 (b.A.deeper (PyProof.Rows.envOfC b.qual (defScope (top 39)) b.s.heap.objs.size b.f b.cdv))) :
    JSs (famB g 0 ["many", "few"] sc_binomial.nd (defScope (top 39)) b hr) (defBody (top 39)) m_binomial :=
  (jss_one (js_ret (je_if (jt_chain os_le os_le je_int (je_var 1 rfl (.inl (by first | rfl | kernel_rfl))) (je_var 0 rfl (.inl (by first | rfl | kernel_rfl)))) (je_callMB cs_comb (by first | rfl | kernel_rfl) GG.v_comb (ja_cons (je_var 0 rfl (.inl (by first | rfl | kernel_rfl))) (ja_cons (je_var 1 rfl (.inl (by first | rfl | kernel_rfl))) ja_nil))) je_int)))
theorem f_binomial {g : Gb} (GG : GF g) : Fn g (top 39) "binomial" "binomial" ["many", "few"] 1 D_binomial := by
  obtain ⟨f, fd, hx, D0⟩ := GG.d_binomial
  exact fn_mk outD outD_hout hx D0 sc_binomial (fun kV doc pm an cdv ct us hl => match us, hl with | [_, _], _ => rfl) (fun b hr => b_binomial GG b hr)
/-- count_leading_by -/
theorem sc_count_leading_by : FnScope ["ups", "downs", "weight", "votes"] ["ups", "downs", "weight"] (defScope (top 41)) := ⟨rfl, rfl, rfl, by decide +kernel, rfl, by decide +kernel, by decide +kernel⟩
def m_count_leading_by : SM :=
  (sseq (sset 3 (xop addD (xvar 0) (xvar 1))) (sret (xif (xbool (xop gtD (xvar 3) (xpure (.int 0)))) (xop divD (xop mulD (xop subD (xvar 0) (xop mulD (xvar 2) (xvar 1))) (xfn 2 (D_binomial) (xcons (xvar 3) (xcons (xvar 0) (xpure []))))) (xvar 3)) (xpure (.int 1)))))
abbrev D_count_leading_by : DF := runF 4 m_count_leading_by
theorem b_count_leading_by {g : Gb} (GG : GF g) (b : Bd) (hr : Room 2 (b.A.deeper (PyProof.Rows.envOfC b.qual (defScope (top 41)) b.s.heap.objs.size b.f b.cdv))) :
    JSs (famB g 2 ["ups", "downs", "weight", "votes"] sc_count_leading_by.nd (defScope (top 41)) b hr) (defBody (top 41)) m_count_leading_by :=
  (jss_cons (js_set 3 rfl (.inl (by first | rfl | kernel_rfl)) (je_op os_add (je_var 0 rfl (.inl (by first | rfl | kernel_rfl))) (je_var 1 rfl (.inl (by first | rfl | kernel_rfl)))))
      (jss_one (js_ret (je_if (jt_cmp os_gt (je_var 3 rfl (.inl (by first | rfl | kernel_rfl))) je_int rfl) (je_op os_div (je_op os_mul (je_op os_sub (je_var 0 rfl (.inl (by first | rfl | kernel_rfl))) (je_op os_mul (je_var 2 rfl (.inl (by first | rfl | kernel_rfl))) (je_var 1 rfl (.inl (by first | rfl | kernel_rfl))))) (je_call (f_binomial GG) (Nat.le_of_ble_eq_true rfl) (by first | rfl | kernel_rfl) (ja_cons (je_var 3 rfl (.inl (by first | rfl | kernel_rfl))) (ja_cons (je_var 0 rfl (.inl (by first | rfl | kernel_rfl))) ja_nil)))) (je_var 3 rfl (.inl (by first | rfl | kernel_rfl)))) je_int))))
theorem f_count_leading_by {g : Gb} (GG : GF g) : Fn g (top 41) "count_leading_by" "count_leading_by" ["ups", "downs", "weight"] 3 D_count_leading_by := by
  obtain ⟨f, fd, hx, D0⟩ := GG.d_count_leading_by
  exact fn_mk outD outD_hout hx D0 sc_count_leading_by (fun kV doc pm an cdv ct us hl => match us, hl with | [_, _, _], _ => rfl) (fun b hr => b_count_leading_by GG b hr)
/-- count_leading -/
theorem sc_count_leading : FnScope ["ups", "downs", "weight"] ["ups", "downs", "weight"] (defScope (top 51)) := ⟨rfl, rfl, rfl, by decide +kernel, rfl, by decide +kernel, by decide +kernel⟩
def m_count_leading : SM :=
  (sseq (sdrop (xfn 3 (D_check_enough) (xcons (xvar 0) (xcons (xvar 1) (xcons (xvar 2) (xpure [])))))) (sret (xfn 3 (D_count_leading_by) (xcons (xvar 0) (xcons (xvar 1) (xcons (xvar 2) (xpure [])))))))
abbrev D_count_leading : DF := runF 3 m_count_leading
theorem b_count_leading {g : Gb} (GG : GF g) (b : Bd) (hr : Room 10 (b.A.deeper (PyProof.Rows.envOfC b.qual (defScope (top 51)) b.s.heap.objs.size b.f b.cdv))) :
    JSs (famB g 10 ["ups", "downs", "weight"] sc_count_leading.nd (defScope (top 51)) b hr) (defBody (top 51)) m_count_leading :=
  (jss_cons (js_expr (je_call (f_check_enough GG) (Nat.le_of_ble_eq_true rfl) (by first | rfl | kernel_rfl) (ja_cons (je_var 0 rfl (.inl (by first | rfl | kernel_rfl))) (ja_cons (je_var 1 rfl (.inl (by first | rfl | kernel_rfl))) (ja_cons (je_var 2 rfl (.inl (by first | rfl | kernel_rfl))) ja_nil)))))
      (jss_one (js_ret (je_call (f_count_leading_by GG) (Nat.le_of_ble_eq_true rfl) (by first | rfl | kernel_rfl) (ja_cons (je_var 0 rfl (.inl (by first | rfl | kernel_rfl))) (ja_cons (je_var 1 rfl (.inl (by first | rfl | kernel_rfl))) (ja_cons (je_var 2 rfl (.inl (by first | rfl | kernel_rfl))) ja_nil)))))))
theorem f_count_leading {g : Gb} (GG : GF g) : Fn g (top 51) "count_leading" "count_leading" ["ups", "downs", "weight"] 11 D_count_leading := by
  obtain ⟨f, fd, hx, D0⟩ := GG.d_count_leading
  exact fn_mk outD outD_hout hx D0 sc_count_leading (fun kV doc pm an cdv ct us hl => match us, hl with | [_, _, _], _ => rfl) (fun b hr => b_count_leading GG b hr)
/-- count_standing_by -/
theorem sc_count_standing_by : FnScope ["ups", "downs", "weight"] ["ups", "downs", "weight"] (defScope (top 42)) := ⟨rfl, rfl, rfl, by decide +kernel, rfl, by decide +kernel, by decide +kernel⟩
def m_count_standing_by : SM :=
  (sret (xop divD (xop mulD (xop subD (xop addD (xvar 0) (xpure (.int 1))) (xop mulD (xvar 2) (xvar 1))) (xfn 2 (D_binomial) (xcons (xop addD (xvar 0) (xvar 1)) (xcons (xvar 1) (xpure []))))) (xop addD (xvar 0) (xpure (.int 1)))))
abbrev D_count_standing_by : DF := runF 3 m_count_standing_by
theorem b_count_standing_by {g : Gb} (GG : GF g) (b : Bd) (hr : Room 2 (b.A.deeper (PyProof.Rows.envOfC b.qual (defScope (top 42)) b.s.heap.objs.size b.f b.cdv))) :
    JSs (famB g 2 ["ups", "downs", "weight"] sc_count_standing_by.nd (defScope (top 42)) b hr) (defBody (top 42)) m_count_standing_by :=
  (jss_one (js_ret (je_op os_div (je_op os_mul (je_op os_sub (je_op os_add (je_var 0 rfl (.inl (by first | rfl | kernel_rfl))) je_int) (je_op os_mul (je_var 2 rfl (.inl (by first | rfl | kernel_rfl))) (je_var 1 rfl (.inl (by first | rfl | kernel_rfl))))) (je_call (f_binomial GG) (Nat.le_of_ble_eq_true rfl) (by first | rfl | kernel_rfl) (ja_cons (je_op os_add (je_var 0 rfl (.inl (by first | rfl | kernel_rfl))) (je_var 1 rfl (.inl (by first | rfl | kernel_rfl)))) (ja_cons (je_var 1 rfl (.inl (by first | rfl | kernel_rfl))) ja_nil)))) (je_op os_add (je_var 0 rfl (.inl (by first | rfl | kernel_rfl))) je_int))))
theorem f_count_standing_by {g : Gb} (GG : GF g) : Fn g (top 42) "count_standing_by" "count_standing_by" ["ups", "downs", "weight"] 3 D_count_standing_by := by
  obtain ⟨f, fd, hx, D0⟩ := GG.d_count_standing_by
  exact fn_mk outD outD_hout hx D0 sc_count_standing_by (fun kV doc pm an cdv ct us hl => match us, hl with | [_, _, _], _ => rfl) (fun b hr => b_count_standing_by GG b hr)
/-- count_standing -/
theorem sc_count_standing : FnScope ["ups", "downs", "weight"] ["ups", "downs", "weight"] (defScope (top 52)) := ⟨rfl, rfl, rfl, by decide +kernel, rfl, by decide +kernel, by decide +kernel⟩
def m_count_standing : SM :=
  (sseq (sdrop (xfn 3 (D_check_enough) (xcons (xvar 0) (xcons (xvar 1) (xcons (xvar 2) (xpure [])))))) (sret (xfn 3 (D_count_standing_by) (xcons (xvar 0) (xcons (xvar 1) (xcons (xvar 2) (xpure [])))))))
abbrev D_count_standing : DF := runF 3 m_count_standing
theorem b_count_standing {g : Gb} (GG : GF g) (b : Bd) (hr : Room 10 (b.A.deeper (PyProof.Rows.envOfC b.qual (defScope (top 52)) b.s.heap.objs.size b.f b.cdv))) :
    JSs (famB g 10 ["ups", "downs", "weight"] sc_count_standing.nd (defScope (top 52)) b hr) (defBody (top 52)) m_count_standing :=
  (jss_cons (js_expr (je_call (f_check_enough GG) (Nat.le_of_ble_eq_true rfl) (by first | rfl | kernel_rfl) (ja_cons (je_var 0 rfl (.inl (by first | rfl | kernel_rfl))) (ja_cons (je_var 1 rfl (.inl (by first | rfl | kernel_rfl))) (ja_cons (je_var 2 rfl (.inl (by first | rfl | kernel_rfl))) ja_nil)))))
      (jss_one (js_ret (je_call (f_count_standing_by GG) (Nat.le_of_ble_eq_true rfl) (by first | rfl | kernel_rfl) (ja_cons (je_var 0 rfl (.inl (by first | rfl | kernel_rfl))) (ja_cons (je_var 1 rfl (.inl (by first | rfl | kernel_rfl))) (ja_cons (je_var 2 rfl (.inl (by first | rfl | kernel_rfl))) ja_nil)))))))
theorem f_count_standing {g : Gb} (GG : GF g) : Fn g (top 52) "count_standing" "count_standing" ["ups", "downs", "weight"] 11 D_count_standing := by
  obtain ⟨f, fd, hx, D0⟩ := GG.d_count_standing
  exact fn_mk outD outD_hout hx D0 sc_count_standing (fun kV doc pm an cdv ct us hl => match us, hl with | [_, _, _], _ => rfl) (fun b hr => b_count_standing GG b hr)
/-- leads -/
theorem sc_leads : FnScope ["row"] ["row"] (defScope (top 56)) := ⟨rfl, rfl, rfl, by decide +kernel, rfl, by decide +kernel, by decide +kernel⟩
def m_leads : SM :=
  (sseq (sdrop (xfn 1 (D_check_row) (xcons (xvar 0) (xpure [])))) (sret (xfn 1 (D_leads_by) (xcons (xvar 0) (xpure [])))))
abbrev D_leads : DF := runF 1 m_leads
theorem b_leads {g : Gb} (GG : GF g) (b : Bd) (hr : Room 10 (b.A.deeper (PyProof.Rows.envOfC b.qual (defScope (top 56)) b.s.heap.objs.size b.f b.cdv))) :
    JSs (famB g 10 ["row"] sc_leads.nd (defScope (top 56)) b hr) (defBody (top 56)) m_leads :=
  (jss_cons (js_expr (je_call (f_check_row GG) (Nat.le_of_ble_eq_true rfl) (by first | rfl | kernel_rfl) (ja_cons (je_var 0 rfl (.inl (by first | rfl | kernel_rfl))) ja_nil)))
      (jss_one (js_ret (je_call (f_leads_by GG) (Nat.le_of_ble_eq_true rfl) (by first | rfl | kernel_rfl) (ja_cons (je_var 0 rfl (.inl (by first | rfl | kernel_rfl))) ja_nil)))))
theorem f_leads {g : Gb} (GG : GF g) : Fn g (top 56) "leads" "leads" ["row"] 11 D_leads := by
  obtain ⟨f, fd, hx, D0⟩ := GG.d_leads
  exact fn_mk outD outD_hout hx D0 sc_leads (fun kV doc pm an cdv ct us hl => match us, hl with | [_], _ => rfl) (fun b hr => b_leads GG b hr)
/-- stands -/
theorem sc_stands : FnScope ["row"] ["row"] (defScope (top 57)) := ⟨rfl, rfl, rfl, by decide +kernel, rfl, by decide +kernel, by decide +kernel⟩
def m_stands : SM :=
  (sseq (sdrop (xfn 1 (D_check_row) (xcons (xvar 0) (xpure [])))) (sret (xfn 1 (D_stands_by) (xcons (xvar 0) (xpure [])))))
abbrev D_stands : DF := runF 1 m_stands
theorem b_stands {g : Gb} (GG : GF g) (b : Bd) (hr : Room 10 (b.A.deeper (PyProof.Rows.envOfC b.qual (defScope (top 57)) b.s.heap.objs.size b.f b.cdv))) :
    JSs (famB g 10 ["row"] sc_stands.nd (defScope (top 57)) b hr) (defBody (top 57)) m_stands :=
  (jss_cons (js_expr (je_call (f_check_row GG) (Nat.le_of_ble_eq_true rfl) (by first | rfl | kernel_rfl) (ja_cons (je_var 0 rfl (.inl (by first | rfl | kernel_rfl))) ja_nil)))
      (jss_one (js_ret (je_call (f_stands_by GG) (Nat.le_of_ble_eq_true rfl) (by first | rfl | kernel_rfl) (ja_cons (je_var 0 rfl (.inl (by first | rfl | kernel_rfl))) ja_nil)))))
theorem f_stands {g : Gb} (GG : GF g) : Fn g (top 57) "stands" "stands" ["row"] 11 D_stands := by
  obtain ⟨f, fd, hx, D0⟩ := GG.d_stands
  exact fn_mk outD outD_hout hx D0 sc_stands (fun kV doc pm an cdv ct us hl => match us, hl with | [_], _ => rfl) (fun b hr => b_stands GG b hr)
/-- _law_are_votes_told -/
theorem sc_u_law_are_votes_told : FnScope ["pool", "ups", "downs", "weight", "rows", "every", "k", "due", "row", "lead", "stand"] ["pool", "ups", "downs", "weight"] (defScope (top 89)) := ⟨rfl, rfl, rfl, by decide +kernel, rfl, by decide +kernel, by decide +kernel⟩
def m_u_law_are_votes_told_s1 : SM :=
  (sset 4 (xfn 3 (D_all_ballots) (xcons (xvar 1) (xcons (xvar 2) (xcons (xvar 3) (xpure []))))))
def m_u_law_are_votes_told_s2 : SM :=
  (sset 5 (xlst (xcons (xtupZ (xpure [])) (xpure []))))
def m_u_law_are_votes_told_b1 : SM :=
  (sset 5 (xfn 2 (D_u_law_more) (xcons (xvar 5) (xcons (xvar 3) (xpure [])))))
def m_u_law_are_votes_told_s3 : SM :=
  (sfor (xrange1 (xop addD (xvar 1) (xvar 2))) (gname 6) m_u_law_are_votes_told_b1)
def m_u_law_are_votes_told_t1 : XM Bool :=
  (tand (xbool (xop eqD (xmZ countZD (xvar 8) (xpure (.int 1))) (xvar 1))) (xbool (xop eqD (xcall (f1 lenD) (xcons (xvar 8) (xpure []))) (xop addD (xvar 1) (xvar 2)))))
def m_u_law_are_votes_told_s4 : SM :=
  (sset 7 (xcall (f1 tupleD) (xcons (xcall (f1 sortedD) (xcons (xcomp (xwalk (xvar 5)) [8] (gname 8) m_u_law_are_votes_told_t1 (xweak (xvar 8))) (xpure []))) (xpure []))))
def m_u_law_are_votes_told_s5 : SM :=
  (sif (tnot (xtru (xfn 2 (D_u_law_same 6) (xcons (xvar 4) (xcons (xvar 7) (xpure [])))))) (sret (xpure (.bl false))) snext)
def m_u_law_are_votes_told_t2 : XM Bool :=
  (tor (xbool (xop eqD (xvar 8) (xtup (xpure [])))) (xtru (xfn 1 (D_u_law_leads) (xcons (xvar 8) (xpure [])))))
def m_u_law_are_votes_told_t3 : XM Bool :=
  (tor (xbool (xop eqD (xvar 8) (xtup (xpure [])))) (xtru (xfn 1 (D_u_law_stands) (xcons (xvar 8) (xpure [])))))
def m_u_law_are_votes_told_s6 : SM :=
  (spar2 9 10 (xcomp (xwalk (xvar 4)) [8] (gname 8) m_u_law_are_votes_told_t2 (xvar 8)) (xcomp (xwalk (xvar 4)) [8] (gname 8) m_u_law_are_votes_told_t3 (xvar 8)))
def m_u_law_are_votes_told_s7 : SM :=
  (sif (tnot (xtru (xfn 2 (D_u_law_same 6) (xcons (xlst (xcons (xfn 3 (D_count_leading) (xcons (xvar 1) (xcons (xvar 2) (xcons (xvar 3) (xpure []))))) (xcons (xfnK 0 [2, 1, 0] 3 (D_count_standing) (xpure []) (xcons (xvar 3) (xcons (xvar 2) (xcons (xvar 1) (xpure []))))) (xpure [])))) (xcons (xlst (xcons (xcall (f1 lenD) (xcons (xvar 9) (xpure []))) (xcons (xcall (f1 lenD) (xcons (xvar 10) (xpure []))) (xpure [])))) (xpure [])))))) (sret (xpure (.bl false))) snext)
def m_u_law_are_votes_told_t4 : XM Bool :=
  (tand (xbool (xop neD (xvar 8) (xtup (xpure [])))) (tor (xbool (xop isntBD (xfn 1 (D_leads) (xcons (xvar 8) (xpure []))) (xpure (.bl true)))) (xbool (xop isntBD (xfn 1 (D_stands) (xcons (xvar 8) (xpure []))) (xpure (.bl true))))))
def m_u_law_are_votes_told_s8 : SM :=
  (sret (xop eqD (xcomp (xwalk (xvar 9)) [8] (gname 8) m_u_law_are_votes_told_t4 (xvar 8)) (xlst (xpure []))))
def m_u_law_are_votes_told : SM :=
  (sseq m_u_law_are_votes_told_s1 (sseq m_u_law_are_votes_told_s2 (sseq m_u_law_are_votes_told_s3 (sseq m_u_law_are_votes_told_s4 (sseq m_u_law_are_votes_told_s5 (sseq m_u_law_are_votes_told_s6 (sseq m_u_law_are_votes_told_s7 m_u_law_are_votes_told_s8)))))))
abbrev D_u_law_are_votes_told : DF := runF 11 m_u_law_are_votes_told
theorem b_u_law_are_votes_told {g : Gb} (GG : GF g) (b : Bd) (hr : Room 12 (b.A.deeper (PyProof.Rows.envOfC b.qual (defScope (top 89)) b.s.heap.objs.size b.f b.cdv))) :
    JSs (famB g 12 ["pool", "ups", "downs", "weight", "rows", "every", "k", "due", "row", "lead", "stand"] sc_u_law_are_votes_told.nd (defScope (top 89)) b hr) (defBody (top 89)) m_u_law_are_votes_told :=
  (jss_cons (js_set 4 rfl (.inl (by first | rfl | kernel_rfl)) (je_call (f_all_ballots GG) (Nat.le_of_ble_eq_true rfl) (by first | rfl | kernel_rfl) (ja_cons (je_var 1 rfl (.inr (.inl (by first | rfl | kernel_rfl)))) (ja_cons (je_var 2 rfl (.inr (.inl (by first | rfl | kernel_rfl)))) (ja_cons (je_var 3 rfl (.inl (by first | rfl | kernel_rfl))) ja_nil)))))
      (jss_cons (js_set 5 rfl (.inl (by first | rfl | kernel_rfl)) (je_lst (ja_cons (je_tupZ ja_nil) ja_nil)))
      (jss_cons (js_for (ji_range1 (by first | rfl | kernel_rfl) GG.b_range (je_op os_add (je_var 1 rfl (.inr (.inl (by first | rfl | kernel_rfl)))) (je_var 2 rfl (.inr (.inl (by first | rfl | kernel_rfl)))))) (jg_name 6 rfl (.inl (by first | rfl | kernel_rfl))) (jss_one (js_set 5 rfl (.inl (by first | rfl | kernel_rfl)) (je_call (f_u_law_more GG) (Nat.le_of_ble_eq_true rfl) (by first | rfl | kernel_rfl) (ja_cons (je_var 5 rfl (.inl (by first | rfl | kernel_rfl))) (ja_cons (je_var 3 rfl (.inl (by first | rfl | kernel_rfl))) ja_nil))))))
      (jss_cons (js_set 7 rfl (.inl (by first | rfl | kernel_rfl)) (je_callTy cs_tuple (by first | rfl | kernel_rfl) GG.b_tuple bt_tuple (ja_cons (je_callB cs_sorted (by first | rfl | kernel_rfl) GG.b_sorted bt_sorted (ja_cons (je_lc [("row", 8)] (ji_seq (je_var 5 rfl (.inl (by first | rfl | kernel_rfl)))) (by first | rfl | kernel_rfl) (jc_name 8 rfl (.inl (by first | rfl | kernel_rfl)) (by decide)) (jts_one (jw_and (jt_cmp os_eq (je_countZ (je_var 8 rfl (.inl (by first | rfl | kernel_rfl))) je_int) (je_var 1 rfl (.inr (.inl (by first | rfl | kernel_rfl)))) rfl) (jw_and1 (jt_cmp os_eq (je_callB cs_len (by first | rfl | kernel_rfl) GG.b_len bt_len (ja_cons (je_var 8 rfl (.inl (by first | rfl | kernel_rfl))) ja_nil)) (je_op os_add (je_var 1 rfl (.inr (.inl (by first | rfl | kernel_rfl)))) (je_var 2 rfl (.inr (.inl (by first | rfl | kernel_rfl))))) rfl))).jt) (je_weak (je_var 8 rfl (.inl (by first | rfl | kernel_rfl))))) ja_nil)) ja_nil)))
      (jss_cons (js_if (jt_not (jt_tru (je_call (f_u_law_same GG 6) (Nat.le_of_ble_eq_true rfl) (by first | rfl | kernel_rfl) (ja_cons (je_var 4 rfl (.inl (by first | rfl | kernel_rfl))) (ja_cons (je_var 7 rfl (.inl (by first | rfl | kernel_rfl))) ja_nil))))) (jss_one (js_ret je_bl)) jss_nil)
      (jss_cons (js_par2 9 10 rfl rfl (by decide) (by first | rfl | kernel_rfl) (by first | rfl | kernel_rfl) (je_lc [("row", 8)] (ji_seq (je_var 4 rfl (.inl (by first | rfl | kernel_rfl)))) (by first | rfl | kernel_rfl) (jc_name 8 rfl (.inl (by first | rfl | kernel_rfl)) (by decide)) (jts_one (jw_or (jt_cmp os_eq (je_var 8 rfl (.inl (by first | rfl | kernel_rfl))) (je_tup ja_nil) rfl) (jw_or1 (jt_tru (je_call (f_u_law_leads GG) (Nat.le_of_ble_eq_true rfl) (by first | rfl | kernel_rfl) (ja_cons (je_var 8 rfl (.inl (by first | rfl | kernel_rfl))) ja_nil))))).jt) (je_var 8 rfl (.inl (by first | rfl | kernel_rfl)))) (je_lc [("row", 8)] (ji_seq (je_var 4 rfl (.inl (by first | rfl | kernel_rfl)))) (by first | rfl | kernel_rfl) (jc_name 8 rfl (.inl (by first | rfl | kernel_rfl)) (by decide)) (jts_one (jw_or (jt_cmp os_eq (je_var 8 rfl (.inl (by first | rfl | kernel_rfl))) (je_tup ja_nil) rfl) (jw_or1 (jt_tru (je_call (f_u_law_stands GG) (Nat.le_of_ble_eq_true rfl) (by first | rfl | kernel_rfl) (ja_cons (je_var 8 rfl (.inl (by first | rfl | kernel_rfl))) ja_nil))))).jt) (je_var 8 rfl (.inl (by first | rfl | kernel_rfl)))) (fun W X m => by obtain ⟨rfl, rfl⟩ := m; first | rfl | kernel_rfl))
      (jss_cons (js_if (jt_not (jt_tru (je_call (f_u_law_same GG 6) (Nat.le_of_ble_eq_true rfl) (by first | rfl | kernel_rfl) (ja_cons (je_lst (ja_cons (je_call (f_count_leading GG) (Nat.le_of_ble_eq_true rfl) (by first | rfl | kernel_rfl) (ja_cons (je_var 1 rfl (.inr (.inl (by first | rfl | kernel_rfl)))) (ja_cons (je_var 2 rfl (.inr (.inl (by first | rfl | kernel_rfl)))) (ja_cons (je_var 3 rfl (.inl (by first | rfl | kernel_rfl))) ja_nil)))) (ja_cons (je_callK0 (ks := ["weight", "downs", "ups"]) (ix := [2, 1, 0]) (f_count_standing GG) (Nat.le_of_ble_eq_true rfl) (by first | rfl | kernel_rfl) (fun kV doc pm an cdv ct us ws hu hw => match us, hu, ws, hw with | [], _, [_, _, _], _ => rfl) rfl (jk_cons (je_var 3 rfl (.inl (by first | rfl | kernel_rfl))) (jk_cons (je_var 2 rfl (.inr (.inl (by first | rfl | kernel_rfl)))) (jk_cons (je_var 1 rfl (.inr (.inl (by first | rfl | kernel_rfl)))) jk_nil)))) ja_nil))) (ja_cons (je_lst (ja_cons (je_callB cs_len (by first | rfl | kernel_rfl) GG.b_len bt_len (ja_cons (je_var 9 rfl (.inl (by first | rfl | kernel_rfl))) ja_nil)) (ja_cons (je_callB cs_len (by first | rfl | kernel_rfl) GG.b_len bt_len (ja_cons (je_var 10 rfl (.inl (by first | rfl | kernel_rfl))) ja_nil)) ja_nil))) ja_nil))))) (jss_one (js_ret je_bl)) jss_nil)
      (jss_one (js_ret (je_cmp os_eq (je_lc [("row", 8)] (ji_seq (je_var 9 rfl (.inl (by first | rfl | kernel_rfl)))) (by first | rfl | kernel_rfl) (jc_name 8 rfl (.inl (by first | rfl | kernel_rfl)) (by decide)) (jts_one (jw_and (jt_cmp os_ne (je_var 8 rfl (.inl (by first | rfl | kernel_rfl))) (je_tup ja_nil) rfl) (jw_and1 (jw_or (jt_cmp os_isntB (je_call (f_leads GG) (Nat.le_of_ble_eq_true rfl) (by first | rfl | kernel_rfl) (ja_cons (je_var 8 rfl (.inl (by first | rfl | kernel_rfl))) ja_nil)) je_bl rfl) (jw_or1 (jt_cmp os_isntB (je_call (f_stands GG) (Nat.le_of_ble_eq_true rfl) (by first | rfl | kernel_rfl) (ja_cons (je_var 8 rfl (.inl (by first | rfl | kernel_rfl))) ja_nil)) je_bl rfl))).jt)).jt) (je_var 8 rfl (.inl (by first | rfl | kernel_rfl)))) (je_lst ja_nil) rfl))))))))))
theorem f_u_law_are_votes_told {g : Gb} (GG : GF g) : Fn g (top 89) "_law_are_votes_told" "_law_are_votes_told" ["pool", "ups", "downs", "weight"] 13 D_u_law_are_votes_told := by
  obtain ⟨f, fd, hx, D0⟩ := GG.d_u_law_are_votes_told
  exact fn_mk outD outD_hout hx D0 sc_u_law_are_votes_told (fun kV doc pm an cdv ct us hl => match us, hl with | [_, _, _, _], _ => rfl) (fun b hr => b_u_law_are_votes_told GG b hr)
/-- _law_right -/
theorem sc_u_law_right : FnScope ["pool", "lap", "row", "each", "number", "k", "tree", "weight", "downs", "ups", "duel"] ["pool"] (defScope (top 91)) := ⟨rfl, rfl, rfl, by decide +kernel, rfl, by decide +kernel, by decide +kernel⟩
def m_u_law_right_e1 : XM D :=
  (xcall (f2 min2D) (xcons (xpure (.int 1)) (xcons (xvar 4) (xpure []))))
def m_u_law_right_e2 : XM D :=
  (xfn 2 (D_u_law_pick) (xcons (xvar 0) (xcons (xlst (xcons (xpure (.int 1)) (xcons (xneg (xpure (.int 1))) (xcons (xpure (.int 0)) (xpure []))))) (xpure []))))
def m_u_law_right_b1 : SM :=
  (sif (tnot (xtru (xfn 2 (D_u_law_are_turnings_told) (xcons (xvar 0) (xcons (xvar 3) (xpure [])))))) (sret (xpure (.bl false))) snext)
def m_u_law_right_b2 : SM :=
  (sseq (sset 2 (xfn 2 (D_u_law_row) (xcons (xvar 0) (xcons (xpure (.int 8)) (xpure []))))) (sseq (sfor (xwalk (xlst (xcons (xvar 2) (xcons (xcall (f1 tupleD) (xcons (xcomp (xwalk (xvar 2)) [4] (gname 4) (xpure true) m_u_law_right_e1) (xpure []))) (xcons (xop addD (xtup (xcons (xpure (.int 1)) (xcons (xpure (.int 1)) (xpure [])))) (xcall (f1 tupleD) (xcons (xcomp (xrange1 (xpure (.int 5))) [5] (gname 5) (xpure true) m_u_law_right_e2) (xpure [])))) (xpure [])))))) (gname 3) m_u_law_right_b1) (sseq (sset 6 (xfn 1 (D_u_law_tree_row) (xcons (xfn 2 (D_u_law_tree) (xcons (xvar 0) (xcons (xop addD (xpure (.int 1)) (xfn 2 (D_u_law_draw) (xcons (xvar 0) (xcons (xpure (.int 8)) (xpure []))))) (xpure [])))) (xpure [])))) (sif (tnot (xtru (xfn 2 (D_u_law_is_tree_told) (xcons (xvar 0) (xcons (xfn 2 (D_u_law_turned) (xcons (xvar 6) (xcons (xfn 2 (D_u_law_draw) (xcons (xvar 0) (xcons (xcall (f1 lenD) (xcons (xvar 6) (xpure []))) (xpure [])))) (xpure [])))) (xpure [])))))) (sret (xpure (.bl false))) snext))))
def m_u_law_right_b3 : SM :=
  (sseq (sset 7 (xop addD (xpure (.int 1)) (xfn 2 (D_u_law_draw) (xcons (xvar 0) (xcons (xpure (.int 3)) (xpure [])))))) (sseq (sset 8 (xfn 2 (D_u_law_draw) (xcons (xvar 0) (xcons (xpure (.int 3)) (xpure []))))) (sseq (sset 9 (xop addD (xop mulD (xvar 7) (xvar 8)) (xfn 2 (D_u_law_draw) (xcons (xvar 0) (xcons (xcall (f2 max2D) (xcons (xpure (.int 1)) (xcons (xop subD (xop subD (xpure (.int 7)) (xop mulD (xvar 7) (xvar 8))) (xvar 8)) (xpure [])))) (xpure [])))))) (sif (tand (xbool (xop ltD (xop addD (xvar 9) (xvar 8)) (xpure (.int 8)))) (tnot (xtru (xfn 4 (D_u_law_are_votes_told) (xcons (xvar 0) (xcons (xvar 9) (xcons (xvar 8) (xcons (xvar 7) (xpure []))))))))) (sret (xpure (.bl false))) snext))))
def m_u_law_right : SM :=
  (sseq (sfor (xrange1 (xpure (.int 6))) (gname 1) m_u_law_right_b2) (sseq (sfor (xrange1 (xpure (.int 4))) (gname 1) m_u_law_right_b3) (sseq (sset 10 (xtup (xcons (xpure (.int 1)) (xcons (xpure (.int 1)) (xcons (xneg (xpure (.int 1))) (xpure [])))))) (sret (xfn 2 (D_u_law_same 6) (xcons (xlst (xcons (xfn 1 (D_leading_turnings) (xcons (xvar 10) (xpure []))) (xcons (xfn 1 (D_standing_turnings) (xcons (xvar 10) (xpure []))) (xcons (xfn 3 (D_count_leading) (xcons (xpure (.int 3)) (xcons (xpure (.int 1)) (xcons (xpure (.int 1)) (xpure []))))) (xcons (xfn 3 (D_count_standing) (xcons (xpure (.int 2)) (xcons (xpure (.int 1)) (xcons (xpure (.int 2)) (xpure []))))) (xcons (xfn 3 (D_count_leading) (xcons (xpure (.int 0)) (xcons (xpure (.int 0)) (xcons (xpure (.int 1)) (xpure []))))) (xcons (xfn 1 (D_tree_turning) (xcons (xtup (xcons (xneg (xpure (.int 1))) (xcons (xpure (.int 1)) (xcons (xneg (xpure (.int 1))) (xpure []))))) (xpure []))) (xpure [])))))))) (xcons (xlst (xcons (xtup (xcons (xpure (.int 0)) (xpure []))) (xcons (xtup (xcons (xpure (.int 0)) (xcons (xpure (.int 1)) (xpure [])))) (xcons (xpure (.int 2)) (xcons (xpure (.int 1)) (xcons (xpure (.int 1)) (xcons (xpure (.int 1)) (xpure [])))))))) (xpure []))))))))
abbrev D_u_law_right : DF := runF 11 m_u_law_right
theorem b_u_law_right {g : Gb} (GG : GF g) (b : Bd) (hr : Room 14 (b.A.deeper (PyProof.Rows.envOfC b.qual (defScope (top 91)) b.s.heap.objs.size b.f b.cdv))) :
    JSs (famB g 14 ["pool", "lap", "row", "each", "number", "k", "tree", "weight", "downs", "ups", "duel"] sc_u_law_right.nd (defScope (top 91)) b hr) (defBody (top 91)) m_u_law_right :=
  (jss_cons (js_for (ji_range1 (by first | rfl | kernel_rfl) GG.b_range je_int) (jg_name 1 rfl (.inl (by first | rfl | kernel_rfl))) (jss_cons (js_set 2 rfl (.inl (by first | rfl | kernel_rfl)) (je_call (f_u_law_row GG) (Nat.le_of_ble_eq_true rfl) (by first | rfl | kernel_rfl) (ja_cons (je_var 0 rfl (.inr (.inl (by first | rfl | kernel_rfl)))) (ja_cons je_int ja_nil))))
      (jss_cons (js_for (ji_seq (je_lst (ja_cons (je_var 2 rfl (.inl (by first | rfl | kernel_rfl))) (ja_cons (je_callTy cs_tuple (by first | rfl | kernel_rfl) GG.b_tuple bt_tuple (ja_cons (je_lc [("number", 4)] (ji_seq (je_var 2 rfl (.inl (by first | rfl | kernel_rfl)))) (by first | rfl | kernel_rfl) (jc_name 4 rfl (.inl (by first | rfl | kernel_rfl)) (by decide)) jts_nil (je_callB cs_min2 (by first | rfl | kernel_rfl) GG.b_min bt_min (ja_cons je_int (ja_cons (je_var 4 rfl (.inl (by first | rfl | kernel_rfl))) ja_nil)))) ja_nil)) (ja_cons (je_op os_add (je_tup (ja_cons je_int (ja_cons je_int ja_nil))) (je_callTy cs_tuple (by first | rfl | kernel_rfl) GG.b_tuple bt_tuple (ja_cons (je_lc [("k", 5)] (ji_range1 (by first | rfl | kernel_rfl) GG.b_range je_int) (by first | rfl | kernel_rfl) (jc_name 5 rfl (.inl (by first | rfl | kernel_rfl)) (by decide)) jts_nil (je_call (f_u_law_pick GG) (Nat.le_of_ble_eq_true rfl) (by first | rfl | kernel_rfl) (ja_cons (je_var 0 rfl (.inr (.inl (by first | rfl | kernel_rfl)))) (ja_cons (je_lst (ja_cons je_int (ja_cons (je_neg je_int) (ja_cons je_int ja_nil)))) ja_nil)))) ja_nil))) ja_nil))))) (jg_name 3 rfl (.inl (by first | rfl | kernel_rfl))) (jss_one (js_if (jt_not (jt_tru (je_call (f_u_law_are_turnings_told GG) (Nat.le_of_ble_eq_true rfl) (by first | rfl | kernel_rfl) (ja_cons (je_var 0 rfl (.inr (.inl (by first | rfl | kernel_rfl)))) (ja_cons (je_var 3 rfl (.inl (by first | rfl | kernel_rfl))) ja_nil))))) (jss_one (js_ret je_bl)) jss_nil)))
      (jss_cons (js_set 6 rfl (.inl (by first | rfl | kernel_rfl)) (je_call (f_u_law_tree_row GG) (Nat.le_of_ble_eq_true rfl) (by first | rfl | kernel_rfl) (ja_cons (je_call (f_u_law_tree GG) (Nat.le_of_ble_eq_true rfl) (by first | rfl | kernel_rfl) (ja_cons (je_var 0 rfl (.inr (.inl (by first | rfl | kernel_rfl)))) (ja_cons (je_op os_add je_int (je_call (f_u_law_draw GG) (Nat.le_of_ble_eq_true rfl) (by first | rfl | kernel_rfl) (ja_cons (je_var 0 rfl (.inr (.inl (by first | rfl | kernel_rfl)))) (ja_cons je_int ja_nil)))) ja_nil))) ja_nil)))
      (jss_one (js_if (jt_not (jt_tru (je_call (f_u_law_is_tree_told GG) (Nat.le_of_ble_eq_true rfl) (by first | rfl | kernel_rfl) (ja_cons (je_var 0 rfl (.inr (.inl (by first | rfl | kernel_rfl)))) (ja_cons (je_call (f_u_law_turned GG) (Nat.le_of_ble_eq_true rfl) (by first | rfl | kernel_rfl) (ja_cons (je_var 6 rfl (.inl (by first | rfl | kernel_rfl))) (ja_cons (je_call (f_u_law_draw GG) (Nat.le_of_ble_eq_true rfl) (by first | rfl | kernel_rfl) (ja_cons (je_var 0 rfl (.inr (.inl (by first | rfl | kernel_rfl)))) (ja_cons (je_callB cs_len (by first | rfl | kernel_rfl) GG.b_len bt_len (ja_cons (je_var 6 rfl (.inl (by first | rfl | kernel_rfl))) ja_nil)) ja_nil))) ja_nil))) ja_nil))))) (jss_one (js_ret je_bl)) jss_nil))))))
      (jss_cons (js_for (ji_range1 (by first | rfl | kernel_rfl) GG.b_range je_int) (jg_name 1 rfl (.inl (by first | rfl | kernel_rfl))) (jss_cons (js_set 7 rfl (.inl (by first | rfl | kernel_rfl)) (je_op os_add je_int (je_call (f_u_law_draw GG) (Nat.le_of_ble_eq_true rfl) (by first | rfl | kernel_rfl) (ja_cons (je_var 0 rfl (.inr (.inl (by first | rfl | kernel_rfl)))) (ja_cons je_int ja_nil)))))
      (jss_cons (js_set 8 rfl (.inl (by first | rfl | kernel_rfl)) (je_call (f_u_law_draw GG) (Nat.le_of_ble_eq_true rfl) (by first | rfl | kernel_rfl) (ja_cons (je_var 0 rfl (.inr (.inl (by first | rfl | kernel_rfl)))) (ja_cons je_int ja_nil))))
      (jss_cons (js_set 9 rfl (.inl (by first | rfl | kernel_rfl)) (je_op os_add (je_op os_mul (je_var 7 rfl (.inl (by first | rfl | kernel_rfl))) (je_var 8 rfl (.inl (by first | rfl | kernel_rfl)))) (je_call (f_u_law_draw GG) (Nat.le_of_ble_eq_true rfl) (by first | rfl | kernel_rfl) (ja_cons (je_var 0 rfl (.inr (.inl (by first | rfl | kernel_rfl)))) (ja_cons (je_callB cs_max2 (by first | rfl | kernel_rfl) GG.b_max bt_max (ja_cons je_int (ja_cons (je_op os_sub (je_op os_sub je_int (je_op os_mul (je_var 7 rfl (.inl (by first | rfl | kernel_rfl))) (je_var 8 rfl (.inl (by first | rfl | kernel_rfl))))) (je_var 8 rfl (.inl (by first | rfl | kernel_rfl)))) ja_nil))) ja_nil)))))
      (jss_one (js_if (jw_and (jt_cmp os_lt (je_op os_add (je_var 9 rfl (.inl (by first | rfl | kernel_rfl))) (je_var 8 rfl (.inl (by first | rfl | kernel_rfl)))) je_int rfl) (jw_and1 (jt_not (jt_tru (je_call (f_u_law_are_votes_told GG) (Nat.le_of_ble_eq_true rfl) (by first | rfl | kernel_rfl) (ja_cons (je_var 0 rfl (.inr (.inl (by first | rfl | kernel_rfl)))) (ja_cons (je_var 9 rfl (.inl (by first | rfl | kernel_rfl))) (ja_cons (je_var 8 rfl (.inl (by first | rfl | kernel_rfl))) (ja_cons (je_var 7 rfl (.inl (by first | rfl | kernel_rfl))) ja_nil))))))))).jt (jss_one (js_ret je_bl)) jss_nil))))))
      (jss_cons (js_set 10 rfl (.inl (by first | rfl | kernel_rfl)) (je_tup (ja_cons je_int (ja_cons je_int (ja_cons (je_neg je_int) ja_nil)))))
      (jss_one (js_ret (je_call (f_u_law_same GG 6) (Nat.le_of_ble_eq_true rfl) (by first | rfl | kernel_rfl) (ja_cons (je_lst (ja_cons (je_call (f_leading_turnings GG) (Nat.le_of_ble_eq_true rfl) (by first | rfl | kernel_rfl) (ja_cons (je_var 10 rfl (.inl (by first | rfl | kernel_rfl))) ja_nil)) (ja_cons (je_call (f_standing_turnings GG) (Nat.le_of_ble_eq_true rfl) (by first | rfl | kernel_rfl) (ja_cons (je_var 10 rfl (.inl (by first | rfl | kernel_rfl))) ja_nil)) (ja_cons (je_call (f_count_leading GG) (Nat.le_of_ble_eq_true rfl) (by first | rfl | kernel_rfl) (ja_cons je_int (ja_cons je_int (ja_cons je_int ja_nil)))) (ja_cons (je_call (f_count_standing GG) (Nat.le_of_ble_eq_true rfl) (by first | rfl | kernel_rfl) (ja_cons je_int (ja_cons je_int (ja_cons je_int ja_nil)))) (ja_cons (je_call (f_count_leading GG) (Nat.le_of_ble_eq_true rfl) (by first | rfl | kernel_rfl) (ja_cons je_int (ja_cons je_int (ja_cons je_int ja_nil)))) (ja_cons (je_call (f_tree_turning GG) (Nat.le_of_ble_eq_true rfl) (by first | rfl | kernel_rfl) (ja_cons (je_tup (ja_cons (je_neg je_int) (ja_cons je_int (ja_cons (je_neg je_int) ja_nil)))) ja_nil)) ja_nil))))))) (ja_cons (je_lst (ja_cons (je_tup (ja_cons je_int ja_nil)) (ja_cons (je_tup (ja_cons je_int (ja_cons je_int ja_nil))) (ja_cons je_int (ja_cons je_int (ja_cons je_int (ja_cons je_int ja_nil))))))) ja_nil))))))))
theorem f_u_law_right {g : Gb} (GG : GF g) : Fn g (top 91) "_law_right" "_law_right" ["pool"] 15 D_u_law_right := by
  obtain ⟨f, fd, hx, D0⟩ := GG.d_u_law_right
  exact fn_mk outD outD_hout hx D0 sc_u_law_right (fun kV doc pm an cdv ct us hl => match us, hl with | [_], _ => rfl) (fun b hr => b_u_law_right GG b hr)
/-- _law_pool -/
theorem sc_u_law_pool : FnScope ["script", "lap", "own", "stirred", "cell"] ["script", "lap"] (defScope (top 75)) := ⟨rfl, rfl, rfl, by decide +kernel, rfl, by decide +kernel, by decide +kernel⟩
def m_u_law_pool_b1 : SM :=
  (sset 3 (xop modD (xcall (f1 intD) (xcons (xop addD (xop addD (xop mulD (xvar 3) (xpure (.int 48271))) (xop modD (xcall (f1 intD) (xcons (xvar 4) (xpure []))) (xpure (.int 2147483171)))) (xpure (.int 10461))) (xpure []))) (xpure (.int 2147483171))))
def m_u_law_pool : SM :=
  (sseq (spar2 2 3 (xif (xbool (xop ltD (xvar 1) (xcall (f1 lenD) (xcons (xvar 0) (xpure []))))) (xcall (f1 intD) (xcons (xop ixD (xvar 0) (xvar 1)) (xpure []))) (xop addD (xop mulD (xpure (.int 70001)) (xvar 1)) (xpure (.int 29897)))) (xop addD (xpure (.int 2948573)) (xop mulD (xpure (.int 5087)) (xvar 1)))) (sseq (sfor (xwalk (xslice (xvar 0) (xpure none) (xpart (xpure (.int 63))))) (gname 4) m_u_law_pool_b1) (sret (xlstM (xcons (xop modD (xcall (f1 intD) (xcons (xop addD (xvar 3) (xop mulD (xvar 2) (xpure (.int 1013)))) (xpure []))) (xpure (.int 2147483171))) (xcons (xif (tor (xbool (xop ltD (xvar 2) (xpure (.int 0)))) (xbool (xop geD (xvar 2) (xop powD (xpure (.int 10)) (xpure (.int 18)))))) (xcall (f1 absD) (xcons (xvar 2) (xpure []))) (xpure (.int 0))) (xcons (xpure (.int 0)) (xpure []))))))))
abbrev D_u_law_pool : DF := runM 5 m_u_law_pool
theorem b_u_law_pool {g : Gb} (GG : GF g) (b : Bd) (hr : Room 0 (b.A.deeper (PyProof.Rows.envOfC b.qual (defScope (top 75)) b.s.heap.objs.size b.f b.cdv))) :
    JSs (famB g 0 ["script", "lap", "own", "stirred", "cell"] sc_u_law_pool.nd (defScope (top 75)) b hr) (defBody (top 75)) m_u_law_pool :=
  (jss_cons (js_par2 2 3 rfl rfl (by decide) (by first | rfl | kernel_rfl) (by first | rfl | kernel_rfl) (je_if (jt_cmp os_lt (je_var 1 rfl (.inl (by first | rfl | kernel_rfl))) (je_callB cs_len (by first | rfl | kernel_rfl) GG.b_len bt_len (ja_cons (je_var 0 rfl (.inl (by first | rfl | kernel_rfl))) ja_nil)) rfl) (je_callTy cs_int (by first | rfl | kernel_rfl) GG.b_int bt_int (ja_cons (je_ix (je_var 0 rfl (.inl (by first | rfl | kernel_rfl))) (je_var 1 rfl (.inl (by first | rfl | kernel_rfl)))) ja_nil)) (je_op os_add (je_op os_mul je_int (je_var 1 rfl (.inl (by first | rfl | kernel_rfl)))) je_int)) (je_op os_add je_int (je_op os_mul je_int (je_var 1 rfl (.inl (by first | rfl | kernel_rfl))))) (fun W X m => by obtain ⟨rfl, rfl⟩ := m; first | rfl | kernel_rfl))
      (jss_cons (js_for (ji_seq (je_slice (je_var 0 rfl (.inl (by first | rfl | kernel_rfl))) jo_none (jo_some je_int))) (jg_name 4 rfl (.inl (by first | rfl | kernel_rfl))) (jss_one (js_set 3 rfl (.inl (by first | rfl | kernel_rfl)) (je_op os_mod (je_callTy cs_int (by first | rfl | kernel_rfl) GG.b_int bt_int (ja_cons (je_op os_add (je_op os_add (je_op os_mul (je_var 3 rfl (.inl (by first | rfl | kernel_rfl))) je_int) (je_op os_mod (je_callTy cs_int (by first | rfl | kernel_rfl) GG.b_int bt_int (ja_cons (je_var 4 rfl (.inl (by first | rfl | kernel_rfl))) ja_nil)) je_int)) je_int) ja_nil)) je_int))))
      (jss_one (js_ret (je_lstM (ja_cons (je_op os_mod (je_callTy cs_int (by first | rfl | kernel_rfl) GG.b_int bt_int (ja_cons (je_op os_add (je_var 3 rfl (.inl (by first | rfl | kernel_rfl))) (je_op os_mul (je_var 2 rfl (.inl (by first | rfl | kernel_rfl))) je_int)) ja_nil)) je_int) (ja_cons (je_if (jw_or (jt_cmp os_lt (je_var 2 rfl (.inl (by first | rfl | kernel_rfl))) je_int rfl) (jw_or1 (jt_cmp os_ge (je_var 2 rfl (.inl (by first | rfl | kernel_rfl))) (je_op os_pow je_int je_int) rfl))).jt (je_callB cs_abs (by first | rfl | kernel_rfl) GG.b_abs bt_abs (ja_cons (je_var 2 rfl (.inl (by first | rfl | kernel_rfl))) ja_nil)) je_int) (ja_cons je_int ja_nil))))))))
theorem f_u_law_pool {g : Gb} (GG : GF g) : Fn g (top 75) "_law_pool" "_law_pool" ["script", "lap"] 1 D_u_law_pool := by
  obtain ⟨f, fd, hx, D0⟩ := GG.d_u_law_pool
  exact fn_mk outM outM_hout hx D0 sc_u_law_pool (fun kV doc pm an cdv ct us hl => match us, hl with | [_, _], _ => rfl) (fun b hr => b_u_law_pool GG b hr)
/-- law -/
theorem sc_law : FnScope ["script", "lap"] ["script"] (defScope (top 92)) := ⟨rfl, rfl, rfl, by decide +kernel, rfl, by decide +kernel, by decide +kernel⟩
def m_law_b1 : SM :=
  (sif (tnot (xtru (xfn 1 (D_u_law_right) (xcons (xfn 2 (D_u_law_pool) (xcons (xvar 0) (xcons (xvar 1) (xpure [])))) (xpure []))))) (sret (xpure (.bl false))) snext)
def m_law : SM :=
  (sseq (sfor (xrange1 (xcall (f2 max2D) (xcons (xpure (.int 2)) (xcons (xcall (f2 min2D) (xcons (xcall (f1 lenD) (xcons (xvar 0) (xpure []))) (xcons (xpure (.int 3)) (xpure [])))) (xpure []))))) (gname 1) m_law_b1) (sret (xpure (.bl true))))
abbrev D_law : DF := runF 2 m_law
theorem b_law {g : Gb} (GG : GF g) (b : Bd) (hr : Room 16 (b.A.deeper (PyProof.Rows.envOfC b.qual (defScope (top 92)) b.s.heap.objs.size b.f b.cdv))) :
    JSs (famB g 16 ["script", "lap"] sc_law.nd (defScope (top 92)) b hr) (defBody (top 92)) m_law :=
  (jss_cons (js_for (ji_range1 (by first | rfl | kernel_rfl) GG.b_range (je_callB cs_max2 (by first | rfl | kernel_rfl) GG.b_max bt_max (ja_cons je_int (ja_cons (je_callB cs_min2 (by first | rfl | kernel_rfl) GG.b_min bt_min (ja_cons (je_callB cs_len (by first | rfl | kernel_rfl) GG.b_len bt_len (ja_cons (je_var 0 rfl (.inl (by first | rfl | kernel_rfl))) ja_nil)) (ja_cons je_int ja_nil))) ja_nil)))) (jg_name 1 rfl (.inl (by first | rfl | kernel_rfl))) (jss_one (js_if (jt_not (jt_tru (je_call (f_u_law_right GG) (Nat.le_of_ble_eq_true rfl) (by first | rfl | kernel_rfl) (ja_cons (je_call (f_u_law_pool GG) (Nat.le_of_ble_eq_true rfl) (by first | rfl | kernel_rfl) (ja_cons (je_var 0 rfl (.inl (by first | rfl | kernel_rfl))) (ja_cons (je_var 1 rfl (.inl (by first | rfl | kernel_rfl))) ja_nil))) ja_nil)))) (jss_one (js_ret je_bl)) jss_nil)))
      (jss_one (js_ret je_bl)))
theorem f_law {g : Gb} (GG : GF g) : Fn g (top 92) "law" "law" ["script"] 17 D_law := by
  obtain ⟨f, fd, hx, D0⟩ := GG.d_law
  exact fn_mk outD outD_hout hx D0 sc_law (fun kV doc pm an cdv ct us hl => match us, hl with | [_], _ => rfl) (fun b hr => b_law GG b hr)
theorem ok_law {g : Gb} (GG : GF g) {f : Addr} {fd : FuncData} (D0 : FunD g.K "law" "law" (defArgs (top 92)) (defBody (top 92)) (defScope (top 92)) [] [] f fd) : FnOk g.P g.w g.K g.mg g.base (L2.CX g.P g.w) 17 f fd ["script"] (spS g 1 D_law) :=
  fn_ok outD outD_hout D0 sc_law (fun b hr => b_law GG b hr)
end LS
end
section
set_option maxRecDepth 100000
set_option maxHeartbeats 4000000
namespace LS
open PySem PySem.Spec L2
variable {e : Nv} {st : Store}
/-! ## the well -/
theorem lp_pool (items : List D) (x0 x1 x2 : Option D) : ∀ (ns : List Int) (s : Int) (x4 : Option D), 0 ≤ s → ∃ (y : Option D) (s' : Int), 0 ≤ s' ∧ sloop none items (gname 4) m_u_law_pool_b1 (iD ns) [x0, x1, x2, some (.int s), x4] [] = .nx [x0, x1, x2, some (.int s'), y] []
  | [], s, x3, h => ⟨x3, s, h, by simp [sloop]⟩
  | n :: r, s, x3, h => by
    have hp : (0 : Int) ≤ (s * 48271 + n % 2147483171 + 10461) % 2147483171 := Int.emod_nonneg _ (by decide)
    obtain ⟨y, s', h', q⟩ := lp_pool items x0 x1 x2 r ((s * 48271 + n % 2147483171 + 10461) % 2147483171) (some (.int n)) hp
    refine ⟨y, s', h', ?_⟩
    have hb : m_u_law_pool_b1 [x0, x1, x2, some (.int s), some (.int n)] [] = .nx [x0, x1, x2, some (.int ((s * 48271 + n % 2147483171 + 10461) % 2147483171)), some (.int n)] [] := by
      simp [m_u_law_pool_b1, mulC]
    rw [iD_cons, sloop_cons rfl rfl hb, q]
theorem c_pool (ns : List Int) (lap : Int) (h0 : 0 ≤ lap) (hn : ns.length ≤ 63) : ∃ m, Wl m ∧ ∀ (e : Nv) (st : Store), callD D_u_law_pool [.sq (iD ns), .int lap] e st = .ok (.ref st.length) (st ++ [m]) := by
  have main : ∀ o : Int, ((lap < (ns.length : Int) ∧ ns[lap.toNat]? = some o) ∨ (¬ lap < (ns.length : Int) ∧ o = 70001 * lap + 29897)) → ∃ m, Wl m ∧ D_u_law_pool [] [.sq (iD ns), .int lap] = .ok (.ref 0) [m] := by
    intro o ho
    obtain ⟨y, s', hs', q⟩ := lp_pool ((iD ns).take 63) (some (.sq (iD ns))) (some (.int lap)) (some (.int o)) (ns.take 63) (2948573 + 5087 * lap) none (by omega)
    have el : iD (ns.take 63) = (iD ns).take 63 := by simp [iD, List.map_take]
    rw [el] at q
    have c8 : cutD (iD ns) none (some 63) = (iD ns).take 63 := cut_to _ 63
    have l3 : 3 ≤ LIM := by decide
    have pc : powC 10 18 = true := by decide
    have mc : mulC 5087 lap = true := by simp [mulC]
    have mc2 : mulC 70001 lap = true := by simp [mulC]
    have mc3 : mulC o 1013 = true := by simp [mulC]
    have en : ((10 : Int) ^ (Int.toNat 18)) = 1000000000000000000 := by decide
    have sb : stB 0 [] = true := rfl
    refine ⟨.lst [.int ((s' + o * 1013) % 2147483171), .int (if o < 0 ∨ 1000000000000000000 ≤ o then (o.natAbs : Int) else 0), .int 0], ⟨_, _, 0, Int.emod_nonneg _ (by decide), by split <;> omega, by decide, rfl⟩, ?_⟩
    rcases ho with ⟨h, ho⟩ | ⟨h, rfl⟩
    · by_cases h2 : o < 0
      · simp [runM, m_u_law_pool, h, atI_nn _ h0, ho, mc, mc3, c8, l3, q, h2, outF, outM, refsBs, refsB]
      · by_cases h3 : 1000000000000000000 ≤ o
        · simp [runM, m_u_law_pool, h, atI_nn _ h0, ho, mc, mc3, c8, l3, q, h2, h3, pc, en, outF, outM, refsBs, refsB]
        · simp [runM, m_u_law_pool, h, atI_nn _ h0, ho, mc, mc3, c8, l3, q, h2, h3, pc, en, outF, outM, refsBs, refsB]
    · have h2 : ¬ 70001 * lap + 29897 < 0 := by omega
      by_cases h3 : 1000000000000000000 ≤ 70001 * lap + 29897
      · simp [runM, m_u_law_pool, h, mc, mc2, mc3, c8, l3, q, pc, en, h2, h3, outF, outM, refsBs, refsB]
      · simp [runM, m_u_law_pool, h, mc, mc2, mc3, c8, l3, q, pc, en, h2, h3, outF, outM, refsBs, refsB]
  have ex : ∃ o : Int, (lap < (ns.length : Int) ∧ ns[lap.toNat]? = some o) ∨ (¬ lap < (ns.length : Int) ∧ o = 70001 * lap + 29897) := by
    by_cases h : lap < (ns.length : Int)
    · have hl : lap.toNat < ns.length := by omega
      exact ⟨ns[lap.toNat], .inl ⟨h, List.getElem?_eq_getElem hl⟩⟩
    · exact ⟨70001 * lap + 29897, .inr ⟨h, rfl⟩⟩
  obtain ⟨o, ho⟩ := ex
  obtain ⟨m, w, q⟩ := main o ho
  exact ⟨m, w, fun e st => callDM rfl (by simp [refsBs, refsB]) q w.mo⟩
theorem draw_ok (m : MO) (hm : Wl m) (k : Int) (h0 : 0 < k) (h1 : k < 1073741824) : ∃ (d : Int) (m' : MO), Wl m' ∧ 0 ≤ d ∧ d < k ∧ D_u_law_draw [m] [.ref 0, .int k] = .ok (.int d) [m'] := by
  obtain ⟨a, s, c, ha, hs, hc, rfl⟩ := hm
  have stb : ∀ x y z : Int, stB 1 [.lst [.int x, .int y, .int z]] = true := fun _ _ _ => rfl
  by_cases h : 0 < s
  · refine ⟨s % k, .lst [.int a, .int (s / k), .int c], ⟨a, s / k, c, ha, Int.ediv_nonneg hs (by omega), hc, rfl⟩, Int.emod_nonneg _ (by omega), Int.emod_lt_of_pos _ h0, ?_⟩
    simp [runF, m_u_law_draw, m_u_law_draw_s1, h, h0, h1, ixN, outF, outD, stb, refsB]
  · have p : (0 : Int) ≤ (a * (a % 20011 + 30011) + 70001 * (c + 1) + 9) % 2147483171 := Int.emod_nonneg _ (by decide)
    refine ⟨(a * (a % 20011 + 30011) + 70001 * (c + 1) + 9) % 2147483171 / 128 % k, .lst [.int ((a * (a % 20011 + 30011) + 70001 * (c + 1) + 9) % 2147483171), .int s, .int (c + 1)], ⟨_, s, c + 1, p, hs, by omega, rfl⟩, Int.emod_nonneg _ (by omega), Int.emod_lt_of_pos _ h0, ?_⟩
    have mc : mulC a (a % 20011 + 30011) = true := by
      have z0 : (0 : Int) ≤ a % 20011 := Int.emod_nonneg _ (by decide)
      have z1 : a % 20011 < 20011 := Int.emod_lt_of_pos _ (by decide)
      unfold mulC
      simp
      omega
    have mc2 : mulC 70001 (c + 1) = true := by simp [mulC]
    simp [runF, m_u_law_draw, m_u_law_draw_s1, m_u_law_draw_s2, m_u_law_draw_s3, m_u_law_draw_s4, m_u_law_draw_s5, h, h0, h1, ixN, outF, outD, stb, refsB, divC, mc, mc2]
theorem c_draw (m : MO) (hm : Wl m) (k : Int) (h0 : 0 < k) (h1 : k < 1073741824) : ∃ (d : Int) (m' : MO), Wl m' ∧ 0 ≤ d ∧ d < k ∧ ∀ (e : Nv) (r : Store), callD D_u_law_draw [.ref 0, .int k] e (m :: r) = .ok (.int d) (m' :: r) := by
  obtain ⟨d, m', w, a, b, q⟩ := draw_ok m hm k h0 h1
  exact ⟨d, m', w, a, b, fun e r => callD1 (i := 0) rfl rfl rfl hm.mo q w.mo rfl⟩
end LS
end
section
set_option maxRecDepth 100000
set_option maxHeartbeats 4000000
namespace LS
open PySem PySem.Spec L2
variable {e : Nv} {st : Store}
/-! ## right rows -/
theorem c_is_whole (i : Int) : callD D_is_whole [.int i] e st = .ok (.bl true) st := callD0 rfl rfl (runF_rt (st' := []) (by simp [m_is_whole]) rfl) rfl
theorem c_is_between (i a b : Int) : callD D_is_between [.int i, .int a, .int b] e st = .ok (.bl (decide (a ≤ i) && decide (i ≤ b))) st := callD0 rfl rfl (runF_rt (st' := []) (by
  simp [m_is_between, c_is_whole]
  by_cases h : a ≤ i <;> simp [h]) rfl) rfl
theorem c_is_number (i : Int) (h : -9 ≤ i ∧ i ≤ 9) : callD D_is_number [.int i] e st = .ok (.bl true) st := callD0 rfl rfl (runF_rt (st' := []) (by
  simp [m_is_number, c_is_between, h]) rfl) rfl
def Row (ns : List Int) : Prop := 1 ≤ ns.length ∧ ns.length ≤ 8 ∧ ∀ n ∈ ns, -9 ≤ n ∧ n ≤ 9
theorem c_wrong (ns : List Int) (h : Row ns) : callD D_wrong_in_row [.tup (iD ns)] e st = .ok (.lst []) st := by
  refine callD0 rfl (by simp [refsBs, refsB]) (runF_rt (st' := []) ?_ rfl) rfl
  have h1 : (1 : Int) ≤ (ns.length : Int) := by have := h.1; omega
  have h2 : (ns.length : Int) ≤ 8 := by have := h.2.1; omega
  simp [m_wrong_in_row, h1, h2]
  rw [cloop_pure (fun _ => false) (fun x => x) rfl]
  · simp [cutD, HT.sIx]
  · intro x hx
    obtain ⟨i, y, hy, _, rfl⟩ := mem_enumD hx
    obtain ⟨n, hn, rfl⟩ := mem_iD hy
    exact ⟨_, by simp; rfl, by simp [m_wrong_in_row_t1, c_is_number n (h.2.2 n hn)], by simp⟩
  · simp [enumD_len, LIM]; have := h.2.1; omega
theorem c_check_row (ns : List Int) (h : Row ns) : callD D_check_row [.tup (iD ns)] e st = .ok .non st := by
  refine callD0 rfl (by simp [refsBs, refsB]) (runF_nx (e' := [some (.tup (iD ns)), none]) (st' := []) ?_) rfl
  simp [m_check_row, c_wrong ns h, sloop]
theorem c_check_number (i a b : Int) (h : a ≤ i) (h2 : i ≤ b) : callD D_check_number [.int i, .int a, .int b] e st = .ok .non st := by
  refine callD0 rfl rfl (runF_nx (e' := [some (.int i), some (.int a), some (.int b)]) (st' := []) ?_) rfl
  simp [m_check_number, c_is_between, h, h2]
/-! ## drawn rows -/
theorem c_pick (m : MO) (hm : Wl m) : ∃ (g : Int) (m' : MO), Wl m' ∧ 1 ≤ g ∧ g ≤ 9 ∧ ∀ e : Nv, callD D_u_law_pick [.ref 0, .lst [.int 1, .int 2, .int 4, .int 9]] e [m] = .ok (.int g) [m'] := by
  obtain ⟨d, m', w, d0, d1, q⟩ := c_draw m hm 4 (by decide) (by decide)
  have fin : ∀ g : Int, atI [D.int 1, .int 2, .int 4, .int 9] d = some (.int g) → ∀ e : Nv, callD D_u_law_pick [.ref 0, .lst [.int 1, .int 2, .int 4, .int 9]] e [m] = .ok (.int g) [m'] := by
    intro g hg e
    refine callD1 (i := 0) rfl rfl rfl hm.mo (runF_w (st := []) ?_ w rfl) w.mo rfl
    simp [m_u_law_pick, loc1, q, hg]
  have hd : d = 0 ∨ d = 1 ∨ d = 2 ∨ d = 3 := by omega
  rcases hd with rfl | rfl | rfl | rfl
  · exact ⟨1, m', w, by decide, by decide, fin 1 (by simp)⟩
  · exact ⟨2, m', w, by decide, by decide, fin 2 (by simp)⟩
  · exact ⟨4, m', w, by decide, by decide, fin 4 (by simp)⟩
  · exact ⟨9, m', w, by decide, by decide, fin 9 (by rfl)⟩
theorem c_pick3 (m : MO) (hm : Wl m) : ∃ (g : Int) (m' : MO), Wl m' ∧ -1 ≤ g ∧ g ≤ 1 ∧ ∀ e : Nv, callD D_u_law_pick [.ref 0, .lst [.int 1, .int (-1), .int 0]] e [m] = .ok (.int g) [m'] := by
  obtain ⟨d, m', w, d0, d1, q⟩ := c_draw m hm 3 (by decide) (by decide)
  have fin : ∀ g : Int, atI [D.int 1, .int (-1), .int 0] d = some (.int g) → ∀ e : Nv, callD D_u_law_pick [.ref 0, .lst [.int 1, .int (-1), .int 0]] e [m] = .ok (.int g) [m'] := by
    intro g hg e
    refine callD1 (i := 0) rfl rfl rfl hm.mo (runF_w (st := []) ?_ w rfl) w.mo rfl
    simp [m_u_law_pick, loc1, q, hg]
  have hd : d = 0 ∨ d = 1 ∨ d = 2 := by omega
  rcases hd with rfl | rfl | rfl
  · exact ⟨1, m', w, by decide, by decide, fin 1 (by simp)⟩
  · exact ⟨-1, m', w, by decide, by decide, fin (-1) (by simp)⟩
  · exact ⟨0, m', w, by decide, by decide, fin 0 (by rfl)⟩
theorem c_law_row (m : MO) (hm : Wl m) (most : Int) (h0 : 1 ≤ most) (h5 : most ≤ 8) : ∃ (ns : List Int) (m' : MO), Wl m' ∧ 1 ≤ ns.length ∧ (ns.length : Int) ≤ most ∧ (∀ n ∈ ns, -9 ≤ n ∧ n ≤ 9) ∧ ∀ e : Nv, callD D_u_law_row [.ref 0, .int most] e [m] = .ok (.tup (iD ns)) [m'] := by
  obtain ⟨g, m1, w1, g0, g9, q1⟩ := c_pick m hm
  obtain ⟨k, m2, w2, k0, k8, q2⟩ := c_draw m1 w1 most (by omega) (by omega)
  obtain ⟨ds, st', ql, hlen, hp, ⟨m3, e3, w3⟩⟩ := cloop_inv (src := none) (items := rangeL 0 (1 + k).toNat) (gt := gname 3) (mt := xpure true) (me := m_u_law_row_e1) (e := [some (.ref 0), some (.int most), some (.int g), none]) (fun st => ∃ m, st = [m] ∧ Wl m) (fun d => ∃ n : Int, d = .int n ∧ -9 ≤ n ∧ n ≤ 9) (fun _ _ => rfl) (rangeL 0 (1 + k).toNat) [] [m2]
    (by
      intro x hx st ⟨m, es, w⟩
      subst es
      obtain ⟨d, m', w', d0, d1, q⟩ := c_draw m w (2 * g + 1) (by omega) (by omega)
      have mc : mulC 2 g = true := by simp [mulC]
      exact ⟨_, rfl, rfl, .int (d - g), [m'], by simp [m_u_law_row_e1, mc, q], ⟨d - g, rfl, by omega, by omega⟩, m', rfl, w'⟩)
    ⟨m2, rfl, w2⟩ (by simp [rangeL_len, LIM]; omega)
  have hns : ∃ ns : List Int, ds = iD ns ∧ ∀ n ∈ ns, -9 ≤ n ∧ n ≤ 9 := by
    clear ql hlen
    induction ds with
    | nil => exact ⟨[], rfl, by simp⟩
    | cons d r ih =>
      obtain ⟨ns, e1, h1⟩ := ih fun x hx => hp x (by simp [hx])
      obtain ⟨n, e2, h2⟩ := hp d (by simp)
      exact ⟨n :: ns, by rw [e2, e1]; rfl, fun x hx => by
        rcases List.mem_cons.mp hx with rfl | hx
        · exact h2
        · exact h1 x hx⟩
  obtain ⟨ns, rfl, hb⟩ := hns
  subst e3
  rw [rangeL_len, iD_len] at hlen
  refine ⟨ns, m3, w3, by omega, by omega, hb, fun e => ?_⟩
  refine callD1 (i := 0) rfl rfl rfl hm.mo (runF_w (st := []) ?_ w3 (by simp [refsB])) w3.mo (by simp [refsB])
  have l3 : 4 ≤ LIM := by decide
  have hr : rngB (1 + k) = true := rngB_of (by omega) (by omega)
  simp at ql
  simp [m_u_law_row, loc1, l3, q1, q2, hr, ql]
end LS
end
section
set_option maxRecDepth 100000
set_option maxHeartbeats 4000000
namespace LS
open PySem PySem.Spec L2 CY
variable {e : Nv} {st : Store}
/-! ## sums -/
theorem lp_sums (row : D) (items : List D) : ∀ (ns acc : List Int) (s : Int) (x2 : Option D), acc.length + ns.length < 1000 → ∃ y2 : Option D, sloop none items (gname 2) m_sums_by_b1 (iD ns) [some row, some (.ref 0), x2] [.lst (iD (acc ++ [s]))] = .nx [some row, some (.ref 0), y2] [.lst (iD (acc ++ sm s ns))]
  | [], acc, s, x2, _ => ⟨x2, by simp [sloop, sm]⟩
  | n :: r, acc, s, x2, hl => by
    have hl' : acc.length + (r.length + 1) < 1000 := by simpa using hl
    obtain ⟨y2, q⟩ := lp_sums row items r (acc ++ [s]) (s + n) (some (.int n)) (by simp; omega)
    refine ⟨y2, ?_⟩
    have hlim : acc.length + 1 < LIM := by simp [LIM]; omega
    have hb : m_sums_by_b1 [some row, some (.ref 0), some (.int n)] [.lst (iD (acc ++ [s]))] = .nx [some row, some (.ref 0), some (.int n)] [.lst (iD (acc ++ [s] ++ [s + n]))] := by
      simp [m_sums_by_b1, iD_app, atI_last, hlim]
    rw [iD_cons, sloop_cons rfl rfl hb, q]
    simp [sm]
theorem lp_law_sums (row : D) (items : List D) : ∀ (ns acc : List Int) (s : Int) (x2 : Option D), acc.length + ns.length < 1000 → ∃ y2 : Option D, sloop none items (gname 2) m_u_law_sums_b1 (iD ns) [some row, some (.ref 0), x2] [.lst (iD (acc ++ [s]))] = .nx [some row, some (.ref 0), y2] [.lst (iD (acc ++ sm s ns))] := lp_sums row items
abbrev sms (ns : List Int) : List Int := sm 0 ns
theorem sms_len (ns : List Int) : (sms ns).length = ns.length + 1 := sm_len 0 ns
theorem c_sums (ns : List Int) (hl : ns.length ≤ 8) : callD D_sums_by [.tup (iD ns)] e st = .ok (.tup (iD (sms ns))) st := by
  obtain ⟨y2, q⟩ := lp_sums (.tup (iD ns)) (iD ns) ns [] 0 none (by simp; omega)
  simp at q
  refine callD0 rfl (by simp [refsBs, refsB]) (runF_rt (st' := [.lst (iD (sms ns))]) ?_ (by simp [refsB])) (by simp [refsB])
  simp [m_sums_by, LIM, q, sms]
theorem c_law_sums (ns : List Int) (hl : ns.length ≤ 8) : callD D_u_law_sums [.tup (iD ns)] e st = .ok (.lst (iD (sms ns))) st := by
  obtain ⟨y2, q⟩ := lp_law_sums (.tup (iD ns)) (iD ns) ns [] 0 none (by simp; omega)
  simp at q
  refine callD0 rfl (by simp [refsBs, refsB]) (runF_ref (k := 0) (st' := [.lst (iD (sms ns))]) ?_ rfl (by simp)) (by simp [refsB])
  simp [m_u_law_sums, LIM, q, sms]
theorem minL_sm (s : Int) (ns : List Int) : minL (sm s ns) = s + low ns := by
  have hne : 0 < (sm s ns).length := by rw [sm_len]; omega
  have h1 := low_ge s ns
  have h2 := low_in s ns
  have h3 := h1 _ (minL_mem hne)
  have h4 := minL_le (ns := sm s ns) h2
  omega
@[simp] theorem min_tD (ns : List Int) : minD (.tup (iD ns)) e st = if ns = [] then .stuck else .ok (.int (minL ns)) st := by simp [minD, intsD, seqOf, intsOf_iD]
@[simp] theorem max_tD (ns : List Int) : maxD (.tup (iD ns)) e st = if ns = [] then .stuck else .ok (.int (maxL ns)) st := by simp [maxD, intsD, seqOf, intsOf_iD]
theorem tail_mu (ns : List Int) (h0 : ns ≠ []) : (sms ns).tail ≠ [] ∧ minL (sms ns).tail = mu ns := by
  cases ns with
  | nil => exact absurd rfl h0
  | cons n r =>
    have c2 : (sms (n :: r)).tail = sm (0 + n) r := rfl
    rw [c2, minL_sm]
    refine ⟨sm_ne _ _, ?_⟩
    simp only [mu]; omega
theorem c_law_leads (ns : List Int) (h0 : ns ≠ []) (hl : ns.length ≤ 8) : callD D_u_law_leads [.tup (iD ns)] e st = .ok (.bl (ld ns)) st := by
  refine callD0 rfl (by simp [refsBs, refsB]) (runF_rt (st' := []) ?_ rfl) rfl
  have c1 : cutD (iD (sms ns)) (some 1) none = iD (sms ns).tail := by rw [show (1 : Int) = ((1 : Nat) : Int) from rfl, cut_from]; simp [iD]
  obtain ⟨h1, h2⟩ := tail_mu ns h0
  simp [m_u_law_leads, c_law_sums _ hl, c1, h1, h2, ld]
theorem c_law_stands (ns : List Int) (hl : ns.length ≤ 8) : callD D_u_law_stands [.tup (iD ns)] e st = .ok (.bl (decide (0 ≤ low ns))) st := by
  refine callD0 rfl (by simp [refsBs, refsB]) (runF_rt (st' := []) ?_ rfl) rfl
  have hne := sm_ne 0 ns
  simp [m_u_law_stands, c_law_sums _ hl, hne, minL_sm]
theorem c_lowest (ns : List Int) (hl : ns.length ≤ 8) : callD D_lowest_by [.tup (iD ns)] e st = .ok (.int (low ns)) st := by
  refine callD0 rfl (by simp [refsBs, refsB]) (runF_rt (st' := []) ?_ rfl) rfl
  have hne := sm_ne 0 ns
  simp [m_lowest_by, c_sums _ hl, hne, minL_sm]
theorem c_stands_by (ns : List Int) (hl : ns.length ≤ 8) : callD D_stands_by [.tup (iD ns)] e st = .ok (.bl (decide (0 ≤ low ns))) st := by
  refine callD0 rfl (by simp [refsBs, refsB]) (runF_rt (st' := []) ?_ rfl) rfl
  have := low_le0 ns
  simp [m_stands_by, c_lowest _ hl]
  by_cases h : low ns = 0
  · simp [h]
  · simp [h]; omega
def abv (ns : List Int) : Nat := ((sms ns).filter fun x => decide (0 < x)).length
theorem cl_int {src : Option Nat} {items : List D} {j : Nat} {mt : XM Bool} (c : Int → Bool) (hs : srcOk src items st = true) (L : List Int) (hl : L.length ≤ 1000) (hj : j < e.length)
    (h : ∀ x : Int, mt (e.set j (some (.int x))) st = .ok (c x) st) : cloop src items (gname j) mt (xvar j) e (iD L) [] st = .ok (iD (L.filter c)) st := by
  have := cloop_rows (e := e) (st := st) (src := src) (items := items) (gt := gname j) (mt := mt) (me := xvar j) D.int c D.int hs L [] (fun x _ => ⟨_, rfl, h x, fun _ => by simp [hj]⟩) (by simp [LIM]; omega)
  simpa [iD] using this
theorem c_above_by (ns : List Int) (hl : ns.length ≤ 8) : callD D_above_by [.tup (iD ns)] e st = .ok (.int (abv ns)) st := by
  refine callD0 rfl (by simp [refsBs, refsB]) (runF_rt (st' := []) ?_ rfl) rfl
  simp [m_above_by, c_sums ns hl]
  rw [cl_int (fun x => decide (0 < x)) rfl _ (by rw [sms_len]; omega) (by simp) fun x => by simp [m_above_by_t1]]
  simp [abv]
/-! ## leads -/
def cF : D → Bool
  | .tup [.int i, .int x] => decide (0 < i) && decide (x ≤ 0)
  | _ => false
def fP : D → D
  | .tup [.int i, _] => .int i
  | _ => .non
def fl : Nat → List Int → List Int
  | _, [] => []
  | k, x :: r => if 0 < k ∧ x ≤ 0 then (k : Int) :: fl (k + 1) r else fl (k + 1) r
theorem fl_enum : ∀ (l : List Int) (k : Nat), ((enumD k (iD l)).filter cF).map fP = iD (fl k l)
  | [], _ => rfl
  | x :: r, k => by
    have ih := fl_enum r (k + 1)
    simp only [iD_cons, enumD, fl]
    by_cases h : 0 < k ∧ x ≤ 0
    · rw [List.filter_cons_of_pos (by simp [cF, h]), if_pos h]
      simp [fP, ih]
    · rw [List.filter_cons_of_neg (by simp [cF]; omega), if_neg h, ih]
theorem falls_pos : ∀ (l : List Int) (k : Nat) (s : Int), 0 < k → (fl k (sm s l) = [] ↔ 0 < s + low l)
  | [], k, s, hk => by
    simp [sm, low, fl, hk]
  | n :: r, k, s, hk => by
    have ih := falls_pos r (k + 1) (s + n) (by omega)
    simp only [sm, low, fl]
    by_cases h : s ≤ 0
    · simp [h, hk]
      have := low_le0 r
      omega
    · simp only [h, and_false, if_false]
      rw [ih]
      omega
theorem falls_nil (ns : List Int) (h0 : ns ≠ []) : fl 0 (sms ns) = [] ↔ 0 < mu ns := by
  cases ns with
  | nil => exact absurd rfl h0
  | cons n r =>
    have := falls_pos r 1 (0 + n) (by decide)
    show fl 0 (sm 0 (n :: r)) = [] ↔ _
    simp only [sm, fl]
    simp only [Nat.lt_irrefl, false_and, if_false, Nat.zero_add]
    rw [this, mu]
    omega
theorem c_falls (ns : List Int) (hl : ns.length ≤ 8) : callD D_falls_by [.tup (iD ns)] e st = .ok (.lst (iD (fl 0 (sms ns)))) st := by
  refine callD0 rfl (by simp [refsBs, refsB]) (runF_rt (st' := []) ?_ (by simp [refsB])) (by simp [refsB])
  simp [m_falls_by, c_sums _ hl]
  rw [cloop_pure cF fP rfl]
  · simp [fl_enum]
  · intro x hx
    obtain ⟨i, y, hy, _, rfl⟩ := mem_enumD hx
    obtain ⟨n, hn, rfl⟩ := mem_iD hy
    exact ⟨_, by simp; rfl, by
      simp [m_falls_by_t1, cF]
      by_cases h : 0 < i <;> simp [h], fun _ => by simp [fP]⟩
  · simp [enumD_len, LIM, sms_len]; omega
theorem eqO_lnil (st : Store) (a : List Int) : eqO st (.lst (iD a)) (.lst []) = some (decide (a = [])) := eqO_lints st a []
theorem eqO_tnil (st : Store) (a : List Int) : eqO st (.tup (iD a)) (.tup []) = some (decide (a = [])) := eqO_tiD st a []
theorem c_leads_by (ns : List Int) (h0 : ns ≠ []) (hl : ns.length ≤ 8) : callD D_leads_by [.tup (iD ns)] e st = .ok (.bl (ld ns)) st := by
  refine callD0 rfl (by simp [refsBs, refsB]) (runF_rt (st' := []) ?_ rfl) rfl
  have h := falls_nil ns h0
  simp [m_leads_by, c_falls _ hl, ld, eqO_lnil]
  by_cases g : fl 0 (sms ns) = []
  · simp [g, h.mp g]
  · have : ¬ 0 < mu ns := fun z => g (h.mpr z)
    simp [g, this]
end LS
end
section
set_option maxRecDepth 100000
set_option maxHeartbeats 4000000
namespace LS
open PySem PySem.Spec L2 CY
variable {e : Nv} {st : Store}
/-! ## turnings -/
def rowD (r : List Int) : D := .tup (iD r)
def trows (ns : List Int) : List D := (List.range ns.length).map fun k => rowD (turn ns k)
theorem turn_iD (ns : List Int) (k : Nat) : (iD ns).drop k ++ (iD ns).take k = iD (turn ns k) := by simp [turn, iD]
theorem turn_ne {ns : List Int} {k : Nat} (h : ns ≠ []) : turn ns k ≠ [] := fun z => h (by
  have := turn_len ns (k := k)
  rw [z] at this
  exact List.eq_nil_of_length_eq_zero this.symm)
theorem tl8 {ns : List Int} (k : Nat) (h : ns.length ≤ 8) : (turn ns k).length ≤ 8 := by rw [turn_len]; exact h
theorem row_turn {ns : List Int} (h : Row ns) (k : Nat) : Row (turn ns k) := ⟨by rw [turn_len]; exact h.1, by rw [turn_len]; exact h.2.1, fun x hx => h.2.2 x (turn_mem hx)⟩
theorem row_ne {ns : List Int} (h : Row ns) : ns ≠ [] := fun z => by have := h.1; rw [z] at this; simp at this
theorem refs_trows (ns : List Int) : refsBs 0 (trows ns) = true := by
  unfold trows
  generalize List.range ns.length = l
  induction l with
  | nil => rfl
  | cons k r ih =>
    simp only [List.map_cons, refsBs, Bool.and_eq_true]
    exact ⟨by simp [rowD, refsB], ih⟩
theorem turned_body (ns : List Int) (k : Nat) (hl : ns.length ≤ 8) : xop addD (xslice (xvar 0) (xpart (xvar 1)) (xpure none)) (xslice (xvar 0) (xpure none) (xpart (xvar 1))) [some (rowD ns), some (.int (k : Int))] [] = .ok (rowD (turn ns k)) [] := by
  have h1 := cut_from (iD ns) k
  have h2 := cut_to (iD ns) k
  have h3 : ns.length - k + min k ns.length ≤ LIM := by simp [LIM]; omega
  simp [rowD, h1, h2, h3, turn_iD]
theorem c_law_turned (ns : List Int) (k : Nat) (hl : ns.length ≤ 8) : callD D_u_law_turned [.tup (iD ns), .int (k : Int)] e st = .ok (rowD (turn ns k)) st :=
  callD0 rfl (by simp [refsBs, refsB]) (runF_rt (st' := []) (ret_ok (turned_body ns k hl)) (by simp [refsB, rowD])) (by simp [refsB, rowD])
theorem c_turned_by (ns : List Int) (k : Nat) (hl : ns.length ≤ 8) : callD D_turned_by [.tup (iD ns), .int (k : Int)] e st = .ok (rowD (turn ns k)) st :=
  callD0 rfl (by simp [refsBs, refsB]) (runF_rt (st' := []) (ret_ok (turned_body ns k hl)) (by simp [refsB, rowD])) (by simp [refsB, rowD])
theorem c_all_turnings (ns : List Int) (hl : ns.length ≤ 8) : callD D_all_turnings [.tup (iD ns)] e st = .ok (.lst (trows ns)) st := by
  have h1 : xrange1 (xcall (f1 lenD) (xcons (xvar 0) (xpure []))) [some (.tup (iD ns)), none] [] = .ok (rangeL 0 ns.length, none) [] := by
    have := range1_of (e := [some (.tup (iD ns)), none]) (s0 := []) (s1 := []) (m := xcall (f1 lenD) (xcons (xvar 0) (xpure []))) (j := (ns.length : Int)) (by simp) (rngB_nat (by simp [LIM]; omega))
    simpa using this
  have h2 := cl_rngA (e := [some (.tup (iD ns)), none]) (st := []) (j := 1) (me := m_all_turnings_e1) (n := ns.length) (fun (k : Nat) => rowD (turn ns k)) (by omega) fun k hk => by
    refine fn_of (two_ok rfl rfl) rfl (c_turned_by ns k hl)
  refine callD0 rfl (by simp [refsBs, refsB]) (runF_rt (st' := []) (ret_ok (comp_of h1 h2)) (by simpa [refsB] using refs_trows ns)) (by simpa [refsB] using refs_trows ns)
theorem refs_iDt (l : List Int) (n : Nat) : refsB n (.tup (iD l)) = true := by simp [refsB]
theorem c_leading_by (ns : List Int) (h : Row ns) : callD D_leading_turnings_by [.tup (iD ns)] e st = .ok (rowD (nI (leadT ns))) st := by
  have hl := h.2.1
  have h1 : xenum (xfn 1 (D_all_turnings) (xcons (xvar 0) (xpure []))) [some (.tup (iD ns)), none, none] [] = .ok (enumD 0 (trows ns), none) [] := enum_of (fn_of (one_ok rfl) rfl (c_all_turnings ns hl))
  rw [trows, enum_rng] at h1
  have h2 := cl_map (e := [some (.tup (iD ns)), none, none]) (st := []) (src := none) (items := (List.range ns.length).map fun (k : Nat) => .tup [.int (k : Int), rowD (turn ns k)]) (gt := gtup 2 (gcons (gname 2) (gcons (gname 1) gnil))) (mt := m_leading_turnings_by_t1) (me := xvar 2)
    (fun (k : Nat) => .tup [.int (k : Int), rowD (turn ns k)]) (fun (k : Nat) => ld (turn ns k)) (fun (k : Nat) => .int (k : Int)) rfl (List.range ns.length) (fun k hk => ⟨_, rfl, tru_ok (fn_of (one_ok rfl) rfl (c_leads_by _ (turn_ne (row_ne h)) (tl8 k hl))), fun _ => rfl⟩) (by simp; omega)
  rw [nI_iD] at h2
  refine callD0 rfl (by simp [refsBs, refsB]) (runF_rt (st' := []) (ret_ok (tu_of (comp_of h1 h2) rfl)) (refs_iDt _ _)) (refs_iDt _ _)
theorem c_standing_by (ns : List Int) (h : Row ns) : callD D_standing_turnings_by [.tup (iD ns)] e st = .ok (rowD (nI (standT ns))) st := by
  have hl := h.2.1
  have h1 : xenum (xfn 1 (D_all_turnings) (xcons (xvar 0) (xpure []))) [some (.tup (iD ns)), none, none] [] = .ok (enumD 0 (trows ns), none) [] := enum_of (fn_of (one_ok rfl) rfl (c_all_turnings ns hl))
  rw [trows, enum_rng] at h1
  have h2 := cl_map (e := [some (.tup (iD ns)), none, none]) (st := []) (src := none) (items := (List.range ns.length).map fun (k : Nat) => .tup [.int (k : Int), rowD (turn ns k)]) (gt := gtup 2 (gcons (gname 2) (gcons (gname 1) gnil))) (mt := m_standing_turnings_by_t1) (me := xvar 2)
    (fun (k : Nat) => .tup [.int (k : Int), rowD (turn ns k)]) (fun (k : Nat) => decide (0 ≤ low (turn ns k))) (fun (k : Nat) => .int (k : Int)) rfl (List.range ns.length) (fun k hk => ⟨_, rfl, tru_ok (fn_of (one_ok rfl) rfl (c_stands_by _ (tl8 k hl))), fun _ => rfl⟩) (by simp; omega)
  rw [nI_iD] at h2
  refine callD0 rfl (by simp [refsBs, refsB]) (runF_rt (st' := []) (ret_ok (tu_of (comp_of h1 h2) rfl)) (refs_iDt _ _)) (refs_iDt _ _)
def upsT (ns : List Int) : List Int := (List.range ns.length).map fun k => (abv (turn ns k) : Int)
theorem ups_iD (ns : List Int) : ((List.range ns.length).map fun k => D.int (abv (turn ns k) : Int)) = iD (upsT ns) := by simp [upsT, iD]
theorem c_ups_by (ns : List Int) (h : Row ns) : callD D_turnings_above_by [.tup (iD ns)] e st = .ok (rowD (upsT ns)) st := by
  have hl := h.2.1
  have h1 : xwalk (xfn 1 (D_all_turnings) (xcons (xvar 0) (xpure []))) [some (.tup (iD ns)), none] [] = .ok (trows ns, none) [] := walk_of (fn_of (one_ok rfl) rfl (c_all_turnings ns hl)) rfl
  have h2 := cl_map (e := [some (.tup (iD ns)), none]) (st := []) (src := none) (items := trows ns) (gt := gname 1) (mt := xpure true) (me := m_turnings_above_by_e1)
    (fun (k : Nat) => rowD (turn ns k)) (fun (k : Nat) => true) (fun (k : Nat) => .int (abv (turn ns k) : Int)) rfl (List.range ns.length) (fun k hk => ⟨_, rfl, rfl, fun _ => fn_of (one_ok rfl) rfl (c_above_by _ (tl8 k hl))⟩) (by simp; omega)
  rw [filter_yes, ups_iD] at h2
  refine callD0 rfl (by simp [refsBs, refsB]) (runF_rt (st' := []) (ret_ok (tu_of (comp_of h1 h2) rfl)) (refs_iDt _ _)) (refs_iDt _ _)
/-! ## the doors -/
section
variable (ns : List Int) (hr : Row ns)
include hr
theorem c_leading : callD D_leading_turnings [.tup (iD ns)] e st = .ok (rowD (nI (leadT ns))) st :=
  callD0 rfl (by simp [refsBs, refsB]) (runF_rt (st' := []) (seq_of (drop_ok (fn_of (one_ok rfl) rfl (c_check_row ns hr))) (ret_ok (fn_of (one_ok rfl) rfl (c_leading_by ns hr)))) (refs_iDt _ _)) (refs_iDt _ _)
theorem c_standing : callD D_standing_turnings [.tup (iD ns)] e st = .ok (rowD (nI (standT ns))) st :=
  callD0 rfl (by simp [refsBs, refsB]) (runF_rt (st' := []) (seq_of (drop_ok (fn_of (one_ok rfl) rfl (c_check_row ns hr))) (ret_ok (fn_of (one_ok rfl) rfl (c_standing_by ns hr)))) (refs_iDt _ _)) (refs_iDt _ _)
theorem c_ups : callD D_turnings_above [.tup (iD ns)] e st = .ok (rowD (upsT ns)) st :=
  callD0 rfl (by simp [refsBs, refsB]) (runF_rt (st' := []) (seq_of (drop_ok (fn_of (one_ok rfl) rfl (c_check_row ns hr))) (ret_ok (fn_of (one_ok rfl) rfl (c_ups_by ns hr)))) (refs_iDt _ _)) (refs_iDt _ _)
theorem c_turned (k : Nat) (hk : k < ns.length) : callD D_turned [.tup (iD ns), .int (k : Int)] e st = .ok (rowD (turn ns k)) st := by
  have h2 : xop subD (xcall (f1 lenD) (xcons (xvar 0) (xpure []))) (xpure (.int 1)) [some (.tup (iD ns)), some (.int (k : Int))] [] = .ok (.int ((ns.length : Int) - 1)) [] := by simp
  refine callD0 rfl (by simp [refsBs, refsB]) (runF_rt (st' := []) (seq_of (drop_ok (fn_of (one_ok rfl) rfl (c_check_row ns hr))) (seq_of (drop_ok (fn_of (cons_ok rfl (cons_ok rfl (one_ok h2))) rfl (c_check_number (k : Int) 0 _ (by omega) (by omega)))) (ret_ok (fn_of (two_ok rfl rfl) rfl (c_turned_by ns k hr.2.1))))) (refs_iDt _ _)) (refs_iDt _ _)
theorem c_total : callD D_total [.tup (iD ns)] e st = .ok (.int ns.sum) st := by
  obtain ⟨t, ht⟩ := List.getLast?_eq_some_iff.mp (sm_last 0 ns)
  rw [Int.zero_add] at ht
  have h3 := fun e st => c_sums (e := e) (st := st) ns hr.2.1
  rw [show sms ns = t ++ [ns.sum] from ht] at h3
  have h2 : xop ixD (xfn 1 (D_sums_by) (xcons (xvar 0) (xpure []))) (xneg (xpure (.int 1))) [some (.tup (iD ns))] [] = .ok (.int ns.sum) [] := by
    simp [h3, iD_app, atI_last]
  exact callD0 rfl (by simp [refsBs, refsB]) (runF_rt (st' := []) (seq_of (drop_ok (fn_of (one_ok rfl) rfl (c_check_row ns hr))) (ret_ok h2)) rfl) rfl
end
end LS
end
section
set_option maxRecDepth 100000
set_option maxHeartbeats 4000000
namespace LS
open PySem PySem.Spec L2 CY
variable {e : Nv} {st : Store}
/-! ## the same -/
theorem same_refl : ∀ (n : Nat) (x : D), n ≤ 60 → okD n x = true → ∀ (e : Nv) (st : Store), callD (D_u_law_same n) [x, x] e st = .ok (.bl true) st := by
  intro n
  induction n with
  | zero => intro x _ h; simp [okD] at h
  | succ n ih =>
    intro x hn h e st
    refine callD0 (refsIn_ok h h) (by have := refsB_okD _ _ h; simp [refsBs, this]) (runF_rt (st' := []) ?_ rfl) rfl
    have hq := eqO_refl [] (by omega) h
    cases x with
    | non => simp [m_u_law_same, hq]
    | bl b => simp [m_u_law_same]
    | int i => simp [m_u_law_same]
    | str s => simp [m_u_law_same, hq]
    | lst xs => simp [m_u_law_same, hq]
    | tup xs =>
      have h' : xs.length ≤ LIM ∧ xs.all (okD n) = true := by simpa [okD] using h
      have r := rngB_nat h'.1
      have q := cloop_pure (src := none) (items := rangeL 0 xs.length) (gt := gname 2) (mt := m_u_law_same_t1 (D_u_law_same n)) (me := xvar 2) (e := [some (.tup xs), some (.tup xs), none]) (st := []) (fun _ => false) (fun x => x) rfl (rangeL 0 xs.length) [] (by
        intro y hy
        obtain ⟨i, hi, rfl⟩ := mem_rangeL hy
        have hg : xs[i]? = some xs[i] := List.getElem?_eq_getElem hi
        have ok : okD n xs[i] = true := List.all_eq_true.mp h'.2 _ (List.getElem_mem hi)
        refine ⟨_, rfl, ?_, fun z => nomatch z⟩
        simp [m_u_law_same_t1, atI_nat, hg, ih _ (by omega) ok]) (by simp [rangeL_len]; exact h'.1)
      rw [filter_no, List.map_nil, List.append_nil] at q
      have hc : xcomp (xrange1 (xcall (f1 lenD) (xcons (xvar 0) (xpure [])))) [2] (gname 2) (m_u_law_same_t1 (D_u_law_same n)) (xvar 2) [some (.tup xs), some (.tup xs), none] [] = .ok (.lst []) [] := comp_of (range1_of (j := (xs.length : Int)) (call_of (one_ok rfl) rfl) r) q
      have h3 : xop eqD (xcomp (xrange1 (xcall (f1 lenD) (xcons (xvar 0) (xpure [])))) [2] (gname 2) (m_u_law_same_t1 (D_u_law_same n)) (xvar 2)) (xlst (xpure [])) [some (.tup xs), some (.tup xs), none] [] = .ok (.bl true) [] := op_of hc (lst_ok nil_ok (by decide)) (by rw [eq_ap, eqO_l0])
      have h4 : xop eqD (xcall (f1 lenD) (xcons (xvar 0) (xpure []))) (xcall (f1 lenD) (xcons (xvar 1) (xpure []))) [some (.tup xs), some (.tup xs), none] [] = .ok (.bl true) [] := by simp
      show m_u_law_same (D_u_law_same n) [some (.tup xs), some (.tup xs), none] [] = _
      unfold m_u_law_same
      refine seq_rt ?_
      rw [sif_t (st' := []) (by simp)]
      refine ret_ok ?_
      rw [and_t (st' := []) (by simp), and_t h4]
      exact h3
    | ty _ => simp [okD] at h
    | glo _ => simp [okD] at h
    | sq _ => simp [okD] at h
    | ref _ => simp [okD] at h
    | tpz _ => simp [okD] at h
theorem c_same (x : D) (h : okD 6 x = true) : callD (D_u_law_same 6) [x, x] e st = .ok (.bl true) st := same_refl 6 x (by decide) h e st
theorem ok_row {n : Nat} {r : List Int} (h : r.length ≤ LIM) : okD (n + 2) (rowD r) = true := okD_tup (by simpa using h) (okD_iD n r)
/-! ## all turnings are told -/
abbrev EV (ns : List Int) (b : Bool) (x4 x6 x7 x8 x11 : Option D) : Nv := [some (.ref 0), some (rowD ns), some (.int ns.length), some (.bl b), x4, none, x6, x7, x8, none, none, x11]
abbrev dL (ns : List Int) : D := rowD (nI (leadT ns))
abbrev dS (ns : List Int) : D := rowD (nI (standT ns))
abbrev dU (ns : List Int) : D := rowD (upsT ns)
theorem len_row (ns : List Int) {e : Nv} {st : Store} : f1 lenD [rowD ns] e st = .ok (.int ns.length) st := by simp [rowD]
theorem ns_lim {ns : List Int} (h : ns.length ≤ 8) : ns.length ≤ LIM := by simp [LIM]; omega
section
variable (ns : List Int) (hr : Row ns) (m : MO)
include hr
theorem rg_of {x : Option D} (e : Nv) (h : (xvar 2) e [m] = .ok (.int ns.length) [m]) : xrange1 (xvar 2) e [m] = .ok (rangeL 0 ns.length, none) [m] := by
  have := range1_of h (rngB_nat (ns_lim hr.2.1))
  simpa using this
theorem told2 (b : Bool) : m_u_law_are_turnings_told_s2 (EV ns b none none none none none) [m] = .nx (EV ns b (some (.lst (trows ns))) none none none none) [m] := by
  have h2 := cl_rngA (e := EV ns b none none none none none) (st := [m]) (j := 5) (me := m_u_law_are_turnings_told_e1) (n := ns.length) (fun k => rowD (turn ns k)) (by have := hr.2.1; omega) fun k hk => fn_of (two_ok rfl rfl) rfl (c_law_turned ns k hr.2.1)
  exact set_ok (comp_of (rg_of ns hr m (x := none) _ rfl) h2)
theorem at_row {k : Nat} (hk : k < ns.length) (e : Nv) (h4 : e[4]? = some (some (.lst (trows ns)))) (h5 : e[5]? = some (some (.int (k : Int)))) : xop ixD (xvar 4) (xvar 5) e [m] = .ok (rowD (turn ns k)) [m] := by
  have h1 : (xvar 4) e [m] = .ok (.lst (trows ns)) [m] := by simp [h4]
  have h2 : (xvar 5) e [m] = .ok (.int (k : Int)) [m] := by simp [h5]
  refine op_of h1 h2 ?_
  have : atI (trows ns) (k : Int) = some (rowD (turn ns k)) := by
    rw [atI_nat]
    simp [trows, hk]
  simp [this]
theorem told3 (b : Bool) : m_u_law_are_turnings_told_s3 (EV ns b (some (.lst (trows ns))) none none none none) [m] = .nx (EV ns b (some (.lst (trows ns))) (some (dL ns)) (some (dS ns)) none none) [m] := by
  have hl : ns.length ≤ 1000 := by have := hr.2.1; omega
  have h1 := cl_rng (e := EV ns b (some (.lst (trows ns))) none none none none) (st := [m]) (j := 5) (mt := m_u_law_are_turnings_told_t1) (me := xvar 5) (n := ns.length) (fun k => ld (turn ns k)) (fun k => .int (k : Int)) hl fun k hk =>
    ⟨tru_ok (fn_of (one_ok (at_row ns hr m hk _ rfl rfl)) rfl (c_law_leads _ (turn_ne (row_ne hr)) (tl8 k hr.2.1))), fun _ => rfl⟩
  have h2 := cl_rng (e := EV ns b (some (.lst (trows ns))) none none none none) (st := [m]) (j := 5) (mt := m_u_law_are_turnings_told_t2) (me := xvar 5) (n := ns.length) (fun k => decide (0 ≤ low (turn ns k))) (fun k => .int (k : Int)) hl fun k hk =>
    ⟨tru_ok (fn_of (one_ok (at_row ns hr m hk _ rfl rfl)) rfl (c_law_stands _ (tl8 k hr.2.1))), fun _ => rfl⟩
  rw [nI_iD] at h1 h2
  exact par2_ok (tu_of (comp_of (rg_of ns hr m (x := none) _ rfl) h1) rfl) (tu_of (comp_of (rg_of ns hr m (x := none) _ rfl) h2) rfl)
theorem told4 (b : Bool) : m_u_law_are_turnings_told_s4 (EV ns b (some (.lst (trows ns))) (some (dL ns)) (some (dS ns)) none none) [m] = .nx (EV ns b (some (.lst (trows ns))) (some (dL ns)) (some (dS ns)) (some (dU ns)) none) [m] := by
  have hl : ns.length ≤ 1000 := by have := hr.2.1; omega
  have inner : ∀ k, m_u_law_are_turnings_told_e2 ((EV ns b (some (.lst (trows ns))) (some (dL ns)) (some (dS ns)) none none).set 10 (some (rowD (turn ns k)))) [m] = .ok (.int (abv (turn ns k) : Int)) [m] := by
    intro k
    have q := cl_int (e := (EV ns b (some (.lst (trows ns))) (some (dL ns)) (some (dS ns)) none none).set 10 (some (rowD (turn ns k)))) (st := [m]) (src := none) (items := iD (sms (turn ns k))) (j := 9) (mt := m_u_law_are_turnings_told_t3) (fun x => decide (0 < x)) rfl (sms (turn ns k)) (by rw [sms_len]; have := tl8 k hr.2.1; omega) (by simp) fun x => by simp [m_u_law_are_turnings_told_t3]
    refine call_of (one_ok (comp_of (walk_of (fn_of (one_ok rfl) rfl (c_law_sums _ (tl8 k hr.2.1))) rfl) q)) ?_
    simp [abv]
  have h2 := cl_map (e := EV ns b (some (.lst (trows ns))) (some (dL ns)) (some (dS ns)) none none) (st := [m]) (src := none) (items := trows ns) (gt := gname 10) (mt := xpure true) (me := m_u_law_are_turnings_told_e2)
    (fun (k : Nat) => rowD (turn ns k)) (fun (k : Nat) => true) (fun (k : Nat) => .int (abv (turn ns k) : Int)) rfl (List.range ns.length) (fun k hk => ⟨_, rfl, rfl, fun _ => inner k⟩) (by simp; omega)
  rw [filter_yes, ups_iD] at h2
  exact set_ok (tu_of (comp_of (walk_of rfl rfl) h2) rfl)
abbrev dT (ns : List Int) : D := .lst [dL ns, dS ns, dU ns]
theorem told5 (b : Bool) : m_u_law_are_turnings_told_s5 (EV ns b (some (.lst (trows ns))) (some (dL ns)) (some (dS ns)) (some (dU ns)) none) [m] = .nx (EV ns b (some (.lst (trows ns))) (some (dL ns)) (some (dS ns)) (some (dU ns)) (some (dT ns))) [m] := by
  refine set_ok ?_
  cases b with
  | true =>
    refine if_t (tru_ok rfl) (lst_ok (cons_ok (fnK_of nil_ok (one_ok rfl) ⟨rfl, rfl⟩ (c_leading ns hr)) (cons_ok (fnK_of nil_ok (one_ok rfl) ⟨rfl, rfl⟩ (c_standing ns hr)) (one_ok (fnK_of nil_ok (one_ok rfl) ⟨rfl, rfl⟩ (c_ups ns hr))))) (by simp [LIM]))
  | false =>
    refine if_f (tru_ok rfl) (lst_ok (cons_ok (fn_of (one_ok rfl) rfl (c_leading ns hr)) (cons_ok (fn_of (one_ok rfl) rfl (c_standing ns hr)) (one_ok (fn_of (one_ok rfl) rfl (c_ups ns hr))))) (by simp [LIM]))
theorem ok_rowD {n : Nat} {r : List Int} (h : r.length ≤ LIM) : okD (n + 2) (rowD r) = true := okD_tup (by simpa using h) (okD_iD n r)
theorem ok_trows : okD 6 (.lst (trows ns)) = true := by
  refine okD_lst (by simp only [trows, List.length_map, List.length_range]; exact ns_lim hr.2.1) ?_
  rw [List.all_eq_true]
  intro d hd
  obtain ⟨k, _, rfl⟩ := List.mem_map.mp hd
  exact ok_row (n := 3) (ns_lim (tl8 k hr.2.1))
theorem fil_len {c : Nat → Bool} : ((List.range ns.length).filter c).length ≤ LIM := Nat.le_trans (List.length_filter_le _ _) (by rw [List.length_range]; exact ns_lim hr.2.1)
theorem ok_dT : okD 6 (dT ns) = true := by
  have h1 : okD 5 (dL ns) = true := ok_row (n := 3) (by simp only [nI, List.length_map, leadT]; exact fil_len ns hr)
  have h2 : okD 5 (dS ns) = true := ok_row (n := 3) (by simp only [nI, List.length_map, standT]; exact fil_len ns hr)
  have h3 : okD 5 (dU ns) = true := ok_row (n := 3) (by simp only [upsT, List.length_map, List.length_range]; exact ns_lim hr.2.1)
  exact okD_lst (by simp [LIM]) (by simp [h1, h2, h3])
theorem told6 (b : Bool) : m_u_law_are_turnings_told_s6 (EV ns b (some (.lst (trows ns))) (some (dL ns)) (some (dS ns)) (some (dU ns)) (some (dT ns))) [m] = .nx (EV ns b (some (.lst (trows ns))) (some (dL ns)) (some (dS ns)) (some (dU ns)) (some (dT ns))) [m] := by
  have h2 := cl_rngA (e := EV ns b (some (.lst (trows ns))) (some (dL ns)) (some (dS ns)) (some (dU ns)) (some (dT ns))) (st := [m]) (j := 5) (me := m_u_law_are_turnings_told_e3) (n := ns.length) (fun k => rowD (turn ns k)) (by have := hr.2.1; omega) fun k hk => fn_of (two_ok rfl rfl) rfl (c_turned ns hr k hk)
  have a1 : tnot (xtru (xfn 2 (D_u_law_same 6) (xcons (xvar 11) (xcons (xlst (xcons (xvar 6) (xcons (xvar 7) (xcons (xvar 8) (xpure []))))) (xpure []))))) (EV ns b (some (.lst (trows ns))) (some (dL ns)) (some (dS ns)) (some (dU ns)) (some (dT ns))) [m] = .ok false [m] :=
    tnot_ok (tru_ok (fn_of (two_ok rfl (lst_ok (cons_ok rfl (cons_ok rfl (one_ok rfl))) (by simp [LIM]))) rfl (c_same (dT ns) (ok_dT ns hr))))
  have a2 : tnot (xtru (xfn 2 (D_u_law_same 6) (xcons (xcomp (xrange1 (xvar 2)) [5] (gname 5) (xpure true) m_u_law_are_turnings_told_e3) (xcons (xvar 4) (xpure []))))) (EV ns b (some (.lst (trows ns))) (some (dL ns)) (some (dS ns)) (some (dU ns)) (some (dT ns))) [m] = .ok false [m] :=
    tnot_ok (tru_ok (fn_of (two_ok (comp_of (rg_of ns hr m (x := none) _ rfl) h2) rfl) rfl (c_same (.lst (trows ns)) (ok_trows ns hr))))
  exact sif_skip (by rw [tor_f a1]; exact a2)
theorem told7 (b : Bool) : m_u_law_are_turnings_told_s7 (EV ns b (some (.lst (trows ns))) (some (dL ns)) (some (dS ns)) (some (dU ns)) (some (dT ns))) [m] = .nx (EV ns b (some (.lst (trows ns))) (some (dL ns)) (some (dS ns)) (some (dU ns)) (some (dT ns))) [m] := by
  have g1 : decide (nI (leadT ns) = []) = !decide (0 < ns.sum) := by
    have := ex_lead ns
    have h0 : nI (leadT ns) = [] ↔ leadT ns = [] := by simp [nI]
    by_cases h : leadT ns = []
    · have : ¬ 0 < ns.sum := fun z => this.mpr z h
      simp [h, this, nI]
    · have : 0 < ns.sum := this.mp h
      simp [h0, h, this]
  have g2 : decide (nI (standT ns) = []) = !decide (0 ≤ ns.sum) := by
    have := ex_stand ns (row_ne hr)
    have h0 : nI (standT ns) = [] ↔ standT ns = [] := by simp [nI]
    by_cases h : standT ns = []
    · have : ¬ 0 ≤ ns.sum := fun z => this.mpr z h
      simp [h, this, nI]
    · have : 0 ≤ ns.sum := this.mp h
      simp [h0, h, this]
  have e0 : ∀ (i : Nat) (l : List Int) (E : Nv), (xvar i) E [m] = .ok (rowD l) [m] → xop neD (xvar i) (xtup (xpure [])) E [m] = .ok (.bl (!decide (l = []))) [m] := fun i l E h => op_of h (tup_ok nil_ok (by simp [LIM])) (by
    rw [ne_ap, show eqO [m] (rowD l) (.tup []) = some (decide (l = [])) from eqO_tnil [m] l])
  have t0 : xfn 1 (D_total) (xcons (xvar 1) (xpure [])) (EV ns b (some (.lst (trows ns))) (some (dL ns)) (some (dS ns)) (some (dU ns)) (some (dT ns))) [m] = .ok (.int ns.sum) [m] := fn_of (one_ok rfl) rfl (c_total ns hr)
  have b1 : xbool (xop neD (xop neD (xvar 6) (xtup (xpure []))) (xop gtD (xfn 1 (D_total) (xcons (xvar 1) (xpure []))) (xpure (.int 0)))) (EV ns b (some (.lst (trows ns))) (some (dL ns)) (some (dS ns)) (some (dU ns)) (some (dT ns))) [m] = .ok false [m] := by
    refine bool_of (op_of (e0 6 _ _ rfl) (op_of t0 rfl rfl) ?_)
    simp [g1]
  have b2 : xbool (xop neD (xop neD (xvar 7) (xtup (xpure []))) (xop geD (xfn 1 (D_total) (xcons (xvar 1) (xpure []))) (xpure (.int 0)))) (EV ns b (some (.lst (trows ns))) (some (dL ns)) (some (dS ns)) (some (dU ns)) (some (dT ns))) [m] = .ok false [m] := by
    refine bool_of (op_of (e0 7 _ _ rfl) (op_of t0 rfl rfl) ?_)
    simp [g2]
  exact sif_skip (by rw [tor_f b1]; exact b2)
theorem told8 (b : Bool) : m_u_law_are_turnings_told_s8 (EV ns b (some (.lst (trows ns))) (some (dL ns)) (some (dS ns)) (some (dU ns)) (some (dT ns))) [m] = .rt (.bl true) [m] := by
  have t0 : xfn 1 (D_total) (xcons (xvar 1) (xpure [])) (EV ns b (some (.lst (trows ns))) (some (dL ns)) (some (dS ns)) (some (dU ns)) (some (dT ns))) [m] = .ok (.int ns.sum) [m] := fn_of (one_ok rfl) rfl (c_total ns hr)
  have hmx : xcall (f1 maxD) (xcons (xvar 1) (xpure [])) (EV ns b (some (.lst (trows ns))) (some (dL ns)) (some (dS ns)) (some (dU ns)) (some (dT ns))) [m] = .ok (.int (maxL ns)) [m] := by
    refine call_of (one_ok rfl) ?_
    simp [rowD, row_ne hr]
  refine ret_ok ?_
  by_cases h1 : 1 < maxL ns
  · exact or_t (op_of hmx rfl (by simp [h1]))
  · refine or_of_f (op_of hmx rfl (by simp [h1]; rfl)) ?_
    by_cases h2 : ns.sum < 1
    · exact or_t (op_of t0 rfl (by simp [h2]))
    · refine or_of_f (op_of t0 rfl (by simp [h2]; rfl)) ?_
      refine op_of (call_of (one_ok rfl) (len_row _)) t0 ?_
      have := leadT_count ns (fun x hx => by have := maxL_le hx; omega) (by omega)
      simp [nI, this]
end
theorem c_told (ns : List Int) (hr : Row ns) (m : MO) (hm : Wl m) : ∃ m', Wl m' ∧ ∀ e : Nv, callD D_u_law_are_turnings_told [.ref 0, .tup (iD ns)] e [m] = .ok (.bl true) [m'] := by
  obtain ⟨d, m', w, d0, d1, q⟩ := c_draw m hm 2 (by decide) (by decide)
  refine ⟨m', w, fun e => callD1 (i := 0) rfl (by simp [argG, refsB]) rfl hm.mo (runF_w (st := []) ?_ w rfl) w.mo rfl⟩
  have t1 : m_u_law_are_turnings_told_s1 [some (.ref 0), some (rowD ns), none, none, none, none, none, none, none, none, none, none] [m] = .nx (EV ns (decide (d = 0)) none none none none none) [m'] := by
    refine par2_ok (call_of (one_ok rfl) (len_row ns)) (op_of (fn_of (two_ok rfl rfl) rfl (q _ [])) rfl ?_)
    simp
  show m_u_law_are_turnings_told [some (.ref 0), some (rowD ns), none, none, none, none, none, none, none, none, none, none] [m] = _
  exact seq_of t1 (seq_of (told2 ns hr m' _) (seq_of (told3 ns hr m' _) (seq_of (told4 ns hr m' _) (seq_of (told5 ns hr m' _) (seq_of (told6 ns hr m' _) (seq_of (told7 ns hr m' _) (told8 ns hr m' _)))))))
end LS
end
section
set_option maxRecDepth 100000
set_option maxHeartbeats 4000000
namespace LS
open PySem PySem.Spec L2 CY
variable {e : Nv} {st : Store}
/-! ## forests as data -/
def toD : Fo → List D
  | .nil => []
  | .cons a b => .tup (toD a) :: toD b
def knF : Fo → List Fo
  | .nil => []
  | .cons a b => a :: (knF a ++ knF b)
abbrev fkD (a : Fo) : D := .tup (toD a)
def knots (f : Fo) : List D := (knF f).map fkD
theorem toD_len : ∀ f : Fo, (toD f).length = f.len
  | .nil => rfl
  | .cons a b => by simp [toD, Fo.len, toD_len b]; omega
theorem knF_len : ∀ f : Fo, (knF f).length = f.size
  | .nil => rfl
  | .cons a b => by simp [knF, Fo.size, knF_len a, knF_len b]; omega
theorem knF_row : ∀ f : Fo, (knF f).map (fun a => (a.len : Int) - 1) = f.row
  | .nil => rfl
  | .cons a b => by simp [knF, Fo.row, knF_row a, knF_row b]
theorem knF_size : ∀ f : Fo, ∀ a ∈ knF f, a.size < f.size
  | .nil, a, h => by simp [knF] at h
  | .cons x y, a, h => by
    simp only [knF, List.mem_cons, List.mem_append] at h
    simp only [Fo.size]
    rcases h with rfl | h | h
    · omega
    · have := knF_size x a h; omega
    · have := knF_size y a h; omega
theorem ok_toD : ∀ (f : Fo) (n : Nat), n ≤ 100 → f.size ≤ n → (toD f).all (okD (n + 1)) = true
  | .nil, n, _, _ => rfl
  | .cons a b, n, hn, h => by
    simp only [Fo.size] at h
    obtain ⟨k, rfl⟩ : ∃ k, n = k + 1 := ⟨n - 1, by omega⟩
    have h1 := ok_toD a k (by omega) (by omega)
    have h2 := ok_toD b (k + 1) hn (by omega)
    have hl : (toD a).length ≤ LIM := by
      have := a.len_size
      rw [toD_len]
      simp [LIM]
      omega
    exact okD_cons (okD_tup hl h1) h2
theorem ok20 (f : Fo) (h : f.size ≤ 15) : (toD f).all (okD 20) = true := ok_toD f 19 (by decide) (by omega)
theorem ok20k (a : Fo) (h : a.size ≤ 14) : okD 20 (fkD a) = true := by
  have hl : (toD a).length ≤ LIM := by
    have := a.len_size
    rw [toD_len]
    simp [LIM]
    omega
  exact okD_tup hl (ok_toD a 18 (by decide) (by omega))
theorem refs_toD : ∀ (f : Fo) (n : Nat), refsBs n (toD f) = true
  | .nil, _ => rfl
  | .cons a b, n => by simp [toD, refsBs, refsB, refs_toD a n, refs_toD b n]
theorem refs_map {α : Type} (g : α → D) (h : ∀ a n, refsB n (g a) = true) (n : Nat) : ∀ l : List α, refsBs n (l.map g) = true
  | [] => rfl
  | x :: r => by simp [refsBs, h, refs_map g h n r]
theorem refs_fkD (a : Fo) (n : Nat) : refsB n (fkD a) = true := by simp [refsB, refs_toD]
theorem refs_knots (f : Fo) (n : Nat) : refsBs n (knots f) = true := refs_map _ refs_fkD n _
theorem toD_foOf : ∀ l : List Fo, toD (foOf l) = l.map fkD
  | [] => rfl
  | a :: r => by simp [foOf, toD, toD_foOf r]
/-! ## a list of trees beside none -/
theorem shape_of {ps : List PyData} (h : PyData.canLayAll0 ps = true) (hd : PyData.depthAll ps ≤ 20) : SeqAt.shaped (.list ps) = true := by
  unfold SeqAt.shaped
  rw [show PyData.canLay0 (.list ps) = true by simp [PyData.canLay0, h], Bool.true_and]
  refine decide_eq_true ?_
  simp [PyData.depth]
  omega
theorem eqO_some {st : Store} {x : D} {ds : List D} (hx : pyOf st x = (pyDs ds).map .list) (h : ds.all (okD 20) = true) : eqO st x (.lst []) = some (decide (ds = [])) := by
  obtain ⟨ps, h1, h2, h3, _⟩ := okDs_py 20 ds h
  have sh := shape_of h2 h3
  have sh0 : SeqAt.shaped (.list []) = true := by decide
  have e0 : pyOf st (.lst []) = some (.list []) := rfl
  unfold eqO
  rw [hx, h1, e0]
  simp only [Option.map_some, sh, sh0, Bool.and_self, if_true]
  cases ds with
  | nil =>
    cases h1
    rfl
  | cons d r =>
    unfold pyDs at h1
    split at h1
    · cases h1
      simp [PyData.eqv, PyData.eqvAll]
    · cases h1
theorem eqO_nilL (st : Store) {ds : List D} (h : ds.all (okD 20) = true) : eqO st (.lst ds) (.lst []) = some (decide (ds = [])) := eqO_some rfl h
theorem eqO_nilR {st : Store} {i : Nat} {ds : List D} (hi : st[i]? = some (.lst ds)) (h : ds.all (okD 20) = true) : eqO st (.ref i) (.lst []) = some (decide (ds = [])) := eqO_some (by simp [pyOf, hi]) h
theorem all_app {a b : List D} (h : a.all (okD 20) = true) (h2 : b.all (okD 20) = true) : (a ++ b).all (okD 20) = true := by simp [List.all_append, h, h2]
theorem all_rev {a : List D} (h : a.all (okD 20) = true) : a.reverse.all (okD 20) = true := by simpa using h
/-! ## the law's own rows of trees -/
theorem b_trow (x0 x3 : Option D) (a : Fo) (R : List D) (found : List Int) (hR : R.all (okD 20) = true) (ha : a.size ≤ 14) (hl : R.length ≤ 200) (hf : found.length ≤ 200) :
    m_u_law_tree_row_b1 [x0, some (.lst (fkD a :: R)), some (.ref 0), x3] [.lst (iD found)] = .nx [x0, some (.lst (toD a ++ R)), some (.ref 0), x3] [.lst (iD (found ++ [(a.len : Int) - 1]))] := by
  have hq := eqO_nilL [.lst (iD found)] (ds := fkD a :: R) (okD_cons (ok20k a ha) hR)
  have hlen := toD_len a
  have hs := a.len_size
  have h1 : found.length < LIM := by simp [LIM]; omega
  have h2 : (toD a).length + R.length ≤ LIM := by simp [LIM]; omega
  have hc : cutD (fkD a :: R) (some 1) none = R := by
    have := cut_from (fkD a :: R) 1
    simpa using this
  have a1 : xop ixD (xvar 1) (xpure (.int 0)) [x0, some (.lst (fkD a :: R)), some (.ref 0), x3] [.lst (iD found)] = .ok (fkD a) [.lst (iD found)] := by simp
  have a1' : xop ixD (xvar 1) (xpure (.int 0)) [x0, some (.lst (fkD a :: R)), some (.ref 0), x3] [.lst (iD (found ++ [(a.len : Int) - 1]))] = .ok (fkD a) [.lst (iD (found ++ [(a.len : Int) - 1]))] := by simp
  have a2 : xop subD (xcall (f1 lenD) (xcons (xop ixD (xvar 1) (xpure (.int 0))) (xpure []))) (xpure (.int 1)) [x0, some (.lst (fkD a :: R)), some (.ref 0), x3] [.lst (iD found)] = .ok (.int ((a.len : Int) - 1)) [.lst (iD found)] :=
    op_of (x := .int (a.len : Int)) (y := .int 1) (call_of (one_ok a1) (by simp [hlen])) rfl rfl
  have a3 : xappend (xvar 2) (xop subD (xcall (f1 lenD) (xcons (xop ixD (xvar 1) (xpure (.int 0))) (xpure []))) (xpure (.int 1))) [x0, some (.lst (fkD a :: R)), some (.ref 0), x3] [.lst (iD found)] = .ok .non [.lst (iD (found ++ [(a.len : Int) - 1]))] := by
    have := app_ok (s0 := [.lst (iD found)]) (k := 0) (mo := xvar 2) (e := [x0, some (.lst (fkD a :: R)), some (.ref 0), x3]) rfl rfl a2 rfl (by rw [iD_len]; exact h1)
    rw [this, iD_app]
    rfl
  have a4 : xop addD (xcall (f1 listD) (xcons (xop ixD (xvar 1) (xpure (.int 0))) (xpure []))) (xslice (xvar 1) (xpart (xpure (.int 1))) (xpure none)) [x0, some (.lst (fkD a :: R)), some (.ref 0), x3] [.lst (iD (found ++ [(a.len : Int) - 1]))] = .ok (.lst (toD a ++ R)) [.lst (iD (found ++ [(a.len : Int) - 1]))] := by
    exact op_of (x := .lst (toD a)) (y := .lst R) (call_of (one_ok a1') rfl) (by simp [hc]) (addL_ok h2)
  unfold m_u_law_tree_row_b1
  rw [sif_t (st' := [.lst (iD found)]) (bool_of (op_of rfl (lst_ok nil_ok (by simp [LIM])) (by rw [ne_ap, hq]; rfl)))]
  exact seq_of (drop_ok a3) (set_ok a4)
theorem b_trow0 (x0 x3 : Option D) (found : List Int) : m_u_law_tree_row_b1 [x0, some (.lst []), some (.ref 0), x3] [.lst (iD found)] = .nx [x0, some (.lst []), some (.ref 0), x3] [.lst (iD found)] := by
  have hq := eqO_nilL [.lst (iD found)] (ds := []) rfl
  unfold m_u_law_tree_row_b1
  exact sif_skip (bool_of (op_of rfl (lst_ok nil_ok (by simp [LIM])) (by rw [ne_ap, hq]; rfl)))
theorem lp_trow (items : List D) (x0 : Option D) : ∀ (f : Fo) (W : List D) (found : List Int) (x3 : Option D) (laps rest : List D), W.all (okD 20) = true → f.size ≤ 15 → W.length + f.size ≤ 200 → found.length + f.size ≤ 200 → laps.length = f.size →
    ∃ y3, sloop none items (gname 3) m_u_law_tree_row_b1 (laps ++ rest) [x0, some (.lst (toD f ++ W)), some (.ref 0), x3] [.lst (iD found)] = sloop none items (gname 3) m_u_law_tree_row_b1 rest [x0, some (.lst W), some (.ref 0), y3] [.lst (iD (found ++ f.row))]
  | .nil, W, found, x3, laps, rest, _, _, _, _, hl => by
    have : laps = [] := List.eq_nil_of_length_eq_zero hl
    subst this
    exact ⟨x3, by simp [toD, Fo.row]⟩
  | .cons a b, W, found, x3, laps, rest, hW, hs, h1, h2, hl => by
    simp only [Fo.size] at hs h1 h2 hl
    have hb := toD_len b
    have hbs := b.len_size
    cases laps with
    | nil => simp at hl; omega
    | cons l r =>
      obtain ⟨la, lb, rfl, hla⟩ : ∃ la lb, r = la ++ lb ∧ la.length = a.size := ⟨r.take a.size, r.drop a.size, (List.take_append_drop _ _).symm, by rw [List.length_take]; simp at hl; omega⟩
      have hlb : lb.length = b.size := by simp at hl; omega
      have okb := ok20 b (by omega)
      obtain ⟨y3, q1⟩ := lp_trow items x0 a (toD b ++ W) (found ++ [(a.len : Int) - 1]) (some l) la (lb ++ rest) (all_app okb hW) (by omega) (by simp; omega) (by simp; omega) hla
      obtain ⟨z3, q2⟩ := lp_trow items x0 b W (found ++ [(a.len : Int) - 1] ++ a.row) y3 lb rest hW (by omega) (by omega) (by simp [a.row_len]; omega) hlb
      refine ⟨z3, ?_⟩
      have st1 := b_trow x0 (some l) a (toD b ++ W) found (all_app okb hW) (by omega) (by simp; omega) (by omega)
      rw [List.cons_append, sloop_cons (e1 := [x0, some (.lst (fkD a :: (toD b ++ W))), some (.ref 0), some l]) rfl rfl st1, List.append_assoc, q1, q2]
      simp [Fo.row]
theorem lp_idle (items : List D) (x0 : Option D) (found : List Int) : ∀ (laps : List D) (x3 : Option D), ∃ y3, sloop none items (gname 3) m_u_law_tree_row_b1 laps [x0, some (.lst []), some (.ref 0), x3] [.lst (iD found)] = .nx [x0, some (.lst []), some (.ref 0), y3] [.lst (iD found)]
  | [], x3 => ⟨x3, sloop_nil rfl⟩
  | l :: r, x3 => by
    obtain ⟨y3, q⟩ := lp_idle items x0 found r (some l)
    exact ⟨y3, by rw [sloop_cons (e1 := [x0, some (.lst []), some (.ref 0), some l]) rfl rfl (b_trow0 x0 (some l) found), q]⟩
theorem c_law_tree_row (a : Fo) (h : a.size ≤ 7) : callD D_u_law_tree_row [fkD a] e st = .ok (rowD a.trow) st := by
  obtain ⟨y3, q1⟩ := lp_trow (rangeL 0 8) (some (fkD a)) (.cons a .nil) [] [] none ((rangeL 0 8).take (1 + a.size)) ((rangeL 0 8).drop (1 + a.size)) rfl (by simp [Fo.size]; omega) (by simp [Fo.size]; omega) (by simp [Fo.size]; omega) (by simp [Fo.size, rangeL_len]; omega)
  rw [List.take_append_drop] at q1
  obtain ⟨z3, q2⟩ := lp_idle (rangeL 0 8) (some (fkD a)) ([] ++ (Fo.cons a .nil).row) ((rangeL 0 8).drop (1 + a.size)) y3
  rw [q2] at q1
  have r8 : xrange1 (xpure (.int 8)) [some (fkD a), some (.lst [fkD a]), some (.ref 0), none] [.lst []] = .ok (rangeL 0 8, none) [.lst []] := range1_of (j := 8) rfl rfl
  refine callD0 rfl (by simp [refsBs, refsB, refs_toD]) (runF_rt (st' := [.lst (iD a.trow)]) (?_ : m_u_law_tree_row [some (fkD a), none, none, none] [] = .rt (rowD a.trow) [.lst (iD a.trow)]) (by simp [refsB, rowD])) (by simp [refsB, rowD])
  refine seq_of (par2_ok (lst_ok (one_ok rfl) (by simp [LIM])) (?_ : xlstM (xpure []) _ _ = .ok (.ref 0) [.lst []])) (seq_of (for_of r8 q1) (ret_ok (tu_of rfl ?_)))
  · rfl
  · rfl
end LS
end
section
set_option maxRecDepth 100000
set_option maxHeartbeats 4000000
namespace LS
open PySem PySem.Spec L2 CY
variable {e : Nv} {st : Store}
/-! ## knots -/
abbrev KE (x0 x4 : Option D) : Nv := [x0, some (.int 8), some (.ref 0), some (.ref 1), x4]
theorem k_cond (x0 x4 : Option D) (W K : List D) (hW : W.all (okD 20) = true) (hK : K.length ≤ 8) : m_knots_up_to_c1 (KE x0 x4) [.lst W, .lst K] = .ok (!decide (W = [])) [.lst W, .lst K] := by
  have hq := eqO_nilR (st := [.lst W, .lst K]) (i := 0) rfl hW
  have h8 : (K.length : Int) ≤ 8 := by omega
  have a1 : xbool (xop neD (xvar 2) (xlst (xpure []))) (KE x0 x4) [.lst W, .lst K] = .ok (!decide (W = [])) [.lst W, .lst K] := bool_of (op_of rfl (lst_ok nil_ok (by simp [LIM])) (by rw [ne_ap, hq]))
  have a2 : xbool (xop leD (xcall (f1 lenD) (xcons (xvar 3) (xpure []))) (xvar 1)) (KE x0 x4) [.lst W, .lst K] = .ok true [.lst W, .lst K] := bool_of (op_of (x := .int (K.length : Int)) (y := .int 8) (call_of (one_ok rfl) rfl) rfl (by simp [h8]))
  unfold m_knots_up_to_c1
  cases h : decide (W = []) with
  | true => rw [h] at a1; rw [tand_f a1]; rfl
  | false => rw [h] at a1; rw [tand_t a1, a2]; rfl
theorem k_step (x0 x4 : Option D) (W K : List D) (a : Fo) (hW : W.length ≤ 200) (hK : K.length ≤ 8) (ha : a.size ≤ 14) :
    m_knots_up_to_b1 (KE x0 x4) [.lst (W ++ [fkD a]), .lst K] = .nx (KE x0 (some (fkD a))) [.lst (W ++ (toD a).reverse), .lst (K ++ [fkD a])] := by
  have hlen := toD_len a
  have hs := a.len_size
  have h1 : xpop (xvar 2) (KE x0 x4) [.lst (W ++ [fkD a]), .lst K] = .ok (fkD a) [.lst W, .lst K] := pop_ok (k := 0) (s1 := [.lst (W ++ [fkD a]), .lst K]) (xs := W) (y := fkD a) rfl rfl
  have h2 : xappend (xvar 3) (xvar 4) (KE x0 (some (fkD a))) [.lst W, .lst K] = .ok .non [.lst W, .lst (K ++ [fkD a])] := app_ok (k := 1) (s1 := [.lst W, .lst K]) (s2 := [.lst W, .lst K]) (xs := K) (ys := K) (y := fkD a) rfl rfl rfl rfl (by simp [LIM]; omega)
  have h3 : xextend (xvar 2) (xrev (xcall (f1 listD) (xcons (xvar 4) (xpure [])))) (KE x0 (some (fkD a))) [.lst W, .lst (K ++ [fkD a])] = .ok .non [.lst (W ++ (toD a).reverse), .lst (K ++ [fkD a])] := by
    exact ext_ok (k := 0) (s1 := [.lst W, .lst (K ++ [fkD a])]) (s2 := [.lst W, .lst (K ++ [fkD a])]) (xs := W) (ys := W) (zs := (toD a).reverse) (y := .lst (toD a).reverse) rfl rfl (rev_of (call_of (one_ok rfl) rfl)) rfl rfl (by simp [LIM]; omega)
  have h4 : xtru (xcall (f2 isiD) (xcons (xvar 4) (xcons (xpure (.ty "tuple")) (xpure [])))) (KE x0 (some (fkD a))) [.lst W, .lst (K ++ [fkD a])] = .ok true [.lst W, .lst (K ++ [fkD a])] := tru_ok (call_of (two_ok rfl rfl) rfl)
  exact seq_of (set_ok h1) (seq_of (drop_ok h2) ((sif_t h4).trans (drop_ok h3)))
theorem lp_knots (x0 : Option D) : ∀ (f : Fo) (W K : List D) (x4 : Option D) (n : Nat), W.all (okD 20) = true → f.size ≤ 14 → W.length + f.size ≤ 200 → K.length + f.size ≤ 8 →
    ∃ y4, swhile m_knots_up_to_c1 m_knots_up_to_b1 (n + f.size) (KE x0 x4) [.lst (W ++ (toD f).reverse), .lst K] = swhile m_knots_up_to_c1 m_knots_up_to_b1 n (KE x0 y4) [.lst W, .lst (K ++ knots f)]
  | .nil, W, K, x4, n, _, _, _, _ => ⟨x4, by simp [toD, knots, knF, Fo.size]⟩
  | .cons a b, W, K, x4, n, hW, hs, h1, h2 => by
    simp only [Fo.size] at hs h1 h2
    have hb := toD_len b
    have hbs := b.len_size
    have okb := ok20 b (by omega)
    have okW : (W ++ (toD b).reverse).all (okD 20) = true := all_app hW (all_rev okb)
    obtain ⟨y4, q1⟩ := lp_knots x0 a (W ++ (toD b).reverse) (K ++ [fkD a]) (some (fkD a)) (n + b.size) okW (by omega) (by simp; omega) (by simp; omega)
    obtain ⟨z4, q2⟩ := lp_knots x0 b W (K ++ [fkD a] ++ knots a) y4 n hW (by omega) (by omega) (by simp [knots, knF_len]; omega)
    refine ⟨z4, ?_⟩
    have e1 : W ++ (toD (.cons a b)).reverse = W ++ (toD b).reverse ++ [fkD a] := by simp [toD]
    have e2 : n + (Fo.cons a b).size = (n + b.size + a.size) + 1 := by simp only [Fo.size]; omega
    have okA : (W ++ (toD b).reverse ++ [fkD a]).all (okD 20) = true := all_app okW (okD_cons (ok20k a (by omega)) okD_nil)
    have c1 := k_cond x0 x4 (W ++ (toD b).reverse ++ [fkD a]) K okA (by omega)
    rw [show decide (W ++ (toD b).reverse ++ [fkD a] = []) = false by simp] at c1
    rw [e1, e2, while_t c1 (k_step x0 x4 _ K a (by simp; omega) (by omega) (by omega)) q1, q2]
    simp [knots, knF]
theorem c_knots (a : Fo) (h : a.size ≤ 7) : callD D_knots_up_to [fkD a, .int 8] e st = .ok (.lst (knots (.cons a .nil))) st := by
  obtain ⟨y4, q⟩ := lp_knots (some (fkD a)) (.cons a .nil) [] [] none (1000000 - (1 + a.size)) rfl (by simp only [Fo.size]; omega) (by simp only [Fo.size, List.length_nil]; omega) (by simp only [Fo.size, List.length_nil]; omega)
  have e1 : 1000000 - (1 + a.size) + (Fo.cons a .nil).size = 1000000 := by simp only [Fo.size]; omega
  rw [e1] at q
  have c1 := k_cond (some (fkD a)) y4 [] ([] ++ knots (.cons a .nil)) rfl (by simp [knots, knF_len, Fo.size]; omega)
  have e2 : 1000000 - (1 + a.size) = (999999 - (1 + a.size)) + 1 := by omega
  rw [e2, while_f c1] at q
  refine callD0 rfl (by simp [refsBs, refsB, refs_toD]) (runF_ref (k := 1) (xs := knots (.cons a .nil)) (st' := [.lst [], .lst (knots (.cons a .nil))]) (?_ : m_knots_up_to [some (fkD a), some (.int 8), none, none, none] [] = .rt (.ref 1) [.lst [], .lst (knots (.cons a .nil))]) rfl (refs_knots _ _)) (by simpa [refsB] using refs_knots (.cons a .nil) 0)
  have p : spar2 2 3 (xlstM (xcons (xvar 0) (xpure []))) (xlstM (xpure [])) [some (fkD a), some (.int 8), none, none, none] [] = .nx (KE (some (fkD a)) none) [.lst [fkD a], .lst []] := par2_ok (s1 := [.lst [fkD a]]) rfl rfl
  exact seq_of p (seq_of q rfl)
theorem knots_is (f : Fo) (j : Nat) (E : Nv) (s : Store) (me : XM D) (g : Fo → D) (hj : f.size ≤ 100) (h : ∀ a ∈ knF f, me (E.set j (some (fkD a))) s = .ok (g a) s) : cloop none (knots f) (gname j) (xpure true) me E (knots f) [] s = .ok ((knF f).map g) s := by
  have := cl_map (e := E) (st := s) (src := none) (items := knots f) (gt := gname j) (mt := xpure true) (me := me) fkD (fun _ => true) g rfl (knF f) (fun a ha => ⟨_, rfl, rfl, fun _ => h a ha⟩) (by rw [knF_len]; omega)
  rw [filter_yes] at this
  exact this
theorem c_is_tree_by (a : Fo) (h : a.size ≤ 7) : callD D_is_tree_by [fkD a] e st = .ok (.bl true) st := by
  have k1 := knots_is (.cons a .nil) 2 [some (fkD a), some (.lst (knots (.cons a .nil))), none] [] m_is_tree_by_e1 (fun _ => .bl true) (by simp only [Fo.size]; omega) fun b _ => call_of (two_ok rfl rfl) rfl
  rw [List.map_const', knF_len] at k1
  have hl : ((knots (.cons a .nil)).length : Int) ≤ 8 := by simp [knots, knF_len, Fo.size]; omega
  have a1 : xop leD (xcall (f1 lenD) (xcons (xvar 1) (xpure []))) (xpure (.int 8)) [some (fkD a), some (.lst (knots (.cons a .nil))), none] [] = .ok (.bl true) [] := op_of (x := .int ((knots (.cons a .nil)).length : Int)) (y := .int 8) (call_of (one_ok rfl) rfl) rfl (by simp [hl])
  refine callD0 rfl (by simp [refsBs, refsB, refs_toD]) (runF_rt (st' := []) (?_ : m_is_tree_by [some (fkD a), none, none] [] = .rt (.bl true) []) rfl) rfl
  exact seq_of (set_ok (fn_of (two_ok rfl rfl) rfl (c_knots a h))) (ret_ok ((and_t a1).trans (all_yes (comp_of (walk_of rfl rfl) k1))))
theorem c_is_tree (a : Fo) (h : a.size ≤ 7) : callD D_is_tree [fkD a] e st = .ok (.bl true) st :=
  callD0 rfl (by simp [refsBs, refsB, refs_toD]) (runF_rt (st' := []) (ret_ok (fn_of (one_ok rfl) rfl (c_is_tree_by a h))) rfl) rfl
theorem c_row_of (a : Fo) (h : a.size ≤ 7) : callD D_row_of [fkD a] e st = .ok (rowD a.trow) st := by
  have ck : ∀ (e : Nv) (st : Store), callD D_check_tree [fkD a] e st = .ok .non st := fun e st => callD0 rfl (by simp [refsBs, refsB, refs_toD]) (runF_nx (e' := [some (fkD a)]) (st' := []) (sif_skip (tnot_ok (tru_ok (fn_of (one_ok rfl) rfl (c_is_tree_by a h)))))) rfl
  have rb : ∀ (e : Nv) (st : Store), callD D_row_of_by [fkD a] e st = .ok (rowD a.trow) st := fun e st => by
    have k1 := knots_is (.cons a .nil) 1 [some (fkD a), none] [] m_row_of_by_e1 (fun b => .int ((b.len : Int) - 1)) (by simp only [Fo.size]; omega) fun b _ => op_of (x := .int (b.len : Int)) (y := .int 1) (call_of (one_ok rfl) (by simp [toD_len])) rfl rfl
    have e1 : (knF (.cons a .nil)).map (fun b => D.int ((b.len : Int) - 1)) = iD a.trow := by
      rw [Fo.trow, ← knF_row]
      simp [iD]
    rw [e1] at k1
    refine callD0 rfl (by simp [refsBs, refsB, refs_toD]) (runF_rt (st' := []) (?_ : m_row_of_by [some (fkD a), none] [] = .rt (rowD a.trow) []) (by simp [refsB, rowD])) (by simp [refsB, rowD])
    exact ret_ok (tu_of (comp_of (walk_of (fn_of (two_ok rfl rfl) rfl (c_knots a h)) rfl) k1) rfl)
  exact callD0 rfl (by simp [refsBs, refsB, refs_toD]) (runF_rt (st' := []) (seq_of (drop_ok (fn_of (one_ok rfl) rfl (ck _ _))) (ret_ok (fn_of (one_ok rfl) rfl (rb _ _)))) (by simp [refsB, rowD])) (by simp [refsB, rowD])
/-! ## from rows to trees -/
abbrev TE5 (x0 : Option D) (made : List D) (x2 x3 x4 : Option D) : Nv := [x0, some (.lst made), x2, x3, x4]
theorem t_step (x0 x3 x4 : Option D) (P : List D) (a : Fo) (hP : P.length ≤ 200) (ha : a.size ≤ 15) :
    m_tree_of_by_b1 (TE5 x0 (P ++ (toD a).reverse) (some (.int ((a.len : Int) - 1))) x3 x4) [] = .nx (TE5 x0 (P ++ [fkD a]) (some (.int ((a.len : Int) - 1))) (some (.int (a.len : Int))) (some (.lst (toD a)))) [] := by
  have hlen := toD_len a
  have hs := a.len_size
  have n1 : ∀ x4 : Option D, xop subD (xcall (f1 lenD) (xcons (xvar 1) (xpure []))) (xvar 3) (TE5 x0 (P ++ (toD a).reverse) (some (.int ((a.len : Int) - 1))) (some (.int (a.len : Int))) x4) [] = .ok (.int (P.length : Int)) [] := fun x4 =>
    op_of (x := .int ((P ++ (toD a).reverse).length : Int)) (y := .int (a.len : Int)) (call_of (one_ok rfl) rfl) rfl (by simp [hlen])
  have s1 : xop addD (xvar 2) (xpure (.int 1)) (TE5 x0 (P ++ (toD a).reverse) (some (.int ((a.len : Int) - 1))) x3 x4) [] = .ok (.int (a.len : Int)) [] := op_of (x := .int ((a.len : Int) - 1)) (y := .int 1) rfl rfl (by simp)
  have s2 := sl_from (xs := P ++ (toD a).reverse) (k := P.length) (m := xvar 1) (a := xop subD (xcall (f1 lenD) (xcons (xvar 1) (xpure []))) (xvar 3)) (e := TE5 x0 (P ++ (toD a).reverse) (some (.int ((a.len : Int) - 1))) (some (.int (a.len : Int))) x4) (s0 := []) rfl (n1 x4)
  have s2' := revA_l s2
  rw [show (List.drop P.length (P ++ (toD a).reverse)).reverse = toD a by simp] at s2'
  have s3 := sl_to (xs := P ++ (toD a).reverse) (k := P.length) (m := xvar 1) (a := xop subD (xcall (f1 lenD) (xcons (xvar 1) (xpure []))) (xvar 3)) (e := TE5 x0 (P ++ (toD a).reverse) (some (.int ((a.len : Int) - 1))) (some (.int (a.len : Int))) (some (.lst (toD a)))) (s0 := []) rfl (n1 (some (.lst (toD a))))
  rw [show List.take P.length (P ++ (toD a).reverse) = P by simp] at s3
  have s4 := star_ok (xs := P) s3 rfl (one_ok (tu_of (m := xvar 4) (d := .lst (toD a)) (r := .ok (fkD a) []) rfl rfl))
  exact seq_of (set_ok s1) (seq_of (set_ok s2') (set_ok (lst_ok s4 (by simp [LIM]; omega))))
theorem lp_tree (items : List D) (x0 : Option D) : ∀ (f : Fo) (P : List D) (x2 x3 x4 : Option D) (rest : List D), f.size ≤ 15 → P.length + f.size ≤ 200 →
    ∃ y2 y3 y4, sloop none items (gname 2) m_tree_of_by_b1 (iD f.row.reverse ++ rest) (TE5 x0 P x2 x3 x4) [] = sloop none items (gname 2) m_tree_of_by_b1 rest (TE5 x0 (P ++ (toD f).reverse) y2 y3 y4) []
  | .nil, P, x2, x3, x4, rest, _, _ => ⟨x2, x3, x4, by simp [Fo.row, toD]⟩
  | .cons a b, P, x2, x3, x4, rest, hs, hp => by
    simp only [Fo.size] at hs hp
    have hb := toD_len b
    have hbs := b.len_size
    obtain ⟨y2, y3, y4, q1⟩ := lp_tree items x0 b P x2 x3 x4 (iD a.row.reverse ++ (.int ((a.len : Int) - 1) :: rest)) (by omega) (by omega)
    obtain ⟨z2, z3, z4, q2⟩ := lp_tree items x0 a (P ++ (toD b).reverse) y2 y3 y4 (.int ((a.len : Int) - 1) :: rest) (by omega) (by simp; omega)
    refine ⟨some (.int ((a.len : Int) - 1)), some (.int (a.len : Int)), some (.lst (toD a)), ?_⟩
    · have e1 : iD (Fo.cons a b).row.reverse ++ rest = iD b.row.reverse ++ (iD a.row.reverse ++ (.int ((a.len : Int) - 1) :: rest)) := by simp [Fo.row, iD]
      have e2 : P ++ (toD (.cons a b)).reverse = P ++ (toD b).reverse ++ [fkD a] := by simp [toD]
      rw [e1, q1, q2, e2]
      exact sloop_cons (e1 := TE5 x0 (P ++ (toD b).reverse ++ (toD a).reverse) (some (.int ((a.len : Int) - 1))) z3 z4) rfl rfl (t_step x0 z3 z4 (P ++ (toD b).reverse) a (by simp; omega) (by omega))
theorem c_tree_of_by (a : Fo) (h : a.size ≤ 7) : callD D_tree_of_by [rowD a.trow] e st = .ok (fkD a) st := by
  obtain ⟨y2, y3, y4, q⟩ := lp_tree (iD a.trow.reverse) (some (rowD a.trow)) (.cons a .nil) [] none none none [] (by simp only [Fo.size]; omega) (by simp only [Fo.size, List.length_nil]; omega)
  rw [List.append_nil, sloop_nil rfl] at q
  have r1 : xwalk (xrevA (xvar 0)) (TE5 (some (rowD a.trow)) [] none none none) [] = .ok (iD a.trow.reverse, none) [] := by
    have := revA_t (e := TE5 (some (rowD a.trow)) [] none none none) (s0 := []) (m := xvar 0) (xs := iD a.trow) rfl
    refine walk_of this ?_
    simp [seqSrc, seqOf, iD]
  refine callD0 rfl (by simp [refsBs, refsB, rowD]) (runF_rt (st' := []) (?_ : m_tree_of_by [some (rowD a.trow), none, none, none, none] [] = .rt (fkD a) []) (refs_fkD a _)) (refs_fkD a _)
  exact seq_of (set_ok (lst_ok nil_ok (by simp [LIM]))) (seq_of (for_of r1 q) (ret_ok (op_of (x := .lst [fkD a]) (y := .int 0) rfl rfl (by simp))))
end LS
end
section
set_option maxRecDepth 100000
set_option maxHeartbeats 4000000
namespace LS
open PySem PySem.Spec L2 CY
variable {e : Nv} {st : Store}
theorem par3_ok {i j k : Nat} {a b c : XM D} {x y z : D} {s0 s1 s2 s3 : Store} (h : a e s0 = .ok x s1) (h2 : b e s1 = .ok y s2) (h3 : c e s2 = .ok z s3) : spar3 i j k a b c e s0 = .nx (((e.set i (some x)).set j (some y)).set k (some z)) s3 := by
  unfold spar3
  rw [ap_sbind, h]
  simp only [ap_sbind, h2, h3]
theorem compM_of {mi : XM (List D × Option Nat)} {vs : List Nat} {g : MG} {mt : XM Bool} {me : XM D} {xs ds : List D} {src : Option Nat} {s0 s1 s2 : Store} (hi : mi e s0 = .ok (xs, src) s1) (hc : cloop src xs g mt me (wipeE e vs) xs [] s1 = .ok ds s2) : xcompM mi vs g mt me e s0 = .ok (.ref s2.length) (s2 ++ [.lst ds]) := by
  unfold xcompM xcompL
  rw [ap_bind, hi]
  simp only [hc]
theorem enumT_of {m : XM D} {xs : List D} {s0 s1 : Store} (h : m e s0 = .ok (.tup xs) s1) : xenum m e s0 = .ok (enumD 0 xs, none) s1 := by rw [ap_enum, h]; rfl
theorem cut_last (xs : List D) : cutD xs none (some (-1)) = xs.dropLast := by
  unfold cutD
  have h1 : HT.sIx xs.length 0 none = 0 := rfl
  have h2 : HT.sIx xs.length xs.length (some (-1)) = xs.length - 1 := by
    show (if (-1 : Int) < 0 then ((-1 : Int) + (xs.length : Int)).toNat else min (-1 : Int).toNat xs.length) = _
    rw [if_pos (by decide)]
    omega
  rw [h1, h2]
  simp [List.dropLast_eq_take]
/-! ## the law's own look at trees -/
abbrev IT (x0 : Option D) (line : List D) (many : Int) (x3 x4 : Option D) : Nv := [x0, some (.lst line), some (.int many), x3, x4]
theorem it_step (x0 x3 x4 : Option D) (a : Fo) (R : List D) (k : Nat) (hR : R.all (okD 20) = true) (ha : a.size ≤ 7) (hl : R.length ≤ 200) (hk : k + 1 ≤ 8) :
    m_u_law_is_tree_b1 (IT x0 (fkD a :: R) k x3 x4) [] = .nx (IT x0 (toD a ++ R) ((k + 1 : Nat) : Int) x3 (some (fkD a))) [] := by
  have hq := eqO_nilL [] (ds := fkD a :: R) (okD_cons (ok20k a (by omega)) hR)
  have hlen := toD_len a
  have hs := a.len_size
  have hc : cutD (fkD a :: R) (some 1) none = R := by
    have := cut_from (fkD a :: R) 1
    simpa using this
  have c0 : xbool (xop neD (xvar 1) (xlst (xpure []))) (IT x0 (fkD a :: R) k x3 x4) [] = .ok true [] := bool_of (op_of rfl (lst_ok nil_ok (by simp [LIM])) (by rw [ne_ap, hq]; rfl))
  have p1 : spar3 4 1 2 (xop ixD (xvar 1) (xpure (.int 0))) (xslice (xvar 1) (xpart (xpure (.int 1))) (xpure none)) (xop addD (xvar 2) (xpure (.int 1))) (IT x0 (fkD a :: R) k x3 x4) [] = .nx (IT x0 R ((k + 1 : Nat) : Int) x3 (some (fkD a))) [] :=
    par3_ok (x := fkD a) (y := .lst R) (z := .int ((k + 1 : Nat) : Int)) (s1 := []) (s2 := []) (by simp) (by simp [hc]) (by simp)
  have t1 : tnot (xtru (xcall (f2 isiD) (xcons (xvar 4) (xcons (xpure (.ty "tuple")) (xpure []))))) (IT x0 R ((k + 1 : Nat) : Int) x3 (some (fkD a))) [] = .ok false [] := tnot_ok (b := true) (tru_ok (call_of (two_ok rfl rfl) rfl))
  have n7 : ¬ (7 : Int) < (a.len : Int) := by omega
  have t2 : xbool (xop gtD (xcall (f1 lenD) (xcons (xvar 4) (xpure []))) (xpure (.int 7))) (IT x0 R ((k + 1 : Nat) : Int) x3 (some (fkD a))) [] = .ok false [] :=
    bool_of (s1 := []) (op_of (s1 := []) (s2 := []) (x := .int (a.len : Int)) (y := .int 7) (call_of (one_ok rfl) (by simp [hlen])) rfl (by simp [n7]))
  have n8 : ¬ (8 : Int) < ((k + 1 : Nat) : Int) := by omega
  have t3 : xbool (xop gtD (xvar 2) (xpure (.int 8))) (IT x0 R ((k + 1 : Nat) : Int) x3 (some (fkD a))) [] = .ok false [] := bool_of (op_of (x := .int ((k + 1 : Nat) : Int)) (y := .int 8) rfl rfl (by simp; omega))
  have a5 : xop addD (xcall (f1 listD) (xcons (xvar 4) (xpure []))) (xvar 1) (IT x0 R ((k + 1 : Nat) : Int) x3 (some (fkD a))) [] = .ok (.lst (toD a ++ R)) [] := op_of (x := .lst (toD a)) (y := .lst R) (call_of (one_ok rfl) rfl) rfl (addL_ok (by simp [LIM]; omega))
  unfold m_u_law_is_tree_b1
  refine (sif_t c0).trans (seq_of p1 (seq_of (sif_skip ?_) (set_ok a5)))
  rw [tor_f t1, tor_f t2, t3]
theorem it_idle (x0 x3 x4 : Option D) (k : Int) : m_u_law_is_tree_b1 (IT x0 [] k x3 x4) [] = .nx (IT x0 [] k x3 x4) [] := by
  have hq := eqO_nilL [] (ds := []) rfl
  unfold m_u_law_is_tree_b1
  exact sif_skip (bool_of (op_of rfl (lst_ok nil_ok (by simp [LIM])) (by rw [ne_ap, hq]; rfl)))
theorem lp_it (items : List D) (x0 : Option D) : ∀ (f : Fo) (W : List D) (k : Nat) (x3 x4 : Option D) (laps rest : List D), W.all (okD 20) = true → f.size ≤ 8 → W.length + f.size ≤ 200 → k + f.size ≤ 8 → laps.length = f.size →
    ∃ y3 y4, sloop none items (gname 3) m_u_law_is_tree_b1 (laps ++ rest) (IT x0 (toD f ++ W) k x3 x4) [] = sloop none items (gname 3) m_u_law_is_tree_b1 rest (IT x0 W ((k + f.size : Nat) : Int) y3 y4) []
  | .nil, W, k, x3, x4, laps, rest, _, _, _, _, hl => by
    have : laps = [] := List.eq_nil_of_length_eq_zero hl
    subst this
    exact ⟨x3, x4, by simp [toD, Fo.size]⟩
  | .cons a b, W, k, x3, x4, laps, rest, hW, hs, h1, h2, hl => by
    simp only [Fo.size] at hs h1 h2 hl
    have hb := toD_len b
    have hbs := b.len_size
    cases laps with
    | nil => simp at hl; omega
    | cons l r =>
      obtain ⟨la, lb, rfl, hla⟩ : ∃ la lb, r = la ++ lb ∧ la.length = a.size := ⟨r.take a.size, r.drop a.size, (List.take_append_drop _ _).symm, by rw [List.length_take]; simp at hl; omega⟩
      have hlb : lb.length = b.size := by simp at hl; omega
      have okb := ok20 b (by omega)
      obtain ⟨y3, y4, q1⟩ := lp_it items x0 a (toD b ++ W) (k + 1) (some l) (some (fkD a)) la (lb ++ rest) (all_app okb hW) (by omega) (by simp; omega) (by omega) hla
      obtain ⟨z3, z4, q2⟩ := lp_it items x0 b W (k + 1 + a.size) y3 y4 lb rest hW (by omega) (by omega) (by omega) hlb
      refine ⟨z3, z4, ?_⟩
      have st1 := it_step x0 (some l) x4 a (toD b ++ W) k (all_app okb hW) (by omega) (by simp; omega) (by omega)
      rw [List.cons_append, List.append_assoc]
      show sloop none items (gname 3) m_u_law_is_tree_b1 (l :: (la ++ (lb ++ rest))) (IT x0 (fkD a :: (toD b ++ W)) k x3 x4) [] = _
      rw [sloop_cons (e1 := IT x0 (fkD a :: (toD b ++ W)) k (some l) x4) rfl rfl st1, q1, q2]
      simp only [Fo.size]
      rw [show k + 1 + a.size + b.size = k + (1 + a.size + b.size) by omega]
theorem lp_itI (items : List D) (x0 : Option D) (k : Int) : ∀ (laps : List D) (x3 x4 : Option D), ∃ y3, sloop none items (gname 3) m_u_law_is_tree_b1 laps (IT x0 [] k x3 x4) [] = .nx (IT x0 [] k y3 x4) []
  | [], x3, x4 => ⟨x3, sloop_nil rfl⟩
  | l :: r, x3, x4 => by
    obtain ⟨y3, q⟩ := lp_itI items x0 k r (some l) x4
    exact ⟨y3, by rw [sloop_cons (e1 := IT x0 [] k (some l) x4) rfl rfl (it_idle x0 (some l) x4 k), q]⟩
theorem c_law_is_tree (a : Fo) (h : a.size ≤ 7) : callD D_u_law_is_tree [fkD a] e st = .ok (.bl true) st := by
  obtain ⟨y3, y4, q1⟩ := lp_it (rangeL 0 60) (some (fkD a)) (.cons a .nil) [] 0 none none ((rangeL 0 60).take (1 + a.size)) ((rangeL 0 60).drop (1 + a.size)) rfl (by simp only [Fo.size]; omega) (by simp only [Fo.size, List.length_nil]; omega) (by simp only [Fo.size]; omega) (by simp [Fo.size, rangeL_len]; omega)
  rw [List.take_append_drop] at q1
  obtain ⟨z3, q2⟩ := lp_itI (rangeL 0 60) (some (fkD a)) ((0 + (Fo.cons a .nil).size : Nat) : Int) ((rangeL 0 60).drop (1 + a.size)) y3 y4
  rw [q2] at q1
  have r8 : xrange1 (xpure (.int 60)) (IT (some (fkD a)) [fkD a] 0 none none) [] = .ok (rangeL 0 60, none) [] := range1_of (j := 60) rfl rfl
  refine callD0 rfl (by simp [refsBs, refsB, refs_toD]) (runF_rt (st' := []) (?_ : m_u_law_is_tree [some (fkD a), none, none, none, none] [] = .rt (.bl true) []) rfl) rfl
  have hq := eqO_nilL [] (ds := []) rfl
  have e1 : xop eqD (xvar 1) (xlst (xpure [])) (IT (some (fkD a)) [] ((0 + (Fo.cons a .nil).size : Nat) : Int) z3 y4) [] = .ok (.bl true) [] := op_of rfl (lst_ok nil_ok (by simp [LIM])) (by rw [eq_ap, hq]; rfl)
  have n9 : ((0 + (Fo.cons a .nil).size : Nat) : Int) < 9 := by simp only [Fo.size]; omega
  have e2 : ∀ z : Int, z < 9 → xop ltD (xvar 2) (xpure (.int 9)) (IT (some (fkD a)) [] z z3 y4) [] = .ok (.bl true) [] := fun z hz => op_of (x := .int z) (y := .int 9) rfl rfl (by simp [hz])
  exact seq_of (par2_ok (s1 := []) (lst_ok (one_ok rfl) (by simp [LIM])) rfl) (seq_of (for_of r8 q1) (ret_ok ((and_t e1).trans (e2 _ n9))))
/-! ## rows that are trees' -/
def pn (last : Nat) : Nat → List Int → List Int
  | _, [] => []
  | k, x :: r => if k < last ∧ x < 0 then (k : Int) :: pn last (k + 1) r else pn last (k + 1) r
def cN (last : Nat) : D → Bool
  | .tup [.int i, .int x] => decide (i < (last : Int)) && decide (x < 0)
  | _ => false
theorem pn_enum (last : Nat) : ∀ (l : List Int) (k : Nat), ((enumD k (iD l)).filter (cN last)).map fP = iD (pn last k l)
  | [], _ => rfl
  | x :: r, k => by
    have ih := pn_enum last r (k + 1)
    simp only [iD_cons, enumD, pn]
    by_cases h : k < last ∧ x < 0
    · rw [List.filter_cons_of_pos (by simp [cN, h]), if_pos h]
      simp [fP, ih]
    · rw [List.filter_cons_of_neg (by simp [cN]; omega), if_neg h, ih]
theorem pn_nil : ∀ (l : List Int) (k last : Nat), l ≠ [] → last = k + l.length - 1 → (pn last k l = [] ↔ l.dropLast.all (fun x => decide (0 ≤ x)) = true)
  | [], _, _, h, _ => absurd rfl h
  | [x], k, last, _, h => by
    have : ¬ k < last := by simp at h; omega
    simp [pn, this]
  | x :: y :: r, k, last, _, h => by
    have ih := pn_nil (y :: r) (k + 1) last (by simp) (by simp at h ⊢; omega)
    have hk : k < last := by simp at h; omega
    rw [pn]
    by_cases hx : x < 0
    · simp [hk, hx]
      intro z
      omega
    · rw [if_neg (by omega), ih]
      have : 0 ≤ x := by omega
      simp [this]
abbrev PA8 (x0 x1 x2 x3 : Option D) : Nv := [x0, x1, x2, x3, none, none, none, none]
theorem c_against (r : List Int) (hr : Row r) (hge : ∀ x ∈ r, -1 ≤ x) (hs : r.sum = -1) : callD D_places_against [rowD r] e st = .ok (.lst (iD (pn r.length 0 (sms r)))) st := by
  have hl := hr.2.1
  obtain ⟨t, ht⟩ := List.getLast?_eq_some_iff.mp (sm_last 0 r)
  rw [Int.zero_add, hs] at ht
  have htl : t.length = r.length := by
    have := congrArg List.length ht
    rw [sm_len] at this
    simp at this
    omega
  have s1 : sasg (xtup (xcons (xfn 1 (D_sums_by) (xcons (xvar 0) (xpure []))) (xcons (xcall (f1 lenD) (xcons (xvar 0) (xpure []))) (xpure [])))) (gtup 2 (gcons (gname 1) (gcons (gname 2) gnil))) (PA8 (some (rowD r)) none none none) [] = .nx (PA8 (some (rowD r)) (some (rowD (sms r))) (some (.int r.length)) none) [] :=
    asg_ok (d := .tup [rowD (sms r), .int r.length]) (tup_ok (two_ok (fn_of (one_ok rfl) rfl (c_sums r hl)) (call_of (one_ok rfl) (len_row r))) (by simp [LIM])) rfl
  have q2 := cloop_pure (src := none) (items := enumD 0 (iD r)) (gt := gtup 2 (gcons (gname 4) (gcons (gname 5) gnil))) (mt := m_places_against_t1) (me := m_places_against_e1) (e := PA8 (some (rowD r)) (some (rowD (sms r))) (some (.int r.length)) none) (st := []) (fun _ => false) (fun x => x) rfl (enumD 0 (iD r)) [] (by
    intro x hx
    obtain ⟨i, y, hy, _, rfl⟩ := mem_enumD hx
    obtain ⟨n, hn, rfl⟩ := mem_iD hy
    have := hge n hn
    have n1 : ¬ n < -1 := by omega
    exact ⟨_, rfl, bool_of (op_of (x := .int n) (y := .int (-1)) rfl rfl (by simp [n1])), fun z => nomatch z⟩) (by simp [enumD_len, LIM]; omega)
  rw [filter_no, List.map_nil, List.append_nil] at q2
  have s2 : xcompM (xenum (xvar 0)) [4, 5] (gtup 2 (gcons (gname 4) (gcons (gname 5) gnil))) m_places_against_t1 m_places_against_e1 (PA8 (some (rowD r)) (some (rowD (sms r))) (some (.int r.length)) none) [] = .ok (.ref 0) [.lst []] := compM_of (s2 := []) (ds := []) (enumT_of rfl) q2
  have q3 := cloop_pure (src := none) (items := enumD 0 (iD (sms r))) (gt := gtup 2 (gcons (gname 7) (gcons (gname 6) gnil))) (mt := m_places_against_t2) (me := xvar 7) (e := PA8 (some (rowD r)) (some (rowD (sms r))) (some (.int r.length)) (some (.ref 0))) (st := [.lst []]) (cN r.length) fP rfl (enumD 0 (iD (sms r))) [] (by
    intro x hx
    obtain ⟨i, y, hy, _, rfl⟩ := mem_enumD hx
    obtain ⟨n, hn, rfl⟩ := mem_iD hy
    refine ⟨_, rfl, ?_, fun _ => rfl⟩
    simp [m_places_against_t2, cN]
    by_cases h : i < r.length <;> simp [h]) (by simp [enumD_len, sms_len, LIM]; omega)
  rw [pn_enum, List.nil_append] at q3
  have s3 : xextend (xvar 3) (xcomp (xenum (xvar 1)) [7, 6] (gtup 2 (gcons (gname 7) (gcons (gname 6) gnil))) m_places_against_t2 (xvar 7)) (PA8 (some (rowD r)) (some (rowD (sms r))) (some (.int r.length)) (some (.ref 0))) [.lst []] = .ok .non [.lst ([] ++ iD (pn r.length 0 (sms r)))] := by
    have hpl : ∀ (l : List Int) (k last : Nat), (pn last k l).length ≤ l.length := by
      intro l
      induction l with
      | nil => intro k last; simp [pn]
      | cons x r ih =>
        intro k last
        have := ih (k + 1) last
        simp only [pn]
        split <;> simp <;> omega
    have := hpl (sms r) 0 r.length
    rw [sms_len] at this
    exact ext_ok (k := 0) (s1 := [.lst []]) (s2 := [.lst []]) (xs := []) (ys := []) (zs := iD (pn r.length 0 (sms r))) (y := .lst (iD (pn r.length 0 (sms r)))) rfl rfl (comp_of (enumT_of rfl) q3) rfl rfl (by simp [LIM]; omega)
  rw [List.nil_append] at s3
  have s4 : xbool (xop eqD (xop ixD (xvar 1) (xvar 2)) (xneg (xpure (.int 1)))) (PA8 (some (rowD r)) (some (rowD (sms r))) (some (.int r.length)) (some (.ref 0))) [.lst (iD (pn r.length 0 (sms r)))] = .ok true [.lst (iD (pn r.length 0 (sms r)))] := by
    have g : atI (iD (sms r)) (r.length : Int) = some (.int (-1)) := by
      rw [atI_nat, show sms r = t ++ [-1] from ht, ← htl]
      simp [iD_app]
    have i1 : xop ixD (xvar 1) (xvar 2) (PA8 (some (rowD r)) (some (rowD (sms r))) (some (.int r.length)) (some (.ref 0))) [.lst (iD (pn r.length 0 (sms r)))] = .ok (.int (-1)) [.lst (iD (pn r.length 0 (sms r)))] := by
      refine op_of (s1 := [.lst (iD (pn r.length 0 (sms r)))]) (s2 := [.lst (iD (pn r.length 0 (sms r)))]) (x := rowD (sms r)) (y := .int r.length) rfl rfl ?_
      simp only [rowD]
      simp [g]
    exact bool_of (s1 := [.lst (iD (pn r.length 0 (sms r)))]) (op_of (s1 := [.lst (iD (pn r.length 0 (sms r)))]) (s2 := [.lst (iD (pn r.length 0 (sms r)))]) (x := .int (-1)) (y := .int (-1)) i1 rfl (by simp))
  refine callD0 rfl (by simp [refsBs, refsB, rowD]) (runF_ref (k := 0) (xs := iD (pn r.length 0 (sms r))) (st' := [.lst (iD (pn r.length 0 (sms r)))]) (?_ : m_places_against (PA8 (some (rowD r)) none none none) [] = .rt (.ref 0) [.lst (iD (pn r.length 0 (sms r)))]) rfl (by simp)) (by simp [refsB])
  exact seq_of s1 (seq_of (set_ok s2) (seq_of (drop_ok s3) (ret_ok (if_t s4 rfl))))
theorem c_is_row (r : List Int) (hr : Row r) (hge : ∀ x ∈ r, -1 ≤ x) (hs : r.sum = -1) : callD D_is_row_of_tree [rowD r] e st = .ok (.bl (trB r)) st := by
  have h := pn_nil (sms r) 0 r.length (sm_ne _ _) (by rw [sms_len]; omega)
  have hd : decide (pn r.length 0 (sms r) = []) = trB r := by
    unfold trB
    cases hb : (sm 0 r).dropLast.all (fun x => decide (0 ≤ x)) with
    | true => exact decide_eq_true (h.mpr hb)
    | false => exact decide_eq_false fun z => by rw [h.mp z] at hb; cases hb
  refine callD0 rfl (by simp [refsBs, refsB, rowD]) (runF_rt (st' := []) (ret_ok (op_of (fn_of (one_ok rfl) rfl (c_against r hr hge hs)) (lst_ok nil_ok (by simp [LIM])) ?_)) rfl) rfl
  rw [eq_ap, eqO_lnil, hd]
end LS
end
section
set_option maxRecDepth 100000
set_option maxHeartbeats 4000000
namespace LS
open PySem PySem.Spec L2 CY
variable {e : Nv} {st : Store}
/-! ## turned to be a tree's -/
theorem minL_ge {l : List Int} {b : Int} (h0 : l ≠ []) : b ≤ minL l ↔ ∀ x ∈ l, b ≤ x := by
  constructor
  · intro h x hx
    have := minL_le hx
    omega
  · intro h
    exact h _ (minL_mem (List.length_pos_iff.mpr h0))
structure Tr (r : List Int) : Prop where
  row : Row r
  ge : ∀ x ∈ r, -1 ≤ x
  sum : r.sum = -1
theorem Tr.turn {r : List Int} (h : Tr r) (k : Nat) : Tr (turn r k) := ⟨row_turn h.row k, fun x hx => h.ge x (turn_mem hx), by rw [turn_sum]; exact h.sum⟩
theorem c_can_turn (r : List Int) (h : Tr r) : callD D_can_turn [rowD r] e st = .ok (.bl true) st := by
  have h1 : (-1 : Int) ≤ minL r := (minL_ge (row_ne h.row)).mpr h.ge
  have a1 : xcall (f1 minD) (xcons (xvar 0) (xpure [])) [some (rowD r)] [] = .ok (.int (minL r)) [] := by
    refine call_of (one_ok rfl) ?_
    simp [rowD, row_ne h.row]
  have a2 : xcall (f1 sumD) (xcons (xvar 0) (xpure [])) [some (rowD r)] [] = .ok (.int (-1)) [] := by
    refine call_of (one_ok rfl) ?_
    simp [rowD, h.sum]
  have b1 : xop geD (xcall (f1 minD) (xcons (xvar 0) (xpure []))) (xneg (xpure (.int 1))) [some (rowD r)] [] = .ok (.bl true) [] := op_of (s1 := []) (s2 := []) (y := .int (-1)) a1 rfl (by simp [h1])
  have b2 : xop eqD (xcall (f1 sumD) (xcons (xvar 0) (xpure []))) (xneg (xpure (.int 1))) [some (rowD r)] [] = .ok (.bl true) [] := op_of (s1 := []) (s2 := []) (y := .int (-1)) a2 rfl (by simp)
  exact callD0 rfl (by simp [refsBs, refsB, rowD]) (runF_rt (st' := []) (ret_ok ((and_t b1).trans b2)) rfl) rfl
theorem c_tree_turning (r : List Int) (h : Tr r) (j : Nat) (hj : treeT r = [j]) : callD D_tree_turning [rowD r] e st = .ok (.int j) st := by
  have hl := h.row.2.1
  have by_ : ∀ (e : Nv) (st : Store), callD D_tree_turning_by [rowD r] e st = .ok (.int j) st := fun e st => by
    have h1 : xenum (xfn 1 (D_all_turnings) (xcons (xvar 0) (xpure []))) [some (rowD r), none, none] [] = .ok (enumD 0 (trows r), none) [] := enum_of (fn_of (one_ok rfl) rfl (c_all_turnings r hl))
    rw [trows, enum_rng] at h1
    have h2 := cl_map (e := [some (rowD r), none, none]) (st := []) (src := none) (items := (List.range r.length).map fun (k : Nat) => .tup [.int (k : Int), rowD (turn r k)]) (gt := gtup 2 (gcons (gname 2) (gcons (gname 1) gnil))) (mt := m_tree_turning_by_t1) (me := xvar 2)
      (fun (k : Nat) => .tup [.int (k : Int), rowD (turn r k)]) (fun (k : Nat) => trB (turn r k)) (fun (k : Nat) => .int (k : Int)) rfl (List.range r.length) (fun k hk => ⟨_, rfl, tru_ok (fn_of (one_ok rfl) rfl (c_is_row _ (h.turn k).row (h.turn k).ge (h.turn k).sum)), fun _ => rfl⟩) (by simp; omega)
    have e2 : (List.range r.length).filter (fun k => trB (turn r k)) = [j] := hj
    rw [e2] at h2
    exact callD0 rfl (by simp [refsBs, refsB, rowD]) (runF_rt (st' := []) (ret_ok (op_of (s1 := []) (s2 := []) (x := .lst [.int j]) (y := .int 0) (comp_of h1 h2) rfl (by simp))) rfl) rfl
  exact callD0 rfl (by simp [refsBs, refsB, rowD]) (runF_rt (st' := []) (seq_of (drop_ok (fn_of (one_ok rfl) rfl (c_check_row r h.row))) (seq_of ((sif_f (tnot_ok (b := true) (tru_ok (fn_of (one_ok rfl) rfl (c_can_turn r h))))).trans rfl) (ret_ok (fn_of (one_ok rfl) rfl (by_ _ _))))) rfl) rfl
theorem trow_Tr (a : Fo) (h : a.size ≤ 7) : Tr a.trow where
  row := ⟨by rw [Fo.trow_len]; omega, by rw [Fo.trow_len]; omega, fun n hn => by
    have := (Fo.cons a .nil).row_ge n hn
    simp only [Fo.size] at this
    omega⟩
  ge := fun n hn => ((Fo.cons a .nil).row_ge n hn).1
  sum := Fo.trow_sum a
theorem c_tree_of (a : Fo) (h : a.size ≤ 7) : callD D_tree_of [rowD a.trow] e st = .ok (fkD a) st := by
  have t := trow_Tr a h
  have q := fun (e : Nv) (st : Store) => c_is_row (e := e) (st := st) a.trow t.row t.ge t.sum
  rw [Fo.trow_tr] at q
  exact callD0 rfl (by simp [refsBs, refsB, rowD]) (runF_rt (st' := []) (seq_of (drop_ok (fn_of (one_ok rfl) rfl (c_check_row _ t.row))) (seq_of ((sif_f (tnot_ok (b := true) (tru_ok (fn_of (one_ok rfl) rfl (q _ _))))).trans rfl) (ret_ok (fn_of (one_ok rfl) rfl (c_tree_of_by a h))))) (refs_fkD a _)) (refs_fkD a _)
/-! ## trees are told -/
abbrev T6 (r : List Int) (x2 x3 x5 : Option D) : Nv := [some (.ref 0), some (rowD r), x2, x3, none, x5]
theorem lo_tr (r : List Int) (h : Row r) : decide (0 ≤ minL (sms r).dropLast) = trB r := by
  have hne : (sms r).dropLast ≠ [] := by
    intro z
    have := congrArg List.length z
    rw [List.length_dropLast, sms_len] at this
    have h1 := h.1
    simp only [List.length_nil] at this
    omega
  have := minL_ge (b := 0) hne
  unfold trB
  rw [← decide_eq_decide.mpr this.symm]
  by_cases g : ∀ x ∈ (sms r).dropLast, 0 ≤ x
  · rw [decide_eq_true g]
    symm
    rw [List.all_eq_true]
    intro x hx
    exact decide_eq_true (g x hx)
  · rw [decide_eq_false g]
    symm
    rw [List.all_eq_false]
    simp only [Classical.not_forall] at g
    obtain ⟨x, hx, hg⟩ := g
    exact ⟨x, hx, by simpa using hg⟩
section
variable (r : List Int) (h : Tr r) (j : Nat) (hj : treeT r = [j]) (hjl : j < r.length) (a : Fo) (ha : a.size ≤ 7) (hja : turn r j = a.trow) (m : MO)
include h hj
theorem it1 : m_u_law_is_tree_told_s1 (T6 r none none none) [m] = .nx (T6 r (some (.int j)) none none) [m] := set_ok (fn_of (one_ok rfl) rfl (c_tree_turning r h j hj))
theorem it2 : m_u_law_is_tree_told_s2 (T6 r (some (.int j)) none none) [m] = .nx (T6 r (some (.int j)) (some (.lst [.int j])) none) [m] := by
  have hl := h.row.2.1
  have h1 : xrange1 (xcall (f1 lenD) (xcons (xvar 1) (xpure []))) (T6 r (some (.int j)) none none) [m] = .ok (rangeL 0 r.length, none) [m] := by
    have := range1_of (e := T6 r (some (.int j)) none none) (s0 := [m]) (s1 := [m]) (m := xcall (f1 lenD) (xcons (xvar 1) (xpure []))) (j := (r.length : Int)) (call_of (one_ok rfl) (len_row r)) (rngB_nat (ns_lim hl))
    simpa using this
  have h2 := cl_rng (e := T6 r (some (.int j)) none none) (st := [m]) (j := 4) (mt := m_u_law_is_tree_told_t1) (me := xvar 4) (n := r.length) (fun k => trB (turn r k)) (fun k => .int (k : Int)) (by omega) fun k hk => by
    refine ⟨?_, fun _ => rfl⟩
    rw [← lo_tr _ (row_turn h.row k)]
    have sl : xslice (xfn 1 (D_u_law_sums) (xcons (xfn 2 (D_u_law_turned) (xcons (xvar 1) (xcons (xvar 4) (xpure [])))) (xpure []))) (xpure none) (xpart (xneg (xpure (.int 1)))) ((T6 r (some (.int j)) none none).set 4 (some (.int (k : Int)))) [m] = .ok (.lst (iD (sms (turn r k)).dropLast)) [m] := by
      have q := fn_of (n := 1) (e := (T6 r (some (.int j)) none none).set 4 (some (.int (k : Int)))) (s0 := [m]) (one_ok (fn_of (n := 2) (f := D_u_law_turned) (two_ok (m := xvar 1) (m2 := xvar 4) rfl rfl) rfl (c_law_turned r k hl))) rfl (c_law_sums (e := (T6 r (some (.int j)) none none).set 4 (some (.int (k : Int)))) (st := [m]) (turn r k) (tl8 k hl))
      rw [ap_slice, ap_bind, q]
      have c := cut_last (iD (sms (turn r k)))
      rw [show (iD (sms (turn r k))).dropLast = iD (sms (turn r k)).dropLast by simp [iD, List.map_dropLast]] at c
      simp [c]
    have hne : (sms (turn r k)).dropLast ≠ [] := by
      intro z
      have := congrArg List.length z
      rw [List.length_dropLast, sms_len] at this
      have h1 := (row_turn h.row k).1
      simp only [List.length_nil] at this
      omega
    refine bool_of (op_of (s1 := [m]) (s2 := [m]) (x := .int (minL (sms (turn r k)).dropLast)) (y := .int 0) (call_of (one_ok sl) ?_) rfl ?_)
    · simp [hne]
    · simp
  have e2 : (List.range r.length).filter (fun k => trB (turn r k)) = [j] := hj
  rw [e2] at h2
  exact set_ok (comp_of h1 h2)
theorem it3 : m_u_law_is_tree_told_s3 (T6 r (some (.int j)) (some (.lst [.int j])) none) [m] = .nx (T6 r (some (.int j)) (some (.lst [.int j])) none) [m] := by
  refine sif_skip (bool_of (op_of (s1 := [m]) (s2 := [m]) (x := .lst [.int j]) (y := .lst [.int j]) rfl (lst_ok (one_ok rfl) (by simp [LIM])) ?_))
  have := eqO_lints [m] [(j : Int)] [(j : Int)]
  rw [ne_ap, show (D.lst [.int j]) = .lst (iD [(j : Int)]) from rfl, this]
  simp
include hjl ha hja
theorem it4 : m_u_law_is_tree_told_s4 (T6 r (some (.int j)) (some (.lst [.int j])) none) [m] = .nx (T6 r (some (.int j)) (some (.lst [.int j])) (some (fkD a))) [m] := by
  have q := fun (e : Nv) (st : Store) => c_turned (e := e) (st := st) r h.row j hjl
  rw [hja] at q
  exact set_ok (fn_of (one_ok (fn_of (two_ok rfl rfl) rfl (q _ _))) rfl (c_tree_of a ha))
theorem it5 : m_u_law_is_tree_told_s5 (T6 r (some (.int j)) (some (.lst [.int j])) (some (fkD a))) [m] = .rt (.bl true) [m] := by
  have q := fun (e : Nv) (st : Store) => c_law_turned (e := e) (st := st) r j h.row.2.1
  rw [hja] at q
  have a1 : xop isBD (xfn 1 (D_is_tree) (xcons (xvar 5) (xpure []))) (xpure (.bl true)) (T6 r (some (.int j)) (some (.lst [.int j])) (some (fkD a))) [m] = .ok (.bl true) [m] := op_of (s1 := [m]) (s2 := [m]) (x := .bl true) (y := .bl true) (fn_of (one_ok rfl) rfl (c_is_tree a ha)) rfl rfl
  have a2 : xfn 1 (D_u_law_is_tree) (xcons (xvar 5) (xpure [])) (T6 r (some (.int j)) (some (.lst [.int j])) (some (fkD a))) [m] = .ok (.bl true) [m] := fn_of (one_ok rfl) rfl (c_law_is_tree a ha)
  have q' : xfn 2 (D_u_law_turned) (xcons (xvar 1) (xcons (xvar 2) (xpure []))) (T6 r (some (.int j)) (some (.lst [.int j])) (some (fkD a))) [m] = .ok (rowD a.trow) [m] := fn_of (two_ok rfl rfl) rfl (q _ _)
  have hl : a.trow.length ≤ LIM := by rw [Fo.trow_len]; simp [LIM]; omega
  have a3 : xfn 2 (D_u_law_same 6) (xcons (xfn 1 (D_row_of) (xcons (xvar 5) (xpure []))) (xcons (xfn 2 (D_u_law_turned) (xcons (xvar 1) (xcons (xvar 2) (xpure [])))) (xpure []))) (T6 r (some (.int j)) (some (.lst [.int j])) (some (fkD a))) [m] = .ok (.bl true) [m] :=
    fn_of (two_ok (fn_of (one_ok rfl) rfl (c_row_of a ha)) q') rfl (c_same _ (ok_row (n := 4) hl))
  have a4 : xop eqD (xfn 1 (D_u_law_tree_row) (xcons (xvar 5) (xpure []))) (xfn 2 (D_u_law_turned) (xcons (xvar 1) (xcons (xvar 2) (xpure [])))) (T6 r (some (.int j)) (some (.lst [.int j])) (some (fkD a))) [m] = .ok (.bl true) [m] :=
    op_of (s1 := [m]) (s2 := [m]) (fn_of (one_ok rfl) rfl (c_law_tree_row a ha)) q' (by simp [rowD])
  exact ret_ok ((and_t a1).trans ((and_t a2).trans ((and_t a3).trans a4)))
theorem c_is_tree_told (hm : Wl m) : callD D_u_law_is_tree_told [.ref 0, rowD r] e [m] = .ok (.bl true) [m] := by
  have q : m_u_law_is_tree_told (T6 r none none none) [m] = .rt (.bl true) [m] :=
    seq_of (it1 r h j hj m) (seq_of (it2 r h j hj m) (seq_of (it3 r h j hj m) (seq_of (it4 r h j hj hjl a ha hja m) (it5 r h j hj hjl a ha hja m))))
  exact callD1 (i := 0) rfl (by simp [argG, refsB, rowD]) rfl hm.mo (runF_w (st := []) q hm rfl) hm.mo rfl
end
end LS
end
section
set_option maxRecDepth 100000
set_option maxHeartbeats 4000000
namespace LS
open PySem PySem.Spec L2 CY
variable {e : Nv} {st : Store}
/-! ## drawn trees -/
def nD (l : List Nat) : List D := l.map fun (j : Nat) => D.int (j : Int)
def TS (T : List (List Nat)) : Store := T.map fun l => .lst (nD l)
def rfs (n : Nat) : List D := (List.range' 1 n).map D.ref
abbrev LT (n : Nat) (x2 x3 x4 : Option D) : Nv := [some (.ref 0), some (.int ((n + 1 : Nat) : Int)), x2, x3, x4, none]
theorem lp_new (items : List D) (E : Nv) : ∀ (l acc : List D) (st : Store), acc.length + l.length ≤ 1000 → cloop none items (gname 3) (xpure true) m_u_law_tree_e1 E l acc st = .ok (acc ++ (List.range' st.length l.length).map D.ref) (st ++ List.replicate l.length (.lst []))
  | [], acc, st, _ => by simp [cloop, srcOk]
  | x :: r, acc, st, h => by
    have h' : acc.length + (r.length + 1) ≤ 1000 := by simpa using h
    have ih := lp_new items E r (acc ++ [.ref st.length]) (st ++ [.lst []]) (by simp; omega)
    have hl : acc.length < LIM := by simp [LIM]; omega
    unfold cloop
    have e1 : m_u_law_tree_e1 (E.set 3 (some x)) st = .ok (.ref st.length) (st ++ [.lst []]) := rfl
    simp only [srcOk, if_true, gname, xpure, e1, hl]
    rw [ih]
    simp [List.range'_succ, List.replicate_succ]
theorem lt1 (n : Nat) (hn : n ≤ 7) (m : MO) : m_u_law_tree_s1 (LT n none none none) [m] = .nx (LT n (some (.lst (rfs (n + 1)))) none none) (m :: TS (List.replicate (n + 1) [])) := by
  have h1 : xrange1 (xvar 1) (LT n none none none) [m] = .ok (rangeL 0 (n + 1), none) [m] := by
    have := range1_of (e := LT n none none none) (s0 := [m]) (s1 := [m]) (m := xvar 1) (j := ((n + 1 : Nat) : Int)) rfl (rngB_nat (by simp [LIM]; omega))
    simpa using this
  have h2 := lp_new (rangeL 0 (n + 1)) (LT n none none none) (rangeL 0 (n + 1)) [] [m] (by simp [rangeL_len]; omega)
  rw [rangeL_len] at h2
  have e1 : TS (List.replicate (n + 1) []) = List.replicate (n + 1) (.lst []) := by simp [TS, nD]
  rw [e1]
  exact set_ok (comp_of h1 h2)
structure Hung (n k : Nat) (T : List (List Nat)) : Prop where
  len : T.length = n + 1
  perm : T.flatten.Perm (List.range' 1 (k - 1))
  up : ∀ i j, j ∈ T.getD i [] → i < j ∧ j < k
theorem rfs_at {n d : Nat} (h : d < n) : atI (rfs n) (d : Int) = some (.ref (d + 1)) := by
  rw [atI_nat]
  simp [rfs, h]
  omega
theorem TS_at {T : List (List Nat)} {d : Nat} (h : d < T.length) : (TS T)[d]? = some (.lst (nD (T.getD d []))) := by
  simp [TS, h, List.getD_eq_getElem?_getD]
theorem TS_set (T : List (List Nat)) (d : Nat) (l : List Nat) : (TS T).set d (.lst (nD l)) = TS (T.set d l) := by
  simp [TS, List.map_set]
theorem hang (n k : Nat) (hk : k ≤ n) (hk1 : 1 ≤ k) (hn : n ≤ 7) (T : List (List Nat)) (H : Hung n k T) (m : MO) (hm : Wl m) (x4 : Option D) :
    ∃ (m' : MO) (T' : List (List Nat)), Wl m' ∧ Hung n (k + 1) T' ∧ m_u_law_tree_b1 (LT n (some (.lst (rfs (n + 1)))) (some (.int (k : Int))) x4) (m :: TS T) = .nx (LT n (some (.lst (rfs (n + 1)))) (some (.int (k : Int))) x4) (m' :: TS T') := by
  obtain ⟨d, m', w, d0, d1, q⟩ := c_draw m hm (k : Int) (by omega) (by omega)
  obtain ⟨c, rfl⟩ : ∃ c : Nat, d = (c : Int) := ⟨d.toNat, by omega⟩
  have hc : c < k := by omega
  have hcT : c < T.length := by rw [H.len]; omega
  refine ⟨m', T.set c (T.getD c [] ++ [k]), w, ⟨by rw [List.length_set]; exact H.len, ?_, ?_⟩, ?_⟩
  · refine (flat_set T c hcT).trans ((H.perm.cons k).trans ?_)
    have : List.range' 1 (k + 1 - 1) = List.range' 1 (k - 1) ++ [k] := by
      rw [show k + 1 - 1 = (k - 1) + 1 by omega, List.range'_concat]
      simp
      omega
    rw [this]
    exact (List.perm_append_singleton k _).symm
  · intro i j hj
    by_cases hi : i = c
    · subst hi
      rw [List.getD_eq_getElem?_getD, List.getElem?_set_self hcT] at hj
      simp only [Option.getD_some, List.mem_append, List.mem_singleton] at hj
      rcases hj with hj | rfl
      · have := H.up i j hj; omega
      · omega
    · rw [List.getD_eq_getElem?_getD, List.getElem?_set_ne (Ne.symm hi), ← List.getD_eq_getElem?_getD] at hj
      have := H.up i j hj
      omega
  · have a1 : xop ixD (xvar 2) (xfn 2 (D_u_law_draw) (xcons (xvar 0) (xcons (xvar 3) (xpure [])))) (LT n (some (.lst (rfs (n + 1)))) (some (.int (k : Int))) x4) (m :: TS T) = .ok (.ref (c + 1)) (m' :: TS T) := by
      refine op_of (s1 := m :: TS T) (s2 := m' :: TS T) (x := .lst (rfs (n + 1))) (y := .int (c : Int)) rfl (fn_of (two_ok rfl rfl) rfl (q _ _)) ?_
      simp [rfs_at (show c < n + 1 by omega)]
    have g1 : (m' :: TS T)[c + 1]? = some (.lst (nD (T.getD c []))) := by
      rw [List.getElem?_cons_succ]
      exact TS_at hcT
    have ll : (nD (T.getD c [])).length < LIM := by
      have h1 : (T.getD c []).length ≤ T.flatten.length := by
        rw [List.getD_eq_getElem?_getD, List.getElem?_eq_getElem hcT, Option.getD_some]
        exact (List.sublist_flatten_of_mem (List.getElem_mem hcT)).length_le
      have h2 := H.perm.length_eq
      rw [List.length_range'] at h2
      show (List.map _ _).length < 1000000
      rw [List.length_map]
      omega
    have a2 := app_ok (mo := xop ixD (xvar 2) (xfn 2 (D_u_law_draw) (xcons (xvar 0) (xcons (xvar 3) (xpure []))))) (me := xvar 3) (e := LT n (some (.lst (rfs (n + 1)))) (some (.int (k : Int))) x4) (s0 := m :: TS T) (s1 := m' :: TS T) (s2 := m' :: TS T) (k := c + 1) (y := .int (k : Int)) a1 g1 rfl g1 ll
    have e1 : (m' :: TS T).set (c + 1) (.lst (nD (T.getD c []) ++ [.int (k : Int)])) = m' :: TS (T.set c (T.getD c [] ++ [k])) := by
      rw [List.set_cons_succ, ← TS_set]
      simp [nD]
    rw [e1] at a2
    exact drop_ok a2
theorem lp_hang (items : List D) (n : Nat) (hn : n ≤ 7) (x4 : Option D) : ∀ (cnt k : Nat) (T : List (List Nat)) (m : MO) (x3 : Option D), 1 ≤ k → k + cnt = n + 1 → Hung n k T → Wl m →
    ∃ (m' : MO) (T' : List (List Nat)) (y3 : Option D), Wl m' ∧ Hung n (n + 1) T' ∧ sloop none items (gname 3) m_u_law_tree_b1 ((List.range' k cnt).map fun (i : Nat) => D.int (i : Int)) (LT n (some (.lst (rfs (n + 1)))) x3 x4) (m :: TS T) = .nx (LT n (some (.lst (rfs (n + 1)))) y3 x4) (m' :: TS T')
  | 0, k, T, m, x3, _, hk, H, w => ⟨m, T, x3, w, by rw [show n + 1 = k by omega]; exact H, sloop_nil rfl⟩
  | cnt + 1, k, T, m, x3, h1, hk, H, w => by
    obtain ⟨m1, T1, w1, H1, q⟩ := hang n k (by omega) h1 hn T H m w x4
    obtain ⟨m2, T2, y3, w2, H2, q2⟩ := lp_hang items n hn x4 cnt (k + 1) T1 m1 (some (.int (k : Int))) (by omega) (by omega) H1 w1
    refine ⟨m2, T2, y3, w2, H2, ?_⟩
    rw [List.range'_succ, List.map_cons]
    exact sloop_of (e1 := LT n (some (.lst (rfs (n + 1)))) (some (.int (k : Int))) x4) rfl rfl q q2
theorem lt2 (n : Nat) (hn : n ≤ 7) (m : MO) (hm : Wl m) : ∃ (m' : MO) (T : List (List Nat)) (y3 : Option D), Wl m' ∧ Hung n (n + 1) T ∧ m_u_law_tree_s2 (LT n (some (.lst (rfs (n + 1)))) none none) (m :: TS (List.replicate (n + 1) [])) = .nx (LT n (some (.lst (rfs (n + 1)))) y3 none) (m' :: TS T) := by
  have H0 : Hung n 1 (List.replicate (n + 1) []) := ⟨by simp, by simp, fun i j h => by
    rw [List.getD_eq_getElem?_getD, List.getElem?_replicate] at h
    split at h <;> simp at h⟩
  obtain ⟨m', T, y3, w, H, q⟩ := lp_hang (rangeL 1 n) n hn none n 1 _ m none (by omega) (by omega) H0 hm
  refine ⟨m', T, y3, w, H, ?_⟩
  have e1 : rangeL 1 n = (List.range' 1 n).map fun (i : Nat) => D.int (i : Int) := by
    simp only [rangeL, List.range'_eq_map_range, List.map_map]
    refine List.map_congr_left fun i _ => ?_
    simp
  have r1 : xrange2 (xpure (.int 1)) (xvar 1) (LT n (some (.lst (rfs (n + 1)))) none none) (m :: TS (List.replicate (n + 1) [])) = .ok (rangeL 1 n, none) (m :: TS (List.replicate (n + 1) [])) := by
    unfold xrange2
    rw [ap_bind, show (xpure (D.int 1)) (LT n (some (.lst (rfs (n + 1)))) none none) (m :: TS (List.replicate (n + 1) [])) = .ok (.int 1) _ from rfl]
    simp only
    rw [ap_bind, show (xvar 1) (LT n (some (.lst (rfs (n + 1)))) none none) (m :: TS (List.replicate (n + 1) [])) = .ok (.int ((n + 1 : Nat) : Int)) _ from rfl]
    simp only
    rw [if_pos (by omega), show (((n + 1 : Nat) : Int) - 1).toNat = n by omega]
  rw [← e1] at q
  exact for_of r1 q
end LS
end
section
set_option maxRecDepth 100000
set_option maxHeartbeats 4000000
namespace LS
open PySem PySem.Spec L2 CY
variable {e : Nv} {st : Store}
theorem ixr_ok {k : Nat} {xs : List D} {i : Int} {y : D} (h : st[k]? = some (.lst xs)) (h2 : atI xs i = some y) : ixD (.ref k) (.int i) e st = .ok y st := by
  unfold ixD
  simp only [seqOf, lstOf, h, h2]
/-! ## trees made from their ends -/
def mD (made : List Fo) : MO := .lst (made.map fkD)
abbrev L4 (n : Nat) (x3 : Option D) : Nv := [some (.ref 0), some (.int ((n + 1 : Nat) : Int)), some (.lst (rfs (n + 1))), x3, some (.ref (n + 2)), none]
theorem lt3 (n : Nat) (hn : n ≤ 7) (m : MO) (T : List (List Nat)) (hT : T.length = n + 1) (x3 : Option D) : m_u_law_tree_s3 (LT n (some (.lst (rfs (n + 1)))) x3 none) (m :: TS T) = .nx (L4 n x3) (m :: (TS T ++ [mD (List.replicate (n + 1) .nil)])) := by
  have h1 : repMD (.lst [.tup []]) (.int ((n + 1 : Nat) : Int)) (LT n (some (.lst (rfs (n + 1)))) x3 none) (m :: TS T) = .ok (.ref (n + 2)) (m :: (TS T ++ [mD (List.replicate (n + 1) .nil)])) := by
    have e1 : (List.replicate (n + 1) [D.tup []]).flatten = List.replicate (n + 1) (D.tup []) := by
      generalize n + 1 = k
      induction k with
      | zero => rfl
      | succ k ih => rw [List.replicate_succ, List.flatten_cons, ih]; rfl
    have e2 : mD (List.replicate (n + 1) .nil) = .lst (List.replicate (n + 1) (.tup [])) := by
      unfold mD
      rw [List.map_replicate]
      rfl
    have e3 : (m :: TS T).length = n + 2 := by simp [TS, hT]
    unfold repMD
    simp only [lstOf]
    rw [if_pos (by simp [LIM]; omega), e3, show (((n + 1 : Nat) : Int)).toNat = n + 1 by omega, e1, e2]
    rfl
  exact set_ok (op_of (s1 := m :: TS T) (s2 := m :: TS T) (lst_ok (one_ok (tup_ok nil_ok (by simp [LIM]))) (by simp [LIM])) rfl h1)
def Made (n k : Nat) (T : List (List Nat)) (made : List Fo) : Prop := made.length = n + 1 ∧ ∀ i, k ≤ i → i ≤ n → made.getD i .nil = foOf ((T.getD i []).map fun j => made.getD j .nil)
theorem st_made {n : Nat} {T : List (List Nat)} (hT : T.length = n + 1) (m : MO) (o : MO) : (m :: (TS T ++ [o]))[n + 2]? = some o := by
  rw [List.getElem?_cons_succ, List.getElem?_append_right (by simp [TS, hT])]
  simp [TS, hT]
theorem st_row {n : Nat} {T : List (List Nat)} (hT : T.length = n + 1) (m : MO) (o : MO) {k : Nat} (hk : k ≤ n) : (m :: (TS T ++ [o]))[k + 1]? = some (.lst (nD (T.getD k []))) := by
  rw [List.getElem?_cons_succ, List.getElem?_append_left (by simp [TS, hT]; omega)]
  exact TS_at (by omega)
theorem st_set {n : Nat} {T : List (List Nat)} (hT : T.length = n + 1) (m : MO) (o o' : MO) : (m :: (TS T ++ [o])).set (n + 2) o' = m :: (TS T ++ [o']) := by
  rw [List.set_cons_succ, List.set_append_right _ _ (by simp [TS, hT])]
  simp [TS, hT]
theorem make (n k : Nat) (hk : k ≤ n) (hn : n ≤ 7) (T : List (List Nat)) (H : Hung n (n + 1) T) (m : MO) (made : List Fo) (hM : Made n (k + 1) T made) :
    ∃ made', Made n k T made' ∧ m_u_law_tree_b2 (L4 n (some (.int (k : Int)))) (m :: (TS T ++ [mD made])) = .nx (L4 n (some (.int (k : Int)))) (m :: (TS T ++ [mD made'])) := by
  have hl := hM.1
  have up := H.up k
  refine ⟨made.set k (foOf ((T.getD k []).map fun j => made.getD j .nil)), ⟨by rw [List.length_set]; exact hl, ?_⟩, ?_⟩
  · intro i h1 h2
    have same : ∀ j, k < j → (made.set k (foOf ((T.getD k []).map fun j => made.getD j .nil))).getD j .nil = made.getD j .nil := fun j hj => by
      rw [List.getD_eq_getElem?_getD, List.getElem?_set_ne (by omega), ← List.getD_eq_getElem?_getD]
    by_cases hi : i = k
    · subst hi
      rw [show (made.set i (foOf ((T.getD i []).map fun j => made.getD j .nil))).getD i .nil = foOf ((T.getD i []).map fun j => made.getD j .nil) by
        rw [List.getD_eq_getElem?_getD, List.getElem?_set_self (by omega)]; rfl]
      congr 1
      refine List.map_congr_left fun j hj => ?_
      rw [same j (up j hj).1]
    · rw [same i (by omega), hM.2 i (by omega) h2]
      congr 1
      refine List.map_congr_left fun j hj => ?_
      rw [same j (by have := (H.up i j hj).1; omega)]
  · have w1 : xwalk (xop ixD (xvar 2) (xvar 3)) (L4 n (some (.int (k : Int)))) (m :: (TS T ++ [mD made])) = .ok (nD (T.getD k []), some (k + 1)) (m :: (TS T ++ [mD made])) := by
      refine walk_of (op_of (s1 := m :: (TS T ++ [mD made])) (s2 := m :: (TS T ++ [mD made])) (x := .lst (rfs (n + 1))) (y := .int (k : Int)) rfl rfl (r := .ok (.ref (k + 1)) (m :: (TS T ++ [mD made]))) ?_) ?_
      · simp [rfs_at (show k < n + 1 by omega)]
      · simp only [seqSrc, lstOf, st_row H.len m (mD made) hk]
        rfl
    have lk : (T.getD k []).length ≤ 1000 := by
      have hkT : k < T.length := by rw [H.len]; omega
      have h1 : (T.getD k []).length ≤ T.flatten.length := by
        rw [List.getD_eq_getElem?_getD, List.getElem?_eq_getElem hkT, Option.getD_some]
        exact (List.sublist_flatten_of_mem (List.getElem_mem hkT)).length_le
      have h2 := H.perm.length_eq
      rw [List.length_range'] at h2
      omega
    have q := cl_map (e := L4 n (some (.int (k : Int)))) (st := m :: (TS T ++ [mD made])) (src := some (k + 1)) (items := nD (T.getD k [])) (gt := gname 5) (mt := xpure true) (me := m_u_law_tree_e2)
      (fun (j : Nat) => D.int (j : Int)) (fun _ => true) (fun (j : Nat) => fkD (made.getD j .nil)) (by
        unfold srcOk
        simp only [st_row H.len m (mD made) hk]
        exact eqbs_refl_of rfl) (T.getD k []) (fun j hj => ⟨_, rfl, rfl, fun _ => by
        have hjn := up j hj
        refine op_of (s1 := m :: (TS T ++ [mD made])) (s2 := m :: (TS T ++ [mD made])) (x := .ref (n + 2)) (y := .int (j : Int)) rfl rfl ?_
        have g : atI (made.map fkD) (j : Int) = some (fkD (made.getD j .nil)) := by
          rw [atI_nat]
          have : j < made.length := by omega
          simp [List.getD_eq_getElem?_getD, this]
        exact ixr_ok (st_made H.len m (mD made)) g⟩) lk
    rw [filter_yes] at q
    have e1 : (T.getD k []).map (fun (j : Nat) => fkD (made.getD j .nil)) = toD (foOf ((T.getD k []).map fun j => made.getD j .nil)) := by
      rw [toD_foOf, List.map_map]
      rfl
    rw [e1] at q
    have c1 := comp_of (vs := [5]) w1 q
    have t1 : xcall (f1 tupleD) (xcons (xcomp (xwalk (xop ixD (xvar 2) (xvar 3))) [5] (gname 5) (xpure true) m_u_law_tree_e2) (xpure [])) (L4 n (some (.int (k : Int)))) (m :: (TS T ++ [mD made])) = .ok (fkD (foOf ((T.getD k []).map fun j => made.getD j .nil))) (m :: (TS T ++ [mD made])) := tu_of c1 rfl
    have ix : ixN (made.map fkD).length (k : Int) = some k := by
      rw [List.length_map, hl]
      unfold ixN
      rw [if_pos (by omega), if_pos (by omega)]
      rfl
    refine asg_ok t1 ?_
    have h0 : (xvar 4) (L4 n (some (.int (k : Int)))) (m :: (TS T ++ [mD made])) = .ok (.ref (n + 2)) (m :: (TS T ++ [mD made])) := rfl
    have h3 : (xvar 3) (L4 n (some (.int (k : Int)))) (m :: (TS T ++ [mD made])) = .ok (.int (k : Int)) (m :: (TS T ++ [mD made])) := rfl
    unfold gsub
    rw [h0, h3]
    simp only [st_made H.len m (mD made)]
    simp only [mD, ix]
    rw [st_set H.len, List.map_set]
theorem lp_make (items : List D) (n : Nat) (hn : n ≤ 7) (T : List (List Nat)) (H : Hung n (n + 1) T) (m : MO) : ∀ (cnt : Nat) (made : List Fo) (x3 : Option D), cnt ≤ n + 1 → Made n cnt T made →
    ∃ (made' : List Fo) (y3 : Option D), Made n 0 T made' ∧ sloop none items (gname 3) m_u_law_tree_b2 (rangeDn ((cnt : Int) - 1) cnt) (L4 n x3) (m :: (TS T ++ [mD made])) = .nx (L4 n y3) (m :: (TS T ++ [mD made']))
  | 0, made, x3, _, hM => ⟨made, x3, hM, sloop_nil rfl⟩
  | cnt + 1, made, x3, hc, hM => by
    obtain ⟨made1, hM1, q⟩ := make n cnt (by omega) hn T H m made hM
    obtain ⟨made2, y3, hM2, q2⟩ := lp_make items n hn T H m cnt made1 (some (.int (cnt : Int))) (by omega) hM1
    refine ⟨made2, y3, hM2, ?_⟩
    have e1 : rangeDn (((cnt + 1 : Nat) : Int) - 1) (cnt + 1) = .int (cnt : Int) :: rangeDn ((cnt : Int) - 1) cnt := by
      unfold rangeDn
      rw [List.range_succ_eq_map, List.map_cons, List.map_map]
      congr 1
      · congr 1
        omega
      · refine List.map_congr_left fun i _ => ?_
        show D.int _ = D.int _
        congr 1
        simp only [Nat.succ_eq_add_one]
        omega
    rw [e1]
    exact sloop_of (e1 := L4 n (some (.int (cnt : Int)))) rfl rfl q q2
theorem c_law_tree (m : MO) (hm : Wl m) (n : Nat) (hn : n ≤ 7) : ∃ (a : Fo) (m' : MO), Wl m' ∧ a.size ≤ 7 ∧ ∀ e : Nv, callD D_u_law_tree [.ref 0, .int ((n + 1 : Nat) : Int)] e [m] = .ok (fkD a) [m'] := by
  obtain ⟨m', T, y3, w, H, q2⟩ := lt2 n hn m hm
  have M0 : Made n (n + 1) T (List.replicate (n + 1) .nil) := ⟨by simp, fun i h1 h2 => by omega⟩
  obtain ⟨made, z3, hM, q4⟩ := lp_make (rangeDn (((n + 1 : Nat) : Int) - 1) (n + 1)) n hn T H m' (n + 1) _ y3 (by omega) M0
  have sz : (made.getD 0 .nil).size = n := by
    refine count_one T n (fun k => (made.getD k .nil).size) H.len (by simpa using H.perm) fun k hk => ?_
    show (made.getD k .nil).size = _
    rw [hM.2 k (by omega) (by omega), foOf_size, List.map_map]
    rfl
  have r4 : xrangeDn (xop subD (xvar 1) (xpure (.int 1))) (xneg (xpure (.int 1))) (L4 n y3) (m' :: (TS T ++ [mD (List.replicate (n + 1) .nil)])) = .ok (rangeDn (((n + 1 : Nat) : Int) - 1) (n + 1), none) (m' :: (TS T ++ [mD (List.replicate (n + 1) .nil)])) := by
    unfold xrangeDn
    rw [ap_bind, show xop subD (xvar 1) (xpure (.int 1)) (L4 n y3) (m' :: (TS T ++ [mD (List.replicate (n + 1) .nil)])) = .ok (.int (((n + 1 : Nat) : Int) - 1)) _ from rfl]
    simp only
    rw [ap_bind, show xneg (xpure (.int 1)) (L4 n y3) (m' :: (TS T ++ [mD (List.replicate (n + 1) .nil)])) = .ok (.int (-1)) _ from rfl]
    simp only
    rw [if_pos (by omega), show ((((n + 1 : Nat) : Int) - 1) - -1).toNat = n + 1 by omega]
  have g0 : xop ixD (xvar 4) (xpure (.int 0)) (L4 n z3) (m' :: (TS T ++ [mD made])) = .ok (fkD (made.getD 0 .nil)) (m' :: (TS T ++ [mD made])) := by
    refine op_of (s1 := m' :: (TS T ++ [mD made])) (s2 := m' :: (TS T ++ [mD made])) (x := .ref (n + 2)) (y := .int 0) rfl rfl ?_
    have g : atI (made.map fkD) 0 = some (fkD (made.getD 0 .nil)) := by
      have h0 : 0 < made.length := by rw [hM.1]; omega
      have := atI_nat (made.map fkD) 0
      rw [show ((0 : Nat) : Int) = 0 from rfl] at this
      rw [this]
      simp [List.getD_eq_getElem?_getD, h0]
    exact ixr_ok (st_made H.len m' (mD made)) g
  refine ⟨made.getD 0 .nil, m', w, by omega, fun e => callD1 (i := 0) rfl rfl rfl hm.mo (runF_w (st := TS T ++ [mD made]) (?_ : m_u_law_tree (LT n none none none) [m] = _) w (refs_fkD _ _)) w.mo (refs_fkD _ _)⟩
  exact seq_of (lt1 n hn m) (seq_of q2 (seq_of (lt3 n hn m' T H.len y3) (seq_of (for_of r4 q4) (ret_ok g0))))
end LS
end
section
set_option maxRecDepth 100000
set_option maxHeartbeats 4000000
namespace LS
open PySem PySem.Spec L2 CY
variable {e : Nv} {st : Store}
/-! ## votes -/
abbrev VC := Nat × Nat × Nat
def vcs : List VC := [(0, 0, 1), (1, 0, 1), (2, 0, 1), (3, 0, 1), (4, 0, 1), (5, 0, 1), (6, 0, 1), (1, 1, 1), (2, 1, 1), (3, 1, 1), (4, 1, 1), (5, 1, 1), (2, 2, 1), (3, 2, 1), (4, 2, 1), (0, 0, 2), (1, 0, 2), (2, 0, 2), (3, 0, 2), (4, 0, 2), (5, 0, 2), (6, 0, 2), (2, 1, 2), (3, 1, 2), (4, 1, 2), (5, 1, 2), (4, 2, 2), (0, 0, 3), (1, 0, 3), (2, 0, 3), (3, 0, 3), (4, 0, 3), (5, 0, 3), (6, 0, 3), (3, 1, 3), (4, 1, 3), (5, 1, 3)]
def allR (w : Int) : Nat → List (List Int)
  | 0 => [[]]
  | n + 1 => (allR w n).map (-w :: ·) ++ (allR w n).map (1 :: ·)
def evR (w : Int) : Nat → List (List Int)
  | 0 => [[]]
  | n + 1 => (evR w n).map (· ++ [1]) ++ (evR w n).map (· ++ [-w])
def sRows (c : VC) : List (List Int) := (allR c.2.2 (c.1 + c.2.1)).filter fun r => r.count 1 == c.1
def eRows (c : VC) : List (List Int) := (evR c.2.2 (c.1 + c.2.1)).filter fun r => r.count 1 == c.1
def uRows (c : VC) : List (List Int) := (Cm.cmb (c.1 + c.2.1) c.1).map fun ix => (List.range (c.1 + c.2.1)).map fun p => if ix.contains p then (1 : Int) else -(c.2.2 : Int)
def numV (r : List Int) : Nat := r.foldl (fun k s => 2 * k + (if s = 1 then 1 else 0)) 0
def bitV (w : Int) : Nat → Nat → List Int
  | 0, _ => []
  | n + 1, k => (if k / 2 ^ n % 2 = 0 then -w else 1) :: bitV w n k
def tabB (w : Int) (n : Nat) (L S : List (List Int)) : Bool :=
  decide (L = (L.map numV).map (bitV w n)) && decide (S = (S.map numV).map (bitV w n)) && (L.map numV).isPerm (S.map numV) && decide ((S.map numV).Pairwise (· ≤ ·)) &&
  (L.map numV).all fun a => (L.map numV).all fun b => sleD (rowD (bitV w n a)) (rowD (bitV w n b)) == decide (a ≤ b)
theorem sort_tab {w : Int} {n : Nat} {L S : List (List Int)} (h : tabB w n L S = true) : sortD (L.map rowD) = S.map rowD := by
  unfold tabB at h
  simp only [Bool.and_eq_true] at h
  obtain ⟨⟨⟨⟨h1, h2⟩, h3⟩, h5⟩, h4⟩ := h
  have h1 := of_decide_eq_true h1
  have h2 := of_decide_eq_true h2
  have h5 := of_decide_eq_true h5
  generalize hk : L.map numV = ks at *
  generalize hs : S.map numV = kS at *
  have m : (ks.mergeSort (fun a b => decide (a ≤ b))).map (fun k => rowD (bitV w n k)) = sortD (ks.map fun k => rowD (bitV w n k)) := by
    unfold sortD
    refine PySem.W.sort_maps (r := fun a b : Nat => decide (a ≤ b)) (s := sleD) (fun k => rowD (bitV w n k)) (l := ks) fun a ha b hb => ?_
    have := List.all_eq_true.mp (List.all_eq_true.mp h4 a ha) b hb
    exact (eq_of_beq this).symm
  have q : ks.mergeSort (fun a b => decide (a ≤ b)) = kS := by
    refine perm_sorted (le := fun a b => decide (a ≤ b)) (fun x _ y _ a b => ?_) ((List.mergeSort_perm _ _).trans (List.isPerm_iff.mp h3)) (List.pairwise_mergeSort (fun a b c x y => ?_) (fun a b => ?_) _) ?_
    · simp at a b; omega
    · simp at x y ⊢; omega
    · simp; omega
    · exact h5.imp fun h => by simpa using h
  rw [h1, h2, List.map_map, List.map_map]
  show sortD (ks.map fun k => rowD (bitV w n k)) = _
  rw [← m, q]
  rfl
def tabC (c : VC) : Bool := (decide (c.1 + c.2.1 = 0) && decide (uRows c = sRows c) && decide (eRows c = sRows c)) || (decide (c.1 + c.2.1 ≠ 0) && tabB c.2.2 (c.1 + c.2.1) (uRows c) (sRows c) && tabB c.2.2 (c.1 + c.2.1) (eRows c) (sRows c))
theorem tabs : vcs.all tabC = true := by decide +kernel
def tabD (c : VC) (L : List (List Int)) : List D := if c.1 + c.2.1 = 0 then L.map rowD else sortD (L.map rowD)
theorem tab_u {c : VC} (h : c ∈ vcs) : tabD c (uRows c) = (sRows c).map rowD ∧ tabD c (eRows c) = (sRows c).map rowD := by
  have := List.all_eq_true.mp tabs c h
  unfold tabC at this
  simp only [Bool.or_eq_true, Bool.and_eq_true, decide_eq_true_eq] at this
  unfold tabD
  rcases this with ⟨⟨h0, h1⟩, h2⟩ | ⟨⟨h0, h1⟩, h2⟩
  · rw [if_pos h0, if_pos h0, h1, h2]; exact ⟨rfl, rfl⟩
  · rw [if_neg h0, if_neg h0]; exact ⟨sort_tab h1, sort_tab h2⟩
theorem ballots_all : vcs.map (fun c => m_all_ballots_by [some (.int c.1), some (.int c.2.1), some (.int c.2.2), none, none] []) = vcs.map (fun c => .rt (.tup (tabD c (uRows c))) []) := by kernel_rfl
end LS
end
section
set_option maxRecDepth 100000
set_option maxHeartbeats 4000000
namespace LS
open PySem PySem.Spec L2 CY
variable {e : Nv} {st : Store}
theorem refs_rowsD (n : Nat) : ∀ l : List (List Int), refsBs n (l.map rowD) = true
  | [] => rfl
  | r :: l => by simp only [List.map_cons, refsBs, refs_rowsD n l, Bool.and_true]; simp [rowD, refsB]
theorem vc_bd : ∀ c ∈ vcs, c.1 ≤ 6 ∧ c.2.1 ≤ 2 ∧ 1 ≤ c.2.2 ∧ c.2.2 ≤ 3 ∧ c.1 + c.2.1 ≤ 6 := by decide
theorem c_ballots_by (c : VC) (h : c ∈ vcs) : callD D_all_ballots_by [.int c.1, .int c.2.1, .int c.2.2] e st = .ok (.tup ((sRows c).map rowD)) st := by
  have q := List.map_inj_left.mp ballots_all c h
  rw [(tab_u h).1] at q
  have rf : refsB 0 (.tup ((sRows c).map rowD)) = true := refs_rowsD 0 _
  exact callD0 rfl rfl (runF_rt (st' := []) q rf) rf
theorem c_check_votes (u d w : Int) (hu : 0 ≤ u ∧ u ≤ 20) (hd : 0 ≤ d ∧ d ≤ 20) (hw : 1 ≤ w ∧ w ≤ 9) : callD D_check_votes [.int u, .int d, .int w] e st = .ok .non st := by
  refine callD0 rfl rfl (runF_nx (e' := [some (.int u), some (.int d), some (.int w)]) (st' := []) (?_ : m_check_votes [some (.int u), some (.int d), some (.int w)] [] = _)) rfl
  exact seq_of (drop_ok (fn_of (cons_ok rfl (two_ok rfl rfl)) rfl (c_check_number u 0 20 hu.1 hu.2))) (seq_of (drop_ok (fn_of (cons_ok rfl (two_ok rfl rfl)) rfl (c_check_number d 0 20 hd.1 hd.2))) (drop_ok (fn_of (cons_ok rfl (two_ok rfl rfl)) rfl (c_check_number w 1 9 hw.1 hw.2))))
theorem c_all_ballots (c : VC) (h : c ∈ vcs) : callD D_all_ballots [.int c.1, .int c.2.1, .int c.2.2] e st = .ok (.tup ((sRows c).map rowD)) st := by
  obtain ⟨b1, b2, b3, b4, b5⟩ := vc_bd c h
  have rf : refsB 0 (.tup ((sRows c).map rowD)) = true := refs_rowsD 0 _
  refine callD0 rfl rfl (runF_rt (st' := []) (?_ : m_all_ballots [some (.int c.1), some (.int c.2.1), some (.int c.2.2)] [] = .rt (.tup ((sRows c).map rowD)) []) rf) rf
  have n9 : ¬ (9 : Int) < (c.1 : Int) + (c.2.1 : Int) := by omega
  have g : xbool (xop gtD (xop addD (xvar 0) (xvar 1)) (xpure (.int 9))) [some (.int c.1), some (.int c.2.1), some (.int c.2.2)] [] = .ok false [] := bool_of (s1 := []) (op_of (s1 := []) (s2 := []) (x := .int ((c.1 : Int) + (c.2.1 : Int))) (y := .int 9) (op_of (s1 := []) (s2 := []) (x := .int c.1) (y := .int c.2.1) rfl rfl rfl) rfl (by simp [n9]))
  exact seq_of (drop_ok (fn_of (cons_ok rfl (two_ok rfl rfl)) rfl (c_check_votes _ _ _ (by omega) (by omega) (by omega)))) (seq_of (sif_skip g) (ret_ok (fn_of (cons_ok rfl (two_ok rfl rfl)) rfl (c_ballots_by c h))))
abbrev EVt (c : VC) (x4 x5 x6 x7 : Option D) : Nv := [some (.ref 0), some (.int c.1), some (.int c.2.1), some (.int c.2.2), x4, x5, x6, x7, none, none, none]
def tz (r : List Int) : D := .tpz (iD r)
def ev5 (c : VC) : D := .lst ((evR c.2.2 (c.1 + c.2.1)).map tz)
theorem tupZ_ok {ms : XM (List D)} {xs : List D} {s0 s1 : Store} (h : ms e s0 = .ok xs s1) (hl : xs.length ≤ LIM) : xtupZ ms e s0 = .ok (.tpz xs) s1 := by
  unfold xtupZ
  rw [ap_bind, h]
  simp only [hl, if_true]
theorem addZ_ok {xs ys : List D} (hl : xs.length + ys.length ≤ LIM) : addZD (.tpz xs) (.tpz ys) e st = .ok (.tpz (xs ++ ys)) st := by
  unfold addZD
  simp only [hl, if_true]
theorem c_more (w : Int) (L : List (List Int)) (hL : L.length ≤ 200) (hr : ∀ r ∈ L, r.length ≤ 50) : callD D_u_law_more [.lst (L.map tz), .int w] e st = .ok (.lst ((L.map (· ++ [1]) ++ L.map (· ++ [-w])).map tz)) st := by
  have rf : ∀ l : List (List Int), refsBs 0 (l.map tz) = true := fun l => refs_map tz (fun a n => by simp [tz, refsB]) 0 l
  have q1 := cl_map (e := [some (.lst (L.map tz)), some (.int w), none]) (st := []) (src := none) (items := L.map tz) (gt := gname 2) (mt := xpure true) (me := m_u_law_more_e1) tz (fun _ => true) (fun r => tz (r ++ [1])) rfl L (fun r hr' => ⟨_, rfl, rfl, fun _ => by
    have h5 := hr r hr'
    refine op_of (s1 := []) (s2 := []) (x := tz r) (y := .tpz [.int 1]) rfl (tupZ_ok (one_ok rfl) (by simp [LIM])) ?_
    exact (addZ_ok (by simp [LIM]; omega)).trans (by simp [tz, iD])⟩) (by omega)
  have q2 := cl_map (e := [some (.lst (L.map tz)), some (.int w), none]) (st := []) (src := none) (items := L.map tz) (gt := gname 2) (mt := xpure true) (me := m_u_law_more_e2) tz (fun _ => true) (fun r => tz (r ++ [-w])) rfl L (fun r hr' => ⟨_, rfl, rfl, fun _ => by
    have h5 := hr r hr'
    refine op_of (s1 := []) (s2 := []) (x := tz r) (y := .tpz [.int (0 - w)]) rfl (tupZ_ok (one_ok (op_of (s1 := []) (s2 := []) (x := .int 0) (y := .int w) rfl rfl rfl)) (by simp [LIM])) ?_
    exact (addZ_ok (by simp [LIM]; omega)).trans (by simp [tz, iD])⟩) (by omega)
  rw [filter_yes] at q1 q2
  have e1 : L.map (fun r => tz (r ++ [1])) ++ L.map (fun r => tz (r ++ [-w])) = (L.map (· ++ [1]) ++ L.map (· ++ [-w])).map tz := by
    rw [List.map_append, List.map_map, List.map_map]
    rfl
  refine callD0 rfl (by simp [refsBs, refsB, rf]) (runF_rt (st' := []) (?_ : m_u_law_more [some (.lst (L.map tz)), some (.int w), none] [] = .rt (.lst ((L.map (· ++ [1]) ++ L.map (· ++ [-w])).map tz)) []) (rf _)) (rf _)
  rw [← e1]
  exact ret_ok (op_of (s1 := []) (s2 := []) (comp_of (walk_of rfl rfl) q1) (comp_of (walk_of rfl rfl) q2) (addL_ok (by simp [LIM]; omega)))
theorem evR_len (w : Int) : ∀ n, (evR w n).length = 2 ^ n ∧ ∀ r ∈ evR w n, r.length = n
  | 0 => ⟨rfl, by simp [evR]⟩
  | n + 1 => by
    obtain ⟨h1, h2⟩ := evR_len w n
    refine ⟨by simp [evR, h1]; omega, fun r hr => ?_⟩
    simp only [evR, List.mem_append, List.mem_map] at hr
    rcases hr with ⟨x, hx, rfl⟩ | ⟨x, hx, rfl⟩ <;> simp [h2 x hx]
abbrev EM (x0 x1 x2 : Option D) (w : Int) (x4 : Option D) (L : List (List Int)) (x6 : Option D) : Nv := [x0, x1, x2, some (.int w), x4, some (.lst (L.map tz)), x6, none, none, none, none]
theorem lp_more (items : List D) (x0 x1 x2 x4 : Option D) (w : Int) (st : Store) : ∀ (l : List D) (j : Nat) (x6 : Option D), j + l.length ≤ 7 → ∃ y6, sloop none items (gname 6) m_u_law_are_votes_told_b1 l (EM x0 x1 x2 w x4 (evR w j) x6) st = .nx (EM x0 x1 x2 w x4 (evR w (j + l.length)) y6) st
  | [], j, x6, _ => ⟨x6, sloop_nil rfl⟩
  | a :: r, j, x6, h => by
    have h' : j + (r.length + 1) ≤ 7 := by simpa using h
    obtain ⟨y6, q⟩ := lp_more items x0 x1 x2 x4 w st r (j + 1) (some a) (by omega)
    obtain ⟨h1, h2⟩ := evR_len w j
    have hp : 2 ^ j ≤ 2 ^ 7 := Nat.pow_le_pow_right (by decide) (by omega)
    have c := fun (e : Nv) (st : Store) => c_more (e := e) (st := st) w (evR w j) (by rw [h1]; omega) (fun r hr => by rw [h2 r hr]; omega)
    refine ⟨y6, ?_⟩
    have b : m_u_law_are_votes_told_b1 (EM x0 x1 x2 w x4 (evR w j) (some a)) st = .nx (EM x0 x1 x2 w x4 (evR w (j + 1)) (some a)) st := set_ok (fn_of (two_ok rfl rfl) rfl (c _ _))
    rw [sloop_cons (e1 := EM x0 x1 x2 w x4 (evR w j) (some a)) rfl rfl b, q]
    rw [List.length_cons, show j + (r.length + 1) = j + 1 + r.length by omega]
theorem votes_23 (c : VC) (h : c ∈ vcs) (x4 : Option D) (m : MO) : ∃ y6, ∀ rest : SM, sseq m_u_law_are_votes_told_s2 (sseq m_u_law_are_votes_told_s3 rest) (EVt c x4 none none none) [m] = rest (EVt c x4 (some (ev5 c)) y6 none) [m] := by
  obtain ⟨b1, b2, b3, b4, b5⟩ := vc_bd c h
  obtain ⟨y6, q⟩ := lp_more (rangeL 0 (c.1 + c.2.1)) (some (.ref 0)) (some (.int c.1)) (some (.int c.2.1)) x4 c.2.2 [m] (rangeL 0 (c.1 + c.2.1)) 0 none (by rw [rangeL_len]; omega)
  rw [rangeL_len, Nat.zero_add] at q
  refine ⟨y6, fun rest => ?_⟩
  have r1 : xrange1 (xop addD (xvar 1) (xvar 2)) (EVt c x4 (some (.lst [.tpz []])) none none) [m] = .ok (rangeL 0 (c.1 + c.2.1), none) [m] := by
    have := range1_of (e := EVt c x4 (some (.lst [.tpz []])) none none) (s0 := [m]) (s1 := [m]) (m := xop addD (xvar 1) (xvar 2)) (j := ((c.1 + c.2.1 : Nat) : Int)) (op_of (s1 := [m]) (s2 := [m]) (x := .int c.1) (y := .int c.2.1) rfl rfl rfl) (rngB_nat (by simp [LIM]; omega))
    rw [Int.toNat_natCast] at this
    exact this
  exact seq_of (set_ok (lst_ok (one_ok (tupZ_ok nil_ok (by simp [LIM]))) (by simp [LIM]))) (seq_of (for_of r1 q) rfl)
theorem votes_4 (x4 x6 : Option D) (m : MO) (rest : SM) : vcs.map (fun c => sseq m_u_law_are_votes_told_s4 rest (EVt c x4 (some (ev5 c)) x6 none) [m]) = vcs.map (fun c => rest (EVt c x4 (some (ev5 c)) x6 (some (.tup (tabD c (eRows c))))) [m]) := by kernel_rfl
def leadR (c : VC) : List (List Int) := (sRows c).filter fun r => r.isEmpty || ld r
def standR (c : VC) : List (List Int) := (sRows c).filter fun r => r.isEmpty || decide (0 ≤ low r)
abbrev EVu (c : VC) (x4 x5 x6 x7 x9 x10 : Option D) : Nv := [some (.ref 0), some (.int c.1), some (.int c.2.1), some (.int c.2.2), x4, x5, x6, x7, none, x9, x10]
def dRows (c : VC) : D := .tup ((sRows c).map rowD)
theorem vc_rows : ∀ c ∈ vcs, (sRows c).length ≤ 100 ∧ ∀ r ∈ sRows c, r.length ≤ 8 := by decide +kernel
theorem ok_dRows (c : VC) (h : c ∈ vcs) : okD 6 (dRows c) = true := by
  obtain ⟨h1, h2⟩ := vc_rows c h
  refine okD_tup (by rw [List.length_map]; simp [LIM]; omega) ?_
  rw [List.all_eq_true]
  intro d hd
  obtain ⟨r, hr, rfl⟩ := List.mem_map.mp hd
  exact ok_row (n := 3) (by have := h2 r hr; simp [LIM]; omega)
theorem votes_5 (c : VC) (h : c ∈ vcs) (x5 x6 : Option D) (m : MO) : m_u_law_are_votes_told_s5 (EVt c (some (dRows c)) x5 x6 (some (dRows c))) [m] = .nx (EVt c (some (dRows c)) x5 x6 (some (dRows c))) [m] :=
  sif_skip (tnot_ok (b := true) (tru_ok (fn_of (two_ok rfl rfl) rfl (c_same _ (ok_dRows c h)))))
theorem votes_6 (c : VC) (h : c ∈ vcs) (x5 x6 x7 : Option D) (m : MO) : m_u_law_are_votes_told_s6 (EVt c (some (dRows c)) x5 x6 x7) [m] = .nx (EVu c (some (dRows c)) x5 x6 x7 (some (.lst ((leadR c).map rowD))) (some (.lst ((standR c).map rowD)))) [m] := by
  obtain ⟨hl, hr⟩ := vc_rows c h
  have e8 : ∀ (r : List Int) (E : Nv), (xvar 8) E [m] = .ok (rowD r) [m] → xbool (xop eqD (xvar 8) (xtup (xpure []))) E [m] = .ok r.isEmpty [m] := fun r E g => by
    refine bool_of (op_of g (tup_ok nil_ok (by simp [LIM])) ?_)
    rw [eq_ap, show eqO [m] (rowD r) (.tup []) = some (decide (r = [])) from eqO_tnil [m] r]
    cases r <;> rfl
  have q1 := cl_map (e := EVt c (some (dRows c)) x5 x6 x7) (st := [m]) (src := none) (items := (sRows c).map rowD) (gt := gname 8) (mt := m_u_law_are_votes_told_t2) (me := xvar 8) rowD (fun r => r.isEmpty || ld r) rowD rfl (sRows c) (fun r hr' => ⟨_, rfl, by
    have g := e8 r ((EVt c (some (dRows c)) x5 x6 x7).set 8 (some (rowD r))) rfl
    unfold m_u_law_are_votes_told_t2
    cases r with
    | nil => rw [tor_t g]; rfl
    | cons a t => rw [tor_f g]; exact tru_ok (fn_of (one_ok rfl) rfl (c_law_leads _ (by simp) (hr _ hr'))), fun _ => rfl⟩) (by omega)
  have q2 := cl_map (e := EVt c (some (dRows c)) x5 x6 x7) (st := [m]) (src := none) (items := (sRows c).map rowD) (gt := gname 8) (mt := m_u_law_are_votes_told_t3) (me := xvar 8) rowD (fun r => r.isEmpty || decide (0 ≤ low r)) rowD rfl (sRows c) (fun r hr' => ⟨_, rfl, by
    have g := e8 r ((EVt c (some (dRows c)) x5 x6 x7).set 8 (some (rowD r))) rfl
    unfold m_u_law_are_votes_told_t3
    cases r with
    | nil => rw [tor_t g]; rfl
    | cons a t => rw [tor_f g]; exact tru_ok (fn_of (one_ok rfl) rfl (c_law_stands _ (hr _ hr'))), fun _ => rfl⟩) (by omega)
  exact par2_ok (comp_of (walk_of rfl rfl) q1) (comp_of (walk_of rfl rfl) q2)
theorem votes_7 (x4 x5 x6 x7 : Option D) (m : MO) : vcs.map (fun c => m_u_law_are_votes_told_s7 (EVu c x4 x5 x6 x7 (some (.lst ((leadR c).map rowD))) (some (.lst ((standR c).map rowD)))) [m]) = vcs.map (fun c => .nx (EVu c x4 x5 x6 x7 (some (.lst ((leadR c).map rowD))) (some (.lst ((standR c).map rowD)))) [m]) := by kernel_rfl
theorem vc_lead : ∀ c ∈ vcs, ∀ r ∈ leadR c, r = [] ∨ ((1 ≤ r.length ∧ r.length ≤ 8 ∧ ∀ n ∈ r, -9 ≤ n ∧ n ≤ 9) ∧ ld r = true ∧ decide (0 ≤ low r) = true) := by decide +kernel
theorem c_leads (ns : List Int) (hr : Row ns) : callD D_leads [rowD ns] e st = .ok (.bl (ld ns)) st :=
  callD0 rfl (by simp [refsBs, refsB, rowD]) (runF_rt (st' := []) (seq_of (drop_ok (fn_of (one_ok rfl) rfl (c_check_row ns hr))) (ret_ok (fn_of (one_ok rfl) rfl (c_leads_by ns (row_ne hr) hr.2.1)))) rfl) rfl
theorem c_stands (ns : List Int) (hr : Row ns) : callD D_stands [rowD ns] e st = .ok (.bl (decide (0 ≤ low ns))) st :=
  callD0 rfl (by simp [refsBs, refsB, rowD]) (runF_rt (st' := []) (seq_of (drop_ok (fn_of (one_ok rfl) rfl (c_check_row ns hr))) (ret_ok (fn_of (one_ok rfl) rfl (c_stands_by ns hr.2.1)))) rfl) rfl
theorem votes_8 (c : VC) (h : c ∈ vcs) (x4 x5 x6 x7 x10 : Option D) (m : MO) : m_u_law_are_votes_told_s8 (EVu c x4 x5 x6 x7 (some (.lst ((leadR c).map rowD))) x10) [m] = .rt (.bl true) [m] := by
  have hl : (leadR c).length ≤ 1000 := Nat.le_trans (List.length_filter_le _ _) (by have := (vc_rows c h).1; omega)
  have q := cl_map (e := EVu c x4 x5 x6 x7 (some (.lst ((leadR c).map rowD))) x10) (st := [m]) (src := none) (items := (leadR c).map rowD) (gt := gname 8) (mt := m_u_law_are_votes_told_t4) (me := xvar 8) rowD (fun _ => false) rowD rfl (leadR c) (fun r hr' => ⟨_, rfl, by
    have g : xbool (xop neD (xvar 8) (xtup (xpure []))) ((EVu c x4 x5 x6 x7 (some (.lst ((leadR c).map rowD))) x10).set 8 (some (rowD r))) [m] = .ok (!decide (r = [])) [m] := by
      refine bool_of (op_of rfl (tup_ok nil_ok (by simp [LIM])) ?_)
      rw [ne_ap, show eqO [m] (rowD r) (.tup []) = some (decide (r = [])) from eqO_tnil [m] r]
    unfold m_u_law_are_votes_told_t4
    rcases vc_lead c h r hr' with rfl | ⟨hR, h1, h2⟩
    · rw [tand_f g]
    · have hR' : Row r := hR
      rw [show decide (r = []) = false from decide_eq_false (row_ne hR')] at g
      rw [tand_t g]
      have l1 := fun (e : Nv) (st : Store) => c_leads (e := e) (st := st) r hR'
      have l2 := fun (e : Nv) (st : Store) => c_stands (e := e) (st := st) r hR'
      rw [h1] at l1
      rw [h2] at l2
      have b1 : xbool (xop isntBD (xfn 1 (D_leads) (xcons (xvar 8) (xpure []))) (xpure (.bl true))) ((EVu c x4 x5 x6 x7 (some (.lst ((leadR c).map rowD))) x10).set 8 (some (rowD r))) [m] = .ok false [m] := bool_of (op_of (s1 := [m]) (s2 := [m]) (x := .bl true) (y := .bl true) (fn_of (one_ok rfl) rfl (l1 _ _)) rfl rfl)
      have b2 : xbool (xop isntBD (xfn 1 (D_stands) (xcons (xvar 8) (xpure []))) (xpure (.bl true))) ((EVu c x4 x5 x6 x7 (some (.lst ((leadR c).map rowD))) x10).set 8 (some (rowD r))) [m] = .ok false [m] := bool_of (op_of (s1 := [m]) (s2 := [m]) (x := .bl true) (y := .bl true) (fn_of (one_ok rfl) rfl (l2 _ _)) rfl rfl)
      rw [tor_f b1]
      exact b2, fun z => nomatch z⟩) hl
  rw [filter_no, List.map_nil] at q
  exact ret_ok (op_of (comp_of (walk_of rfl rfl) q) (lst_ok nil_ok (by simp [LIM])) (by rw [eq_ap]; rfl))
theorem c_votes_told (c : VC) (h : c ∈ vcs) (m : MO) (hm : Wl m) : callD D_u_law_are_votes_told [.ref 0, .int c.1, .int c.2.1, .int c.2.2] e [m] = .ok (.bl true) [m] := by
  have s1 : m_u_law_are_votes_told_s1 (EVt c none none none none) [m] = .nx (EVt c (some (dRows c)) none none none) [m] := set_ok (fn_of (cons_ok rfl (two_ok rfl rfl)) rfl (c_all_ballots c h))
  obtain ⟨y6, q23⟩ := votes_23 c h (some (dRows c)) m
  have q := List.map_inj_left.mp (votes_4 (some (dRows c)) y6 m (sseq m_u_law_are_votes_told_s5 (sseq m_u_law_are_votes_told_s6 (sseq m_u_law_are_votes_told_s7 m_u_law_are_votes_told_s8)))) c h
  rw [(tab_u h).2] at q
  have q7 := List.map_inj_left.mp (votes_7 (some (dRows c)) (some (ev5 c)) y6 (some (dRows c)) m) c h
  have q2 := seq_of (votes_5 c h (some (ev5 c)) y6 m) (seq_of (votes_6 c h (some (ev5 c)) y6 (some (dRows c)) m) (seq_of q7 (votes_8 c h (some (dRows c)) (some (ev5 c)) y6 (some (dRows c)) (some (.lst ((standR c).map rowD))) m)))
  have all : m_u_law_are_votes_told (EVt c none none none none) [m] = .rt (.bl true) [m] := seq_of s1 ((q23 _).trans (q.trans q2))
  exact callD1 (i := 0) rfl rfl rfl hm.mo (runF_w (st := []) all hm rfl) hm.mo rfl
end LS
end
section
set_option maxRecDepth 100000
set_option maxHeartbeats 4000000
namespace LS
open PySem PySem.Spec L2 CY
variable {e : Nv} {st : Store}
/-! ## the law's laps -/
abbrev ER (x1 x2 x3 x6 x7 x8 x9 x10 : Option D) : Nv := [some (.ref 0), x1, x2, x3, none, none, x6, x7, x8, x9, x10]
theorem r_b1 (ns : List Int) (hr : Row ns) (m : MO) (hm : Wl m) (x1 x2 x6 x7 x8 x9 x10 : Option D) : ∃ m', Wl m' ∧ m_u_law_right_b1 (ER x1 x2 (some (rowD ns)) x6 x7 x8 x9 x10) [m] = .nx (ER x1 x2 (some (rowD ns)) x6 x7 x8 x9 x10) [m'] := by
  obtain ⟨m', w, q⟩ := c_told ns hr m hm
  exact ⟨m', w, sif_skip (tnot_ok (b := true) (tru_ok (fn_of (two_ok rfl rfl) rfl (q _))))⟩
theorem r_rows (items : List D) (x1 x2 x6 x7 x8 x9 x10 : Option D) : ∀ (l : List (List Int)) (m : MO) (x3 : Option D), Wl m → (∀ r ∈ l, Row r) → ∃ (m' : MO) (y : Option D), Wl m' ∧ sloop none items (gname 3) m_u_law_right_b1 (l.map rowD) (ER x1 x2 x3 x6 x7 x8 x9 x10) [m] = .nx (ER x1 x2 y x6 x7 x8 x9 x10) [m']
  | [], m, x3, w, _ => ⟨m, x3, w, by simp [sloop]⟩
  | r :: l, m, x3, w, h => by
    obtain ⟨m1, w1, q⟩ := r_b1 r (h r (by simp)) m w x1 x2 x6 x7 x8 x9 x10
    obtain ⟨m2, y, w2, q2⟩ := r_rows items x1 x2 x6 x7 x8 x9 x10 l m1 (some (rowD r)) w1 fun k hk => h k (by simp [hk])
    exact ⟨m2, y, w2, sloop_of (e1 := ER x1 x2 (some (rowD r)) x6 x7 x8 x9 x10) rfl rfl q q2⟩
theorem r_mins (ns : List Int) (hl : ns.length ≤ 8) (m : MO) (E : Nv) (h2 : E[2]? = some (some (rowD ns))) (hw : wipeE E [4] = E) (h4 : 4 < E.length) : xcall (f1 tupleD) (xcons (xcomp (xwalk (xvar 2)) [4] (gname 4) (xpure true) m_u_law_right_e1) (xpure [])) E [m] = .ok (rowD (ns.map fun n => min 1 n)) [m] := by
  have h0 : (xvar 2) E [m] = .ok (rowD ns) [m] := by rw [ap_var, h2]
  have q := cl_map (e := E) (st := [m]) (src := none) (items := iD ns) (gt := gname 4) (mt := xpure true) (me := m_u_law_right_e1) D.int (fun _ => true) (fun n => .int (min 1 n)) rfl ns (fun n _ => ⟨_, rfl, rfl, fun _ => by
    have h5 : (xvar 4) (E.set 4 (some (.int n))) [m] = .ok (.int n) [m] := by rw [ap_var, List.getElem?_set_self h4]
    exact call_of (two_ok (x := .int 1) rfl h5) rfl⟩) (by omega)
  rw [filter_yes] at q
  have e1 : ns.map (fun n => D.int (min 1 n)) = iD (ns.map fun n => min 1 n) := by simp [iD]
  rw [e1] at q
  refine tu_of (comp_of (xs := iD ns) (walk_of h0 rfl) ?_) rfl
  rw [hw]
  exact q
theorem r_picks (m : MO) (hm : Wl m) (E : Nv) (h0 : E[0]? = some (some (.ref 0))) (hw : wipeE E [5] = E) : ∃ (gs : List Int) (m' : MO), Wl m' ∧ gs.length = 5 ∧ (∀ n ∈ gs, -1 ≤ n ∧ n ≤ 1) ∧ xcall (f1 tupleD) (xcons (xcomp (xrange1 (xpure (.int 5))) [5] (gname 5) (xpure true) m_u_law_right_e2) (xpure [])) E [m] = .ok (rowD gs) [m'] := by
  obtain ⟨ds, st', ql, hlen, hp, ⟨m3, e3, w3⟩⟩ := cloop_inv (src := none) (items := rangeL 0 5) (gt := gname 5) (mt := xpure true) (me := m_u_law_right_e2) (e := E) (fun st => ∃ m, st = [m] ∧ Wl m) (fun d => ∃ n : Int, d = .int n ∧ -1 ≤ n ∧ n ≤ 1) (fun _ _ => rfl) (rangeL 0 5) [] [m]
    (by
      intro x hx st ⟨m, es, w⟩
      subst es
      obtain ⟨g, m', w', g0, g1, q⟩ := c_pick3 m w
      have h5 : (xvar 0) (E.set 5 (some x)) [m] = .ok (.ref 0) [m] := by rw [ap_var, List.getElem?_set_ne (by decide), h0]
      exact ⟨_, rfl, rfl, .int g, [m'], fn_of (two_ok h5 (lst_ok (cons_ok rfl (two_ok rfl rfl)) (show 3 ≤ LIM by decide))) rfl (q _), ⟨g, rfl, g0, g1⟩, m', rfl, w'⟩)
    ⟨m, rfl, hm⟩ (by simp [rangeL_len, LIM])
  have hns : ∃ ns : List Int, ds = iD ns ∧ ∀ n ∈ ns, -1 ≤ n ∧ n ≤ 1 := by
    clear ql hlen
    induction ds with
    | nil => exact ⟨[], rfl, by simp⟩
    | cons d r ih =>
      obtain ⟨ns, e1, h1⟩ := ih fun x hx => hp x (by simp [hx])
      obtain ⟨n, e2, h2⟩ := hp d (by simp)
      exact ⟨n :: ns, by rw [e2, e1]; rfl, fun x hx => by
        rcases List.mem_cons.mp hx with rfl | hx
        · exact h2
        · exact h1 x hx⟩
  obtain ⟨ns, rfl, hb⟩ := hns
  subst e3
  rw [rangeL_len, iD_len] at hlen
  refine ⟨ns, m3, w3, hlen, hb, ?_⟩
  rw [List.nil_append] at ql
  have r5 : xrange1 (xpure (.int 5)) E [m] = .ok (rangeL 0 5, none) [m] := range1_of (j := 5) rfl rfl
  refine tu_of (comp_of r5 ?_) rfl
  rw [hw]
  exact ql
theorem r_lap (m : MO) (hm : Wl m) (x1 x2 x3 x6 x7 x8 x9 x10 : Option D) : ∃ (m' : MO) (y2 y3 y6 : Option D), Wl m' ∧ m_u_law_right_b2 (ER x1 x2 x3 x6 x7 x8 x9 x10) [m] = .nx (ER x1 y2 y3 y6 x7 x8 x9 x10) [m'] := by
  obtain ⟨ns, m1, w1, l1, l8, hb, q1⟩ := c_law_row m hm 8 (by decide) (by decide)
  have hl : ns.length ≤ 8 := by omega
  have hr : Row ns := ⟨l1, hl, hb⟩
  obtain ⟨gs, m2, w2, gl, gb, qp⟩ := r_picks m1 w1 (ER x1 (some (rowD ns)) x3 x6 x7 x8 x9 x10) rfl rfl
  have rm : Row (ns.map fun n => min 1 n) := ⟨by simpa using l1, by simpa using hl, fun x hx => by
    obtain ⟨n, hn, rfl⟩ := List.mem_map.mp hx
    have := hb n hn
    omega⟩
  have rg : Row (1 :: 1 :: gs) := ⟨by simp, by simp [gl], fun x hx => by
    rcases List.mem_cons.mp hx with rfl | hx
    · omega
    · rcases List.mem_cons.mp hx with rfl | hx
      · omega
      · have := gb x hx; omega⟩
  obtain ⟨m3, y3, w3, q3⟩ := r_rows ([ns, ns.map (fun n => min 1 n), 1 :: 1 :: gs].map rowD) x1 (some (rowD ns)) x6 x7 x8 x9 x10 [ns, ns.map (fun n => min 1 n), 1 :: 1 :: gs] m2 x3 w2 (by
    intro r hr'
    simp only [List.mem_cons, List.not_mem_nil, or_false] at hr'
    rcases hr' with rfl | rfl | rfl
    · exact hr
    · exact rm
    · exact rg)
  obtain ⟨d, m4, w4, d0, d1, q4⟩ := c_draw m3 w3 8 (by decide) (by decide)
  obtain ⟨n, rfl⟩ : ∃ n : Nat, d = (n : Int) := ⟨d.toNat, by omega⟩
  obtain ⟨a, m5, w5, ha, q5⟩ := c_law_tree m4 w4 n (by omega)
  have tl : a.trow.length = 1 + a.size := Fo.trow_len a
  obtain ⟨k, m6, w6, k0, k1, q6⟩ := c_draw m5 w5 (a.trow.length : Int) (by omega) (by omega)
  obtain ⟨c, rfl⟩ : ∃ c : Nat, k = (c : Int) := ⟨k.toNat, by omega⟩
  have T := trow_Tr a ha
  obtain ⟨j, hj, hj1, hj2⟩ := treeT_one a.trow T.sum (Fo.trow_tr a) c (by omega)
  have told := fun (e : Nv) => c_is_tree_told (e := e) (turn a.trow c) (T.turn c) j hj1 (by rw [turn_len]; exact hj) a ha hj2 m6 w6
  refine ⟨m6, some (rowD ns), y3, some (rowD a.trow), w6, ?_⟩
  have s1 : sset 2 (xfn 2 (D_u_law_row) (xcons (xvar 0) (xcons (xpure (.int 8)) (xpure [])))) (ER x1 x2 x3 x6 x7 x8 x9 x10) [m] = .nx (ER x1 (some (rowD ns)) x3 x6 x7 x8 x9 x10) [m1] := set_ok (fn_of (two_ok rfl rfl) rfl (q1 _))
  have a3 : xop addD (xtup (xcons (xpure (.int 1)) (xcons (xpure (.int 1)) (xpure [])))) (xcall (f1 tupleD) (xcons (xcomp (xrange1 (xpure (.int 5))) [5] (gname 5) (xpure true) m_u_law_right_e2) (xpure []))) (ER x1 (some (rowD ns)) x3 x6 x7 x8 x9 x10) [m1] = .ok (rowD (1 :: 1 :: gs)) [m2] := by
    refine op_of (s1 := [m1]) (x := .tup [.int 1, .int 1]) (tup_ok (two_ok rfl rfl) (show 2 ≤ LIM by decide)) qp ?_
    show (if (2 + (iD gs).length ≤ LIM) then _ else _) = _
    rw [if_pos (by rw [iD_len, gl]; decide)]
    rfl
  have l3 : xlst (xcons (xvar 2) (xcons (xcall (f1 tupleD) (xcons (xcomp (xwalk (xvar 2)) [4] (gname 4) (xpure true) m_u_law_right_e1) (xpure []))) (xcons (xop addD (xtup (xcons (xpure (.int 1)) (xcons (xpure (.int 1)) (xpure [])))) (xcall (f1 tupleD) (xcons (xcomp (xrange1 (xpure (.int 5))) [5] (gname 5) (xpure true) m_u_law_right_e2) (xpure [])))) (xpure [])))) (ER x1 (some (rowD ns)) x3 x6 x7 x8 x9 x10) [m1] = .ok (.lst ([ns, ns.map (fun n => min 1 n), 1 :: 1 :: gs].map rowD)) [m2] :=
    lst_ok (cons_ok rfl (two_ok (r_mins ns hl m1 _ rfl rfl (by simp)) a3)) (show 3 ≤ LIM by decide)
  have t6 : xfn 1 (D_u_law_tree_row) (xcons (xfn 2 (D_u_law_tree) (xcons (xvar 0) (xcons (xop addD (xpure (.int 1)) (xfn 2 (D_u_law_draw) (xcons (xvar 0) (xcons (xpure (.int 8)) (xpure []))))) (xpure [])))) (xpure [])) (ER x1 (some (rowD ns)) y3 x6 x7 x8 x9 x10) [m3] = .ok (rowD a.trow) [m5] := by
    have d1' : xop addD (xpure (.int 1)) (xfn 2 (D_u_law_draw) (xcons (xvar 0) (xcons (xpure (.int 8)) (xpure [])))) (ER x1 (some (rowD ns)) y3 x6 x7 x8 x9 x10) [m3] = .ok (.int ((n + 1 : Nat) : Int)) [m4] := op_of (s1 := [m3]) (s2 := [m4]) (x := .int 1) (y := .int n) rfl (fn_of (two_ok rfl rfl) rfl (q4 _ [])) (by
      show RX.ok (D.int (1 + (n : Int))) [m4] = _
      rw [show (1 + (n : Int)) = ((n + 1 : Nat) : Int) by omega])
    exact fn_of (one_ok (fn_of (two_ok rfl d1') rfl (q5 _))) rfl (c_law_tree_row a ha)
  have t7 : xfn 2 (D_u_law_is_tree_told) (xcons (xvar 0) (xcons (xfn 2 (D_u_law_turned) (xcons (xvar 6) (xcons (xfn 2 (D_u_law_draw) (xcons (xvar 0) (xcons (xcall (f1 lenD) (xcons (xvar 6) (xpure []))) (xpure [])))) (xpure [])))) (xpure []))) (ER x1 (some (rowD ns)) y3 (some (rowD a.trow)) x7 x8 x9 x10) [m5] = .ok (.bl true) [m6] :=
    fn_of (two_ok rfl (fn_of (two_ok rfl (fn_of (two_ok rfl (call_of (one_ok rfl) (len_row a.trow))) rfl (q6 _ []))) rfl (c_law_turned a.trow c (by omega)))) rfl (told _)
  exact seq_of s1 (seq_of (for_of (walk_of l3 rfl) q3) (seq_of (set_ok t6) (sif_skip (tnot_ok (b := true) (tru_ok t7)))))
/-! ## votes' laps -/
theorem mem_vcsB : ((List.range 4).all fun w => (List.range 3).all fun d => (List.range 7).all fun t => !(decide (1 ≤ w) && decide (t < max 1 (7 - w * d - d)) && decide (w * d + t + d < 8)) || vcs.contains (w * d + t, d, w)) = true := by decide +kernel
theorem mem_vcs {w d t : Nat} (hw : w < 4) (hd : d < 3) (ht : t < 7) (h1 : 1 ≤ w) (h2 : t < max 1 (7 - w * d - d)) (h3 : w * d + t + d < 8) : (w * d + t, d, w) ∈ vcs := by
  have := List.all_eq_true.mp (List.all_eq_true.mp (List.all_eq_true.mp mem_vcsB w (List.mem_range.mpr hw)) d (List.mem_range.mpr hd)) t (List.mem_range.mpr ht)
  rw [decide_eq_true h1, decide_eq_true h2, decide_eq_true h3] at this
  exact List.contains_iff_mem.mp (by simpa using this)
theorem v_lap (m : MO) (hm : Wl m) (x1 x2 x3 x6 x7 x8 x9 x10 : Option D) : ∃ (m' : MO) (y7 y8 y9 : Option D), Wl m' ∧ m_u_law_right_b3 (ER x1 x2 x3 x6 x7 x8 x9 x10) [m] = .nx (ER x1 x2 x3 x6 y7 y8 y9 x10) [m'] := by
  obtain ⟨w0, m1, k1, a0, a1, q1⟩ := c_draw m hm 3 (by decide) (by decide)
  obtain ⟨w, rfl⟩ : ∃ w : Nat, w0 = (w : Int) := ⟨w0.toNat, by omega⟩
  obtain ⟨d0, m2, k2, b0, b1, q2⟩ := c_draw m1 k1 3 (by decide) (by decide)
  obtain ⟨d, rfl⟩ : ∃ d : Nat, d0 = (d : Int) := ⟨d0.toNat, by omega⟩
  have mx : (max 1 (7 - ((w + 1 : Nat) : Int) * (d : Int) - (d : Int)) : Int) = ((max 1 (7 - (w + 1) * d - d) : Nat) : Int) := by
    have e1 : ((w + 1 : Nat) : Int) * (d : Int) = (((w + 1) * d : Nat) : Int) := by rw [Int.natCast_mul]
    rw [e1]
    omega
  have mpos : 1 ≤ max 1 (7 - (w + 1) * d - d) ∧ max 1 (7 - (w + 1) * d - d) ≤ 7 := by omega
  obtain ⟨t0, m3, k3, c0, c1, q3⟩ := c_draw m2 k2 ((max 1 (7 - (w + 1) * d - d) : Nat) : Int) (by omega) (by omega)
  obtain ⟨t, rfl⟩ : ∃ t : Nat, t0 = (t : Int) := ⟨t0.toNat, by omega⟩
  have e2 : ((w + 1 : Nat) : Int) * (d : Int) + (t : Int) = (((w + 1) * d + t : Nat) : Int) := by rw [show (((w + 1) * d + t : Nat) : Int) = (((w + 1) * d : Nat) : Int) + (t : Int) from Int.natCast_add _ _, Int.natCast_mul]
  refine ⟨m3, some (.int ((w + 1 : Nat) : Int)), some (.int (d : Int)), some (.int (((w + 1) * d + t : Nat) : Int)), k3, ?_⟩
  have mc : mulC ((w + 1 : Nat) : Int) (d : Int) = true := by
    unfold mulC
    simp
    omega
  have s7 : xop addD (xpure (.int 1)) (xfn 2 (D_u_law_draw) (xcons (xvar 0) (xcons (xpure (.int 3)) (xpure [])))) (ER x1 x2 x3 x6 x7 x8 x9 x10) [m] = .ok (.int ((w + 1 : Nat) : Int)) [m1] := op_of (s1 := [m]) (s2 := [m1]) (x := .int 1) (y := .int w) rfl (fn_of (two_ok rfl rfl) rfl (q1 _ [])) (by
    show RX.ok (D.int (1 + (w : Int))) [m1] = _
    rw [show (1 + (w : Int)) = ((w + 1 : Nat) : Int) by omega])
  have s8 : xfn 2 (D_u_law_draw) (xcons (xvar 0) (xcons (xpure (.int 3)) (xpure []))) (ER x1 x2 x3 x6 (some (.int ((w + 1 : Nat) : Int))) x8 x9 x10) [m1] = .ok (.int (d : Int)) [m2] := fn_of (two_ok rfl rfl) rfl (q2 _ [])
  have ml : ∀ (x9 : Option D), xop mulD (xvar 7) (xvar 8) (ER x1 x2 x3 x6 (some (.int ((w + 1 : Nat) : Int))) (some (.int (d : Int))) x9 x10) [m2] = .ok (.int (((w + 1 : Nat) : Int) * (d : Int))) [m2] := fun x9 => op_of (s1 := [m2]) (s2 := [m2]) (x := .int ((w + 1 : Nat) : Int)) (y := .int (d : Int)) rfl rfl (by
    show (if mulC ((w + 1 : Nat) : Int) (d : Int) = true then _ else _) = _
    rw [if_pos mc])
  have mxx : xcall (f2 max2D) (xcons (xpure (.int 1)) (xcons (xop subD (xop subD (xpure (.int 7)) (xop mulD (xvar 7) (xvar 8))) (xvar 8)) (xpure []))) (ER x1 x2 x3 x6 (some (.int ((w + 1 : Nat) : Int))) (some (.int (d : Int))) x9 x10) [m2] = .ok (.int ((max 1 (7 - (w + 1) * d - d) : Nat) : Int)) [m2] := by
    refine call_of (two_ok rfl (op_of (s1 := [m2]) (s2 := [m2]) (y := .int (d : Int)) (op_of (s1 := [m2]) (s2 := [m2]) (x := .int 7) rfl (ml x9) rfl) rfl rfl)) ?_
    rw [← mx]
    rfl
  have s9 : xop addD (xop mulD (xvar 7) (xvar 8)) (xfn 2 (D_u_law_draw) (xcons (xvar 0) (xcons (xcall (f2 max2D) (xcons (xpure (.int 1)) (xcons (xop subD (xop subD (xpure (.int 7)) (xop mulD (xvar 7) (xvar 8))) (xvar 8)) (xpure [])))) (xpure [])))) (ER x1 x2 x3 x6 (some (.int ((w + 1 : Nat) : Int))) (some (.int (d : Int))) x9 x10) [m2] = .ok (.int (((w + 1) * d + t : Nat) : Int)) [m3] := by
    refine op_of (s1 := [m2]) (s2 := [m3]) (y := .int (t : Int)) (ml x9) (fn_of (two_ok rfl mxx) rfl (q3 _ [])) ?_
    rw [← e2]
    rfl
  have lt8 : xbool (xop ltD (xop addD (xvar 9) (xvar 8)) (xpure (.int 8))) (ER x1 x2 x3 x6 (some (.int ((w + 1 : Nat) : Int))) (some (.int (d : Int))) (some (.int (((w + 1) * d + t : Nat) : Int))) x10) [m3] = .ok (decide ((w + 1) * d + t + d < 8)) [m3] := by
    refine bool_of (s1 := [m3]) (op_of (s1 := [m3]) (s2 := [m3]) (x := .int ((((w + 1) * d + t : Nat) : Int) + (d : Int))) (y := .int 8) (op_of (s1 := [m3]) (s2 := [m3]) (x := .int (((w + 1) * d + t : Nat) : Int)) (y := .int (d : Int)) rfl rfl rfl) rfl ?_)
    show RX.ok (D.bl (decide _)) [m3] = _
    congr 2
    refine decide_eq_decide.mpr ?_
    omega
  refine seq_of (set_ok s7) (seq_of (set_ok s8) (seq_of (set_ok s9) (sif_skip ?_)))
  by_cases h8 : (w + 1) * d + t + d < 8
  · rw [decide_eq_true h8] at lt8
    have hv := mem_vcs (w := w + 1) (d := d) (t := t) (by omega) (by omega) (by omega) (by omega) (by omega) h8
    have q := fun (e : Nv) => c_votes_told (e := e) ((w + 1) * d + t, d, w + 1) hv m3 k3
    exact (tand_t lt8).trans (tnot_ok (b := true) (tru_ok (fn_of (cons_ok rfl (cons_ok rfl (two_ok rfl rfl))) rfl (q _))))
  · rw [decide_eq_false h8] at lt8
    exact tand_f lt8
end LS
end
section
set_option maxRecDepth 100000
set_option maxHeartbeats 4000000
namespace LS
open PySem PySem.Spec L2 CY
variable {e : Nv} {st : Store}
/-! ## the last rows -/
def PE11 (e : Nv) (st : Store) : Prop := ∃ x1 x2 x3 x6 x7 x8 x9 : Option D, e = ER x1 x2 x3 x6 x7 x8 x9 none ∧ ∃ m, st = [m] ∧ Wl m
theorem r_laps (items : List D) (E : Nv) (st : Store) (h : PE11 E st) : ∃ e' st', sloop none items (gname 1) m_u_law_right_b2 (rangeL 0 6) E st = .nx e' st' ∧ PE11 e' st' := by
  refine sloop_inv (src := none) PE11 (fun _ _ _ => rfl) (rangeL 0 6) ?_ E st h
  rintro x hx e st ⟨x1, x2, x3, x6, x7, x8, x9, rfl, m, rfl, w⟩
  obtain ⟨m', y2, y3, y6, w', q⟩ := r_lap m w (some x) x2 x3 x6 x7 x8 x9 none
  exact ⟨ER (some x) x2 x3 x6 x7 x8 x9 none, [m], rfl, _, _, .inl q, _, _, _, _, _, _, _, rfl, m', rfl, w'⟩
theorem v_laps (items : List D) (E : Nv) (st : Store) (h : PE11 E st) : ∃ e' st', sloop none items (gname 1) m_u_law_right_b3 (rangeL 0 4) E st = .nx e' st' ∧ PE11 e' st' := by
  refine sloop_inv (src := none) PE11 (fun _ _ _ => rfl) (rangeL 0 4) ?_ E st h
  rintro x hx e st ⟨x1, x2, x3, x6, x7, x8, x9, rfl, m, rfl, w⟩
  obtain ⟨m', y7, y8, y9, w', q⟩ := v_lap m w (some x) x2 x3 x6 x7 x8 x9 none
  exact ⟨ER (some x) x2 x3 x6 x7 x8 x9 none, [m], rfl, _, _, .inl q, _, _, _, _, _, _, _, rfl, m', rfl, w'⟩
def vDuel : List Int := [1, 1, -1]
theorem row_duel : Row vDuel := ⟨by decide, by decide, by decide⟩
theorem tr_last : Tr [-1, 1, -1] := ⟨⟨by decide, by decide, by decide⟩, by decide, by decide⟩
theorem d_lead : leadT vDuel = [0] := by decide +kernel
theorem d_stand : standT vDuel = [0, 1] := by decide +kernel
theorem d_tree : treeT [-1, 1, -1] = [1] := by decide +kernel
theorem c_cl1 : callD D_count_leading [.int 3, .int 1, .int 1] e st = .ok (.int 2) st := callD0 rfl rfl (by kernel_rfl : D_count_leading [] [.int 3, .int 1, .int 1] = .ok (.int 2) []) rfl
theorem c_cl2 : callD D_count_leading [.int 0, .int 0, .int 1] e st = .ok (.int 1) st := callD0 rfl rfl (by kernel_rfl : D_count_leading [] [.int 0, .int 0, .int 1] = .ok (.int 1) []) rfl
theorem c_cs1 : callD D_count_standing [.int 2, .int 1, .int 2] e st = .ok (.int 1) st := callD0 rfl rfl (by kernel_rfl : D_count_standing [] [.int 2, .int 1, .int 2] = .ok (.int 1) []) rfl
def vTold : D := .lst [rowD [0], rowD [0, 1], .int 2, .int 1, .int 1, .int 1]
theorem r_last (E : Nv) (st : Store) (h : E[10]? = some (some (rowD vDuel))) : sret (xfn 2 (D_u_law_same 6) (xcons (xlst (xcons (xfn 1 (D_leading_turnings) (xcons (xvar 10) (xpure []))) (xcons (xfn 1 (D_standing_turnings) (xcons (xvar 10) (xpure []))) (xcons (xfn 3 (D_count_leading) (xcons (xpure (.int 3)) (xcons (xpure (.int 1)) (xcons (xpure (.int 1)) (xpure []))))) (xcons (xfn 3 (D_count_standing) (xcons (xpure (.int 2)) (xcons (xpure (.int 1)) (xcons (xpure (.int 2)) (xpure []))))) (xcons (xfn 3 (D_count_leading) (xcons (xpure (.int 0)) (xcons (xpure (.int 0)) (xcons (xpure (.int 1)) (xpure []))))) (xcons (xfn 1 (D_tree_turning) (xcons (xtup (xcons (xneg (xpure (.int 1))) (xcons (xpure (.int 1)) (xcons (xneg (xpure (.int 1))) (xpure []))))) (xpure []))) (xpure [])))))))) (xcons (xlst (xcons (xtup (xcons (xpure (.int 0)) (xpure []))) (xcons (xtup (xcons (xpure (.int 0)) (xcons (xpure (.int 1)) (xpure [])))) (xcons (xpure (.int 2)) (xcons (xpure (.int 1)) (xcons (xpure (.int 1)) (xcons (xpure (.int 1)) (xpure [])))))))) (xpure [])))) E st = .rt (.bl true) st := by
  have h10 : (xvar 10) E st = .ok (rowD vDuel) st := by rw [ap_var, h]
  have a1 : callD D_leading_turnings [rowD vDuel] E st = .ok (rowD [0]) st := by
    have := c_leading (e := E) (st := st) vDuel row_duel
    rw [d_lead] at this
    exact this
  have a2 : callD D_standing_turnings [rowD vDuel] E st = .ok (rowD [0, 1]) st := by
    have := c_standing (e := E) (st := st) vDuel row_duel
    rw [d_stand] at this
    exact this
  have a6 : callD D_tree_turning [rowD [-1, 1, -1]] E st = .ok (.int 1) st := c_tree_turning [-1, 1, -1] tr_last 1 d_tree
  have t6 : xtup (xcons (xneg (xpure (.int 1))) (xcons (xpure (.int 1)) (xcons (xneg (xpure (.int 1))) (xpure [])))) E st = .ok (rowD [-1, 1, -1]) st := tup_ok (cons_ok rfl (two_ok rfl rfl)) (show 3 ≤ LIM by decide)
  have l1 := lst_ok (cons_ok (fn_of (n := 1) (f := D_leading_turnings) (one_ok h10) rfl a1) (cons_ok (fn_of (n := 1) (f := D_standing_turnings) (one_ok h10) rfl a2) (cons_ok (fn_of (n := 3) (f := D_count_leading) (cons_ok (m := xpure (.int 3)) rfl (two_ok (m := xpure (.int 1)) (m2 := xpure (.int 1)) rfl rfl)) rfl (c_cl1 (e := E) (st := st))) (cons_ok (fn_of (n := 3) (f := D_count_standing) (cons_ok (m := xpure (.int 2)) rfl (two_ok (m := xpure (.int 1)) (m2 := xpure (.int 2)) rfl rfl)) rfl (c_cs1 (e := E) (st := st))) (two_ok (fn_of (n := 3) (f := D_count_leading) (cons_ok (m := xpure (.int 0)) rfl (two_ok (m := xpure (.int 0)) (m2 := xpure (.int 1)) rfl rfl)) rfl (c_cl2 (e := E) (st := st))) (fn_of (n := 1) (f := D_tree_turning) (one_ok t6) rfl a6)))))) (show 6 ≤ LIM by decide)
  have l2 : xlst (xcons (xtup (xcons (xpure (.int 0)) (xpure []))) (xcons (xtup (xcons (xpure (.int 0)) (xcons (xpure (.int 1)) (xpure [])))) (xcons (xpure (.int 2)) (xcons (xpure (.int 1)) (xcons (xpure (.int 1)) (xcons (xpure (.int 1)) (xpure []))))))) E st = .ok vTold st := lst_ok (cons_ok (tup_ok (one_ok rfl) (show 1 ≤ LIM by decide)) (cons_ok (tup_ok (two_ok rfl rfl) (show 2 ≤ LIM by decide)) (cons_ok rfl (cons_ok rfl (two_ok rfl rfl))))) (show 6 ≤ LIM by decide)
  exact ret_ok (fn_of (two_ok (x := vTold) (y := vTold) l1 l2) rfl (c_same _ (by kernel_rfl)))
theorem right_ok (m : MO) (hm : Wl m) : ∃ m', Wl m' ∧ D_u_law_right [m] [.ref 0] = .ok (.bl true) [m'] := by
  obtain ⟨e1, s1, q1, P1⟩ := r_laps (rangeL 0 6) (ER none none none none none none none none) [m] ⟨_, _, _, _, _, _, _, rfl, m, rfl, hm⟩
  obtain ⟨e2, s2, q2, P2⟩ := v_laps (rangeL 0 4) e1 s1 P1
  obtain ⟨x1, x2, x3, x6, x7, x8, x9, rfl, m', rfl, w'⟩ := P2
  refine ⟨m', w', runF_w (st := []) (?_ : m_u_law_right (ER none none none none none none none none) [m] = _) w' rfl⟩
  unfold m_u_law_right
  have dd : xtup (xcons (xpure (.int 1)) (xcons (xpure (.int 1)) (xcons (xneg (xpure (.int 1))) (xpure [])))) (ER x1 x2 x3 x6 x7 x8 x9 none) [m'] = .ok (rowD vDuel) [m'] := tup_ok (cons_ok rfl (two_ok rfl rfl)) (show 3 ≤ LIM by decide)
  exact seq_of (for_of (range1_of (j := 6) rfl rfl) q1) (seq_of (for_of (range1_of (j := 4) rfl rfl) q2) (seq_of (set_ok dd) (r_last _ _ rfl)))
theorem law_turn (ns : List Int) (hn : ns.length ≤ 63) (lap : Nat) (st : Store) : ∃ st2, m_law_b1 [some (.sq (iD ns)), some (.int (0 + (lap : Int)))] st = .nx [some (.sq (iD ns)), some (.int (0 + (lap : Int)))] st2 := by
  obtain ⟨m, w, q⟩ := c_pool ns (0 + (lap : Int)) (by omega) hn
  obtain ⟨m', w', q'⟩ := right_ok m w
  have h1 : ∀ e : Nv, callD D_u_law_right [.ref st.length] e (st ++ [m]) = .ok (.bl true) ((st ++ [m]).set st.length m') := fun e => callD1 (i := st.length) rfl (by simp [argG]) (by simp) w.mo q' w'.mo rfl
  refine ⟨(st ++ [m]).set st.length m', ?_⟩
  unfold m_law_b1
  refine sif_f (tnot_ok (b := true) (tru_ok ?_))
  rw [ap_fn, ap_cons, ap_bind, ap_fn]
  have h2 : (xcons (xvar 0) (xcons (xvar 1) (xpure []))) [some (.sq (iD ns)), some (.int (0 + (lap : Int)))] st = .ok [.sq (iD ns), .int (0 + (lap : Int))] st := by simp
  rw [h2]
  simp only [List.length_cons, List.length_nil, Nat.zero_add, if_true]
  rw [q]
  exact h1 [some (.sq (iD ns)), some (.int (0 + (lap : Int)))]
theorem law_ok (ns : List Int) (hn : ns.length ≤ 63) : D_law [] [.sq (iD ns)] = .ok (.bl true) [] := by
  obtain ⟨n, hn3, en⟩ : ∃ n : Nat, n ≤ 3 ∧ max (2 : Int) (min (ns.length : Int) 3) = (n : Int) := ⟨(max (2 : Int) (min (ns.length : Int) 3)).toNat, by omega, by omega⟩
  obtain ⟨e', st', q, y, he⟩ := sloop_inv (src := none) (items := rangeL 0 n) (gt := gname 1) (body := m_law_b1) (fun e _ => ∃ y, e = [some (.sq (iD ns)), y]) (fun _ _ _ => rfl) (rangeL 0 n) (by
    intro x hx e st ⟨y, he⟩
    subst he
    obtain ⟨i, hi, rfl⟩ := mem_rangeL hx
    obtain ⟨st2, q⟩ := law_turn ns hn i st
    exact ⟨_, _, rfl, _, st2, .inl q, _, rfl⟩) [some (.sq (iD ns)), none] [] ⟨_, rfl⟩
  refine runF_rt (st' := st') (d := .bl true) ?_ rfl
  show m_law [some (.sq (iD ns)), none] [] = _
  unfold m_law
  have rg : rngB (n : Int) = true := rngB_of (by omega) (by omega)
  have h1 : xrange1 (xcall (f2 max2D) (xcons (xpure (.int 2)) (xcons (xcall (f2 min2D) (xcons (xcall (f1 lenD) (xcons (xvar 0) (xpure []))) (xcons (xpure (.int 3)) (xpure [])))) (xpure [])))) [some (.sq (iD ns)), none] [] = .ok (rangeL 0 n, none) [] := by
    simp [en, rg]
  have h2 : sfor (xrange1 (xcall (f2 max2D) (xcons (xpure (.int 2)) (xcons (xcall (f2 min2D) (xcons (xcall (f1 lenD) (xcons (xvar 0) (xpure []))) (xcons (xpure (.int 3)) (xpure [])))) (xpure []))))) (gname 1) m_law_b1 [some (.sq (iD ns)), none] [] = .nx e' st' := by
    rw [ap_for, h1]
    exact q
  rw [seq_nx h2]
  rfl
end LS
end
section
namespace HD
open PySem PySem.Spec PyProof.Rows L2
theorem facts {P : Program} {w : World} {K : PySem.W.Frag} {h : Heap} {mg : Str → Option Value} (X : K.In h) (G : h.Ns mainGlobals mg) (c : He.SaysD fa fn K) (cx : (fx.all fun f => f K) = true) (base : Heap) : LS.GF ⟨P, w, K, mg, base⟩ where
    b_abs := He.free_ok X G (c.fact 65 (f := .free "abs") rfl)
    b_all := He.free_ok X G (c.fact 66 (f := .free "all") rfl)
    b_bool := He.free_ok X G (c.fact 67 (f := .free "bool") rfl)
    b_divmod := He.free_ok X G (c.fact 68 (f := .free "divmod") rfl)
    b_enumerate := He.free_ok X G (c.fact 69 (f := .free "enumerate") rfl)
    b_int := He.free_ok X G (c.fact 70 (f := .free "int") rfl)
    b_isinstance := He.free_ok X G (c.fact 71 (f := .free "isinstance") rfl)
    b_len := He.free_ok X G (c.fact 72 (f := .free "len") rfl)
    b_list := He.free_ok X G (c.fact 73 (f := .free "list") rfl)
    b_max := He.free_ok X G (c.fact 74 (f := .free "max") rfl)
    b_min := He.free_ok X G (c.fact 75 (f := .free "min") rfl)
    b_range := He.free_ok X G (c.fact 76 (f := .free "range") rfl)
    b_sorted := He.free_ok X G (c.fact 77 (f := .free "sorted") rfl)
    b_str := He.free_ok X G (c.fact 78 (f := .free "str") rfl)
    b_sum := He.free_ok X G (c.fact 79 (f := .free "sum") rfl)
    b_tuple := He.free_ok X G (c.fact 80 (f := .free "tuple") rfl)
    c_MOST_KNOTS := He.int_ok X G (c.fact 87 (f := .int "MOST_KNOTS" (8)) rfl)
    c_MOST_LISTED := He.int_ok X G (c.fact 86 (f := .int "MOST_LISTED" (9)) rfl)
    c_MOST_NUMBERS := He.int_ok X G (c.fact 81 (f := .int "MOST_NUMBERS" (8)) rfl)
    c_MOST_SIZE := He.int_ok X G (c.fact 82 (f := .int "MOST_SIZE" (9)) rfl)
    c_MOST_VOTES := He.int_ok X G (c.fact 84 (f := .int "MOST_VOTES" (20)) rfl)
    c_MOST_WEIGHT := He.int_ok X G (c.fact 85 (f := .int "MOST_WEIGHT" (9)) rfl)
    c_UP := He.int_ok X G (c.fact 83 (f := .int "UP" (1)) rfl)
    v_comb := PySem.W.mg_of X G (He.eqO_ok (List.all_eq_true.mp cx _ (List.mem_of_getElem? (show fx[1]? = some _ from rfl))))
    v_combinations := PySem.W.mg_of X G (He.eqO_ok (List.all_eq_true.mp cx _ (List.mem_of_getElem? (show fx[0]? = some _ from rfl))))
    d_u_law_draw := let ⟨fd, F⟩ := c.def_ 48 (d := df "_law_draw" 76) rfl; ⟨_, fd, He.glo_ok X G (c.fact 48 (f := .glo "_law_draw") rfl), F⟩
    d_u_law_pick := let ⟨fd, F⟩ := c.def_ 49 (d := df "_law_pick" 77) rfl; ⟨_, fd, He.glo_ok X G (c.fact 49 (f := .glo "_law_pick") rfl), F⟩
    d_u_law_row := let ⟨fd, F⟩ := c.def_ 51 (d := df "_law_row" 79) rfl; ⟨_, fd, He.glo_ok X G (c.fact 51 (f := .glo "_law_row") rfl), F⟩
    d_u_law_turned := let ⟨fd, F⟩ := c.def_ 55 (d := df "_law_turned" 83) rfl; ⟨_, fd, He.glo_ok X G (c.fact 55 (f := .glo "_law_turned") rfl), F⟩
    d_u_law_sums := let ⟨fd, F⟩ := c.def_ 52 (d := df "_law_sums" 80) rfl; ⟨_, fd, He.glo_ok X G (c.fact 52 (f := .glo "_law_sums") rfl), F⟩
    d_u_law_leads := let ⟨fd, F⟩ := c.def_ 53 (d := df "_law_leads" 81) rfl; ⟨_, fd, He.glo_ok X G (c.fact 53 (f := .glo "_law_leads") rfl), F⟩
    d_u_law_stands := let ⟨fd, F⟩ := c.def_ 54 (d := df "_law_stands" 82) rfl; ⟨_, fd, He.glo_ok X G (c.fact 54 (f := .glo "_law_stands") rfl), F⟩
    d_is_whole := let ⟨fd, F⟩ := c.def_ 0 (d := df "is_whole" 10) rfl; ⟨_, fd, He.glo_ok X G (c.fact 0 (f := .glo "is_whole") rfl), F⟩
    d_is_between := let ⟨fd, F⟩ := c.def_ 1 (d := df "is_between" 11) rfl; ⟨_, fd, He.glo_ok X G (c.fact 1 (f := .glo "is_between") rfl), F⟩
    d_is_number := let ⟨fd, F⟩ := c.def_ 2 (d := df "is_number" 15) rfl; ⟨_, fd, He.glo_ok X G (c.fact 2 (f := .glo "is_number") rfl), F⟩
    d_wrong_in_row := let ⟨fd, F⟩ := c.def_ 3 (d := df "wrong_in_row" 16) rfl; ⟨_, fd, He.glo_ok X G (c.fact 3 (f := .glo "wrong_in_row") rfl), F⟩
    d_check_row := let ⟨fd, F⟩ := c.def_ 10 (d := df "check_row" 24) rfl; ⟨_, fd, He.glo_ok X G (c.fact 10 (f := .glo "check_row") rfl), F⟩
    d_turned_by := let ⟨fd, F⟩ := c.def_ 12 (d := df "turned_by" 27) rfl; ⟨_, fd, He.glo_ok X G (c.fact 12 (f := .glo "turned_by") rfl), F⟩
    d_all_turnings := let ⟨fd, F⟩ := c.def_ 13 (d := df "all_turnings" 28) rfl; ⟨_, fd, He.glo_ok X G (c.fact 13 (f := .glo "all_turnings") rfl), F⟩
    d_sums_by := let ⟨fd, F⟩ := c.def_ 4 (d := df "sums_by" 17) rfl; ⟨_, fd, He.glo_ok X G (c.fact 4 (f := .glo "sums_by") rfl), F⟩
    d_falls_by := let ⟨fd, F⟩ := c.def_ 7 (d := df "falls_by" 20) rfl; ⟨_, fd, He.glo_ok X G (c.fact 7 (f := .glo "falls_by") rfl), F⟩
    d_leads_by := let ⟨fd, F⟩ := c.def_ 8 (d := df "leads_by" 21) rfl; ⟨_, fd, He.glo_ok X G (c.fact 8 (f := .glo "leads_by") rfl), F⟩
    d_leading_turnings_by := let ⟨fd, F⟩ := c.def_ 14 (d := df "leading_turnings_by" 29) rfl; ⟨_, fd, He.glo_ok X G (c.fact 14 (f := .glo "leading_turnings_by") rfl), F⟩
    d_leading_turnings := let ⟨fd, F⟩ := c.def_ 18 (d := df "leading_turnings" 34) rfl; ⟨_, fd, He.glo_ok X G (c.fact 18 (f := .glo "leading_turnings") rfl), F⟩
    d_lowest_by := let ⟨fd, F⟩ := c.def_ 6 (d := df "lowest_by" 19) rfl; ⟨_, fd, He.glo_ok X G (c.fact 6 (f := .glo "lowest_by") rfl), F⟩
    d_stands_by := let ⟨fd, F⟩ := c.def_ 9 (d := df "stands_by" 22) rfl; ⟨_, fd, He.glo_ok X G (c.fact 9 (f := .glo "stands_by") rfl), F⟩
    d_standing_turnings_by := let ⟨fd, F⟩ := c.def_ 15 (d := df "standing_turnings_by" 30) rfl; ⟨_, fd, He.glo_ok X G (c.fact 15 (f := .glo "standing_turnings_by") rfl), F⟩
    d_standing_turnings := let ⟨fd, F⟩ := c.def_ 19 (d := df "standing_turnings" 35) rfl; ⟨_, fd, He.glo_ok X G (c.fact 19 (f := .glo "standing_turnings") rfl), F⟩
    d_above_by := let ⟨fd, F⟩ := c.def_ 5 (d := df "above_by" 18) rfl; ⟨_, fd, He.glo_ok X G (c.fact 5 (f := .glo "above_by") rfl), F⟩
    d_turnings_above_by := let ⟨fd, F⟩ := c.def_ 16 (d := df "turnings_above_by" 31) rfl; ⟨_, fd, He.glo_ok X G (c.fact 16 (f := .glo "turnings_above_by") rfl), F⟩
    d_turnings_above := let ⟨fd, F⟩ := c.def_ 20 (d := df "turnings_above" 36) rfl; ⟨_, fd, He.glo_ok X G (c.fact 20 (f := .glo "turnings_above") rfl), F⟩
    d_u_law_same := let ⟨fd, F⟩ := c.def_ 50 (d := df "_law_same" 78) rfl; ⟨_, fd, He.glo_ok X G (c.fact 50 (f := .glo "_law_same") rfl), F⟩
    d_check_number := let ⟨fd, F⟩ := c.def_ 11 (d := df "check_number" 25) rfl; ⟨_, fd, He.glo_ok X G (c.fact 11 (f := .glo "check_number") rfl), F⟩
    d_turned := let ⟨fd, F⟩ := c.def_ 17 (d := df "turned" 33) rfl; ⟨_, fd, He.glo_ok X G (c.fact 17 (f := .glo "turned") rfl), F⟩
    d_total := let ⟨fd, F⟩ := c.def_ 31 (d := df "total" 55) rfl; ⟨_, fd, He.glo_ok X G (c.fact 31 (f := .glo "total") rfl), F⟩
    d_u_law_are_turnings_told := let ⟨fd, F⟩ := c.def_ 59 (d := df "_law_are_turnings_told" 87) rfl; ⟨_, fd, He.glo_ok X G (c.fact 59 (f := .glo "_law_are_turnings_told") rfl), F⟩
    d_u_law_tree_row := let ⟨fd, F⟩ := c.def_ 57 (d := df "_law_tree_row" 85) rfl; ⟨_, fd, He.glo_ok X G (c.fact 57 (f := .glo "_law_tree_row") rfl), F⟩
    d_u_law_tree := let ⟨fd, F⟩ := c.def_ 58 (d := df "_law_tree" 86) rfl; ⟨_, fd, He.glo_ok X G (c.fact 58 (f := .glo "_law_tree") rfl), F⟩
    d_can_turn := let ⟨fd, F⟩ := c.def_ 40 (d := df "can_turn" 66) rfl; ⟨_, fd, He.glo_ok X G (c.fact 40 (f := .glo "can_turn") rfl), F⟩
    d_places_against := let ⟨fd, F⟩ := c.def_ 37 (d := df "places_against" 63) rfl; ⟨_, fd, He.glo_ok X G (c.fact 37 (f := .glo "places_against") rfl), F⟩
    d_is_row_of_tree := let ⟨fd, F⟩ := c.def_ 38 (d := df "is_row_of_tree" 64) rfl; ⟨_, fd, He.glo_ok X G (c.fact 38 (f := .glo "is_row_of_tree") rfl), F⟩
    d_tree_turning_by := let ⟨fd, F⟩ := c.def_ 41 (d := df "tree_turning_by" 67) rfl; ⟨_, fd, He.glo_ok X G (c.fact 41 (f := .glo "tree_turning_by") rfl), F⟩
    d_tree_turning := let ⟨fd, F⟩ := c.def_ 46 (d := df "tree_turning" 73) rfl; ⟨_, fd, He.glo_ok X G (c.fact 46 (f := .glo "tree_turning") rfl), F⟩
    d_tree_of_by := let ⟨fd, F⟩ := c.def_ 39 (d := df "tree_of_by" 65) rfl; ⟨_, fd, He.glo_ok X G (c.fact 39 (f := .glo "tree_of_by") rfl), F⟩
    d_tree_of := let ⟨fd, F⟩ := c.def_ 45 (d := df "tree_of" 72) rfl; ⟨_, fd, He.glo_ok X G (c.fact 45 (f := .glo "tree_of") rfl), F⟩
    d_knots_up_to := let ⟨fd, F⟩ := c.def_ 34 (d := df "knots_up_to" 60) rfl; ⟨_, fd, He.glo_ok X G (c.fact 34 (f := .glo "knots_up_to") rfl), F⟩
    d_is_tree_by := let ⟨fd, F⟩ := c.def_ 35 (d := df "is_tree_by" 61) rfl; ⟨_, fd, He.glo_ok X G (c.fact 35 (f := .glo "is_tree_by") rfl), F⟩
    d_is_tree := let ⟨fd, F⟩ := c.def_ 43 (d := df "is_tree" 70) rfl; ⟨_, fd, He.glo_ok X G (c.fact 43 (f := .glo "is_tree") rfl), F⟩
    d_u_law_is_tree := let ⟨fd, F⟩ := c.def_ 56 (d := df "_law_is_tree" 84) rfl; ⟨_, fd, He.glo_ok X G (c.fact 56 (f := .glo "_law_is_tree") rfl), F⟩
    d_check_tree := let ⟨fd, F⟩ := c.def_ 42 (d := df "check_tree" 69) rfl; ⟨_, fd, He.glo_ok X G (c.fact 42 (f := .glo "check_tree") rfl), F⟩
    d_row_of_by := let ⟨fd, F⟩ := c.def_ 36 (d := df "row_of_by" 62) rfl; ⟨_, fd, He.glo_ok X G (c.fact 36 (f := .glo "row_of_by") rfl), F⟩
    d_row_of := let ⟨fd, F⟩ := c.def_ 44 (d := df "row_of" 71) rfl; ⟨_, fd, He.glo_ok X G (c.fact 44 (f := .glo "row_of") rfl), F⟩
    d_u_law_is_tree_told := let ⟨fd, F⟩ := c.def_ 60 (d := df "_law_is_tree_told" 88) rfl; ⟨_, fd, He.glo_ok X G (c.fact 60 (f := .glo "_law_is_tree_told") rfl), F⟩
    d_check_votes := let ⟨fd, F⟩ := c.def_ 26 (d := df "check_votes" 49) rfl; ⟨_, fd, He.glo_ok X G (c.fact 26 (f := .glo "check_votes") rfl), F⟩
    d_ballot_of := let ⟨fd, F⟩ := c.def_ 24 (d := df "ballot_of" 43) rfl; ⟨_, fd, He.glo_ok X G (c.fact 24 (f := .glo "ballot_of") rfl), F⟩
    d_all_ballots_by := let ⟨fd, F⟩ := c.def_ 25 (d := df "all_ballots_by" 44) rfl; ⟨_, fd, He.glo_ok X G (c.fact 25 (f := .glo "all_ballots_by") rfl), F⟩
    d_all_ballots := let ⟨fd, F⟩ := c.def_ 30 (d := df "all_ballots" 53) rfl; ⟨_, fd, He.glo_ok X G (c.fact 30 (f := .glo "all_ballots") rfl), F⟩
    d_u_law_more := let ⟨fd, F⟩ := c.def_ 62 (d := df "_law_more" 90) rfl; ⟨_, fd, He.glo_ok X G (c.fact 62 (f := .glo "_law_more") rfl), F⟩
    d_check_enough := let ⟨fd, F⟩ := c.def_ 27 (d := df "check_enough" 50) rfl; ⟨_, fd, He.glo_ok X G (c.fact 27 (f := .glo "check_enough") rfl), F⟩
    d_binomial := let ⟨fd, F⟩ := c.def_ 21 (d := df "binomial" 39) rfl; ⟨_, fd, He.glo_ok X G (c.fact 21 (f := .glo "binomial") rfl), F⟩
    d_count_leading_by := let ⟨fd, F⟩ := c.def_ 22 (d := df "count_leading_by" 41) rfl; ⟨_, fd, He.glo_ok X G (c.fact 22 (f := .glo "count_leading_by") rfl), F⟩
    d_count_leading := let ⟨fd, F⟩ := c.def_ 28 (d := df "count_leading" 51) rfl; ⟨_, fd, He.glo_ok X G (c.fact 28 (f := .glo "count_leading") rfl), F⟩
    d_count_standing_by := let ⟨fd, F⟩ := c.def_ 23 (d := df "count_standing_by" 42) rfl; ⟨_, fd, He.glo_ok X G (c.fact 23 (f := .glo "count_standing_by") rfl), F⟩
    d_count_standing := let ⟨fd, F⟩ := c.def_ 29 (d := df "count_standing" 52) rfl; ⟨_, fd, He.glo_ok X G (c.fact 29 (f := .glo "count_standing") rfl), F⟩
    d_leads := let ⟨fd, F⟩ := c.def_ 32 (d := df "leads" 56) rfl; ⟨_, fd, He.glo_ok X G (c.fact 32 (f := .glo "leads") rfl), F⟩
    d_stands := let ⟨fd, F⟩ := c.def_ 33 (d := df "stands" 57) rfl; ⟨_, fd, He.glo_ok X G (c.fact 33 (f := .glo "stands") rfl), F⟩
    d_u_law_are_votes_told := let ⟨fd, F⟩ := c.def_ 61 (d := df "_law_are_votes_told" 89) rfl; ⟨_, fd, He.glo_ok X G (c.fact 61 (f := .glo "_law_are_votes_told") rfl), F⟩
    d_u_law_right := let ⟨fd, F⟩ := c.def_ 63 (d := df "_law_right" 91) rfl; ⟨_, fd, He.glo_ok X G (c.fact 63 (f := .glo "_law_right") rfl), F⟩
    d_u_law_pool := let ⟨fd, F⟩ := c.def_ 47 (d := df "_law_pool" 75) rfl; ⟨_, fd, He.glo_ok X G (c.fact 47 (f := .glo "_law_pool") rfl), F⟩
    d_law := let ⟨fd, F⟩ := c.def_ 64 (d := df "law" 92) rfl; ⟨_, fd, He.glo_ok X G (c.fact 64 (f := .glo "law") rfl), F⟩
theorem facts_law {P : Program} {w : World} {K : PySem.W.Frag} {h : Heap} {mg : Str → Option Value} {fl : Addr} (X : K.In h) (G : h.Ns mainGlobals mg) (hfa : mg ("law" : Str) = some (.ref fl)) (c : He.SaysD fa fn K) (cx : (fx.all fun f => f K) = true) :
    ∃ fd : FuncData, (∀ (s : Shared) (v : Value), BindsTo s fd ⟨[v], []⟩ [("script", v)]) ∧ ∀ base : Heap, K.In base → base.Ns mainGlobals mg → FnOk P w K mg base (L2.CX P w) 17 fl fd ["script"] (LS.spS ⟨P, w, K, mg, base⟩ 1 LS.D_law) := by
  obtain ⟨fd, F⟩ := c.def_ 64 (d := df "law" 92) rfl
  have e := hfa.symm.trans (He.glo_ok X G (c.fact 64 (f := .glo "law") rfl))
  cases e
  have b := FunD.bindsA (ps := ["script"]) F fun _ _ _ _ _ _ us hl => match us, hl with | [_], _ => rfl
  exact ⟨fd, fun s v => b s [v] rfl, fun base _ _ => LS.ok_law (facts X G c cx base) F⟩
end HD
end
theorem PySem.Challenge.cw_leadsums_k97_whole_turnings_trees_ballot_holds : PySem.Challenge.rw_leadsums_k97_whole_turnings_trees_ballot.Holds := by
  w_on; o_law
  refine HandSHeadRun.head_imp (r := PySem.W.OpenLaw.row PySem.Challenge.rw_leadsums_k97_whole_turnings_trees_ballot) (q := PySem.W.view (PySem.W.OpenLaw.row PySem.Challenge.rw_leadsums_k97_whole_turnings_trees_ballot).prog [0, 1, 92]) (H := HD.hk) (ob := HD.ob) (M := 4000) (loose := HD.ls) (d := HandSHeadRun.topDef (PySem.W.OpenLaw.row PySem.Challenge.rw_leadsums_k97_whole_turnings_trees_ballot).prog 92) (kwd := []) HD.ob_eq
    HD.run (by kernel_rfl) (by kernel_rfl) (by kernel_rfl) (by rfl) (by first | assumption | decide +kernel) (by decide +kernel) ⟨rfl, rfl, rfl, rfl, rfl, by decide +kernel⟩ ?hw ?hc
  case hw => w_witness2
  case hc =>
    refine LS.walk_w (l := PySem.Challenge.rw_leadsums_k97_whole_turnings_trees_ballot) (n := 63) (k := 17) (x := "script") rfl (by decide) (by kernel_rfl) ⟨rfl, by decide, by decide⟩ ?_
    intro w mg fa h Y G hmg0
    obtain ⟨K, KX, c, cx⟩ := Y
    have hmg : mg ("law" : PySem.Str) = some (.ref fa) := by
      have e : (HandSHeadRun.topDef (PySem.W.OpenLaw.row PySem.Challenge.rw_leadsums_k97_whole_turnings_trees_ballot).prog 92).name = ("law" : PySem.Str) := by kernel_rfl
      rw [← e]
      exact hmg0
    obtain ⟨fd, hb, hF⟩ := HD.facts_law (P := (PySem.Challenge.rw_leadsums_k97_whole_turnings_trees_ballot).prog) (w := w) KX G hmg c cx
    exact ⟨K, fd, LS.D_law, KX, hb, LS.law_ok, hF⟩
