import PyProof.Rows.All
import Wide.All
import OpenK.AllK
import Wide.FinOn
import HandS.ForMost
import HandS.Head0
import HandS.Head1
import HandS.Head2
import HandS.HeadEnd
import HandS.HeadHook1
import HandS.HeadHook2
import PySem.Challenge.RW_namewalk_k01_errors
import HandS.ForExc
import HandS.IsInst
import HandS.OwnEq
import HandS.TryMany
import HandS.TryOnly
import HandS.ExcInit
import HandS.Flow
import KE.KeyNested
import KE.KDictKeyed
import HandS.Lambda
import HandS.Style
import HandS.ExcField
import HandS.TupAny
import HandS.Text
import KE.DataEq
import HandS.List
import HandS.Zip0
import PyProof.Draws
import HandS.SetFor
import HandS.ListItems
import HandS.More
import PyProof.Rows.StrMeet
import HandS.CallLocal
import HandS.Conv
import HandS.Call
import HandS.SortRule
import KE.DataFind
import KE.LtData
import HandS.Zip
import KE.KUnpackStar
import HandS.FStr
import HandS.RaiseMore
import HandS.Strs
import KE.GoesMore
import KE.GoesZip
import KE.DataAny
import HandS.DictSubView
import HandS.Sort
import HandS.DictComp
import HandS.MakeKwOnly
import HandS.Defaults
import PyProof.ReprRoads
import HandS.ExcIs
import KE.KExcIs
import HandS.ExcValue
set_option Elab.async false
set_option linter.all false
set_option maxRecDepth 100000
set_option maxHeartbeats 0
namespace Nw
namespace Law
open PySem PySem.Spec
open PyProof.Rows hiding St
open L2
abbrev R : PySem.W.OpenRow := PySem.W.OpenLaw.row PySem.Challenge.rw_namewalk_k01_errors
abbrev Qtop : Program := PySem.W.view R.prog [21]
def loose : List Str := (["WalkError", "NoTree", "NoNode", "BadText", "NoPath", "NoOwner", "NoDeed", "NoRow", "NoWeaving", "Large", "Busy", "Idle"] : List Str) ++ (["Forbidden", "NoBack", "_law_cell_at", "_law_state", "_law_digit", "_law_fields", "_law_classes"] : List Str)
noncomputable abbrev ER (w : World) (os : OsState) : Option PySem.W.SharedT := HandSHeadRun.endF (HandSHeadRun.stepQ (HandSHeadRun.denQ HandSHeadRun.tabQ) R.prog w) 9000 R.prog w os
theorem run0 (w : World) (os : OsState) : (ER w os).map (fun s => (HandSHeadRun.looksF R.prog (PySem.W.boot_heap w.params) s.abs, HandSHeadRun.seenQ Qtop loose (importedModules R.prog.main.body) (fun s => PySem.W.xlAt Qtop [] s && PySem.W.recOk R.toRowW.records s) s.abs)) = some (true, PySem.W.openGood Qtop loose) := by
  kernel_rfl
end Law
end Nw

set_option Elab.async false
set_option linter.all false
set_option maxRecDepth 100000
set_option maxHeartbeats 4000000
/-! Nw0: plain data over the hand layer. Values that never change are data; lists, dicts and instances under construction are numbered cells. -/
namespace Nw
open PySem PySem.Spec
open PyProof.Rows hiding St
open L2
abbrev Frag := PySem.W.Frag
/-- the world of the run, whose hashes the dicts with keys in tuples keep; the tables of code objects of the defs that make lambdas, with the lambdas' names -/
class TheW where
  w : Option World
  tabs : List (Addr × Str)
instance (priority := low) noW : TheW := ⟨none, []⟩
variable [TheW]

/-- plain data -/
inductive D where
  | non | bl (b : Bool) | int (i : Int) | str (x : Str) | ty (n : String) | gl (x : Str)
  | tup (l : List D) | lst (l : List D) | scr (l : List D) | obj (c : Str) (ns : List Str) (ds : List D) | cell (i : Nat)
  | exo (a : Addr) (x : Option Addr) (k : Str) (ns : List Str) (ds : List D)
  | dic (ks : List Key) (ds : List D) | dit (ks : List NestedKey) (ds : List D) | err (k : Str) (ns : List Str) (ds : List D)
  deriving Inhabited
inductive Cell where
  | lst (l : List D) | ins (c : Str) (ns : List Str) (ds : List D) | dct (ks : List Key) (ds : List D) | dtt (ks : List NestedKey) (ds : List D) | lck (ks : List Key) (ds : List D) | dead
  deriving Inhabited
abbrev Cells := List Cell
abbrev En := List (Option D)

/-! ### equality of data, to be computed -/
mutual
def D.beq : D → D → Bool
  | .non, .non => true
  | .bl a, .bl b => a == b
  | .int i, .int j => i == j
  | .str x, .str y => x == y
  | .ty n, .ty m => n == m
  | .gl x, .gl y => x == y
  | .tup l, .tup m => D.beqL l m
  | .lst l, .lst m => D.beqL l m
  | .scr l, .scr m => D.beqL l m
  | .obj c ns l, .obj c' ns' m => c == c' && (ns == ns' && D.beqL l m)
  | .cell i, .cell j => i == j
  | .exo a x k ns l, .exo a' x' k' ns' m => (a == a' && (x == x' && (k == k' && ns == ns'))) && D.beqL l m
  | .dic ks l, .dic ks' m => decide (ks = ks') && D.beqL l m
  | .dit ks l, .dit ks' m => decide (ks = ks') && D.beqL l m
  | .err k ns l, .err k' ns' m => k == k' && (ns == ns' && D.beqL l m)
  | _, _ => false
def D.beqL : List D → List D → Bool
  | [], [] => true
  | d :: r, e :: s => D.beq d e && D.beqL r s
  | _, _ => false
end
mutual
theorem D.beq_eq : ∀ {d e : D}, D.beq d e = true → d = e
  | .non, e, h => by cases e <;> first | rfl | (unfold D.beq at h; cases h)
  | .bl _, e, h => by cases e <;> first | (unfold D.beq at h; cases h; done) | (unfold D.beq at h; rw [eq_of_beq h])
  | .int _, e, h => by cases e <;> first | (unfold D.beq at h; cases h; done) | (unfold D.beq at h; rw [eq_of_beq h])
  | .str _, e, h => by cases e <;> first | (unfold D.beq at h; cases h; done) | (unfold D.beq at h; rw [eq_of_beq h])
  | .ty _, e, h => by cases e <;> first | (unfold D.beq at h; cases h; done) | (unfold D.beq at h; rw [eq_of_beq h])
  | .gl _, e, h => by cases e <;> first | (unfold D.beq at h; cases h; done) | (unfold D.beq at h; rw [eq_of_beq h])
  | .cell _, e, h => by cases e <;> first | (unfold D.beq at h; cases h; done) | (unfold D.beq at h; rw [eq_of_beq h])
  | .tup l, e, h => by cases e <;> first | (unfold D.beq at h; cases h; done) | (unfold D.beq at h; rw [D.beqL_eq h])
  | .lst l, e, h => by cases e <;> first | (unfold D.beq at h; cases h; done) | (unfold D.beq at h; rw [D.beqL_eq h])
  | .scr l, e, h => by cases e <;> first | (unfold D.beq at h; cases h; done) | (unfold D.beq at h; rw [D.beqL_eq h])
  | .obj _ _ _, e, h => by
    cases e with
    | obj c' ns' m =>
      unfold D.beq at h
      simp only [Bool.and_eq_true] at h
      rw [eq_of_beq h.1, eq_of_beq h.2.1, D.beqL_eq h.2.2]
    | _ => unfold D.beq at h; cases h
  | .err _ _ _, e, h => by
    cases e with
    | err c' ns' m =>
      unfold D.beq at h
      simp only [Bool.and_eq_true] at h
      rw [eq_of_beq h.1, eq_of_beq h.2.1, D.beqL_eq h.2.2]
    | _ => unfold D.beq at h; cases h
  | .exo _ _ _ _ _, e, h => by
    cases e with
    | exo a' x' k' ns' m =>
      unfold D.beq at h
      simp only [Bool.and_eq_true] at h
      rw [eq_of_beq h.1.1, eq_of_beq h.1.2.1, eq_of_beq h.1.2.2.1, eq_of_beq h.1.2.2.2, D.beqL_eq h.2]
    | _ => unfold D.beq at h; cases h
  | .dic _ _, e, h => by
    cases e with
    | dic ks' m =>
      unfold D.beq at h
      simp only [Bool.and_eq_true] at h
      rw [of_decide_eq_true h.1, D.beqL_eq h.2]
    | _ => unfold D.beq at h; cases h
  | .dit _ _, e, h => by
    cases e with
    | dit ks' m =>
      unfold D.beq at h
      simp only [Bool.and_eq_true] at h
      rw [of_decide_eq_true h.1, D.beqL_eq h.2]
    | _ => unfold D.beq at h; cases h
theorem D.beqL_eq : ∀ {l m : List D}, D.beqL l m = true → l = m
  | [], [], _ => rfl
  | [], _ :: _, h => by unfold D.beqL at h; cases h
  | _ :: _, [], h => by unfold D.beqL at h; cases h
  | d :: r, e :: s, h => by
    unfold D.beqL at h
    simp only [Bool.and_eq_true] at h
    rw [D.beq_eq h.1, D.beqL_eq h.2]
end
mutual
theorem D.beq_refl : ∀ d : D, D.beq d d = true
  | .non => by unfold D.beq; rfl
  | .bl _ => by unfold D.beq; exact beq_self_eq_true _
  | .int _ => by unfold D.beq; exact beq_self_eq_true _
  | .str _ => by unfold D.beq; exact beq_self_eq_true _
  | .ty _ => by unfold D.beq; exact beq_self_eq_true _
  | .gl _ => by unfold D.beq; exact beq_self_eq_true _
  | .cell _ => by unfold D.beq; exact beq_self_eq_true _
  | .tup l => by unfold D.beq; exact D.beqL_refl l
  | .lst l => by unfold D.beq; exact D.beqL_refl l
  | .scr l => by unfold D.beq; exact D.beqL_refl l
  | .obj _ _ l => by unfold D.beq; simp [D.beqL_refl l]
  | .exo _ _ _ _ l => by unfold D.beq; simp [D.beqL_refl l]
  | .dic _ l => by unfold D.beq; simp [D.beqL_refl l]
  | .dit _ l => by unfold D.beq; simp [D.beqL_refl l]
  | .err _ _ l => by unfold D.beq; simp [D.beqL_refl l]
theorem D.beqL_refl : ∀ l : List D, D.beqL l l = true
  | [] => by unfold D.beqL; rfl
  | d :: r => by unfold D.beqL; rw [D.beq_refl d, D.beqL_refl r]; rfl
end
instance : DecidableEq D := fun d e => if h : D.beq d e = true then isTrue (D.beq_eq h) else isFalse fun z => h (by rw [z]; exact D.beq_refl e)
def Cell.beq : Cell → Cell → Bool
  | .lst l, .lst m => D.beqL l m
  | .ins c ns l, .ins c' ns' m => c == c' && (ns == ns' && D.beqL l m)
  | .dct ks l, .dct ks' m => decide (ks = ks') && D.beqL l m
  | .dtt ks l, .dtt ks' m => decide (ks = ks') && D.beqL l m
  | .lck ks l, .lck ks' m => decide (ks = ks') && D.beqL l m
  | .dead, .dead => true
  | _, _ => false
theorem Cell.beq_eq {a b : Cell} (h : Cell.beq a b = true) : a = b := by
  cases a with
  | lst l =>
    cases b with
    | lst m => rw [D.beqL_eq h]
    | _ => cases h
  | ins c ns l =>
    cases b with
    | ins c' ns' m =>
      have h : (c == c' && (ns == ns' && D.beqL l m)) = true := h
      simp only [Bool.and_eq_true] at h
      rw [eq_of_beq h.1, eq_of_beq h.2.1, D.beqL_eq h.2.2]
    | _ => cases h
  | dct ks l =>
    cases b with
    | dct ks' m =>
      have h : (decide (ks = ks') && D.beqL l m) = true := h
      simp only [Bool.and_eq_true] at h
      rw [of_decide_eq_true h.1, D.beqL_eq h.2]
    | _ => cases h
  | dtt ks l =>
    cases b with
    | dtt ks' m =>
      have h : (decide (ks = ks') && D.beqL l m) = true := h
      simp only [Bool.and_eq_true] at h
      rw [of_decide_eq_true h.1, D.beqL_eq h.2]
    | _ => cases h
  | lck ks l =>
    cases b with
    | lck ks' m =>
      have h : (decide (ks = ks') && D.beqL l m) = true := h
      simp only [Bool.and_eq_true] at h
      rw [of_decide_eq_true h.1, D.beqL_eq h.2]
    | _ => cases h
  | dead =>
    cases b with
    | dead => rfl
    | _ => cases h
theorem Cell.beq_refl (a : Cell) : Cell.beq a a = true := by
  cases a <;> simp [Cell.beq, D.beqL_refl]
instance : DecidableEq Cell := fun d e => if h : Cell.beq d e = true then isTrue (Cell.beq_eq h) else isFalse fun z => h (by rw [z]; exact Cell.beq_refl e)

/-! ### data and values -/
theorem Rd.ext {H H' : Hp} {a : Addr} {u : HO} (h : Rd H a u) (e : Same H H') : Rd H' a u := by
  rcases h with h | ⟨o, h⟩
  · exact .inl (e _ _ h)
  · exact .inr ⟨o, e _ _ h⟩
theorem Rd.sqL {K : Frag} {H : Hp} {a : Addr} {xs : List V} (h : Rd H a (.lst xs)) : SqL K H a xs := .inl h
/-! ### keys in tuples -/
mutual
/-- the value is the key, as it stands in the frozen part -/
inductive NkV (K : Frag) (F : Hp) : NestedKey → V → Prop where
  | none : NkV K F .none .non
  | bool {b : Bool} {i : Int} (h : i = if b = true then 1 else 0) : NkV K F (.num i) (.bl b)
  | int (i : Int) : NkV K F (.num i) (.int i)
  | text (x : Str) : NkV K F (.text x) (.str x)
  | tup {a : Addr} {vs : List V} {ks : List NestedKey} (h : SqT K F a vs) (l : NkVs K F ks vs) : NkV K F (.tup ks) (.ref a)
inductive NkVs (K : Frag) (F : Hp) : List NestedKey → List V → Prop where
  | nil : NkVs K F [] []
  | cons {k : NestedKey} {v : V} {ks : List NestedKey} {vs : List V} (h : NkV K F k v) (t : NkVs K F ks vs) : NkVs K F (k :: ks) (v :: vs)
end
mutual
theorem NkV.mono {K : Frag} {F F' : Hp} (e : Same F F') : ∀ {k : NestedKey} {v : V}, NkV K F k v → NkV K F' k v
  | _, _, .none => .none
  | _, _, .bool h => .bool h
  | _, _, .int i => .int i
  | _, _, .text x => .text x
  | _, _, .tup h l => .tup (SqT.ext h e) (NkVs.mono e l)
theorem NkVs.mono {K : Frag} {F F' : Hp} (e : Same F F') : ∀ {ks : List NestedKey} {vs : List V}, NkVs K F ks vs → NkVs K F' ks vs
  | _, _, .nil => .nil
  | _, _, .cons h t => .cons (NkV.mono e h) (NkVs.mono e t)
end
/-- just this object at a -/
def exD (a : Addr) (od : Obj) : HO := .ext fun h => h.get? a = some od
def ntEnt (w : World) (x : NestedKey × Addr × Value) : DictEntry := ⟨NestedKey.hash w x.1, .ref x.2.1, x.2.2⟩
/-- od is a dict with such keys; vs: first the keys, then the values -/
structure NtOk (K : Frag) (F : Hp) (a : Addr) (od : Obj) (ks : List NestedKey) (vs : List V) : Prop where
  ex : ∃ (w0 : World) (es : Array DictEntry) (ep : Nat) (xs : List (NestedKey × Addr × Value)), TheW.w = some w0 ∧ (a == sysModules) = false ∧ od.ExactDict ∧ od.data = .dict es ep ∧ es.toList = xs.map (ntEnt w0) ∧ xs.map (·.1) = ks ∧
    (∀ x ∈ xs, NkV K F x.1 (.ref x.2.1) ∧ x.1.depth ≤ 8) ∧ (∃ ys, vs = (xs.map fun x => V.ref x.2.1) ++ ys ∧ Vals ys (xs.map (·.2.2))) ∧ ks.Nodup ∧ xs.length ≤ sizeLine
theorem NtOk.mono {K : Frag} {F F' : Hp} {a : Addr} {od : Obj} {ks : List NestedKey} {vs : List V} (e : Same F F') (h : NtOk K F a od ks vs) : NtOk K F' a od ks vs := by
  obtain ⟨w0, es, ep, xs, h1, h2, h3, h4, h5, h6, h7, h8⟩ := h.ex
  exact ⟨w0, es, ep, xs, h1, h2, h3, h4, h5, h6, fun x hx => ⟨(h7 x hx).1.mono e, (h7 x hx).2⟩, h8⟩
mutual
inductive Rel (K : Frag) (R : List Addr) (F : Hp) : V → D → Prop where
  | non : Rel K R F .non .non
  | bl (b : Bool) : Rel K R F (.bl b) (.bl b)
  | int (i : Int) : Rel K R F (.int i) (.int i)
  | str (x : Str) : Rel K R F (.str x) (.str x)
  | ty (n : String) : Rel K R F (.ty n) (.ty n)
  | gl (x : Str) : Rel K R F (.ref (He.ga K x)) (.gl x)
  | tup {a : Addr} {vs : List V} {ds : List D} (h : SqT K F a vs) (l : RelL K R F vs ds) : Rel K R F (.ref a) (.tup ds)
  | lst {a : Addr} {vs : List V} {ds : List D} (h : F a = some (.lst vs)) (l : RelL K R F vs ds) : Rel K R F (.ref a) (.lst ds)
  | scr {a : Addr} {vs : List V} {ds : List D} (h : SqL K F a vs) (l : RelL K R F vs ds) : Rel K R F (.ref a) (.scr ds)
  | obj {a dx : Addr} {c : Str} {ns : List Str} {vs : List V} {ds : List D} (h : F a = some (.ins (He.ga K c) dx (ns.zip vs))) (z : ns.length = vs.length) (l : RelL K R F vs ds) : Rel K R F (.ref a) (.obj c ns ds)
  | cell {i : Nat} {a : Addr} (h : R[i]? = some a) : Rel K R F (.ref a) (.cell i)
  | exo {a d : Addr} {k : Str} {ns : List Str} {vs : List V} {ds : List D} (h : F d = some (.xd (ns.zip vs))) (z : ns.length = vs.length) (l : RelL K R F vs ds) : Rel K R F (.ref a) (.exo a (some d) k ns ds)
  | exo0 {a : Addr} {k : Str} : Rel K R F (.ref a) (.exo a none k [] [])
  | dic {a : Addr} {ks : List Key} {vs : List V} {ds : List D} (h : F a = some (.dK (ks.zip vs))) (z : ks.length = vs.length) (l : RelL K R F vs ds) : Rel K R F (.ref a) (.dic ks ds)
  | dit {a : Addr} {od : Obj} {ks : List NestedKey} {vs : List V} {ds : List D} (h : F a = some (exD a od)) (z : NtOk K F a od ks vs) (l : RelL K R F vs ds) : Rel K R F (.ref a) (.dit ks ds)
  | err {a d : Addr} {k : Str} {ns : List Str} {vs : List V} {ds : List D} (h : F a = some (exo a (He.ga K k) (some d))) (h2 : F d = some (exd d (ns.zip vs))) (z : ns.length = vs.length) (l : RelL K R F vs ds) : Rel K R F (.ref a) (.err k ns ds)
  | err0 {a : Addr} {k : Str} (h : F a = some (exo a (He.ga K k) none)) : Rel K R F (.ref a) (.err k [] [])
inductive RelL (K : Frag) (R : List Addr) (F : Hp) : List V → List D → Prop where
  | nil : RelL K R F [] []
  | cons {v : V} {d : D} {vs : List V} {ds : List D} (h : Rel K R F v d) (t : RelL K R F vs ds) : RelL K R F (v :: vs) (d :: ds)
end

theorem Same.sqT {K : Frag} {H H' : Hp} {a : Addr} {xs : List V} (e : Same H H') (h : SqT K H a xs) : SqT K H' a xs := SqT.ext h e
theorem pre_get {α : Type} {R R' : List α} {i : Nat} {a : α} (p : R <+: R') (h : R[i]? = some a) : R'[i]? = some a := by
  obtain ⟨t, rfl⟩ := p
  have hi := (List.getElem?_eq_some_iff.mp h).1
  rw [List.getElem?_append_left hi]
  exact h
mutual
theorem Rel.mono {K : Frag} {R R' : List Addr} {F F' : Hp} (p : R <+: R') (e : Same F F') : ∀ {v : V} {d : D}, Rel K R F v d → Rel K R' F' v d
  | _, _, .non => .non
  | _, _, .bl b => .bl b
  | _, _, .int i => .int i
  | _, _, .str x => .str x
  | _, _, .ty n => .ty n
  | _, _, .gl x => .gl x
  | _, _, .tup h l => .tup (SqT.ext h e) (RelL.mono p e l)
  | _, _, .lst h l => .lst (e _ _ h) (RelL.mono p e l)
  | _, _, .scr h l => .scr (SqL.ext h e) (RelL.mono p e l)
  | _, _, .obj h z l => .obj (e _ _ h) z (RelL.mono p e l)
  | _, _, .cell h => .cell (pre_get p h)
  | _, _, .exo h z l => .exo (e _ _ h) z (RelL.mono p e l)
  | _, _, .exo0 => .exo0
  | _, _, .dic h z l => .dic (e _ _ h) z (RelL.mono p e l)
  | _, _, .dit h z l => .dit (e _ _ h) (z.mono e) (RelL.mono p e l)
  | _, _, .err h h2 z l => .err (e _ _ h) (e _ _ h2) z (RelL.mono p e l)
  | _, _, .err0 h => .err0 (e _ _ h)
theorem RelL.mono {K : Frag} {R R' : List Addr} {F F' : Hp} (p : R <+: R') (e : Same F F') : ∀ {vs : List V} {ds : List D}, RelL K R F vs ds → RelL K R' F' vs ds
  | _, _, .nil => .nil
  | _, _, .cons h t => .cons (Rel.mono p e h) (RelL.mono p e t)
end
section
variable {K : Frag} {R : List Addr} {F : Hp}
theorem RelL.length : ∀ {vs : List V} {ds : List D}, RelL K R F vs ds → vs.length = ds.length
  | _, _, .nil => rfl
  | _, _, .cons _ t => by rw [List.length_cons, List.length_cons, t.length]
theorem RelL.get : ∀ {vs : List V} {ds : List D} {i : Nat} {d : D}, RelL K R F vs ds → ds[i]? = some d → ∃ v, vs[i]? = some v ∧ Rel K R F v d
  | _, _, _, _, .nil, e => by simp at e
  | _, _, 0, _, .cons h _, e => by simp at e; subst e; exact ⟨_, rfl, h⟩
  | _, _, i + 1, _, .cons _ t, e => by
    obtain ⟨v, h1, h2⟩ := RelL.get (i := i) t (by simpa using e)
    exact ⟨v, by simpa using h1, h2⟩
theorem RelL.getV : ∀ {vs : List V} {ds : List D} {i : Nat} {v : V}, RelL K R F vs ds → vs[i]? = some v → ∃ d, ds[i]? = some d ∧ Rel K R F v d
  | _, _, _, _, .nil, e => by simp at e
  | _, _, 0, _, .cons h _, e => by simp at e; subst e; exact ⟨_, rfl, h⟩
  | _, _, i + 1, _, .cons _ t, e => by
    obtain ⟨v, h1, h2⟩ := RelL.getV (i := i) t (by simpa using e)
    exact ⟨v, by simpa using h1, h2⟩
theorem RelL.append : ∀ {vs us : List V} {ds es : List D}, RelL K R F vs ds → RelL K R F us es → RelL K R F (vs ++ us) (ds ++ es)
  | _, _, _, _, .nil, s => s
  | _, _, _, _, .cons h t, s => .cons h (t.append s)
theorem RelL.set {v : V} {d : D} (r : Rel K R F v d) : ∀ {vs : List V} {ds : List D} (i : Nat), RelL K R F vs ds → RelL K R F (vs.set i v) (ds.set i d)
  | _, _, _, .nil => .nil
  | _, _, 0, .cons _ t => .cons r t
  | _, _, i + 1, .cons h t => .cons h (t.set r i)
theorem RelL.take : ∀ {vs : List V} {ds : List D} (n : Nat), RelL K R F vs ds → RelL K R F (vs.take n) (ds.take n)
  | _, _, 0, _ => .nil
  | _, _, _ + 1, .nil => .nil
  | _, _, n + 1, .cons r t => .cons r (t.take n)
theorem RelL.drop : ∀ {vs : List V} {ds : List D} (n : Nat), RelL K R F vs ds → RelL K R F (vs.drop n) (ds.drop n)
  | _, _, 0, r => r
  | _, _, _ + 1, .nil => .nil
  | _, _, n + 1, .cons _ t => t.drop n
theorem RelL.one {v : V} {ds : List D} (h : RelL K R F [v] ds) : ∃ d, ds = [d] ∧ Rel K R F v d := by
  cases h with
  | cons h t => cases t; exact ⟨_, rfl, h⟩
theorem RelL.two {v u : V} {ds : List D} (h : RelL K R F [v, u] ds) : ∃ d e, ds = [d, e] ∧ Rel K R F v d ∧ Rel K R F u e := by
  cases h with
  | cons h t => obtain ⟨e, rfl, h2⟩ := t.one; exact ⟨_, _, rfl, h, h2⟩
end

/-! ### cells -/
inductive RelC (K : Frag) (R : List Addr) (F : Hp) (a : Addr) : Cell → HO → Prop where
  | lst {vs : List V} {ds : List D} (l : RelL K R F vs ds) : RelC K R F a (.lst ds) (.lst vs)
  | ins {dx : Addr} {c : Str} {ns : List Str} {vs : List V} {ds : List D} (z : ns.length = vs.length) (l : RelL K R F vs ds) : RelC K R F a (.ins c ns ds) (.ins (He.ga K c) dx (ns.zip vs))
  | dct {ks : List Key} {vs : List V} {ds : List D} (z : ks.length = vs.length) (l : RelL K R F vs ds) : RelC K R F a (.dct ks ds) (.dK (ks.zip vs))
  | dtt {od : Obj} {ks : List NestedKey} {vs : List V} {ds : List D} (z : NtOk K F a od ks vs) (l : RelL K R F vs ds) : RelC K R F a (.dtt ks ds) (exD a od)
  | lck {od : Obj} {ks : List Key} {vs : List V} {ds : List D} (z : ks.length = vs.length) (l : RelL K R F vs ds) : RelC K R F a (.lck ks ds) (.frz od (.dK (ks.zip vs)))
  | dead {od : Obj} : RelC K R F a .dead (exD a od)
theorem RelC.mono {K : Frag} {R R' : List Addr} {F F' : Hp} (p : R <+: R') (e : Same F F') {a : Addr} {k : Cell} {o : HO} (h : RelC K R F a k o) : RelC K R' F' a k o := by
  cases h with
  | lst l => exact .lst (l.mono p e)
  | ins z l => exact .ins z (l.mono p e)
  | dct z l => exact .dct z (l.mono p e)
  | dtt z l => exact .dtt (z.mono e) (l.mono p e)
  | lck z l => exact .lck z (l.mono p e)
  | dead => exact .dead
/-- a cell's address is not in the frozen part, but a locked one's is, as it stands -/
abbrev FrC (F : Hp) (a : Addr) (o : HO) : Cell → Prop
  | .lck _ _ => F a = some o
  | .dead => F a = some o
  | _ => F a = none
def unl : Cell → Bool
  | .lck _ _ => false
  | .dead => false
  | _ => true
theorem FrC.none {F : Hp} {a : Addr} {o : HO} : ∀ {k : Cell}, unl k = true → FrC F a o k → F a = Option.none
  | .lst _, _, h => h
  | .ins _ _ _, _, h => h
  | .dct _ _, _, h => h
  | .dtt _ _, _, h => h
theorem FrC.of {F : Hp} {a : Addr} {o : HO} : ∀ {k : Cell}, unl k = true → F a = Option.none → FrC F a o k
  | .lst _, _, h => h
  | .ins _ _ _, _, h => h
  | .dct _ _, _, h => h
  | .dtt _ _, _, h => h
theorem FrC.imp {F F' : Hp} {a : Addr} {o : HO} (h1 : F a = Option.none → F' a = Option.none) (h2 : F a = some o → F' a = some o) : ∀ {k : Cell}, FrC F a o k → FrC F' a o k
  | .lst _, h => h1 h
  | .ins _ _ _, h => h1 h
  | .dct _ _, h => h1 h
  | .dtt _ _, h => h1 h
  | .lck _ _, h => h2 h
  | .dead, h => h2 h
/-- the tables stand outside of all else; what they hold is frozen -/
def TbW (Z : Hp) (R : List Addr) (F H : Hp) : Prop := ∀ p ∈ TheW.tabs, ∃ ps : Array Value, H p.1 = some (.tbl ps) ∧ F p.1 = none ∧ Z p.1 = none ∧ p.1 ∉ R ∧ TriplesOk ps.toList ∧
  ∀ (pos : Pos) (cv : Value), codeAmong pos ps.toList = some cv → ∃ c, cv = .ref c ∧ F c = some (LamX.CodeO c p.2)
theorem TbW.imp {Z Z' : Hp} {R R' : List Addr} {F F' H H' : Hp} (t : TbW Z R F H) (f : ∀ a, (∃ ps, H a = some (.tbl ps)) → F a = none → Z a = none → a ∉ R → H' a = H a ∧ F' a = none ∧ Z' a = none ∧ a ∉ R')
    (g : ∀ c q, F c = some (LamX.CodeO c q) → F' c = some (LamX.CodeO c q)) : TbW Z' R' F' H' := fun p hp => by
  obtain ⟨ps, h1, h2, h3, h4, h5, h6⟩ := t p hp
  obtain ⟨k1, k2, k3, k4⟩ := f p.1 ⟨ps, h1⟩ h2 h3 h4
  exact ⟨ps, k1.trans h1, k2, k3, k4, h5, fun pos cv hc => let ⟨c, e1, e2⟩ := h6 pos cv hc; ⟨c, e1, g c _ e2⟩⟩
theorem RelC.ntbl {K : Frag} {R : List Addr} {F : Hp} {a : Addr} {k : Cell} {o : HO} (h : RelC K R F a k o) (ps : Array Value) : o ≠ .tbl ps := by
  cases h <;> exact fun z => by cases z
/-- the frame Z stands; the frozen part F stands in H, each cell stands at its own address, outside F -/
structure Wd (K : Frag) (Z : Hp) (R : List Addr) (F : Hp) (c : Cells) (H : Hp) : Prop where
  zs : Same Z H
  zf : ∀ a o, Z a = some o → F a = none ∧ a ∉ R
  same : Same F H
  len : R.length = c.length
  nd : R.Nodup
  cel : ∀ (i : Nat) (k : Cell), c[i]? = some k → ∃ a o, R[i]? = some a ∧ H a = some o ∧ RelC K R F a k o ∧ FrC F a o k
  tb : TbW Z R F H
/-- the slots -/
def RelS (K : Frag) (R : List Addr) (F : Hp) (δ : En) (σ : St) : Prop := δ.length = σ.length ∧ ∀ (i : Nat) (d : D), δ[i]? = some (some d) → ∃ v, σ[i]? = some (some v) ∧ Rel K R F v d
theorem RelS.mono {K : Frag} {R R' : List Addr} {F F' : Hp} {δ : En} {σ : St} (p : R <+: R') (e : Same F F') (h : RelS K R F δ σ) : RelS K R' F' δ σ :=
  ⟨h.1, fun i d q => let ⟨v, h1, h2⟩ := h.2 i d q; ⟨v, h1, h2.mono p e⟩⟩
theorem RelS.set {K : Frag} {R : List Addr} {F : Hp} {δ : En} {σ : St} {i : Nat} {v : V} {d : D} (h : RelS K R F δ σ) (r : Rel K R F v d) : RelS K R F (δ.set i (some d)) (σ.set i (some v)) := by
  refine ⟨by rw [List.length_set, List.length_set]; exact h.1, fun j e q => ?_⟩
  by_cases hj : i = j
  · subst hj
    have hi : i < δ.length := by
      have := (List.getElem?_eq_some_iff.mp q).1
      rwa [List.length_set] at this
    rw [List.getElem?_set_self hi] at q
    cases q
    exact ⟨v, List.getElem?_set_self (by rw [← h.1]; exact hi), r⟩
  · rw [List.getElem?_set_ne hj] at q
    obtain ⟨u, h1, h2⟩ := h.2 j e q
    exact ⟨u, by rw [List.getElem?_set_ne hj]; exact h1, h2⟩
theorem RelS.del {K : Frag} {R : List Addr} {F : Hp} {δ : En} {σ : St} {i : Nat} {v : Option V} (h : RelS K R F δ σ) : RelS K R F (δ.set i none) (σ.set i v) := by
  refine ⟨by rw [List.length_set, List.length_set]; exact h.1, fun j e q => ?_⟩
  by_cases hj : i = j
  · subst hj
    have hi : i < δ.length := by
      have := (List.getElem?_eq_some_iff.mp q).1
      rwa [List.length_set] at this
    rw [List.getElem?_set_self hi] at q
    cases q
  · rw [List.getElem?_set_ne hj] at q
    obtain ⟨u, h1, h2⟩ := h.2 j e q
    exact ⟨u, by rw [List.getElem?_set_ne hj]; exact h1, h2⟩

section
variable {K : Frag} {Z : Hp} {R : List Addr} {F : Hp} {c : Cells} {H : Hp}
theorem Wd.none_of (h : Wd K Z R F c H) {p : Addr} (n : H p = none) : F p = none := h.same.free n
theorem Wd.notin (h : Wd K Z R F c H) {p : Addr} (n : H p = none) : p ∉ R := fun hm => by
  obtain ⟨i, hi, e⟩ := List.mem_iff_getElem.mp hm
  have hc : i < c.length := by rw [← h.len]; exact hi
  obtain ⟨a, o, h1, h2, _⟩ := h.cel i c[i] (List.getElem?_eq_getElem hc)
  rw [List.getElem?_eq_getElem hi, e] at h1
  cases h1
  rw [n] at h2
  cases h2
/-- a new frozen object -/
theorem Wd.frozen (h : Wd K Z R F c H) {p : Addr} (n : H p = none) (o : HO) : Wd K Z R (upd F p o) c (upd H p o) ∧ Same F (upd F p o) := by
  have s : Same F (upd F p o) := Ext.upd (h.none_of n)
  refine ⟨⟨h.zs.trans (Ext.upd n), fun a o e => ⟨?_, (h.zf a o e).2⟩, fun b u e => ?_, h.len, h.nd, fun i k q => ?_, h.tb.imp (fun a ⟨ps, e⟩ f z r => ⟨upd_ne (ne_of_none e n), (upd_ne (ne_of_none e n)).trans f, z, r⟩) fun c q e => s _ _ e⟩, s⟩
  · rw [upd_ne (ne_of_none (h.zs a o e) n)]; exact (h.zf a o e).1
  · by_cases hb : b = p
    · subst hb; rw [upd_same] at e ⊢; exact e
    · rw [upd_ne hb] at e ⊢; exact h.same b u e
  · obtain ⟨a, u, h1, h2, h3, h4⟩ := h.cel i k q
    have ha : a ≠ p := ne_of_none h2 n
    exact ⟨a, u, h1, by rw [upd_ne ha]; exact h2, h3.mono (List.prefix_refl _) s, h4.imp (fun z => by rw [upd_ne ha]; exact z) fun z => by rw [upd_ne ha]; exact z⟩
/-- something new that is not looked at -/
theorem Wd.more (h : Wd K Z R F c H) {H' : Hp} (e : Same H H') : Wd K Z R F c H' := ⟨h.zs.trans e, h.zf, h.same.trans e, h.len, h.nd, fun i k q => let ⟨a, u, h1, h2, h3, h4⟩ := h.cel i k q; ⟨a, u, h1, e _ _ h2, h3, h4⟩, h.tb.imp (fun a ⟨ps, q⟩ f z r => ⟨(e _ _ q).trans q.symm, f, z, r⟩) fun _ _ x => x⟩
/-- a new cell -/
theorem Wd.alloc (h : Wd K Z R F c H) {p : Addr} (n : H p = none) {k : Cell} {o : HO} (r : RelC K R F p k o) (hk : unl k = true := by rfl) : Wd K Z (R ++ [p]) F (c ++ [k]) (upd H p o) := by
  have pr : R <+: R ++ [p] := List.prefix_append _ _
  refine ⟨h.zs.trans (Ext.upd n), fun a o e => ⟨(h.zf a o e).1, fun hm => ?_⟩, fun b u e => ?_, by rw [List.length_append, List.length_append, h.len]; rfl, ?_, fun i q e => ?_, h.tb.imp (fun a ⟨ps, e⟩ f z r => ⟨upd_ne (ne_of_none e n), f, z, fun hm => by
    rcases List.mem_append.mp hm with m | m
    · exact r m
    · rw [List.mem_singleton] at m
      exact ne_of_none e n m⟩) fun _ _ x => x⟩
  · rcases List.mem_append.mp hm with hm | hm
    · exact (h.zf a o e).2 hm
    · rw [List.mem_singleton] at hm
      subst hm
      have := h.zs _ _ e
      rw [n] at this
      cases this
  · rw [upd_ne (ne_of_none (h.same b u e) n)]; exact h.same b u e
  · rw [List.nodup_append]
    refine ⟨h.nd, by simp, fun a ha b hb => ?_⟩
    rw [List.mem_singleton] at hb
    subst hb
    intro e
    subst e
    exact h.notin n ha
  · rcases Nat.lt_trichotomy i c.length with hi | hi | hi
    · rw [List.getElem?_append_left hi] at e
      obtain ⟨a, u, h1, h2, h3, h4⟩ := h.cel i q e
      have ha : a ≠ p := ne_of_none h2 n
      exact ⟨a, u, pre_get pr h1, by rw [upd_ne ha]; exact h2, h3.mono pr (Same.refl _), h4⟩
    · subst hi
      rw [List.getElem?_append_right (Nat.le_refl _), Nat.sub_self] at e
      have e2 : k = q := Option.some.inj e
      subst e2
      refine ⟨p, o, ?_, upd_same, r.mono pr (Same.refl _), .of hk (h.none_of n)⟩
      rw [← h.len, List.getElem?_append_right (Nat.le_refl _), Nat.sub_self]
      rfl
    · rw [List.getElem?_eq_none (by rw [List.length_append]; simp; omega)] at e
      cases e
theorem Wd.at0 (h : Wd K Z R F c H) {i : Nat} {a : Addr} {k : Cell} (ha : R[i]? = some a) (e : c[i]? = some k) (hk : unl k = true := by rfl) : F a = none := by
  obtain ⟨a', o', h1, _, _, h4⟩ := h.cel i k e
  rw [ha] at h1
  cases h1
  exact h4.none hk
/-- a cell is written -/
theorem Wd.write (h : Wd K Z R F c H) {i : Nat} {a : Addr} (ha : R[i]? = some a) {k : Cell} {o : HO} (r : RelC K R F a k o) (hu : F a = none) (hk : unl k = true := by rfl) : Wd K Z R F (c.set i k) (upd H a o) := by
  have hi : i < c.length := by rw [← h.len]; exact (List.getElem?_eq_some_iff.mp ha).1
  have h4' := hu
  have hmem : a ∈ R := List.mem_of_getElem? ha
  refine ⟨fun b u e => ?_, h.zf, fun b u e => ?_, by rw [List.length_set]; exact h.len, h.nd, fun j q e => ?_, h.tb.imp (fun b ⟨ps, e⟩ f z r => ⟨upd_ne (fun q => r (by rw [q]; exact hmem)), f, z, r⟩) fun _ _ x => x⟩
  · have hb : b ≠ a := fun z => by subst z; exact (h.zf _ _ e).2 hmem
    rw [upd_ne hb]; exact h.zs b u e
  · have hb : b ≠ a := fun z => by subst z; rw [h4'] at e; cases e
    rw [upd_ne hb]; exact h.same b u e
  · by_cases hj : i = j
    · subst hj
      rw [List.getElem?_set_self hi] at e
      cases e
      exact ⟨a, o, ha, upd_same, r, .of hk h4'⟩
    · rw [List.getElem?_set_ne hj] at e
      obtain ⟨b, u, h1, h2, h3, h4⟩ := h.cel j q e
      have hb : b ≠ a := fun z => by
        subst z
        obtain ⟨l1, e1⟩ := List.getElem?_eq_some_iff.mp ha
        obtain ⟨l2, e2⟩ := List.getElem?_eq_some_iff.mp h1
        exact hj ((List.getElem_inj h.nd).mp (e1.trans e2.symm))
      exact ⟨b, u, h1, by rw [upd_ne hb]; exact h2, h3, h4⟩
end
end Nw

set_option Elab.async false
set_option linter.all false
set_option maxRecDepth 100000
set_option maxHeartbeats 4000000
/-! Nw1: judgements: a piece of syntax does what a plain function says. -/
namespace Nw
open PySem PySem.Spec
open PyProof.Rows hiding St
open L2
variable [TheW]

inductive Out (α : Type) where
  | ok (a : α) (c : Cells) | exc (k : Str) (ns : List Str) (ds : List D) (c : Cells) | bad
def Out.bind {α β : Type} (o : Out α) (f : α → Cells → Out β) : Out β := match o with
  | .ok a c => f a c
  | .exc k ns ds c => .exc k ns ds c
  | .bad => .bad
theorem Out.bind_ok {α β : Type} {a : α} {c : Cells} {f : α → Cells → Out β} : (Out.ok a c).bind f = f a c := rfl
theorem Out.bind_exc {α β : Type} {k : Str} {ns : List Str} {ds : List D} {c : Cells} {f : α → Cells → Out β} : (Out.exc k ns ds c : Out α).bind f = .exc k ns ds c := rfl
theorem Out.bind_bad {α β : Type} {f : α → Cells → Out β} : (Out.bad : Out α).bind f = .bad := rfl
inductive Fl where
  | nx (δ : En) (c : Cells) | rt (d : D) (c : Cells) | bk (δ : En) (c : Cells) | ct (δ : En) (c : Cells) | exc (k : Str) (ns : List Str) (ds : List D) (δ : En) (c : Cells) | bad
abbrev ME := En → Cells → Out D
abbrev MT := En → Cells → Out Bool
abbrev MA := En → Cells → Out (List D)
abbrev MS := En → Cells → Fl
abbrev MF := List D → Cells → Out D
/-- an exception's own dict -/
inductive XR (K : Frag) (R : List Addr) (F : Hp) : List Str → List D → Option Addr → Prop where
  | none : XR K R F [] [] none
  | some {d : Addr} {ns : List Str} {vs : List V} {ds : List D} (h : F d = Option.some (.xd (ns.zip vs))) (z : ns.length = vs.length) (l : RelL K R F vs ds) : XR K R F ns ds (Option.some d)
theorem XR.mono {K : Frag} {R R' : List Addr} {F F' : Hp} (p : R <+: R') (e : Same F F') {ns : List Str} {ds : List D} {x : Option Addr} (h : XR K R F ns ds x) : XR K R' F' ns ds x := by
  cases h with
  | none => exact .none
  | some h z l => exact .some (e _ _ h) z (l.mono p e)
/-- what is wanted behind -/
def Aft {α : Type} (K : Frag) (Z : Hp) (W : WX) (R : List Addr) (F : Hp) (σ : St) (o : Out α) (Q : List Addr → Hp → α → Cells → Hp → Prop) : Prop := match o with
  | .ok a c => ∀ R' F' H', R <+: R' → Same F F' → Wd K Z R' F' c H' → Q R' F' a c H'
  | .exc k ns ds c => ∀ R' F' H' x, R <+: R' → Same F F' → Wd K Z R' F' c H' → XR K R' F' ns ds x → W (.ref (He.ga K k)) x σ H'
  | .bad => False
section
variable {α β : Type} {K : Frag} {Z : Hp} {W : WX} {R R1 : List Addr} {F F1 : Hp} {σ : St} {o : Out α} {Q Q' : List Addr → Hp → α → Cells → Hp → Prop}
theorem Aft.mono (p : R <+: R1) (e : Same F F1) (h : Aft K Z W R F σ o Q) : Aft K Z W R1 F1 σ o Q := by
  cases o with
  | ok a c => exact fun R' F' H' p' e' w => h R' F' H' (p.trans p') (e.trans e') w
  | exc k ns ds c => exact fun R' F' H' x p' e' w => h R' F' H' x (p.trans p') (e.trans e') w
  | bad => exact h
theorem Aft.bind {f : α → Cells → Out β} {Q : List Addr → Hp → β → Cells → Hp → Prop} (h : Aft K Z W R F σ (o.bind f) Q) : Aft K Z W R F σ o (fun R1 F1 a c1 H1 => R <+: R1 ∧ Same F F1 ∧ Wd K Z R1 F1 c1 H1 ∧ Aft K Z W R1 F1 σ (f a c1) Q) := by
  cases o with
  | ok a c => exact fun R' F' H' p e w => ⟨p, e, w, Aft.mono p e h⟩
  | exc k ns ds c => exact h
  | bad => exact h
theorem Aft.imp (h : Aft K Z W R F σ o Q) (hq : ∀ R' F' a c H', R <+: R' → Same F F' → Wd K Z R' F' c H' → Q R' F' a c H' → Q' R' F' a c H') : Aft K Z W R F σ o Q' := by
  cases o with
  | ok a c => exact fun R' F' H' p e w => hq _ _ _ _ _ p e w (h R' F' H' p e w)
  | exc k ns ds c => exact h
  | bad => exact h
theorem Aft.ok {a : α} {c : Cells} {H : Hp} (h : Aft K Z W R F σ (.ok a c) Q) (w : Wd K Z R F c H) : Q R F a c H := h R F H (List.prefix_refl _) (Same.refl _) w
end
abbrev QV (K : Frag) (Q : VK) : List Addr → Hp → D → Cells → Hp → Prop := fun R' F' d _ H' => ∀ v, Rel K R' F' v d → Q v H'
abbrev QL (K : Frag) (Q : List V → Hp → Prop) : List Addr → Hp → List D → Cells → Hp → Prop := fun R' F' ds _ H' => ∀ vs, RelL K R' F' vs ds → Q vs H'
abbrev QB (Q : Bool → Hp → Prop) : List Addr → Hp → Bool → Cells → Hp → Prop := fun _ _ b _ H' => Q b H'
/-- the judgements -/
structure DE (X : Cx) (W : WX) (e : Expr) (m : ME) : Prop where
  ex : ∃ t, PE X e t ∧ ∀ Z R F δ c σ H Q, Wd X.K Z R F c H → RelS X.K R F δ σ → Aft X.K Z W R F σ (m δ c) (QV X.K Q) → t σ H Q
structure DT (X : Cx) (W : WX) (e : Expr) (m : MT) : Prop where
  ex : ∃ t, PT X e t ∧ ∀ Z R F δ c σ H Q, Wd X.K Z R F c H → RelS X.K R F δ σ → Aft X.K Z W R F σ (m δ c) (QB Q) → t σ H Q
structure DW (X : Cx) (W : WX) (e : Expr) (m : MT) : Prop where
  ex : ∃ t, PW X e t ∧ ∀ Z R F δ c σ H Q, Wd X.K Z R F c H → RelS X.K R F δ σ → Aft X.K Z W R F σ (m δ c) (QB Q) → t σ H Q
structure DA (X : Cx) (W : WX) (es : List Expr) (m : MA) : Prop where
  ex : ∃ t, PA X es t ∧ ∀ Z R F δ c σ H Q, Wd X.K Z R F c H → RelS X.K R F δ σ → Aft X.K Z W R F σ (m δ c) (QL X.K Q) → t σ H Q
def AftS (K : Frag) (Z : Hp) (W : WX) (R : List Addr) (F : Hp) (o : Fl) (E : Ends) : Prop := match o with
  | .nx δ c => ∀ R' F' H' σ, R <+: R' → Same F F' → Wd K Z R' F' c H' → RelS K R' F' δ σ → E.nx σ H'
  | .bk δ c => ∀ R' F' H' σ, R <+: R' → Same F F' → Wd K Z R' F' c H' → RelS K R' F' δ σ → E.bk σ H'
  | .ct δ c => ∀ R' F' H' σ, R <+: R' → Same F F' → Wd K Z R' F' c H' → RelS K R' F' δ σ → E.ct σ H'
  | .rt d c => ∀ R' F' H' v, R <+: R' → Same F F' → Wd K Z R' F' c H' → Rel K R' F' v d → E.rt v H'
  | .exc k ns ds δ c => ∀ R' F' H' σ x, R <+: R' → Same F F' → Wd K Z R' F' c H' → RelS K R' F' δ σ → XR K R' F' ns ds x → W (.ref (He.ga K k)) x σ H'
  | .bad => False
theorem AftS.mono {K : Frag} {Z : Hp} {W : WX} {R R1 : List Addr} {F F1 : Hp} {o : Fl} {E : Ends} (p : R <+: R1) (e : Same F F1) (h : AftS K Z W R F o E) : AftS K Z W R1 F1 o E := by
  cases o with
  | nx δ c => exact fun R' F' H' σ p' e' => h R' F' H' σ (p.trans p') (e.trans e')
  | bk δ c => exact fun R' F' H' σ p' e' => h R' F' H' σ (p.trans p') (e.trans e')
  | ct δ c => exact fun R' F' H' σ p' e' => h R' F' H' σ (p.trans p') (e.trans e')
  | rt d c => exact fun R' F' H' v p' e' => h R' F' H' v (p.trans p') (e.trans e')
  | exc k ns ds δ c => exact fun R' F' H' σ x p' e' => h R' F' H' σ x (p.trans p') (e.trans e')
  | bad => exact h
structure DS (X : Cx) (W : WX) (st : Stmt) (m : MS) : Prop where
  ex : ∃ t, PS X st t ∧ ∀ Z R F δ c σ H E, Wd X.K Z R F c H → RelS X.K R F δ σ → AftS X.K Z W R F (m δ c) E → t E σ H
structure DSs (X : Cx) (W : WX) (st : List Stmt) (m : MS) : Prop where
  ex : ∃ t, PSs X st t ∧ ∀ Z R F δ c σ H E, Wd X.K Z R F c H → RelS X.K R F δ σ → AftS X.K Z W R F (m δ c) E → t E σ H
/-- from an expression's outcome to a statement's -/
def Out.fl (δ : En) {α : Type} (o : Out α) (f : α → Cells → Fl) : Fl := match o with
  | .ok a c => f a c
  | .exc k ns ds c => .exc k ns ds δ c
  | .bad => .bad
theorem Out.fl_ok {α : Type} {δ : En} {a : α} {c : Cells} {f : α → Cells → Fl} : (Out.ok a c).fl δ f = f a c := rfl
theorem Out.fl_exc {α : Type} {δ : En} {k : Str} {ns : List Str} {ds : List D} {c : Cells} {f : α → Cells → Fl} : (Out.exc k ns ds c : Out α).fl δ f = .exc k ns ds δ c := rfl
theorem AftS.fl {K : Frag} {Z : Hp} {W : WX} {R : List Addr} {F : Hp} {α : Type} {o : Out α} {f : α → Cells → Fl} {δ : En} {σ : St} {E : Ends} (rs : RelS K R F δ σ) (h : AftS K Z W R F (o.fl δ f) E) :
    Aft K Z W R F σ o (fun R1 F1 a c1 H1 => R <+: R1 ∧ Same F F1 ∧ Wd K Z R1 F1 c1 H1 ∧ AftS K Z W R1 F1 (f a c1) E) := by
  cases o with
  | ok a c => exact fun R' F' H' p e w => ⟨p, e, w, AftS.mono p e h⟩
  | exc k ns ds c => exact fun R' F' H' x p e w xr => h R' F' H' σ x p e w (rs.mono p e) xr
  | bad => exact h

/-! ### names, constants -/
section
variable {X : Cx} {W : WX} {pos : Pos}
def mVar (i : Nat) : ME := fun δ c => match δ[i]? with
  | some (some d) => .ok d c
  | _ => .bad
def mC (d : D) : ME := fun _ c => .ok d c
theorem Aft.var {K : Frag} {Z : Hp} {R : List Addr} {F : Hp} {σ : St} {δ : En} {c : Cells} {i : Nat} {Q : List Addr → Hp → D → Cells → Hp → Prop} (h : Aft K Z W R F σ (mVar i δ c) Q) : ∃ d, δ[i]? = some (some d) ∧ Aft K Z W R F σ (.ok d c) Q := by
  unfold mVar at h
  split at h
  · rename_i d e
    exact ⟨d, e, h⟩
  · exact h.elim
theorem de_pe {e : Expr} {i : Nat} (h : PE X e (tVar i)) : DE X W e (mVar i) := ⟨_, h, fun Z R F δ c σ H Q w rs h => by
  obtain ⟨d, e, h⟩ := h.var
  obtain ⟨v, hv, r⟩ := rs.2 i d e
  exact ⟨v, hv, h.ok w v r⟩⟩
theorem de_v (i : Nat) {x : Str} (hN : X.N[i]? = some x := by rfl) (hv : Vis X.env.scope x := by first | exact Or.inl rfl | exact Or.inr (Or.inl rfl) | exact Or.inr (Or.inr rfl)) (hd : (x == ("__debug__" : Str)) = false := by decide)
    (hcd : (x == ("__classdict__" : Str)) = false := by decide) : DE X W (.Name x pos) (mVar i) := de_pe (pe_var hN hv hd hcd)
theorem de_c {e : Expr} {v : V} {d : D} (h : PE X e (tC v)) (r : ∀ K R F, Rel K R F v d) : DE X W e (mC d) := ⟨_, h, fun Z R F δ c σ H Q w rs h => h.ok w v (r _ _ _)⟩
theorem de_int {i j} : DE X W (.Constant (.int i) j pos) (mC (.int i)) := de_c pe_int fun _ _ _ => .int i
theorem de_bl {b j} : DE X W (.Constant (.bool b) j pos) (mC (.bl b)) := de_c pe_bl fun _ _ _ => .bl b
theorem de_non {j} : DE X W (.Constant .none j pos) (mC .non) := de_c pe_non fun _ _ _ => .non
theorem de_str {x j} : DE X W (.Constant (.str x) j pos) (mC (.str x)) := de_c pe_str fun _ _ _ => .str x
/-- a module's text, number -/
theorem de_gstr {x z : Str} (hm : ∃ t, X.mg x = some (.str z t)) (hg : Gl X x := by rfl) (hd : (x == ("__debug__" : Str)) = false := by decide) : DE X W (.Name x pos) (mC (.str z)) := by
  obtain ⟨t, hm⟩ := hm
  exact de_c (pe_glob hg hm (v := .str z) ⟨t, rfl⟩ hd) fun _ _ _ => .str z
theorem de_gint {x : Str} {i : Int} (hm : ∃ t, X.mg x = some (.int i t)) (hg : Gl X x := by rfl) (hd : (x == ("__debug__" : Str)) = false := by decide) : DE X W (.Name x pos) (mC (.int i)) := by
  obtain ⟨t, hm⟩ := hm
  exact de_c (pe_glob hg hm (v := .int i) ⟨t, rfl⟩ hd) fun _ _ _ => .int i
/-- a module's own object (a class, a def) -/
theorem de_gl {x : Str} (hm : X.mg x = some (.ref (He.ga X.K x))) (hg : Gl X x := by rfl) (hd : (x == ("__debug__" : Str)) = false := by decide) : DE X W (.Name x pos) (mC (.gl x)) :=
  ⟨_, pe_glob hg hm (v := .ref (He.ga X.K x)) rfl hd, fun Z R F δ c σ H Q w rs h => h.ok w _ (.gl x)⟩
/-- a built-in class -/
theorem de_ty {x : Str} {n : String} (hm : X.mg x = none) (hv : bootBuiltins x = some (.type n)) (hg : Gl X x := by rfl) (hn : x ≠ "__name__" := by decide) (hd : (x == ("__debug__" : Str)) = false := by decide) : DE X W (.Name x pos) (mC (.ty n)) :=
  de_c (pe_bltn hg hm hv (v := .ty n) rfl hn hd) fun _ _ _ => .ty n
end

/-! ### operators -/
abbrev O2 := D → D → Cells → Out D
/-- an operator by values does what f says -/
def OpS (X : Cx) (g : Value → Value → Sem Value) (f : O2) : Prop := ∃ r, OpR X g r ∧ ∀ Z W R F c σ H x y d e Q, Wd X.K Z R F c H → Rel X.K R F x d → Rel X.K R F y e → Aft X.K Z W R F σ (f d e c) (QV X.K Q) → r x y H Q
def mOp (f : O2) (ma mb : ME) : ME := fun δ c => (ma δ c).bind fun x c1 => (mb δ c1).bind fun y c2 => f x y c2
section
variable {X : Cx} {W : WX} {pos : Pos} {a b : Expr} {ma mb : ME} {f : O2}
theorem op_read {ta tb : TE} {r : R2}
    (sa : ∀ Z R F δ c σ H Q, Wd X.K Z R F c H → RelS X.K R F δ σ → Aft X.K Z W R F σ (ma δ c) (QV X.K Q) → ta σ H Q)
    (sb : ∀ Z R F δ c σ H Q, Wd X.K Z R F c H → RelS X.K R F δ σ → Aft X.K Z W R F σ (mb δ c) (QV X.K Q) → tb σ H Q)
    (so : ∀ Z W R F c σ H x y d e Q, Wd X.K Z R F c H → Rel X.K R F x d → Rel X.K R F y e → Aft X.K Z W R F σ (f d e c) (QV X.K Q) → r x y H Q) :
    ∀ Z R F δ c σ H Q, Wd X.K Z R F c H → RelS X.K R F δ σ → Aft X.K Z W R F σ (mOp f ma mb δ c) (QV X.K Q) → tOp r ta tb σ H Q := by
  intro Z R F δ c σ H Q w rs h
  refine sa Z R F δ c σ H _ w rs ((Aft.bind h).imp ?_)
  rintro R1 F1 d c1 H1 p1 e1 w1 ⟨_, _, _, h1⟩ x rx
  refine sb Z R1 F1 δ c1 σ H1 _ w1 (rs.mono p1 e1) ((Aft.bind h1).imp ?_)
  rintro R2 F2 e c2 H2 p2 e2 w2 ⟨_, _, _, h2⟩ y ry
  exact so Z W R2 F2 c2 σ H2 x y d e Q w2 (rx.mono p2 e2) ry h2
theorem de_op {op : Operator} (ho : OpS X (binaryOp op) f) (ha : DE X W a ma) (hb : DE X W b mb) : DE X W (.BinOp a op b pos) (mOp f ma mb) := by
  obtain ⟨ta, pa, sa⟩ := ha.ex
  obtain ⟨tb, pb, sb⟩ := hb.ex
  obtain ⟨r, po, so⟩ := ho
  exact ⟨_, pe_op po pa pb, op_read sa sb so⟩
theorem de_cmp {op : CmpOp} (ho : OpS X (compareOp op) f) (ha : DE X W a ma) (hb : DE X W b mb) (hm : behindInMarks op b = false := by first | exact nomark _ | rfl) : DE X W (.Compare a [op] [b] pos) (mOp f ma mb) := by
  obtain ⟨ta, pa, sa⟩ := ha.ex
  obtain ⟨tb, pb, sb⟩ := hb.ex
  obtain ⟨r, po, so⟩ := ho
  exact ⟨_, pe_cmpR po pa pb hm, op_read sa sb so⟩
def asB : D → Cells → Out Bool := fun d c => match d with
  | .bl b => .ok b c
  | _ => .bad
def mB (m : ME) : MT := fun δ c => (m δ c).bind asB
theorem Aft.asB {K : Frag} {Z : Hp} {R : List Addr} {F : Hp} {σ : St} {d : D} {c : Cells} {Q : List Addr → Hp → Bool → Cells → Hp → Prop} (h : Aft K Z W R F σ (asB d c) Q) : ∃ b, d = .bl b ∧ Aft K Z W R F σ (.ok b c) Q := by
  cases d with
  | bl b => exact ⟨b, rfl, h⟩
  | _ => exact h.elim
theorem b_read {ta : TE} (sa : ∀ Z R F δ c σ H Q, Wd X.K Z R F c H → RelS X.K R F δ σ → Aft X.K Z W R F σ (ma δ c) (QV X.K Q) → ta σ H Q) :
    ∀ Z R F δ c σ H Q, Wd X.K Z R F c H → RelS X.K R F δ σ → Aft X.K Z W R F σ (mB ma δ c) (QB Q) → tB ta σ H Q := by
  intro Z R F δ c σ H Q w rs h
  refine sa Z R F δ c σ H _ w rs ((Aft.bind h).imp ?_)
  rintro R1 F1 d c1 H1 p1 e1 w1 ⟨_, _, _, h1⟩ x rx
  obtain ⟨b, rfl, h1⟩ := h1.asB
  cases rx
  exact ⟨b, rfl, h1.ok w1⟩
/-- an expression that gives True or False, as a test -/
theorem dt_val (ha : DE X W a ma) (he : ∀ whole, isTrue a X.env whole = (do let v ← whole; standAt a.pos; holding [v] (truthy v)) := by intro _; rfl) : DT X W a (mB ma) := by
  obtain ⟨ta, pa, sa⟩ := ha.ex
  exact ⟨_, pt_val pa he, b_read sa⟩
theorem dt_cmp {op : CmpOp} (ho : OpS X (compareOp op) f) (ha : DE X W a ma) (hb : DE X W b mb) (hm : behindInMarks op b = false := by first | exact nomark _ | rfl) : DT X W (.Compare a [op] [b] pos) (mB (mOp f ma mb)) := by
  obtain ⟨ta, pa, sa⟩ := ha.ex
  obtain ⟨tb, pb, sb⟩ := hb.ex
  obtain ⟨r, po, so⟩ := ho
  exact ⟨_, pt_cmpR po pa pb hm, b_read (op_read sa sb so)⟩
end
/-! ### a < b < c -/
def mChain (f g : O2) (ma mb mc : ME) : ME := fun δ c => (ma δ c).bind fun x c1 => (mb δ c1).bind fun y c2 => (f x y c2).bind fun z c3 => (asB z c3).bind fun k c4 => if k = true then (mc δ c4).bind fun u c5 => g y u c5 else .ok (.bl false) c4
section
variable {X : Cx} {W : WX} {pos : Pos} {a b d : Expr} {ma mb md : ME} {f g : O2}
theorem chain_read {ta tb td : TE} {r r' : R2}
    (sa : ∀ Z R F δ c σ H Q, Wd X.K Z R F c H → RelS X.K R F δ σ → Aft X.K Z W R F σ (ma δ c) (QV X.K Q) → ta σ H Q)
    (sb : ∀ Z R F δ c σ H Q, Wd X.K Z R F c H → RelS X.K R F δ σ → Aft X.K Z W R F σ (mb δ c) (QV X.K Q) → tb σ H Q)
    (sd : ∀ Z R F δ c σ H Q, Wd X.K Z R F c H → RelS X.K R F δ σ → Aft X.K Z W R F σ (md δ c) (QV X.K Q) → td σ H Q)
    (so : ∀ Z W R F c σ H x y d e Q, Wd X.K Z R F c H → Rel X.K R F x d → Rel X.K R F y e → Aft X.K Z W R F σ (f d e c) (QV X.K Q) → r x y H Q)
    (so' : ∀ Z W R F c σ H x y d e Q, Wd X.K Z R F c H → Rel X.K R F x d → Rel X.K R F y e → Aft X.K Z W R F σ (g d e c) (QV X.K Q) → r' x y H Q) :
    ∀ Z R F δ c σ H Q, Wd X.K Z R F c H → RelS X.K R F δ σ → Aft X.K Z W R F σ (mChain f g ma mb md δ c) (QV X.K Q) → tChain r r' ta tb td σ H Q := by
  intro Z R F δ c σ H Q w rs h
  refine sa Z R F δ c σ H _ w rs ((Aft.bind h).imp ?_)
  rintro R1 F1 d c1 H1 p1 e1 w1 ⟨_, _, _, h1⟩ x rx
  refine sb Z R1 F1 δ c1 σ H1 _ w1 (rs.mono p1 e1) ((Aft.bind h1).imp ?_)
  rintro R2 F2 e c2 H2 p2 e2 w2 ⟨_, _, _, h2⟩ y ry
  refine so Z W R2 F2 c2 σ H2 x y d e _ w2 (rx.mono p2 e2) ry ((Aft.bind h2).imp ?_)
  rintro R3 F3 z c3 H3 p3 e3 w3 ⟨_, _, _, h3⟩ v rv
  have h4 := Aft.bind h3
  obtain ⟨k, rfl, h4⟩ := h4.asB
  obtain ⟨_, _, _, h4⟩ := h4.ok w3
  cases rv
  refine ⟨k, rfl, ?_⟩
  cases k with
  | false =>
    rw [if_neg (by decide)] at h4 ⊢
    exact h4.ok w3 _ (.bl false)
  | true =>
    rw [if_pos rfl] at h4 ⊢
    refine sd Z R3 F3 δ c3 σ H3 _ w3 (((rs.mono p1 e1).mono p2 e2).mono p3 e3) ((Aft.bind h4).imp ?_)
    rintro R4 F4 u c4 H4 p4 e4 w4 ⟨_, _, _, h5⟩ v rv
    exact so' Z W R4 F4 c4 σ H4 y v e u Q w4 ((ry.mono p3 e3).mono p4 e4) rv h5
theorem de_chain {op op' : CmpOp} (ho : OpS X (compareOp op) f) (ho' : OpS X (compareOp op') g) (ha : DE X W a ma) (hb : DE X W b mb) (hd : DE X W d md) (hm : lastMarks [op, op'] [b, d] = false := by with_unfolding_all rfl) :
    DE X W (.Compare a [op, op'] [b, d] pos) (mChain f g ma mb md) := by
  obtain ⟨ta, pa, sa⟩ := ha.ex
  obtain ⟨tb, pb, sb⟩ := hb.ex
  obtain ⟨td, pd, sd⟩ := hd.ex
  obtain ⟨r, po, so⟩ := ho
  obtain ⟨r', po', so'⟩ := ho'
  exact ⟨_, pe_chain po po' pa pb pd hm, chain_read sa sb sd so so'⟩
theorem dt_chain {op op' : CmpOp} (ho : OpS X (compareOp op) f) (ho' : OpS X (compareOp op') g) (ha : DE X W a ma) (hb : DE X W b mb) (hd : DE X W d md) (hm : lastMarks [op, op'] [b, d] = false := by with_unfolding_all rfl) :
    DT X W (.Compare a [op, op'] [b, d] pos) (mB (mChain f g ma mb md)) := by
  obtain ⟨ta, pa, sa⟩ := ha.ex
  obtain ⟨tb, pb, sb⟩ := hb.ex
  obtain ⟨td, pd, sd⟩ := hd.ex
  obtain ⟨r, po, so⟩ := ho
  obtain ⟨r', po', so'⟩ := ho'
  exact ⟨_, pt_chain po po' pa pb pd hm, b_read (chain_read sa sb sd so so')⟩

/-! ### and, or, not, if -/
def mAndT (ma mb : MT) : MT := fun δ c => (ma δ c).bind fun k c1 => if k = true then mb δ c1 else .ok false c1
def mOrT (ma mb : MT) : MT := fun δ c => (ma δ c).bind fun k c1 => if k = true then .ok true c1 else mb δ c1
def mNotT (ma : MT) : MT := fun δ c => (ma δ c).bind fun k c1 => .ok (!k) c1
variable {na nb : MT} {rest : List Expr}
theorem dw_and1 (ha : DT X W a na) : DW X W (.BoolOp .And [a] pos) na := by
  obtain ⟨ta, pa, sa⟩ := ha.ex
  exact ⟨_, pw_and1 pa, sa⟩
theorem dw_or1 (ha : DT X W a na) : DW X W (.BoolOp .Or [a] pos) na := by
  obtain ⟨ta, pa, sa⟩ := ha.ex
  exact ⟨_, pw_or1 pa, sa⟩
theorem dw_and (ha : DT X W a na) (hb : DW X W (.BoolOp .And (b :: rest) pos) nb) : DW X W (.BoolOp .And (a :: b :: rest) pos) (mAndT na nb) := by
  obtain ⟨ta, pa, sa⟩ := ha.ex
  obtain ⟨tb, pb, sb⟩ := hb.ex
  refine ⟨_, pw_and pa pb, fun Z R F δ c σ H Q w rs h => sa Z R F δ c σ H _ w rs ((Aft.bind h).imp ?_)⟩
  rintro R1 F1 k c1 H1 p1 e1 w1 ⟨_, _, _, h1⟩
  cases k with
  | false =>
    rw [if_neg (by decide)] at h1
    show if false = true then _ else _
    rw [if_neg (by decide)]
    exact h1.ok w1
  | true =>
    rw [if_pos rfl] at h1
    show if true = true then _ else _
    rw [if_pos rfl]
    exact sb Z R1 F1 δ c1 σ H1 _ w1 (rs.mono p1 e1) h1
theorem dw_or (ha : DT X W a na) (hb : DW X W (.BoolOp .Or (b :: rest) pos) nb) : DW X W (.BoolOp .Or (a :: b :: rest) pos) (mOrT na nb) := by
  obtain ⟨ta, pa, sa⟩ := ha.ex
  obtain ⟨tb, pb, sb⟩ := hb.ex
  refine ⟨_, pw_or pa pb, fun Z R F δ c σ H Q w rs h => sa Z R F δ c σ H _ w rs ((Aft.bind h).imp ?_)⟩
  rintro R1 F1 k c1 H1 p1 e1 w1 ⟨_, _, _, h1⟩
  cases k with
  | true =>
    rw [if_pos rfl] at h1
    show if true = true then _ else _
    rw [if_pos rfl]
    exact h1.ok w1
  | false =>
    rw [if_neg (by decide)] at h1
    show if false = true then _ else _
    rw [if_neg (by decide)]
    exact sb Z R1 F1 δ c1 σ H1 _ w1 (rs.mono p1 e1) h1
theorem DW.dt {e : Expr} (h : DW X W e na) : DT X W e na := by
  obtain ⟨ta, pa, sa⟩ := h.ex
  exact ⟨_, pa.pt, sa⟩
theorem dt_not (ha : DT X W a na) : DT X W (.UnaryOp .Not a pos) (mNotT na) := by
  obtain ⟨ta, pa, sa⟩ := ha.ex
  refine ⟨_, pt_not pa, fun Z R F δ c σ H Q w rs h => sa Z R F δ c σ H _ w rs ((Aft.bind h).imp ?_)⟩
  rintro R1 F1 k c1 H1 p1 e1 w1 ⟨_, _, _, h1⟩
  exact h1.ok w1
/-- as values: True, False alone -/
def mAnd (ma mb : ME) : ME := fun δ c => (mB ma δ c).bind fun k c1 => if k = true then mb δ c1 else .ok (.bl false) c1
def mOr (ma mb : ME) : ME := fun δ c => (mB ma δ c).bind fun k c1 => if k = true then .ok (.bl true) c1 else mb δ c1
def mNot (ma : ME) : ME := fun δ c => (mB ma δ c).bind fun k c1 => .ok (.bl (!k)) c1
theorem de_one {op} (h : DE X W a ma) : DE X W (.BoolOp op [a] pos) ma := by
  obtain ⟨ta, pa, sa⟩ := h.ex
  exact ⟨_, pe_one pa, sa⟩
theorem mB_of {K : Frag} {Z : Hp} {R : List Addr} {F : Hp} {σ : St} {o : Out D} {α : Type} {f : Bool → Cells → Out α} {Q : List Addr → Hp → α → Cells → Hp → Prop} (h : Aft K Z W R F σ ((o.bind asB).bind f) Q) :
    Aft K Z W R F σ o (fun R1 F1 d c1 H1 => ∃ k, d = .bl k ∧ Aft K Z W R1 F1 σ (f k c1) Q) := by
  have h2 := Aft.bind (Aft.bind h)
  refine h2.imp ?_
  rintro R1 F1 d c1 H1 p1 e1 w1 ⟨_, _, _, h1⟩
  obtain ⟨k, rfl, h1⟩ := h1.asB
  obtain ⟨_, _, _, h1⟩ := h1.ok w1
  exact ⟨k, rfl, h1⟩
theorem de_and (ha : DE X W a ma) (hb : DE X W (.BoolOp .And (b :: rest) pos) mb) : DE X W (.BoolOp .And (a :: b :: rest) pos) (mAnd ma mb) := by
  obtain ⟨ta, pa, sa⟩ := ha.ex
  obtain ⟨tb, pb, sb⟩ := hb.ex
  refine ⟨_, pe_and pa pb, fun Z R F δ c σ H Q w rs h => sa Z R F δ c σ H _ w rs ((mB_of h).imp ?_)⟩
  rintro R1 F1 d c1 H1 p1 e1 w1 ⟨k, rfl, h1⟩ x rx
  cases rx
  refine ⟨k, rfl, ?_⟩
  cases k with
  | false =>
    rw [if_neg (by decide)] at h1 ⊢
    exact h1.ok w1 _ (.bl false)
  | true =>
    rw [if_pos rfl] at h1 ⊢
    exact sb Z R1 F1 δ c1 σ H1 _ w1 (rs.mono p1 e1) h1
theorem de_or (ha : DE X W a ma) (hb : DE X W (.BoolOp .Or (b :: rest) pos) mb) : DE X W (.BoolOp .Or (a :: b :: rest) pos) (mOr ma mb) := by
  obtain ⟨ta, pa, sa⟩ := ha.ex
  obtain ⟨tb, pb, sb⟩ := hb.ex
  refine ⟨_, pe_or pa pb, fun Z R F δ c σ H Q w rs h => sa Z R F δ c σ H _ w rs ((mB_of h).imp ?_)⟩
  rintro R1 F1 d c1 H1 p1 e1 w1 ⟨k, rfl, h1⟩ x rx
  cases rx
  refine ⟨k, rfl, ?_⟩
  cases k with
  | true =>
    rw [if_pos rfl] at h1 ⊢
    exact h1.ok w1 _ (.bl true)
  | false =>
    rw [if_neg (by decide)] at h1 ⊢
    exact sb Z R1 F1 δ c1 σ H1 _ w1 (rs.mono p1 e1) h1
theorem de_not (ha : DE X W a ma) : DE X W (.UnaryOp .Not a pos) (mNot ma) := by
  obtain ⟨ta, pa, sa⟩ := ha.ex
  refine ⟨_, pe_not pa, fun Z R F δ c σ H Q w rs h => sa Z R F δ c σ H _ w rs ((mB_of h).imp ?_)⟩
  rintro R1 F1 d c1 H1 p1 e1 w1 ⟨k, rfl, h1⟩ x rx
  cases rx
  exact ⟨k, rfl, h1.ok w1 _ (.bl _)⟩
def mIf (mc : MT) (ma mb : ME) : ME := fun δ c => (mc δ c).bind fun k c1 => if k = true then ma δ c1 else mb δ c1
theorem de_if {t : Expr} (hc : DT X W t na) (ha : DE X W a ma) (hb : DE X W b mb) : DE X W (.IfExp t a b pos) (mIf na ma mb) := by
  obtain ⟨tc, pc, sc⟩ := hc.ex
  obtain ⟨ta, pa, sa⟩ := ha.ex
  obtain ⟨tb, pb, sb⟩ := hb.ex
  refine ⟨_, pe_ifExp pc pa pb, fun Z R F δ c σ H Q w rs h => sc Z R F δ c σ H _ w rs ((Aft.bind h).imp ?_)⟩
  rintro R1 F1 k c1 H1 p1 e1 w1 ⟨_, _, _, h1⟩
  cases k with
  | true =>
    rw [if_pos rfl] at h1
    show if true = true then _ else _
    rw [if_pos rfl]
    exact sa Z R1 F1 δ c1 σ H1 _ w1 (rs.mono p1 e1) h1
  | false =>
    rw [if_neg (by decide)] at h1
    show if false = true then _ else _
    rw [if_neg (by decide)]
    exact sb Z R1 F1 δ c1 σ H1 _ w1 (rs.mono p1 e1) h1

/-! ### argument lists, displays -/
def mNil : MA := fun _ c => .ok [] c
def mCons (m : ME) (ms : MA) : MA := fun δ c => (m δ c).bind fun x c1 => (ms δ c1).bind fun xs c2 => .ok (x :: xs) c2
variable {es : List Expr} {ms : MA}
theorem da_nil : DA X W [] mNil := ⟨_, pa_nil, fun Z R F δ c σ H Q w rs h => h.ok w _ .nil⟩
theorem da_cons (ha : DE X W a ma) (hr : DA X W es ms) (hs : starEach (a :: es) X.env = (false, eval a X.env) :: starEach es X.env := by rfl) : DA X W (a :: es) (mCons ma ms) := by
  obtain ⟨ta, pa, sa⟩ := ha.ex
  obtain ⟨tr, pr, sr⟩ := hr.ex
  refine ⟨_, pa_cons pa pr hs, fun Z R F δ c σ H Q w rs h => sa Z R F δ c σ H _ w rs ((Aft.bind h).imp ?_)⟩
  rintro R1 F1 d c1 H1 p1 e1 w1 ⟨_, _, _, h1⟩ x rx
  refine sr Z R1 F1 δ c1 σ H1 _ w1 (rs.mono p1 e1) ((Aft.bind h1).imp ?_)
  rintro R2 F2 ds c2 H2 p2 e2 w2 ⟨_, _, _, h2⟩ xs rxs
  exact h2.ok w2 _ (.cons (rx.mono p2 e2) rxs)
def tupD (ds : List D) (c : Cells) : Out D := if ds.length ≤ sizeLine then .ok (.tup ds) c else .bad
def lstD (ds : List D) (c : Cells) : Out D := if ds.length ≤ sizeLine then .ok (.lst ds) c else .bad
/-- a new list that will change: a cell -/
def lstC (ds : List D) (c : Cells) : Out D := if ds.length ≤ sizeLine then .ok (.cell c.length) (c ++ [.lst ds]) else .bad
def mTup (ms : MA) : ME := fun δ c => (ms δ c).bind tupD
def mLst (ms : MA) : ME := fun δ c => (ms δ c).bind lstD
def mLstC (ms : MA) : ME := fun δ c => (ms δ c).bind lstC
theorem new_tup {K : Frag} {Z : Hp} {R : List Addr} {F : Hp} {σ : St} {c : Cells} {H : Hp} {ds : List D} {vs : List V} {Q : VK} (w : Wd K Z R F c H) (r : RelL K R F vs ds) (h : Aft K Z W R F σ (tupD ds c) (QV K Q)) :
    vs.length ≤ sizeLine ∧ ∀ p, H p = none → Q (.ref p) (upd H p (.tup vs)) := by
  unfold tupD at h
  by_cases hz : ds.length ≤ sizeLine
  · rw [if_pos hz] at h
    refine ⟨by rw [r.length]; exact hz, fun p n => ?_⟩
    obtain ⟨w2, s2⟩ := w.frozen n (.tup vs)
    exact h _ _ _ (List.prefix_refl _) s2 w2 _ (.tup (SqT.of upd_same) (r.mono (List.prefix_refl _) s2))
  · rw [if_neg hz] at h
    exact h.elim
theorem new_lst {K : Frag} {Z : Hp} {R : List Addr} {F : Hp} {σ : St} {c : Cells} {H : Hp} {ds : List D} {vs : List V} {Q : VK} (w : Wd K Z R F c H) (r : RelL K R F vs ds) (h : Aft K Z W R F σ (lstD ds c) (QV K Q)) :
    vs.length ≤ sizeLine ∧ ∀ p, H p = none → Q (.ref p) (upd H p (.lst vs)) := by
  unfold lstD at h
  by_cases hz : ds.length ≤ sizeLine
  · rw [if_pos hz] at h
    refine ⟨by rw [r.length]; exact hz, fun p n => ?_⟩
    obtain ⟨w2, s2⟩ := w.frozen n (.lst vs)
    exact h _ _ _ (List.prefix_refl _) s2 w2 _ (.lst upd_same (r.mono (List.prefix_refl _) s2))
  · rw [if_neg hz] at h
    exact h.elim
theorem new_lstC {K : Frag} {Z : Hp} {R : List Addr} {F : Hp} {σ : St} {c : Cells} {H : Hp} {ds : List D} {vs : List V} {Q : VK} (w : Wd K Z R F c H) (r : RelL K R F vs ds) (h : Aft K Z W R F σ (lstC ds c) (QV K Q)) :
    vs.length ≤ sizeLine ∧ ∀ p, H p = none → Q (.ref p) (upd H p (.lst vs)) := by
  unfold lstC at h
  by_cases hz : ds.length ≤ sizeLine
  · rw [if_pos hz] at h
    refine ⟨by rw [r.length]; exact hz, fun p n => ?_⟩
    have w2 := w.alloc n (.lst r)
    refine h _ _ _ (List.prefix_append _ _) (Same.refl _) w2 _ (.cell ?_)
    rw [← w.len, List.getElem?_append_right (Nat.le_refl _), Nat.sub_self]
    rfl
  · rw [if_neg hz] at h
    exact h.elim
theorem de_tup {x1} (h : DA X W es ms) : DE X W (.Tuple es x1 pos) (mTup ms) := by
  obtain ⟨ta, pa, sa⟩ := h.ex
  refine ⟨_, pe_tup pa, fun Z R F δ c σ H Q w rs h => sa Z R F δ c σ H _ w rs ((Aft.bind h).imp ?_)⟩
  rintro R1 F1 ds c1 H1 p1 e1 w1 ⟨_, _, _, h1⟩ vs rv
  exact new_tup w1 rv h1
theorem de_lst (h : DA X W es ms) : DE X W (.List es pos) (mLst ms) := by
  obtain ⟨ta, pa, sa⟩ := h.ex
  refine ⟨_, pe_lst pa, fun Z R F δ c σ H Q w rs h => sa Z R F δ c σ H _ w rs ((Aft.bind h).imp ?_)⟩
  rintro R1 F1 ds c1 H1 p1 e1 w1 ⟨_, _, _, h1⟩ vs rv
  exact new_lst w1 rv h1
theorem de_lstC (h : DA X W es ms) : DE X W (.List es pos) (mLstC ms) := by
  obtain ⟨ta, pa, sa⟩ := h.ex
  refine ⟨_, pe_lst pa, fun Z R F δ c σ H Q w rs h => sa Z R F δ c σ H _ w rs ((Aft.bind h).imp ?_)⟩
  rintro R1 F1 ds c1 H1 p1 e1 w1 ⟨_, _, _, h1⟩ vs rv
  exact new_lstC w1 rv h1
end

/-! ### statements -/
section
variable {X : Cx} {W : WX} {pos : Pos} {e : Expr} {m : ME} {st : Stmt} {rest : List Stmt} {ms mr : MS}
def mSkip : MS := fun δ c => .nx δ c
def mSeq (m1 m2 : MS) : MS := fun δ c => match m1 δ c with
  | .nx δ' c' => m2 δ' c'
  | o => o
theorem AftS.seq {K : Frag} {Z : Hp} {R : List Addr} {F : Hp} {o : Fl} {f : En → Cells → Fl} {E : Ends} {N : L2.St → Hp → Prop} (h : AftS K Z W R F (match o with | .nx δ' c' => f δ' c' | o => o) E)
    (hN : ∀ δ c R' F' H' σ, R <+: R' → Same F F' → Wd K Z R' F' c H' → RelS K R' F' δ σ → AftS K Z W R' F' (f δ c) E → N σ H') : AftS K Z W R F o { E with nx := N } := by
  cases o with
  | nx δ c => exact fun R' F' H' σ p e w rs => hN δ c R' F' H' σ p e w rs (AftS.mono p e h)
  | rt d c => exact h
  | bk δ c => exact h
  | ct δ c => exact h
  | exc k ns ds δ c => exact h
  | bad => exact h
theorem dss_nil : DSs X W [] mSkip := ⟨_, pss_nil, fun Z R F δ c σ H E w rs h => h R F H σ (List.prefix_refl _) (Same.refl _) w rs⟩
theorem dss_one (h : DS X W st ms) : DSs X W [st] ms := by
  obtain ⟨t, p, s⟩ := h.ex
  exact ⟨_, pss_one p, s⟩
theorem dss_cons (h : DS X W st ms) (h2 : DSs X W rest mr) : DSs X W (st :: rest) (mSeq ms mr) := by
  obtain ⟨t, p, s⟩ := h.ex
  obtain ⟨u, q, s2⟩ := h2.ex
  refine ⟨_, pss_cons p q, fun Z R F δ c σ H E w rs h => s Z R F δ c σ H _ w rs (AftS.seq h ?_)⟩
  intro δ' c' R' F' H' σ' p' e' w' rs' h'
  exact s2 Z R' F' δ' c' σ' H' E w' rs' h'
theorem ds_pass : DS X W (.Pass pos) mSkip := ⟨_, ps_pass, fun Z R F δ c σ H E w rs h => h R F H σ (List.prefix_refl _) (Same.refl _) w rs⟩
theorem ds_break : DS X W (.Break pos) (fun δ c => .bk δ c) := ⟨_, ps_break, fun Z R F δ c σ H E w rs h => h R F H σ (List.prefix_refl _) (Same.refl _) w rs⟩
theorem ds_continue : DS X W (.Continue pos) (fun δ c => .ct δ c) := ⟨_, ps_continue, fun Z R F δ c σ H E w rs h => h R F H σ (List.prefix_refl _) (Same.refl _) w rs⟩
theorem ds_never : DS X W st (fun _ _ => .bad) := ⟨_, ps_never, fun Z R F δ c σ H E w rs h => h.elim⟩
theorem dss_never {sts : List Stmt} : DSs X W sts (fun _ _ => .bad) := ⟨_, pss_never, fun Z R F δ c σ H E w rs h => h.elim⟩
def mExpr (m : ME) : MS := fun δ c => (m δ c).fl δ fun _ c1 => .nx δ c1
theorem ds_expr (h : DE X W e m) (hs : swapsWith e none pos.line X.env = pure false := by rfl) : DS X W (.Expr e pos) (mExpr m) := by
  obtain ⟨t, p, s⟩ := h.ex
  refine ⟨_, ps_expr p hs, fun Z R F δ c σ H E w rs h => s Z R F δ c σ H _ w rs ((AftS.fl rs h).imp ?_)⟩
  rintro R1 F1 d c1 H1 p1 e1 w1 ⟨_, _, _, h1⟩ x rx
  exact h1 R1 F1 H1 σ (List.prefix_refl _) (Same.refl _) w1 (rs.mono p1 e1)
def mRet (m : ME) : MS := fun δ c => (m δ c).fl δ fun d c1 => .rt d c1
theorem ds_ret (h : DE X W e m) : DS X W (.Return (some e) pos) (mRet m) := by
  obtain ⟨t, p, s⟩ := h.ex
  refine ⟨_, ps_ret p, fun Z R F δ c σ H E w rs h => s Z R F δ c σ H _ w rs ((AftS.fl rs h).imp ?_)⟩
  rintro R1 F1 d c1 H1 p1 e1 w1 ⟨_, _, _, h1⟩ x rx
  exact h1 R1 F1 H1 x (List.prefix_refl _) (Same.refl _) w1 rx
theorem ds_retN : DS X W (.Return none pos) (fun _ c => .rt .non c) := ⟨_, ps_retN, fun Z R F δ c σ H E w rs h => h R F H .non (List.prefix_refl _) (Same.refl _) w .non⟩
def mIfS (mc : MT) (ma mb : MS) : MS := fun δ c => (mc δ c).fl δ fun k c1 => if k = true then ma δ c1 else mb δ c1
theorem ds_if {t : Expr} {a b : List Stmt} {mc : MT} {ma mb : MS} (hc : DT X W t mc) (ha : DSs X W a ma) (hb : DSs X W b mb) : DS X W (.If t a b pos) (mIfS mc ma mb) := by
  obtain ⟨tc, pc, sc⟩ := hc.ex
  obtain ⟨ta, pa, sa⟩ := ha.ex
  obtain ⟨tb, pb, sb⟩ := hb.ex
  refine ⟨_, ps_if pc pa pb, fun Z R F δ c σ H E w rs h => sc Z R F δ c σ H _ w rs ((AftS.fl rs h).imp ?_)⟩
  rintro R1 F1 k c1 H1 p1 e1 w1 ⟨_, _, _, h1⟩
  cases k with
  | true =>
    rw [if_pos rfl] at h1
    show if true = true then _ else _
    rw [if_pos rfl]
    exact sa Z R1 F1 δ c1 σ H1 _ w1 (rs.mono p1 e1) h1
  | false =>
    rw [if_neg (by decide)] at h1
    show if false = true then _ else _
    rw [if_neg (by decide)]
    exact sb Z R1 F1 δ c1 σ H1 _ w1 (rs.mono p1 e1) h1
def mSet (i : Nat) (m : ME) : MS := fun δ c => (m δ c).fl δ fun d c1 => .nx (δ.set i (some d)) c1
theorem ds_set {i : Nat} {x : Str} {pos' : Pos} (hN : X.N.Nodup) (hi : X.N[i]? = some x) (hx : Loc X.env.scope x) (he : DE X W e m) (hs : swapsWith e (some (.Name x pos')) pos.line X.env = pure false := by rfl)
    (hf : X.fn x = true ∨ X.env.scope.names.lookup x = some .local := by first | exact .inl rfl | exact .inr rfl | assumption) : DS X W (.Assign [.Name x pos'] e pos) (mSet i m) := by
  obtain ⟨t, p, s⟩ := he.ex
  refine ⟨_, ps_set hN hi hx p hs hf, fun Z R F δ c σ H E w rs h => s Z R F δ c σ H _ w rs ((AftS.fl rs h).imp ?_)⟩
  rintro R1 F1 d c1 H1 p1 e1 w1 ⟨_, _, _, h1⟩ v rv
  exact h1 R1 F1 H1 _ (List.prefix_refl _) (Same.refl _) w1 ((rs.mono p1 e1).set rv)
end
end Nw

set_option Elab.async false
set_option linter.all false
set_option maxRecDepth 100000
set_option maxHeartbeats 4000000
/-! Nw2: targets, loops, comprehensions. -/
namespace Nw
open PySem PySem.Spec
open PyProof.Rows hiding St
open L2
variable [TheW]

/-! ### targets -/
abbrev MG := D → En → Option En
/-- only the slots sl are changed -/
def Out_ (sl : List Nat) (σ σ' : St) : Prop := σ'.length = σ.length ∧ ∀ j, j ∉ sl → σ'[j]? = σ[j]?
structure DG (X : Cx) (tg : Expr) (sl : List Nat) (g : MG) : Prop where
  ex : ∃ t, PG X tg t ∧ ∀ Z R F δ c σ H v d δ' (Q : St → Hp → Prop), Wd X.K Z R F c H → RelS X.K R F δ σ → Rel X.K R F v d → g d δ = some δ' → (∀ σ', RelS X.K R F δ' σ' → Out_ sl σ σ' → Q σ' H) → t v σ H Q
abbrev MGs := List D → En → Option En
structure DGs (X : Cx) (tg : List Expr) (sl : List Nat) (g : MGs) : Prop where
  ex : ∃ t, PGs X tg t ∧ ∀ Z R F δ c σ H v d δ' (Q : St → Hp → Prop), Wd X.K Z R F c H → RelS X.K R F δ σ → RelL X.K R F v d → g d δ = some δ' → (∀ σ', RelS X.K R F δ' σ' → Out_ sl σ σ' → Q σ' H) → t v σ H Q
def gN (i : Nat) : MG := fun d δ => some (δ.set i (some d))
def gsNil : MGs := fun ds δ => match ds with
  | [] => some δ
  | _ => none
def gsCons (g : MG) (gs : MGs) : MGs := fun ds δ => match ds with
  | d :: r => (g d δ).bind fun δ1 => gs r δ1
  | [] => none
def gT (n : Nat) (gs : MGs) : MG := fun d δ => match d with
  | .tup ds => if ds.length = n then gs ds δ else none
  | _ => none
section
variable {X : Cx} {W : WX} {pos : Pos}
theorem dg_name {i : Nat} {x : Str} (hN : X.N.Nodup) (hi : X.N[i]? = some x) (hx : Loc X.env.scope x) (hf : X.fn x = true ∨ X.env.scope.names.lookup x = some .local := by first | exact .inl rfl | exact .inr rfl | assumption) : DG X (.Name x pos) [i] (gN i) := by
  refine ⟨_, pg_name hN hi hx hf, fun Z R F δ c σ H v d δ' Q w rs r e h => ?_⟩
  cases e
  exact h _ (rs.set r) ⟨List.length_set, fun j hj => List.getElem?_set_ne (fun e => hj (by rw [e]; exact List.mem_singleton.mpr rfl))⟩
theorem dgs_nil : DGs X [] [] gsNil := by
  refine ⟨_, pgs_nil, fun Z R F δ c σ H v d δ' Q w rs r e h => ?_⟩
  cases r with
  | nil =>
    cases e
    exact ⟨rfl, h _ rs ⟨rfl, fun _ _ => rfl⟩⟩
  | cons _ _ => cases e
theorem dgs_cons {e : Expr} {es : List Expr} {g : MG} {gs : MGs} {sl sm : List Nat} (h1 : DG X e sl g) (h2 : DGs X es sm gs) (hs : (assignEach (e :: es) X.env).map (·.2) = assign e X.env :: (assignEach es X.env).map (·.2) := by rfl) : DGs X (e :: es) (sl ++ sm) (gsCons g gs) := by
  obtain ⟨t, p, s⟩ := h1.ex
  obtain ⟨u, q, s2⟩ := h2.ex
  refine ⟨_, pgs_cons p q hs, fun Z R F δ c σ H v d δ' Q w rs r e h => ?_⟩
  cases r with
  | nil => cases e
  | @cons v0 d0 vr dr r rr =>
    cases e1 : g d0 δ with
    | none =>
      have : (g d0 δ).bind (fun δ1 => gs dr δ1) = some δ' := e
      rw [e1] at this
      cases this
    | some δ1 =>
      have e2 : (g d0 δ).bind (fun δ1 => gs dr δ1) = some δ' := e
      rw [e1] at e2
      exact ⟨_, _, rfl, s Z R F δ c σ H _ _ δ1 _ w rs r e1 fun σ1 rs1 o1 => s2 Z R F δ1 c σ1 H _ _ δ' Q w rs1 rr e2 fun σ2 rs2 o2 => h σ2 rs2 ⟨o2.1.trans o1.1, fun j hj => (o2.2 j fun z => hj (List.mem_append_right _ z)).trans (o1.2 j fun z => hj (List.mem_append_left _ z))⟩⟩
theorem dg_tup {es : List Expr} {k : Nat} {gs : MGs} {n : Nat} {sl : List Nat} (hc : X.calm = true) (h : DGs X es sl gs) (hn : (assignEach es X.env).length = n := by rfl) (hst : (assignEach es X.env).findIdx? (·.1) = none := by rfl) : DG X (.Tuple es k pos) sl (gT n gs) := by
  obtain ⟨t, p, s⟩ := h.ex
  refine ⟨_, pg_tup hc p hn hst, fun Z R F δ c σ H v d δ' Q w rs r e h => ?_⟩
  cases r with
  | @tup a vs ds hq l =>
    have e2 : (if ds.length = n then gs ds δ else none) = some δ' := e
    by_cases hl : ds.length = n
    · rw [if_pos hl] at e2
      exact ⟨a, vs, rfl, hq.ext w.same, by rw [l.length]; exact hl, s Z R F δ c σ H vs ds δ' Q w rs l e2 h⟩
    · rw [if_neg hl] at e2
      cases e2
  | _ => cases e
def mAsg (g : MG) (m : ME) : MS := fun δ c => (m δ c).fl δ fun d c1 => match g d δ with
  | some δ' => .nx δ' c1
  | none => .bad
theorem ds_asg {tg e : Expr} {g : MG} {m : ME} {sl : List Nat} (he : DE X W e m) (hg : DG X tg sl g) (hs : swapsWithSole [tg] e pos.line X.env = pure false := by rfl) (hw : swappedStores [tg] e X.env = pure none := by rfl)
    (h1 : (assignEach [tg] X.env).map (·.2) = [assign tg X.env] := by rfl) : DS X W (.Assign [tg] e pos) (mAsg g m) := by
  obtain ⟨t, p, s⟩ := he.ex
  obtain ⟨u, q, s2⟩ := hg.ex
  refine ⟨_, ps_asg p q hs hw h1, fun Z R F δ c σ H E w rs h => s Z R F δ c σ H _ w rs ((AftS.fl rs h).imp ?_)⟩
  rintro R1 F1 d c1 H1 p1 e1 w1 ⟨_, _, _, h1⟩ v rv
  cases eg : g d δ with
  | none => rw [eg] at h1; exact h1.elim
  | some δ' =>
    rw [eg] at h1
    exact s2 Z R1 F1 δ c1 σ H1 v d δ' _ w1 (rs.mono p1 e1) rv eg fun σ' rs' _ => h1 R1 F1 H1 σ' (List.prefix_refl _) (Same.refl _) w1 rs'
/-- a, b = x, y with two, three local names -/
def mPar (is : List Nat) (ms : MA) : MS := fun δ c => (ms δ c).fl δ fun ds c1 => if ds.length = is.length then .nx ((is.zip ds).foldl (fun δ p => δ.set p.1 (some p.2)) δ) c1 else .bad
theorem ds_par {i j : Nat} {x y : Str} {a b : Expr} {ms : MA} {px py pt : Pos} {kt k2 pt2} (hc : X.calm = true) (hN : X.N.Nodup) (hi : X.N[i]? = some x) (hj : X.N[j]? = some y) (hij : i ≠ j)
    (hx : X.env.scope.names.lookup x = some .local) (hy : X.env.scope.names.lookup y = some .local) (ha : DA X W [a, b] ms)
    (hw : swappedStores [.Tuple [.Name x px, .Name y py] kt pt] (.Tuple [a, b] k2 pt2) X.env = pure (some [x, y]))
    (hs : swapsWithSole [.Tuple [.Name x px, .Name y py] kt pt] (.Tuple [a, b] k2 pt2) pos.line X.env = pure false := by rfl) :
    DS X W (.Assign [.Tuple [.Name x px, .Name y py] kt pt] (.Tuple [a, b] k2 pt2) pos) (mPar [i, j] ms) := by
  obtain ⟨t, p, s⟩ := ha.ex
  refine ⟨_, ps_par hc hN hi hj hij hx hy p hw hs, fun Z R F δ c σ H E w rs h => s Z R F δ c σ H _ w rs ((AftS.fl rs h).imp ?_)⟩
  rintro R1 F1 ds c1 H1 p1 e1 w1 ⟨_, _, _, h1⟩ vs rv
  by_cases hl : ds.length = [i, j].length
  · rw [if_pos hl] at h1
    match ds, hl, rv, h1 with
    | [d, e], _, .cons (v := v) rd (.cons (v := u) re .nil), h1 =>
      exact ⟨v, u, rfl, h1 R1 F1 H1 _ (List.prefix_refl _) (Same.refl _) w1 (((rs.mono p1 e1).set rd).set re)⟩
  · rw [if_neg hl] at h1
    exact h1.elim
theorem ds_par3 {i j l : Nat} {x y z : Str} {a b d : Expr} {ms : MA} {px py pz pt : Pos} {kt k2 pt2} (hc : X.calm = true) (hN : X.N.Nodup) (hi : X.N[i]? = some x) (hj : X.N[j]? = some y) (hl : X.N[l]? = some z) (hij : i ≠ j) (hil : i ≠ l) (hjl : j ≠ l)
    (hx : X.env.scope.names.lookup x = some .local) (hy : X.env.scope.names.lookup y = some .local) (hz : X.env.scope.names.lookup z = some .local) (ha : DA X W [a, b, d] ms)
    (hw : swappedStores [.Tuple [.Name x px, .Name y py, .Name z pz] kt pt] (.Tuple [a, b, d] k2 pt2) X.env = pure (some [x, y, z]))
    (hs : swapsWithSole [.Tuple [.Name x px, .Name y py, .Name z pz] kt pt] (.Tuple [a, b, d] k2 pt2) pos.line X.env = pure false := by rfl) :
    DS X W (.Assign [.Tuple [.Name x px, .Name y py, .Name z pz] kt pt] (.Tuple [a, b, d] k2 pt2) pos) (mPar [i, j, l] ms) := by
  obtain ⟨t, p, s⟩ := ha.ex
  refine ⟨_, ps_par3 hc hN hi hj hl hij hil hjl hx hy hz p hw hs, fun Z R F δ c σ H E w rs h => s Z R F δ c σ H _ w rs ((AftS.fl rs h).imp ?_)⟩
  rintro R1 F1 ds c1 H1 p1 e1 w1 ⟨_, _, _, h1⟩ vs rv
  by_cases hl : ds.length = [i, j, l].length
  · rw [if_pos hl] at h1
    match ds, hl, rv, h1 with
    | [d, e, f], _, .cons (v := v) rd (.cons (v := u) re (.cons (v := t) rf .nil)), h1 =>
      exact ⟨v, u, t, rfl, h1 R1 F1 H1 _ (List.prefix_refl _) (Same.refl _) w1 ((((rs.mono p1 e1).set rd).set re).set rf)⟩
  · rw [if_neg hl] at h1
    exact h1.elim
end

/-! ### what a loop walks -/
/-- the items of a sequence -/
def items (c : Cells) : D → Option (List D)
  | .tup ds => some ds
  | .lst ds => some ds
  | .scr ds => some ds
  | .cell i => match c[i]? with
    | some (.lst ds) => some ds
    | _ => none
  | _ => none
structure Seq where
  ds : List D
  chk : Cells → Bool
/-- an iterator that gives ds, as long as chk holds -/
def ItS (K : Frag) (Z : Hp) (R1 : List Addr) (F1 : Hp) (J : It) (q : Seq) : Prop := ∀ (Z' : Hp) (k : Nat) R F c H, Same Z Z' → R1 <+: R → Same F1 F → Wd K Z' R F c H → q.chk c = true →
  (∀ d, q.ds[k]? = some d → J.go k H ∧ ∀ x H', J.yld k H x H' → ∃ F', Same F F' ∧ Wd K Z' R F' c H' ∧ Rel K R F' x d) ∧ (q.ds.length ≤ k → J.stop k H)
structure DI (X : Cx) (W : WX) (tg iter : Expr) (m : En → Cells → Out Seq) : Prop where
  ex : ∃ t, PI X tg iter t ∧ ∀ Z R F δ c σ H Q, Wd X.K Z R F c H → RelS X.K R F δ σ → Aft X.K Z W R F σ (m δ c) (fun R' F' q _ H' => ∀ J, ItS X.K Z R' F' J q → Q J H') → t σ H Q
theorem items_cell {c : Cells} {i : Nat} {ds : List D} (h : items c (.cell i) = some ds) : c[i]? = some (.lst ds) := by
  simp only [items] at h
  split at h
  · rename_i ds' q
    cases h
    exact q
  · cases h
theorem Wd.atList {K : Frag} {Z : Hp} {R : List Addr} {F : Hp} {c : Cells} {H : Hp} {i : Nat} {a : Addr} {ds : List D} (w : Wd K Z R F c H) (h : R[i]? = some a) (e : c[i]? = some (.lst ds)) : ∃ vs, H a = some (.lst vs) ∧ RelL K R F vs ds := by
  obtain ⟨a', o, h1, h2, h3, h4⟩ := w.cel i _ e
  rw [h] at h1
  cases h1
  cases h3 with
  | lst l => exact ⟨_, h2, l⟩
theorem seqAt_list {K : Frag} {Z : Hp} {R : List Addr} {F : Hp} {c : Cells} {H : Hp} {v : V} {d : D} {ds : List D} (w : Wd K Z R F c H) (r : Rel K R F v d) (e : items c d = some ds) :
    ∃ a vs, v = .ref a ∧ RelL K R F vs ds ∧ (SqL K H a vs ∨ SqT K H a vs) := by
  cases r with
  | tup h l => cases e; exact ⟨_, _, rfl, l, .inr (h.ext w.same)⟩
  | lst h l => cases e; exact ⟨_, _, rfl, l, .inl (SqL.of (w.same _ _ h))⟩
  | scr h l => cases e; exact ⟨_, _, rfl, l, .inl (h.ext w.same)⟩
  | @cell i a h =>
    obtain ⟨vs, q, l⟩ := w.atList h (items_cell e)
    exact ⟨a, vs, rfl, l, .inl (SqL.of q)⟩
  | _ => cases e
/-- the list in a cell stays as it is -/
def chkI (d : D) (ds : List D) (c : Cells) : Bool := match d with
  | .cell i => (match c[i]? with
    | some (.lst l) => D.beqL l ds
    | _ => false)
  | _ => true
theorem chkI_cell {c : Cells} {i : Nat} {ds : List D} (h : chkI (.cell i) ds c = true) : c[i]? = some (.lst ds) := by
  unfold chkI at h
  dsimp only at h
  split at h
  · rename_i l hl
    rw [hl, D.beqL_eq h]
  · cases h
theorem chkI_of {c : Cells} {i : Nat} {ds : List D} (h : c[i]? = some (.lst ds)) : chkI (.cell i) ds c = true := by
  unfold chkI
  dsimp only
  rw [h]
  exact D.beqL_refl ds
def seqOf (d : D) (c : Cells) : Out Seq := match items c d with
  | some ds => .ok ⟨ds, chkI d ds⟩ c
  | none => .bad
def mSq (m : ME) : En → Cells → Out Seq := fun δ c => (m δ c).bind seqOf
def isTup : D → Bool
  | .tup _ => true
  | _ => false
theorem its_tup {K : Frag} {Z : Hp} {R : List Addr} {F : Hp} {a : Addr} {vs : List V} {ds : List D} (h : SqT K F a vs) (l : RelL K R F vs ds) : ItS K Z R F (Itt K a) ⟨ds, chkI (.tup ds) ds⟩ := by
  intro Z' k R' F' c H zz p e w _
  have q : SqT K H a vs := (h.ext e).ext w.same
  refine ⟨fun d hd => ?_, fun hk => ⟨vs, q, by rw [l.length]; exact hk⟩⟩
  obtain ⟨v, hv, rv⟩ := l.get hd
  refine ⟨⟨vs, v, q, hv⟩, fun x H' y => ?_⟩
  obtain ⟨rfl, y⟩ := y
  have := y vs q
  rw [hv] at this
  cases this
  exact ⟨F', Same.refl _, w, rv.mono p e⟩
theorem its_lst {K : Frag} {Z : Hp} {R : List Addr} {F : Hp} {a : Addr} {vs : List V} {ds : List D} (h : SqL K F a vs) (l : RelL K R F vs ds) (P : Cells → Bool) : ItS K Z R F (Itl K a) ⟨ds, P⟩ := by
  intro Z' k R' F' c H zz p e w _
  have q : SqL K H a vs := SqL.ext (SqL.ext h e) w.same
  refine ⟨fun d hd => ?_, fun hk => ⟨vs, q, by rw [l.length]; exact hk⟩⟩
  obtain ⟨v, hv, rv⟩ := l.get hd
  refine ⟨⟨vs, v, q, hv⟩, fun x H' y => ?_⟩
  obtain ⟨rfl, y⟩ := y
  have := y vs q
  rw [hv] at this
  cases this
  exact ⟨F', Same.refl _, w, rv.mono p e⟩
theorem its_cell {K : Frag} {Z : Hp} {R : List Addr} {F : Hp} {a : Addr} {i : Nat} {ds : List D} (h : R[i]? = some a) : ItS K Z R F (Itl K a) ⟨ds, chkI (.cell i) ds⟩ := by
  intro Z' k R' F' c H zz p e w hc
  obtain ⟨vs, q, l⟩ := w.atList (pre_get p h) (chkI_cell hc)
  have q : SqL K H a vs := SqL.of q
  refine ⟨fun d hd => ?_, fun hk => ⟨vs, q, by rw [l.length]; exact hk⟩⟩
  obtain ⟨v, hv, rv⟩ := l.get hd
  refine ⟨⟨vs, v, q, hv⟩, fun x H' y => ?_⟩
  obtain ⟨rfl, y⟩ := y
  have := y vs q
  rw [hv] at this
  cases this
  exact ⟨F', Same.refl _, w, rv⟩
section
variable {X : Cx} {W : WX} {pos : Pos} {tg : Expr}
/-- over a list, a tuple -/
theorem di_seq {l : Expr} {m : ME} (hl : DE X W l m) : DI X W tg l (mSq m) := by
  obtain ⟨t, p, s⟩ := hl.ex
  have p1 : PI X tg l (fun σ H R => iList X.K t σ H R ∨ iTup X.K t σ H R) := ⟨fun pins s σ H R I h => by
    rcases h with h | h
    · exact (pi_list p).run pins s σ H R I h
    · exact (pi_tup p).run pins s σ H R I h⟩
  refine ⟨_, p1, fun Z R F δ c σ H Q w rs h => ?_⟩
  have h := Aft.bind h
  cases e : m δ c with
  | bad => rw [e] at h; exact h.elim
  | exc k ns ds c1 =>
    rw [e] at h
    refine .inl (s Z R F δ c σ H _ w rs ?_)
    rw [e]
    exact h
  | ok d c1 =>
    rw [e] at h
    cases d with
    | tup ds =>
      refine .inr (s Z R F δ c σ H _ w rs ?_)
      rw [e]
      intro R1 F1 H1 p1 e1 w1 v rv
      obtain ⟨_, _, _, h1⟩ := h R1 F1 H1 p1 e1 w1
      cases rv with
      | tup hq l => exact ⟨_, rfl, ⟨_, hq.ext w1.same⟩, h1.ok w1 _ (its_tup hq l)⟩
    | lst ds =>
      refine .inl (s Z R F δ c σ H _ w rs ?_)
      rw [e]
      intro R1 F1 H1 p1 e1 w1 v rv
      obtain ⟨_, _, _, h1⟩ := h R1 F1 H1 p1 e1 w1
      cases rv with
      | lst hq l => exact ⟨_, rfl, ⟨_, SqL.of (w1.same _ _ hq)⟩, h1.ok w1 _ (its_lst (SqL.of hq) l _)⟩
    | scr ds =>
      refine .inl (s Z R F δ c σ H _ w rs ?_)
      rw [e]
      intro R1 F1 H1 p1 e1 w1 v rv
      obtain ⟨_, _, _, h1⟩ := h R1 F1 H1 p1 e1 w1
      cases rv with
      | scr hq l => exact ⟨_, rfl, ⟨_, hq.ext w1.same⟩, h1.ok w1 _ (its_lst hq l _)⟩
    | cell i =>
      refine .inl (s Z R F δ c σ H _ w rs ?_)
      rw [e]
      intro R1 F1 H1 p1 e1 w1 v rv
      obtain ⟨_, _, _, h1⟩ := h R1 F1 H1 p1 e1 w1
      cases rv with
      | cell hq =>
        unfold seqOf at h1
        split at h1
        · rename_i ds q
          obtain ⟨vs, q2, l⟩ := w1.atList hq (items_cell q)
          exact ⟨_, rfl, ⟨_, SqL.of q2⟩, h1.ok w1 _ (its_cell hq)⟩
        · exact h1.elim
    | _ =>
      refine .inl (s Z R F δ c σ H _ w rs ?_)
      rw [e]
      intro R1 F1 H1 p1 e1 w1 v rv
      obtain ⟨_, _, _, h1⟩ := h R1 F1 H1 p1 e1 w1
      exact h1.elim
def rangeD (lo : Int) (n : Nat) : Seq := ⟨(List.range n).map fun (i : Nat) => .int (lo + (i : Int)), fun _ => true⟩
theorem its_range {K : Frag} {Z : Hp} {R : List Addr} {F : Hp} {lo : Int} {n : Nat} : ItS K Z R F (Itr lo n) (rangeD lo n) := by
  intro Z' k R' F' c H zz p e w _
  refine ⟨fun d hd => ?_, fun hk => show n ≤ k by simpa [rangeD] using hk⟩
  have hk : k < n := by
    have := (List.getElem?_eq_some_iff.mp hd).1
    simpa [rangeD] using this
  refine ⟨hk, fun x H' y => ?_⟩
  obtain ⟨rfl, rfl⟩ := y
  refine ⟨F', Same.refl _, w, ?_⟩
  have : d = .int (lo + (k : Int)) := by
    have := hd
    simp [rangeD, hk] at this
    exact this.symm
  subst this
  exact .int _
def rng1 (ds : List D) (c : Cells) : Out Seq := match ds with
  | [.int j] => if -(2 ^ 62) ≤ j ∧ j < 2 ^ 62 then .ok (rangeD 0 j.toNat) c else .bad
  | _ => .bad
def rng2 (ds : List D) (c : Cells) : Out Seq := match ds with
  | [.int i, .int j] => if -(2 ^ 62) ≤ i ∧ i < 2 ^ 62 ∧ -(2 ^ 62) ≤ j ∧ j < 2 ^ 62 then .ok (rangeD i (j - i).toNat) c else .bad
  | _ => .bad
theorem di_range1 {a : Expr} {ms : MA} {p pos : Pos} (hm : X.mg "range" = none) (ha : DA X W [a] ms) (hg : Gl X "range" := by rfl) (hs : starEach [a] X.env = [(false, eval a X.env)] := by rfl) : DI X W tg (.Call (.Name "range" p) [a] [] pos) (fun δ c => (ms δ c).bind rng1) := by
  obtain ⟨t, p, s⟩ := ha.ex
  refine ⟨_, pi_range1 hg hm p hs, fun Z R F δ c σ H Q w rs h => s Z R F δ c σ H _ w rs ((Aft.bind h).imp ?_)⟩
  rintro R1 F1 ds c1 H1 p1 e1 w1 ⟨_, _, _, h1⟩ vs rv
  unfold rng1 at h1
  split at h1
  · rename_i j
    obtain ⟨d, e, r⟩ : ∃ d, vs = [d] ∧ Rel X.K R1 F1 d (.int j) := by
      cases rv with
      | cons r t => cases t; exact ⟨_, rfl, r⟩
    subst e
    cases r
    by_cases hj : -(2 ^ 62) ≤ j ∧ j < 2 ^ 62
    · rw [if_pos hj] at h1
      exact ⟨j, rfl, hj.1, hj.2, h1.ok w1 _ its_range⟩
    · rw [if_neg hj] at h1
      exact h1.elim
  · exact h1.elim
theorem di_range2 {a b : Expr} {ms : MA} {p pos : Pos} (hm : X.mg "range" = none) (ha : DA X W [a, b] ms) (hg : Gl X "range" := by rfl) (hs : starEach [a, b] X.env = [(false, eval a X.env), (false, eval b X.env)] := by rfl) (hs2 : starEach [b] X.env = [(false, eval b X.env)] := by rfl) :
    DI X W tg (.Call (.Name "range" p) [a, b] [] pos) (fun δ c => (ms δ c).bind rng2) := by
  obtain ⟨t, p, s⟩ := ha.ex
  refine ⟨_, pi_range2 hg hm p hs hs2, fun Z R F δ c σ H Q w rs h => s Z R F δ c σ H _ w rs ((Aft.bind h).imp ?_)⟩
  rintro R1 F1 ds c1 H1 p1 e1 w1 ⟨_, _, _, h1⟩ vs rv
  unfold rng2 at h1
  split at h1
  · rename_i i j
    obtain ⟨d, e, r, q, z⟩ : ∃ d, ∃ e, Rel X.K R1 F1 d (.int i) ∧ Rel X.K R1 F1 e (.int j) ∧ vs = [d, e] := by
      cases rv with
      | cons r t => cases t with | cons q t => cases t; exact ⟨_, _, r, q, rfl⟩
    subst z
    cases r
    cases q
    by_cases hj : -(2 ^ 62) ≤ i ∧ i < 2 ^ 62 ∧ -(2 ^ 62) ≤ j ∧ j < 2 ^ 62
    · rw [if_pos hj] at h1
      exact ⟨i, j, rfl, hj, h1.ok w1 _ its_range⟩
    · rw [if_neg hj] at h1
      exact h1.elim
  · exact h1.elim
/-- over a text, sign by sign -/
def strSeq (x : Str) : Seq := ⟨x.cps.toList.map fun k => .str ⟨#[k]⟩, fun _ => true⟩
def seqStr (d : D) (c : Cells) : Out Seq := match d with
  | .str x => .ok (strSeq x) c
  | _ => .bad
theorem its_str {K : Frag} {Z : Hp} {R : List Addr} {F : Hp} {x : Str} : ItS K Z R F (Its x) (strSeq x) := by
  intro Z' k R' F' c H zz p e w _
  refine ⟨fun d hd => ?_, fun hk => show x.cps.size ≤ k by simpa [strSeq] using hk⟩
  have hd2 : (x.cps.toList.map fun k => D.str ⟨#[k]⟩)[k]? = some d := hd
  rw [List.getElem?_map] at hd2
  have hk : k < x.cps.size := by
    have := (List.getElem?_eq_some_iff.mp hd).1
    simpa [strSeq] using this
  refine ⟨hk, fun v H' y => ?_⟩
  obtain ⟨rfl, c0, hc, rfl⟩ := y
  refine ⟨F', Same.refl _, w, ?_⟩
  rw [Array.getElem?_toList, hc] at hd2
  cases hd2
  exact .str _
theorem di_str {l : Expr} {m : ME} (hl : DE X W l m) : DI X W tg l (fun δ c => (m δ c).bind seqStr) := by
  obtain ⟨t, p, s⟩ := hl.ex
  refine ⟨_, pi_str p, fun Z R F δ c σ H Q w rs h => s Z R F δ c σ H _ w rs ((Aft.bind h).imp ?_)⟩
  rintro R1 F1 d c1 H1 p1 e1 w1 ⟨_, _, _, h1⟩ v rv
  unfold seqStr at h1
  split at h1
  · cases rv
    exact ⟨_, rfl, h1.ok w1 _ its_str⟩
  · exact h1.elim
end

/-! ### for -/
def loopGo (chk : Cells → Bool) (g : MG) (mb : MS) : List D → En → Cells → Fl
  | [], δ, c => if chk c = true then .nx δ c else .bad
  | d :: r, δ, c => if chk c = true then (match g d δ with
    | none => .bad
    | some δ1 => match mb δ1 c with
      | .nx δ2 c2 => loopGo chk g mb r δ2 c2
      | .ct δ2 c2 => loopGo chk g mb r δ2 c2
      | .bk δ2 c2 => .nx δ2 c2
      | o => o) else .bad
def mFor (mi : En → Cells → Out Seq) (g : MG) (mb : MS) : MS := fun δ c => (mi δ c).fl δ fun q c1 => loopGo q.chk g mb q.ds δ c1
section
variable {X : Cx} {W : WX} {pos : Pos} {tg : Expr}
theorem ds_for {iter : Expr} {body : List Stmt} {mi : En → Cells → Out Seq} {g : MG} {mb : MS} (hp : PassesOwn (model X.prog X.w) X.A X.env X.xe) (hc : X.calm = true) {sl : List Nat} (hi : DI X W tg iter mi) (hg : DG X tg sl g) (hb : DSs X W body mb)
    (hs : ∀ x, foldedSetIterable iter X.env x = pure x := by intro _; rfl) : DS X W (.For tg iter body [] pos) (mFor mi g mb) := by
  obtain ⟨ti, pi, si⟩ := hi.ex
  obtain ⟨tg', pg, sg⟩ := hg.ex
  obtain ⟨tb, pb, sb⟩ := hb.ex
  refine ⟨_, ps_for hp hc pi pg pb hs, fun Z R F δ c σ H E w rs h => si Z R F δ c σ H _ w rs ((AftS.fl rs h).imp ?_)⟩
  rintro R1 F1 q c1 H1 p1 e1 w1 ⟨_, _, _, h1⟩ J hJ
  refine ⟨fun i m σ H => ∃ R F δ c, m = q.ds.length - i ∧ R1 <+: R ∧ Same F1 F ∧ Wd X.K Z R F c H ∧ RelS X.K R F δ σ ∧ AftS X.K Z W R F (loopGo q.chk g mb (q.ds.drop i) δ c) E, ⟨_, R1, F1, δ, c1, rfl, List.prefix_refl _, Same.refl _, w1, rs.mono p1 e1, h1⟩, ?_⟩
  rintro i m σ H ⟨R, F, δ, c, rfl, p, e, w, rs, h⟩
  by_cases hi : i < q.ds.length
  · rw [List.drop_eq_getElem_cons hi] at h
    unfold loopGo at h
    split at h
    · rename_i hck
      obtain ⟨hgo, _⟩ := hJ Z i R F c H (Same.refl _) p e w hck
      obtain ⟨go, y⟩ := hgo _ (List.getElem?_eq_getElem hi)
      refine .inr ⟨go, fun σ' H' => ∃ R' F' δ' c', R1 <+: R' ∧ Same F1 F' ∧ Wd X.K Z R' F' c' H' ∧ RelS X.K R' F' δ' σ' ∧ AftS X.K Z W R' F' (loopGo q.chk g mb (q.ds.drop (i + 1)) δ' c') E, ?_, ?_⟩
      · rintro σ' H' ⟨R', F', δ', c', h1, h2, h3, h4, h5⟩
        exact ⟨q.ds.length - (i + 1), by omega, R', F', δ', c', rfl, h1, h2, h3, h4, h5⟩
      · intro x H' hy
        obtain ⟨F', s', w', r'⟩ := y x H' hy
        split at h
        · exact h.elim
        · rename_i δ1 eg
          refine sg Z R F' δ c σ H' x _ δ1 _ w' (rs.mono (List.prefix_refl _) s') r' eg fun σ1 rs1 _ => ?_
          refine sb Z R F' δ1 c σ1 H' _ w' rs1 ?_
          have h := AftS.mono (List.prefix_refl _) s' h
          cases eb : mb δ1 c with
          | nx δ2 c2 => rw [eb] at h; exact fun R2 F2 H2 σ2 p2 e2 w2 rs2 => ⟨R2, F2, δ2, c2, p.trans p2, (e.trans s').trans e2, w2, rs2, AftS.mono p2 e2 h⟩
          | ct δ2 c2 => rw [eb] at h; exact fun R2 F2 H2 σ2 p2 e2 w2 rs2 => ⟨R2, F2, δ2, c2, p.trans p2, (e.trans s').trans e2, w2, rs2, AftS.mono p2 e2 h⟩
          | bk δ2 c2 => rw [eb] at h; exact h
          | rt d c2 => rw [eb] at h; exact h
          | exc k ns ds δ2 c2 => rw [eb] at h; exact h
          | bad => rw [eb] at h; exact h.elim
    · exact h.elim
  · rw [List.drop_eq_nil_of_le (Nat.le_of_not_lt hi)] at h
    unfold loopGo at h
    split at h
    · rename_i hck
      obtain ⟨_, hst⟩ := hJ Z i R F c H (Same.refl _) p e w hck
      exact .inl ⟨hst (Nat.le_of_not_lt hi), h R F H σ (List.prefix_refl _) (Same.refl _) w rs⟩
    · exact h.elim

/-! ### while -/
/-- n turns at most -/
def whileGo (mc : MT) (mb : MS) : Nat → En → Cells → Fl
  | 0, _, _ => .bad
  | n + 1, δ, c => (mc δ c).fl δ fun k c1 => if k = true then (match mb δ c1 with
      | .nx δ2 c2 => whileGo mc mb n δ2 c2
      | .ct δ2 c2 => whileGo mc mb n δ2 c2
      | .bk δ2 c2 => .nx δ2 c2
      | o => o) else .nx δ c1
def mWhile (n : Nat) (mc : MT) (mb : MS) : MS := fun δ c => whileGo mc mb n δ c
theorem ds_while {t : Expr} {body : List Stmt} {mc : MT} {mb : MS} (n : Nat) (hp : PassesOwn (model X.prog X.w) X.A X.env X.xe) (hc : DT X W t mc) (hb : DSs X W body mb) : DS X W (.While t body [] pos) (mWhile n mc mb) := by
  obtain ⟨tc, pc, sc⟩ := hc.ex
  obtain ⟨tb, pb, sb⟩ := hb.ex
  refine ⟨_, ps_while hp pc pb, fun Z R1 F1 δ c σ H E w rs h => ?_⟩
  refine ⟨fun m σ H => ∃ R F δ c, R1 <+: R ∧ Same F1 F ∧ Wd X.K Z R F c H ∧ RelS X.K R F δ σ ∧ AftS X.K Z W R F (whileGo mc mb m δ c) E, ⟨n, R1, F1, δ, c, List.prefix_refl _, Same.refl _, w, rs, h⟩, ?_⟩
  rintro m σ H ⟨R, F, δ, c, p, e, w, rs, h⟩
  cases m with
  | zero => exact h.elim
  | succ m =>
    unfold whileGo at h
    refine sc Z R F δ c σ H _ w rs ((AftS.fl rs h).imp ?_)
    rintro R1' F1' k c1 H1 p1 e1 w1 ⟨_, _, _, h1⟩
    cases k with
    | false =>
      rw [if_neg (by decide)] at h1
      show if false = true then _ else _
      rw [if_neg (by decide)]
      exact h1 R1' F1' H1 σ (List.prefix_refl _) (Same.refl _) w1 (rs.mono p1 e1)
    | true =>
      rw [if_pos rfl] at h1
      show if true = true then _ else _
      rw [if_pos rfl]
      refine ⟨fun σ' H' => ∃ R' F' δ' c', R1 <+: R' ∧ Same F1 F' ∧ Wd X.K Z R' F' c' H' ∧ RelS X.K R' F' δ' σ' ∧ AftS X.K Z W R' F' (whileGo mc mb m δ' c') E, ?_, ?_⟩
      · rintro σ' H' ⟨R', F', δ', c', h1, h2, h3, h4, h5⟩
        exact ⟨m, Nat.lt_succ_self m, R', F', δ', c', h1, h2, h3, h4, h5⟩
      · refine sb Z R1' F1' δ c1 σ H1 _ w1 (rs.mono p1 e1) ?_
        cases eb : mb δ c1 with
        | nx δ2 c2 => rw [eb] at h1; exact fun R2 F2 H2 σ2 p2 e2 w2 rs2 => ⟨R2, F2, δ2, c2, (p.trans p1).trans p2, (e.trans e1).trans e2, w2, rs2, AftS.mono p2 e2 h1⟩
        | ct δ2 c2 => rw [eb] at h1; exact fun R2 F2 H2 σ2 p2 e2 w2 rs2 => ⟨R2, F2, δ2, c2, (p.trans p1).trans p2, (e.trans e1).trans e2, w2, rs2, AftS.mono p2 e2 h1⟩
        | bk δ2 c2 => rw [eb] at h1; exact h1
        | rt d c2 => rw [eb] at h1; exact h1
        | exc k ns ds δ2 c2 => rw [eb] at h1; exact h1
        | bad => rw [eb] at h1; exact h1.elim
end
end Nw

set_option Elab.async false
set_option linter.all false
set_option maxRecDepth 100000
set_option maxHeartbeats 4000000
/-! Nw3: comprehensions. -/
namespace Nw
open PySem PySem.Spec
open PyProof.Rows hiding St
open L2
variable [TheW]

section
variable {K : Frag} {Z : Hp} {R : List Addr} {F : Hp} {c : Cells} {H : Hp}
/-- something of one's own is put into the frame -/
theorem Wd.hold (w : Wd K Z R F c H) {p : Addr} {o : HO} (h : H p = some o) (f : F p = none) (n : p ∉ R) (ht : ∀ ps, o ≠ .tbl ps := by exact fun _ q => by cases q) : Wd K (upd Z p o) R F c H := by
  refine ⟨fun b u e => ?_, fun b u e => ?_, w.same, w.len, w.nd, w.cel, w.tb.imp (fun a ⟨ps, e⟩ f z r => ⟨rfl, f, (upd_ne (fun q => by rw [q, h] at e; exact ht ps (Option.some.inj e))).trans z, r⟩) fun _ _ x => x⟩
  · by_cases hb : b = p
    · subst hb; rw [upd_same] at e; cases e; exact h
    · rw [upd_ne hb] at e; exact w.zs b u e
  · by_cases hb : b = p
    · subst hb; exact ⟨f, n⟩
    · rw [upd_ne hb] at e; exact w.zf b u e
/-- it is written and taken out of the frame -/
theorem Wd.unhold {p : Addr} {o o' : HO} (w : Wd K (upd Z p o) R F c H) (z : Z p = none) : Wd K Z R F c (upd H p o') := by
  have hp := w.zf p o upd_same
  have zs : Same Z (upd Z p o) := Ext.upd z
  refine ⟨fun b u e => ?_, fun b u e => w.zf b u (zs b u e), fun b u e => ?_, w.len, w.nd, fun i k q => ?_, w.tb.imp (fun a _ f y r => by
    have hn : a ≠ p := fun q => by rw [q, upd_same] at y; cases y
    rw [upd_ne hn] at y
    exact ⟨upd_ne hn, f, y, r⟩) fun _ _ x => x⟩
  · rw [upd_ne (ne_of_none e z)]
    exact w.zs b u (zs b u e)
  · have hb : b ≠ p := fun q => by subst q; rw [hp.1] at e; cases e
    rw [upd_ne hb]
    exact w.same b u e
  · obtain ⟨a, u, h1, h2, h3, h4⟩ := w.cel i k q
    have ha : a ≠ p := fun q => by subst q; exact hp.2 (List.mem_of_getElem? h1)
    exact ⟨a, u, h1, by rw [upd_ne ha]; exact h2, h3, h4⟩
theorem Wd.unframe {Z' : Hp} (w : Wd K Z' R F c H) (e : Same Z Z') : Wd K Z R F c H := ⟨e.trans w.zs, fun a o q => w.zf a o (e a o q), w.same, w.len, w.nd, w.cel, w.tb.imp (fun a _ f z r => ⟨rfl, f, e.free z, r⟩) fun _ _ x => x⟩
/-- what stands by itself is frozen -/
theorem Wd.freeze (w : Wd K Z R F c H) {p : Addr} {o : HO} (z : Z p = none) (h : H p = some o) (f : F p = none) (n : p ∉ R) (ht : ∀ ps, o ≠ .tbl ps := by exact fun _ q => by cases q) : Wd K Z R (upd F p o) c H ∧ Same F (upd F p o) := by
  have s : Same F (upd F p o) := Ext.upd f
  refine ⟨⟨w.zs, fun a u e => ⟨?_, (w.zf a u e).2⟩, fun b u e => ?_, w.len, w.nd, fun i k q => ?_, w.tb.imp (fun a ⟨ps, e⟩ f z r => ⟨rfl, (upd_ne (fun q => by rw [q, h] at e; exact ht ps (Option.some.inj e))).trans f, z, r⟩) fun _ _ x => s _ _ x⟩, s⟩
  · rw [upd_ne (ne_of_none e z)]; exact (w.zf a u e).1
  · by_cases hb : b = p
    · subst hb; rw [upd_same] at e; cases e; exact h
    · rw [upd_ne hb] at e; exact w.same b u e
  · obtain ⟨a, u, h1, h2, h3, h4⟩ := w.cel i k q
    have ha : a ≠ p := fun q => by subst q; exact n (List.mem_of_getElem? h1)
    exact ⟨a, u, h1, h2, h3.mono (List.prefix_refl _) s, h4.imp (fun z => by rw [upd_ne ha]; exact z) fun z => by rw [upd_ne ha]; exact z⟩
/-- what stands by itself becomes a cell -/
theorem Wd.adopt (w : Wd K Z R F c H) {p : Addr} {o : HO} {k : Cell} (z : Z p = none) (h : H p = some o) (f : F p = none) (n : p ∉ R) (r : RelC K R F p k o) (hk : unl k = true := by rfl) : Wd K Z (R ++ [p]) F (c ++ [k]) H := by
  have pr : R <+: R ++ [p] := List.prefix_append _ _
  refine ⟨w.zs, fun a u e => ⟨(w.zf a u e).1, fun hm => ?_⟩, w.same, by rw [List.length_append, List.length_append, w.len]; rfl, ?_, fun i q e => ?_, w.tb.imp (fun a ⟨ps, e⟩ f z r' => ⟨rfl, f, z, fun hm => by
    rcases List.mem_append.mp hm with m | m
    · exact r' m
    · rw [List.mem_singleton] at m
      rw [m, h] at e
      exact r.ntbl ps (Option.some.inj e)⟩) fun _ _ x => x⟩
  · rcases List.mem_append.mp hm with hm | hm
    · exact (w.zf a u e).2 hm
    · rw [List.mem_singleton] at hm
      subst hm
      rw [z] at e
      cases e
  · rw [List.nodup_append]
    refine ⟨w.nd, by simp, fun a ha b hb => ?_⟩
    rw [List.mem_singleton] at hb
    subst hb
    intro e
    subst e
    exact n ha
  · rcases Nat.lt_trichotomy i c.length with hi | hi | hi
    · rw [List.getElem?_append_left hi] at e
      obtain ⟨a, u, h1, h2, h3, h4⟩ := w.cel i q e
      exact ⟨a, u, pre_get pr h1, h2, h3.mono pr (Same.refl _), h4⟩
    · subst hi
      rw [List.getElem?_append_right (Nat.le_refl _), Nat.sub_self] at e
      have e2 : k = q := Option.some.inj e
      subst e2
      refine ⟨p, o, ?_, h, r.mono pr (Same.refl _), .of hk f⟩
      rw [← w.len, List.getElem?_append_right (Nat.le_refl _), Nat.sub_self]
      rfl
    · rw [List.getElem?_eq_none (by rw [List.length_append]; simp; omega)] at e
      cases e
end

/-! ### tests of a clause -/
abbrev W0 : WX := fun _ _ _ _ => False
structure DTs (X : Cx) (ifs : List Expr) (m : MT) : Prop where
  ex : ∃ t, PTs X ifs t ∧ ∀ Z R F δ c σ H Q, Wd X.K Z R F c H → RelS X.K R F δ σ → Aft X.K Z W0 R F σ (m δ c) (QB Q) → t σ H Q
theorem dts_nil {X : Cx} : DTs X [] (fun _ c => .ok true c) := ⟨_, pts_nil, fun Z R F δ c σ H Q w rs h => h.ok w⟩
theorem dts_one {X : Cx} {e : Expr} {m : MT} (h : DT X W0 e m) : DTs X [e] m := by
  obtain ⟨t, p, s⟩ := h.ex
  exact ⟨_, pts_one p, s⟩
/-- the comprehension's own names forgotten -/
def wipeE (δ : En) : List Nat → En
  | [] => δ
  | v :: vs => (wipeE δ vs).set v none
theorem RelS.wipe {K : Frag} {R : List Addr} {F : Hp} {δ : En} {σ : St} (h : RelS K R F δ σ) : ∀ vs : List Nat, RelS K R F (wipeE δ vs) (wipe σ vs)
  | [] => h
  | v :: vs => (RelS.wipe h vs).del
theorem wipe_get {σ : St} : ∀ {vs : List Nat} {j : Nat}, j ∉ vs → (wipe σ vs)[j]? = σ[j]?
  | [], _, _ => rfl
  | v :: vs, j, h => by
    unfold wipe
    rw [List.getElem?_set_ne (fun e => h (by rw [e]; exact List.mem_cons_self)), wipe_get (fun z => h (List.mem_cons_of_mem _ z))]
theorem wipe_none {σ : St} : ∀ {vs : List Nat} {j : Nat}, j ∈ vs → j < σ.length → (wipe σ vs)[j]? = some none
  | v :: vs, j, h, hl => by
    unfold wipe
    by_cases e : v = j
    · subst e
      exact List.getElem?_set_self (by rw [wipe_length]; exact hl)
    · rw [List.getElem?_set_ne e]
      rcases List.mem_cons.mp h with h | h
      · exact absurd h.symm e
      · exact wipe_none h hl
theorem wipe_eq {σ σ2 : St} {vs sl : List Nat} (hs : ∀ j ∈ sl, j ∈ vs) (o : Out_ sl (wipe σ vs) σ2) : wipe σ2 vs = wipe σ vs := by
  obtain ⟨hl, ho⟩ := o
  rw [wipe_length] at hl
  refine List.ext_getElem? fun j => ?_
  by_cases hj : j ∈ vs
  · by_cases hk : j < σ.length
    · rw [wipe_none hj hk, wipe_none hj (by rw [hl]; exact hk)]
    · rw [List.getElem?_eq_none (by rw [wipe_length]; omega), List.getElem?_eq_none (by rw [wipe_length]; omega)]
  · rw [wipe_get hj, ho j fun z => hj (hs j z)]
def lcGo (chk : Cells → Bool) (g : MG) (mt : MT) (me : ME) (δ : En) : List D → List D → Cells → Out (List D)
  | [], acc, c => if chk c = true then .ok acc c else .bad
  | d :: r, acc, c => if chk c = true then (match g d δ with
    | none => .bad
    | some δ1 => match mt δ1 c with
      | .ok true c1 => (match me δ1 c1 with
        | .ok y c2 => if acc.length < sizeLine then lcGo chk g mt me δ r (acc ++ [y]) c2 else .bad
        | _ => .bad)
      | .ok false c1 => lcGo chk g mt me δ r acc c1
      | _ => .bad) else .bad
def mLcL (mi : En → Cells → Out Seq) (g : MG) (mt : MT) (me : ME) (own : List Nat) : MA := fun δ c => (mi δ c).bind fun q c1 => lcGo q.chk g mt me (wipeE δ own) q.ds [] c1
def mLc (mi : En → Cells → Out Seq) (g : MG) (mt : MT) (me : ME) (own : List Nat) : ME := fun δ c => (mLcL mi g mt me own δ c).bind fun ds c1 => .ok (.lst ds) c1
/-- .. as a cell -/
def mLcC (mi : En → Cells → Out Seq) (g : MG) (mt : MT) (me : ME) (own : List Nat) : ME := fun δ c => (mLcL mi g mt me own δ c).bind fun ds c1 => .ok (.cell c1.length) (c1 ++ [.lst ds])
section
variable {X : Cx} {W : WX}
abbrev Blk (X : Cx) (scope : Scope) (P : Cx → Prop) : Prop := ∀ (s : Shared) (H : Hp) (C : Addr) (cl : List (Str × Addr)) (fp : List Addr), P (X.blk s H scope (compEnvC scope cl C X.env) fp)
theorem blk_g {scope : Scope} {tg : Expr} {sl : List Nat} {g : MG} (h : Blk X scope fun Y => DG Y tg sl g) : ∃ t, (Blk X scope fun Y => PG Y tg t) ∧ ∀ Z R F δ c σ H v d δ' (Q : St → Hp → Prop), Wd X.K Z R F c H → RelS X.K R F δ σ → Rel X.K R F v d → g d δ = some δ' → (∀ σ', RelS X.K R F δ' σ' → Out_ sl σ σ' → Q σ' H) → t v σ H Q := by
  refine ⟨fun v σ H Q => ∀ s H0 C cl fp, Classical.choose (h s H0 C cl fp).ex v σ H Q, fun s H0 C cl fp => ⟨fun pins s' σ H v u Q I r z => (Classical.choose_spec (h s H0 C cl fp).ex).1.run pins s' σ H v u Q I r (z s H0 C cl fp)⟩, ?_⟩
  intro Z R F δ c σ H v d δ' Q w rs r e k s H0 C cl fp
  exact (Classical.choose_spec (h s H0 C cl fp).ex).2 Z R F δ c σ H v d δ' Q w rs r e k
theorem blk_t {scope : Scope} {ifs : List Expr} {m : MT} (h : Blk X scope fun Y => DTs Y ifs m) : ∃ t, (Blk X scope fun Y => PTs Y ifs t) ∧ ∀ Z R F δ c σ H Q, Wd X.K Z R F c H → RelS X.K R F δ σ → Aft X.K Z W0 R F σ (m δ c) (QB Q) → t σ H Q := by
  refine ⟨fun σ H Q => ∀ s H0 C cl fp, Classical.choose (h s H0 C cl fp).ex σ H Q, fun s H0 C cl fp => ⟨fun pins s' σ H Q I z => (Classical.choose_spec (h s H0 C cl fp).ex).1.run pins s' σ H Q I (z s H0 C cl fp)⟩, ?_⟩
  intro Z R F δ c σ H Q w rs k s H0 C cl fp
  exact (Classical.choose_spec (h s H0 C cl fp).ex).2 Z R F δ c σ H Q w rs k
theorem blk_e {scope : Scope} {e : Expr} {m : ME} (h : Blk X scope fun Y => DE Y W0 e m) : ∃ t, (Blk X scope fun Y => PE Y e t) ∧ ∀ Z R F δ c σ H Q, Wd X.K Z R F c H → RelS X.K R F δ σ → Aft X.K Z W0 R F σ (m δ c) (QV X.K Q) → t σ H Q := by
  refine ⟨fun σ H Q => ∀ s H0 C cl fp, Classical.choose (h s H0 C cl fp).ex σ H Q, fun s H0 C cl fp => ⟨fun pins s' σ H Q I z => (Classical.choose_spec (h s H0 C cl fp).ex).1.run pins s' σ H Q I (z s H0 C cl fp)⟩, ?_⟩
  intro Z R F δ c σ H Q w rs k s H0 C cl fp
  exact (Classical.choose_spec (h s H0 C cl fp).ex).2 Z R F δ c σ H Q w rs k
theorem lc_read {wi : TI} {tg' : TG} {tt : TT} {te : TE} {mi : En → Cells → Out Seq} {g : MG} {mt : MT} {me : ME} {vs sl : List Nat} (hsl : ∀ j ∈ sl, j ∈ vs)
    (si : ∀ Z R F δ c σ H Q, Wd X.K Z R F c H → RelS X.K R F δ σ → Aft X.K Z W R F σ (mi δ c) (fun R' F' q _ H' => ∀ J, ItS X.K Z R' F' J q → Q J H') → wi σ H Q)
    (sg : ∀ Z R F δ c σ H v d δ' (Q : St → Hp → Prop), Wd X.K Z R F c H → RelS X.K R F δ σ → Rel X.K R F v d → g d δ = some δ' → (∀ σ', RelS X.K R F δ' σ' → Out_ sl σ σ' → Q σ' H) → tg' v σ H Q)
    (st : ∀ Z R F δ c σ H Q, Wd X.K Z R F c H → RelS X.K R F δ σ → Aft X.K Z W0 R F σ (mt δ c) (QB Q) → tt σ H Q)
    (se : ∀ Z R F δ c σ H Q, Wd X.K Z R F c H → RelS X.K R F δ σ → Aft X.K Z W0 R F σ (me δ c) (QV X.K Q) → te σ H Q) :
    ∀ Z R F δ c σ H (Q : VK), Wd X.K Z R F c H → RelS X.K R F δ σ →
      Aft X.K Z W R F σ (mLcL mi g mt me vs δ c) (fun R' F' ds c' H' => ∀ p accV, Z p = none → H' p = some (.lst accV) → F' p = none → p ∉ R' → RelL X.K R' F' accV ds → Q (.ref p) H') → tLc wi tg' tt te vs σ H Q := by
  intro Z R F δ c σ H Q w rs h
  refine si Z R F δ c σ H _ w rs ((Aft.bind h).imp ?_)
  rintro R1 F1 q c1 H1 p1 e1 w1 ⟨_, _, _, h1⟩ J hJ D hD
  have rs1 := rs.mono p1 e1
  have zD : Z D = none := w1.zs.free hD
  have fD : F1 D = none := w1.same.free hD
  have nD : D ∉ R1 := w1.notin hD
  have w1' : Wd X.K Z R1 F1 c1 (upd H1 D (.lst [])) := w1.more (Ext.upd hD)
  refine ⟨fun i m H => ∃ R F c acc accV, m = q.ds.length - i ∧ R1 <+: R ∧ Same F1 F ∧ Wd X.K Z R F c H ∧ H D = some (.lst accV) ∧ F D = none ∧ D ∉ R ∧ RelL X.K R F accV acc ∧
      Aft X.K Z W R F σ (lcGo q.chk g mt me (wipeE δ vs) (q.ds.drop i) acc c) (fun R' F' ds c' H' => ∀ p accV, Z p = none → H' p = some (.lst accV) → F' p = none → p ∉ R' → RelL X.K R' F' accV ds → Q (.ref p) H'),
    ⟨_, R1, F1, c1, [], [], rfl, List.prefix_refl _, Same.refl _, w1', upd_same, fD, nD, .nil, h1⟩, ?_⟩
  rintro i m H ⟨R, F, c, acc, accV, rfl, p, e, w, hH, hF, hR, rl, h⟩
  by_cases hi : i < q.ds.length
  · rw [List.drop_eq_getElem_cons hi] at h
    unfold lcGo at h
    split at h
    · rename_i hck
      have wh : Wd X.K (upd Z D (.lst accV)) R F c H := w.hold hH hF hR
      obtain ⟨hgo, _⟩ := hJ _ i R F c H (Ext.upd zD) p e wh hck
      obtain ⟨go, y⟩ := hgo _ (List.getElem?_eq_getElem hi)
      refine .inr ⟨go, fun H' => ∃ R F c acc accV, R1 <+: R ∧ Same F1 F ∧ Wd X.K Z R F c H' ∧ H' D = some (.lst accV) ∧ F D = none ∧ D ∉ R ∧ RelL X.K R F accV acc ∧
        Aft X.K Z W R F σ (lcGo q.chk g mt me (wipeE δ vs) (q.ds.drop (i + 1)) acc c) (fun R' F' ds c' H' => ∀ p accV, Z p = none → H' p = some (.lst accV) → F' p = none → p ∉ R' → RelL X.K R' F' accV ds → Q (.ref p) H'), ?_, ?_⟩
      · rintro H' ⟨R', F', c', acc', accV', hh⟩
        exact ⟨q.ds.length - (i + 1), by omega, R', F', c', acc', accV', rfl, hh⟩
      · intro x H' hy
        obtain ⟨F', s', w', r'⟩ := y x H' hy
        split at h
        · exact h.elim
        · rename_i δ1 eg
          have rsw : RelS X.K R F' (wipeE δ vs) (wipe σ vs) := ((rs1.mono p e).mono (List.prefix_refl _) s').wipe vs
          refine sg _ R F' (wipeE δ vs) c (wipe σ vs) H' x _ δ1 _ w' rsw r' eg fun σ2 rs2 o2 => ⟨wipe_eq hsl o2, ?_⟩
          refine st _ R F' δ1 c σ2 H' _ w' rs2 ?_
          have h := Aft.mono (List.prefix_refl _) s' h
          cases et : mt δ1 c with
          | bad => rw [et] at h; exact h.elim
          | exc k ns ds c2 => rw [et] at h; exact h.elim
          | ok b c2 =>
            rw [et] at h
            intro R3 F3 H3 p3 e3 w3
            have h := Aft.mono p3 e3 h
            cases b with
            | false =>
              show if false = true then _ else _
              rw [if_neg (by decide)]
              exact ⟨R3, F3, c2, acc, accV, p.trans p3, (e.trans s').trans e3, w3.unframe (Ext.upd zD), w3.zs _ _ upd_same, (w3.zf _ _ upd_same).1, (w3.zf _ _ upd_same).2, ((rl.mono (List.prefix_refl _) s').mono p3 e3), h⟩
            | true =>
              show if true = true then _ else _
              rw [if_pos rfl]
              dsimp only at h
              refine se _ R3 F3 δ1 c2 σ2 H3 _ w3 (rs2.mono p3 e3) ?_
              cases ee : me δ1 c2 with
              | bad => rw [ee] at h; exact h.elim
              | exc k ns ds c3 => rw [ee] at h; exact h.elim
              | ok yv c3 =>
                rw [ee] at h
                intro R4 F4 H4 p4 e4 w4 v rv
                have h : Aft X.K Z W R3 F3 σ (if acc.length < sizeLine then lcGo q.chk g mt me (wipeE δ vs) (q.ds.drop (i + 1)) (acc ++ [yv]) c3 else .bad) _ := h
                have h := Aft.mono p4 e4 h
                have rl4 := ((rl.mono (List.prefix_refl _) s').mono p3 e3).mono p4 e4
                by_cases hz : acc.length < sizeLine
                · rw [if_pos hz] at h
                  refine ⟨accV, w4.zs _ _ upd_same, by rw [rl.length]; exact hz, R4, F4, c3, acc ++ [yv], accV ++ [v], (p.trans p3).trans p4, ((e.trans s').trans e3).trans e4, w4.unhold zD, upd_same, (w4.zf _ _ upd_same).1, (w4.zf _ _ upd_same).2, rl4.append (.cons rv .nil), h⟩
                · rw [if_neg hz] at h
                  exact h.elim
    · exact h.elim
  · rw [List.drop_eq_nil_of_le (Nat.le_of_not_lt hi)] at h
    unfold lcGo at h
    split at h
    · rename_i hck
      obtain ⟨_, hst⟩ := hJ Z i R F c H (Same.refl _) p e w hck
      exact .inl ⟨hst (Nat.le_of_not_lt hi), h.ok w D accV zD hH hF hR rl⟩
    · exact h.elim
variable {elt tg iter : Expr} {ifs : List Expr} {scope : Scope} {own : List (Str × Nat)} {pos : Pos} {mi : En → Cells → Out Seq} {g : MG} {mt : MT} {me : ME} {sl : List Nat}
theorem lc_fin {Z : Hp} {R : List Addr} {F : Hp} {σ : St} {o : Out (List D)} {Q : VK} (h : Aft X.K Z W R F σ (o.bind fun ds c1 => .ok (.lst ds) c1) (QV X.K Q)) :
    Aft X.K Z W R F σ o (fun R' F' ds c' H' => ∀ p accV, Z p = none → H' p = some (.lst accV) → F' p = none → p ∉ R' → RelL X.K R' F' accV ds → Q (.ref p) H') := by
  refine (Aft.bind h).imp ?_
  rintro R1 F1 ds c1 H1 p1 e1 w1 ⟨_, _, _, h1⟩ p accV z hh hf hr rl
  obtain ⟨w2, s2⟩ := w1.freeze z hh hf hr
  exact h1 _ _ _ (List.prefix_refl _) s2 w2 _ (.lst upd_same (rl.mono (List.prefix_refl _) s2))
theorem lc_finC {Z : Hp} {R : List Addr} {F : Hp} {σ : St} {o : Out (List D)} {Q : VK} (h : Aft X.K Z W R F σ (o.bind fun ds c1 => .ok (.cell c1.length) (c1 ++ [.lst ds])) (QV X.K Q)) :
    Aft X.K Z W R F σ o (fun R' F' ds c' H' => ∀ p accV, Z p = none → H' p = some (.lst accV) → F' p = none → p ∉ R' → RelL X.K R' F' accV ds → Q (.ref p) H') := by
  refine (Aft.bind h).imp ?_
  rintro R1 F1 ds c1 H1 p1 e1 w1 ⟨_, _, _, h1⟩ p accV z hh hf hr rl
  have w2 := w1.adopt z hh hf hr (.lst rl)
  refine h1 _ _ _ (List.prefix_append _ _) (Same.refl _) w2 _ (.cell ?_)
  rw [← w1.len, List.getElem?_append_right (Nat.le_refl _), Nat.sub_self]
  rfl
theorem de_lc (hc : X.calm = true) (hN : X.N.Nodup) (hi : DI X W tg iter mi) (ok : blkC X.N X.env.scope scope own = true) (hsl : sl.all (fun j => (own.map (·.2)).contains j) = true)
    (hg : Blk X scope fun Y => DG Y tg sl g) (ht : Blk X scope fun Y => DTs Y ifs mt) (he : Blk X scope fun Y => DE Y W0 elt me) (hs : ∀ x, foldedSetIterable iter X.env x = pure x := by intro _; rfl) :
    DE X W (.ListComp elt [⟨tg, iter, ifs, 0⟩] scope pos) (mLc mi g mt me (own.map (·.2))) := by
  obtain ⟨ti, pi, si⟩ := hi.ex
  obtain ⟨tg', pg, sg⟩ := blk_g hg
  obtain ⟨tt, pt, st⟩ := blk_t ht
  obtain ⟨te, pe, se⟩ := blk_e he
  have hsl' : ∀ j ∈ sl, j ∈ own.map (·.2) := fun j hj => by simpa using List.all_eq_true.mp hsl j hj
  exact ⟨_, pe_lc hc hN pi (blkOk_by ok) pg pt pe hs, fun Z R F δ c σ H Q w rs h => lc_read hsl' si sg st se Z R F δ c σ H Q w rs (lc_fin h)⟩
theorem de_lcC (hc : X.calm = true) (hN : X.N.Nodup) (hi : DI X W tg iter mi) (ok : blkC X.N X.env.scope scope own = true) (hsl : sl.all (fun j => (own.map (·.2)).contains j) = true)
    (hg : Blk X scope fun Y => DG Y tg sl g) (ht : Blk X scope fun Y => DTs Y ifs mt) (he : Blk X scope fun Y => DE Y W0 elt me) (hs : ∀ x, foldedSetIterable iter X.env x = pure x := by intro _; rfl) :
    DE X W (.ListComp elt [⟨tg, iter, ifs, 0⟩] scope pos) (mLcC mi g mt me (own.map (·.2))) := by
  obtain ⟨ti, pi, si⟩ := hi.ex
  obtain ⟨tg', pg, sg⟩ := blk_g hg
  obtain ⟨tt, pt, st⟩ := blk_t ht
  obtain ⟨te, pe, se⟩ := blk_e he
  have hsl' : ∀ j ∈ sl, j ∈ own.map (·.2) := fun j hj => by simpa using List.all_eq_true.mp hsl j hj
  exact ⟨_, pe_lc hc hN pi (blkOk_by ok) pg pt pe hs, fun Z R F δ c σ H Q w rs h => lc_read hsl' si sg st se Z R F δ c σ H Q w rs (lc_finC h)⟩
/-- y = [..] -/
theorem ds_setLc {i : Nat} {y : Str} {py spos : Pos} (hc : X.calm = true) (hN : X.N.Nodup) (hy : X.N[i]? = some y) (hyl : X.env.scope.names.lookup y = some .local)
    (hsw : swapsWith (.ListComp elt [⟨tg, iter, ifs, 0⟩] scope pos) (some (.Name y py)) spos.line X.env = pure true) (hi : DI X W tg iter mi) (ok : blkC X.N X.env.scope scope own = true) (hsl : sl.all (fun j => (own.map (·.2)).contains j) = true)
    (hg : Blk X scope fun Y => DG Y tg sl g) (ht : Blk X scope fun Y => DTs Y ifs mt) (he : Blk X scope fun Y => DE Y W0 elt me) (hs : ∀ x, foldedSetIterable iter X.env x = pure x := by intro _; rfl) :
    DS X W (.Assign [.Name y py] (.ListComp elt [⟨tg, iter, ifs, 0⟩] scope pos) spos) (mSet i (mLc mi g mt me (own.map (·.2)))) := by
  obtain ⟨ti, pi, si⟩ := hi.ex
  obtain ⟨tg', pg, sg⟩ := blk_g hg
  obtain ⟨tt, pt, st⟩ := blk_t ht
  obtain ⟨te, pe, se⟩ := blk_e he
  have hsl' : ∀ j ∈ sl, j ∈ own.map (·.2) := fun j hj => by simpa using List.all_eq_true.mp hsl j hj
  refine ⟨_, ps_setLc hc hN hy hyl hsw pi (blkOk_by ok) pg pt pe hs, fun Z R F δ c σ H E w rs h => lc_read hsl' si sg st se Z R F δ c σ H _ w rs (lc_fin (Q := fun x H1 => gName i x σ H1 E.nx) ((AftS.fl rs h).imp ?_))⟩
  rintro R1 F1 d c1 H1 p1 e1 w1 ⟨_, _, _, h1⟩ v rv
  exact h1 R1 F1 H1 _ (List.prefix_refl _) (Same.refl _) w1 ((rs.mono p1 e1).set rv)
theorem ds_setLcC {i : Nat} {y : Str} {py spos : Pos} (hc : X.calm = true) (hN : X.N.Nodup) (hy : X.N[i]? = some y) (hyl : X.env.scope.names.lookup y = some .local)
    (hsw : swapsWith (.ListComp elt [⟨tg, iter, ifs, 0⟩] scope pos) (some (.Name y py)) spos.line X.env = pure true) (hi : DI X W tg iter mi) (ok : blkC X.N X.env.scope scope own = true) (hsl : sl.all (fun j => (own.map (·.2)).contains j) = true)
    (hg : Blk X scope fun Y => DG Y tg sl g) (ht : Blk X scope fun Y => DTs Y ifs mt) (he : Blk X scope fun Y => DE Y W0 elt me) (hs : ∀ x, foldedSetIterable iter X.env x = pure x := by intro _; rfl) :
    DS X W (.Assign [.Name y py] (.ListComp elt [⟨tg, iter, ifs, 0⟩] scope pos) spos) (mSet i (mLcC mi g mt me (own.map (·.2)))) := by
  obtain ⟨ti, pi, si⟩ := hi.ex
  obtain ⟨tg', pg, sg⟩ := blk_g hg
  obtain ⟨tt, pt, st⟩ := blk_t ht
  obtain ⟨te, pe, se⟩ := blk_e he
  have hsl' : ∀ j ∈ sl, j ∈ own.map (·.2) := fun j hj => by simpa using List.all_eq_true.mp hsl j hj
  refine ⟨_, ps_setLc hc hN hy hyl hsw pi (blkOk_by ok) pg pt pe hs, fun Z R F δ c σ H E w rs h => lc_read hsl' si sg st se Z R F δ c σ H _ w rs (lc_finC (Q := fun x H1 => gName i x σ H1 E.nx) ((AftS.fl rs h).imp ?_))⟩
  rintro R1 F1 d c1 H1 p1 e1 w1 ⟨_, _, _, h1⟩ v rv
  exact h1 R1 F1 H1 _ (List.prefix_refl _) (Same.refl _) w1 ((rs.mono p1 e1).set rv)
end
end Nw

set_option Elab.async false
set_option linter.all false
set_option maxRecDepth 100000
set_option maxHeartbeats 4000000
/-! Nw4: defs, calls, methods, instances. -/
namespace Nw
open PySem PySem.Spec
open PyProof.Rows hiding St
open L2
variable [TheW]

/-! ### no cell from n on -/
mutual
def nc (n : Nat) : D → Bool
  | .cell i => decide (i < n)
  | .tup l => ncL n l
  | .lst l => ncL n l
  | .scr l => ncL n l
  | .obj _ _ l => ncL n l
  | .exo _ _ _ _ l => ncL n l
  | .err _ _ l => ncL n l
  | .dic _ l => ncL n l
  | .dit _ l => ncL n l
  | .non => true
  | .bl _ => true
  | .int _ => true
  | .str _ => true
  | .ty _ => true
  | .gl _ => true
def ncL (n : Nat) : List D → Bool
  | [] => true
  | d :: r => nc n d && ncL n r
end
def ncC (n : Nat) : Cell → Bool
  | .lst l => ncL n l
  | .ins _ _ l => ncL n l
  | .dct _ l => ncL n l
  | .dtt _ l => ncL n l
  | .lck _ l => ncL n l
  | .dead => true
section
variable {K : Frag} {R : List Addr} {F : Hp}
mutual
theorem Rel.cut {n : Nat} : ∀ {v : V} {d : D}, Rel K R F v d → nc n d = true → Rel K (R.take n) F v d
  | _, _, .non, _ => .non
  | _, _, .bl b, _ => .bl b
  | _, _, .int i, _ => .int i
  | _, _, .str x, _ => .str x
  | _, _, .ty n, _ => .ty n
  | _, _, .gl x, _ => .gl x
  | _, _, .tup h l, e => .tup h (RelL.cut l (by unfold nc at e; exact e))
  | _, _, .lst h l, e => .lst h (RelL.cut l (by unfold nc at e; exact e))
  | _, _, .scr h l, e => .scr h (RelL.cut l (by unfold nc at e; exact e))
  | _, _, .obj h z l, e => .obj h z (RelL.cut l (by unfold nc at e; exact e))
  | _, _, .exo h z l, e => .exo h z (RelL.cut l (by unfold nc at e; exact e))
  | _, _, .exo0, e => .exo0
  | _, _, .err h h2 z l, e => .err h h2 z (RelL.cut l (by unfold nc at e; exact e))
  | _, _, .err0 h, e => .err0 h
  | _, _, .dic h z l, e => .dic h z (RelL.cut l (by unfold nc at e; exact e))
  | _, _, .dit h z l, e => .dit h z (RelL.cut l (by unfold nc at e; exact e))
  | _, _, .cell h, e => .cell (by
      unfold nc at e
      rw [List.getElem?_take_of_lt (of_decide_eq_true e)]
      exact h)
theorem RelL.cut {n : Nat} : ∀ {vs : List V} {ds : List D}, RelL K R F vs ds → ncL n ds = true → RelL K (R.take n) F vs ds
  | _, _, .nil, _ => .nil
  | _, _, .cons h t, e => by
    unfold ncL at e
    have e := Bool.and_eq_true_iff.mp e
    exact .cons (h.cut e.1) (t.cut e.2)
end
mutual
theorem Rel.nc : ∀ {v : V} {d : D}, Rel K R F v d → Nw.nc R.length d = true
  | _, _, .non => by unfold Nw.nc; rfl
  | _, _, .bl b => by unfold Nw.nc; rfl
  | _, _, .int i => by unfold Nw.nc; rfl
  | _, _, .str x => by unfold Nw.nc; rfl
  | _, _, .ty n => by unfold Nw.nc; rfl
  | _, _, .gl x => by unfold Nw.nc; rfl
  | _, _, .tup h l => by unfold Nw.nc; exact l.nc
  | _, _, .lst h l => by unfold Nw.nc; exact l.nc
  | _, _, .scr h l => by unfold Nw.nc; exact l.nc
  | _, _, .obj h z l => by unfold Nw.nc; exact l.nc
  | _, _, .exo h z l => by unfold Nw.nc; exact l.nc
  | _, _, .exo0 => by unfold Nw.nc ncL; rfl
  | _, _, .err h h2 z l => by unfold Nw.nc; exact l.nc
  | _, _, .err0 h => by unfold Nw.nc ncL; rfl
  | _, _, .dic h z l => by unfold Nw.nc; exact l.nc
  | _, _, .dit h z l => by unfold Nw.nc; exact l.nc
  | _, _, .cell h => by unfold Nw.nc; exact decide_eq_true (List.getElem?_eq_some_iff.mp h).1
theorem RelL.nc : ∀ {vs : List V} {ds : List D}, RelL K R F vs ds → ncL R.length ds = true
  | _, _, .nil => by unfold ncL; rfl
  | _, _, .cons h t => by unfold ncL; exact Bool.and_eq_true_iff.mpr ⟨h.nc, t.nc⟩
end
theorem RelC.nc {a : Addr} {k : Cell} {o : HO} (h : RelC K R F a k o) : ncC R.length k = true := by
  cases h with
  | lst l => exact l.nc
  | ins z l => exact l.nc
  | dct z l => exact l.nc
  | dtt z l => exact l.nc
  | lck z l => exact l.nc
  | dead => rfl
theorem RelC.cut {n : Nat} {a : Addr} {k : Cell} {o : HO} (h : RelC K R F a k o) (e : ncC n k = true) : RelC K (R.take n) F a k o := by
  cases h with
  | lst l => exact .lst (l.cut e)
  | ins z l => exact .ins z (l.cut e)
  | dct z l => exact .dct z (l.cut e)
  | dtt z l => exact .dtt z (l.cut e)
  | lck z l => exact .lck z (l.cut e)
  | dead => exact .dead
end
/-- the cells of a callee become plain data -/
def frz (c : Cells) (n : Nat) : Nat → D → Option D
  | 0, _ => none
  | f + 1, d => if nc n d = true then some d else match d with
    | .cell i => (match c[i]? with
      | some (.lst l) => (l.mapM (frz c n f)).map .lst
      | some (.ins k ns l) => (l.mapM (frz c n f)).map (.obj k ns)
      | some (.dct ks l) => (l.mapM (frz c n f)).map (.dic ks)
      | some (.dtt ks l) => (l.mapM (frz c n f)).map (.dit ks)
      | _ => none)
    | .tup l => (l.mapM (frz c n f)).map .tup
    | .lst l => (l.mapM (frz c n f)).map .lst
    | .obj k ns l => (l.mapM (frz c n f)).map (.obj k ns)
    | .dic ks l => (l.mapM (frz c n f)).map (.dic ks)
    | .dit ks l => (l.mapM (frz c n f)).map (.dit ks)
    | _ => none
/-- at a callee's end: its own cells go -/
def fin (c c' : Cells) (d : D) : Out D := if (c'.take c.length).all (ncC c.length) = true ∨ c'.take c.length = c then (match frz c' c.length 30 d with
  | some d' => .ok d' (c'.take c.length)
  | none => .bad) else .bad
section
variable {K : Frag} {Z : Hp}
theorem mapM_rel {f : D → Option D} {P : V → D → Prop} : ∀ {vs : List V} {ds es : List D} {R : List Addr} {F : Hp}, RelL K R F vs ds → ds.mapM f = some es → (∀ v d e, Rel K R F v d → f d = some e → P v e) → ∀ {R' : List Addr} {F' : Hp}, (∀ v e, P v e → Rel K R' F' v e) → RelL K R' F' vs es
  | _, _, _, _, _, .nil, h, _, _, _, _ => by
    simp at h
    subst h
    exact .nil
  | _, _, _, _, _, .cons (d := d) (ds := ds) r t, h, hp, _, _, hq => by
    rw [List.mapM_cons] at h
    cases e1 : f d with
    | none => rw [e1] at h; simp at h
    | some e =>
      rw [e1] at h
      cases e2 : List.mapM f ds with
      | none => rw [e2] at h; simp at h
      | some es' =>
        rw [e2] at h
        simp at h
        subst h
        exact .cons (hq _ _ (hp _ _ _ r e1)) (mapM_rel t e2 hp hq)
theorem frz_rel {n : Nat} {R : List Addr} {F F' : Hp} {c : Cells} {H : Hp} (w : Wd K Z R F c H) (sF : Same F F') (hF : ∀ i a o, n ≤ i → R[i]? = some a → H a = some o → F' a = some o) : ∀ (f : Nat) (v : V) (d e : D), Rel K R F v d → frz c n f d = some e → Rel K (R.take n) F' v e
  | 0, _, _, _, _, h => by cases h
  | f + 1, v, d, e, r, h => by
    unfold frz at h
    split at h
    · rename_i hn
      cases h
      exact (r.cut hn).mono (List.prefix_refl _) sF
    · rename_i hn
      have ih := fun v d e r h => frz_rel w sF hF f v d e r h
      split at h
      · rename_i i
        cases r with
        | cell hi =>
          rename_i a
          have hle : n ≤ i := by
            have : ¬ i < n := fun z => hn (by unfold nc; exact decide_eq_true z)
            omega
          split at h
          · rename_i l hc
            obtain ⟨vs, q, rl⟩ := w.atList hi hc
            cases e1 : List.mapM (frz c n f) l with
            | none => rw [e1] at h; simp at h
            | some es =>
              rw [e1] at h
              simp at h
              subst h
              exact .lst (hF i a _ hle hi q) (mapM_rel rl e1 ih fun v e z => z)
          · rename_i k ns l hc
            obtain ⟨a', o, h1, h2, h3, h4⟩ := w.cel i _ hc
            rw [hi] at h1
            cases h1
            cases h3 with
            | ins z rl =>
              cases e1 : List.mapM (frz c n f) l with
              | none => rw [e1] at h; simp at h
              | some es =>
                rw [e1] at h
                simp at h
                subst h
                exact .obj (hF i a _ hle hi h2) z (mapM_rel rl e1 ih fun v e z => z)
          · rename_i ks l hc
            obtain ⟨a', o, h1, h2, h3, h4⟩ := w.cel i _ hc
            rw [hi] at h1
            cases h1
            cases h3 with
            | dct z rl =>
              cases e1 : List.mapM (frz c n f) l with
              | none => rw [e1] at h; simp at h
              | some es =>
                rw [e1] at h
                simp at h
                subst h
                exact .dic (hF i a _ hle hi h2) z (mapM_rel rl e1 ih fun v e z => z)
          · rename_i ks l hc
            obtain ⟨a', o, h1, h2, h3, h4⟩ := w.cel i _ hc
            rw [hi] at h1
            cases h1
            cases h3 with
            | dtt z rl =>
              cases e1 : List.mapM (frz c n f) l with
              | none => rw [e1] at h; simp at h
              | some es =>
                rw [e1] at h
                simp at h
                subst h
                exact .dit (hF i a _ hle hi h2) (z.mono sF) (mapM_rel rl e1 ih fun v e z => z)
          · cases h
      · rename_i l
        cases r with
        | tup hq rl =>
          cases e1 : List.mapM (frz c n f) l with
          | none => rw [e1] at h; simp at h
          | some es =>
            rw [e1] at h
            simp at h
            subst h
            exact .tup (hq.ext sF) (mapM_rel rl e1 ih fun v e z => z)
      · rename_i l
        cases r with
        | lst hq rl =>
          cases e1 : List.mapM (frz c n f) l with
          | none => rw [e1] at h; simp at h
          | some es =>
            rw [e1] at h
            simp at h
            subst h
            exact .lst (sF _ _ hq) (mapM_rel rl e1 ih fun v e z => z)
      · rename_i k ns l
        cases r with
        | obj hq z rl =>
          cases e1 : List.mapM (frz c n f) l with
          | none => rw [e1] at h; simp at h
          | some es =>
            rw [e1] at h
            simp at h
            subst h
            exact .obj (sF _ _ hq) z (mapM_rel rl e1 ih fun v e z => z)
      · rename_i ks l
        cases r with
        | dic hq z rl =>
          cases e1 : List.mapM (frz c n f) l with
          | none => rw [e1] at h; simp at h
          | some es =>
            rw [e1] at h
            simp at h
            subst h
            exact .dic (sF _ _ hq) z (mapM_rel rl e1 ih fun v e z => z)
      · rename_i ks l
        cases r with
        | dit hq z rl =>
          cases e1 : List.mapM (frz c n f) l with
          | none => rw [e1] at h; simp at h
          | some es =>
            rw [e1] at h
            simp at h
            subst h
            exact .dit (sF _ _ hq) (z.mono sF) (mapM_rel rl e1 ih fun v e z => z)
      · cases h
open Classical in
/-- the callee's own cells' addresses join the frozen part -/
theorem Wd.drop {R0 R : List Addr} {F0 F : Hp} {c0 c : Cells} {H0 H : Hp} (w0 : Wd K Z R0 F0 c0 H0) (p : R0 <+: R) (e : Same F0 F) (w : Wd K Z R F c H) (hc : (c.take c0.length).all (ncC c0.length) = true ∨ c.take c0.length = c0) :
    ∃ F', Same F F' ∧ (∀ i a o, c0.length ≤ i → R[i]? = some a → H a = some o → F' a = some o) ∧ Wd K Z (R.take c0.length) F' (c.take c0.length) H ∧ R.take c0.length = R0 := by
  have hR : R.take c0.length = R0 := by
    obtain ⟨t, rfl⟩ := p
    rw [← w0.len, List.take_left]
  have hcl : ∀ (i : Nat) (k : Cell), (c.take c0.length)[i]? = some k → ncC c0.length k = true := by
    intro i k q
    rcases hc with hc | hc
    · exact List.all_eq_true.mp hc k (List.mem_of_getElem? q)
    · rw [hc] at q
      obtain ⟨a, o, h1, h2, h3, h4⟩ := w0.cel i k q
      rw [← w0.len]
      exact h3.nc
  refine ⟨fun a => if a ∈ R.drop c0.length then H a else F a, ?_, ?_, ?_, hR⟩
  · intro a o q
    show (if a ∈ R.drop c0.length then H a else F a) = some o
    by_cases hm : a ∈ R.drop c0.length
    · rw [if_pos hm]; exact w.same _ _ q
    · rw [if_neg hm]; exact q
  · intro i a o hi ha ho
    have hm : a ∈ R.drop c0.length := List.mem_of_getElem? (i := i - c0.length) (by rw [List.getElem?_drop]; rw [show c0.length + (i - c0.length) = i from by omega]; exact ha)
    show (if a ∈ R.drop c0.length then H a else F a) = some o
    rw [if_pos hm]
    exact ho
  · have sF : Same F (fun a => if a ∈ R.drop c0.length then H a else F a) := by
      intro a o q
      show (if a ∈ R.drop c0.length then H a else F a) = some o
      by_cases hm : a ∈ R.drop c0.length
      · rw [if_pos hm]; exact w.same _ _ q
      · rw [if_neg hm]; exact q
    refine ⟨w.zs, fun a o q => ⟨?_, fun hm => (w.zf a o q).2 (List.mem_of_mem_take hm)⟩, fun a o q => ?_, by rw [List.length_take, List.length_take, w.len], w.nd.sublist (List.take_sublist _ _), fun i k q => ?_, w.tb.imp (fun a _ f z r => ⟨rfl, (if_neg (fun m => r (List.mem_of_mem_drop m))).trans f, z, fun m => r (List.mem_of_mem_take m)⟩) fun _ _ x => sF _ _ x⟩
    · have hn : a ∉ R.drop c0.length := fun hm => (w.zf a o q).2 (List.mem_of_mem_drop hm)
      show (if a ∈ R.drop c0.length then H a else F a) = none
      rw [if_neg hn]
      exact (w.zf a o q).1
    · have q : (if a ∈ R.drop c0.length then H a else F a) = some o := q
      by_cases hm : a ∈ R.drop c0.length
      · rw [if_pos hm] at q; exact q
      · rw [if_neg hm] at q; exact w.same a o q
    · have hi : i < c0.length := by
        have := (List.getElem?_eq_some_iff.mp q).1
        rw [List.length_take] at this
        omega
      have hk := hcl i k q
      rw [List.getElem?_take_of_lt hi] at q
      obtain ⟨a, o, h1, h2, h3, h4⟩ := w.cel i k q
      refine ⟨a, o, by rw [List.getElem?_take_of_lt hi]; exact h1, h2, (h3.mono (List.prefix_refl _) sF).cut hk, ?_⟩
      have hn : a ∉ R.drop c0.length := fun hm => by
        obtain ⟨j, hj, ej⟩ := List.mem_iff_getElem.mp hm
        rw [List.getElem_drop] at ej
        have hjl : c0.length + j < R.length := by rw [List.length_drop] at hj; omega
        obtain ⟨l1, e1⟩ := List.getElem?_eq_some_iff.mp h1
        have := (List.getElem_inj w.nd).mp (e1.trans ej.symm)
        omega
      exact h4.imp (fun z => by show (if a ∈ R.drop c0.length then H a else F a) = none; rw [if_neg hn]; exact z) fun z => by show (if a ∈ R.drop c0.length then H a else F a) = some o; rw [if_neg hn]; exact z
theorem fin_read {W : WX} {R0 R : List Addr} {F0 F : Hp} {c0 c : Cells} {H0 H : Hp} {σ : St} {v : V} {d : D} {Q : VK} (w0 : Wd K Z R0 F0 c0 H0) (p : R0 <+: R) (e : Same F0 F) (w : Wd K Z R F c H) (r : Rel K R F v d) (h : Aft K Z W R0 F0 σ (fin c0 c d) (QV K Q)) : Q v H := by
  unfold fin at h
  split at h
  · rename_i hc
    split at h
    · rename_i d' hz
      obtain ⟨F', sF, hF, w', eR⟩ := w0.drop p e w hc
      refine h _ F' H (by rw [eR]; exact List.prefix_refl _) (e.trans sF) w' v ?_
      exact frz_rel w sF hF 30 v d d' r hz
    · exact h.elim
  · exact h.elim
end

/-! ### defs -/
/-- a def's promise: it does what m says -/
def spOf (K : Frag) (m : MF) : Sp := fun vs H Q E => ∃ Z R F c ds, Wd K Z R F c H ∧ RelL K R F vs ds ∧ Aft K Z (fun cls x _ H' => E cls x H') R F [] (m ds c) (QV K Q)
/-- np parameters, nl names in all -/
def mkFn (np nl : Nat) (mb : MS) : MF := fun ds c => if ds.length = np then (match mb (ds.map some ++ List.replicate (nl - np) none) c with
  | .nx _ c' => .ok .non c'
  | .rt d c' => .ok d c'
  | .exc k ns es _ c' => .exc k ns es c'
  | _ => .bad) else .bad
/-- a def that makes cells of its own -/
def mkFnB (np nl : Nat) (mb : MS) : MF := fun ds c => if ds.length = np then (match mb (ds.map some ++ List.replicate (nl - np) none) c with
  | .nx _ c' => fin c c' .non
  | .rt d c' => fin c c' d
  | .exc k ns es _ c' => (match fin c c' (.tup es) with
    | .ok (.tup es') c2 => .exc k ns es' c2
    | _ => .bad)
  | _ => .bad) else .bad
theorem relS_start {K : Frag} {R : List Addr} {F : Hp} : ∀ {vs : List V} {ds : List D} (n : Nat), RelL K R F vs ds → RelS K R F (ds.map some ++ List.replicate n none) (vs.map some ++ List.replicate n none) := by
  intro vs ds n h
  refine ⟨by rw [List.length_append, List.length_append, List.length_map, List.length_map, h.length]; simp, fun i d q => ?_⟩
  by_cases hi : i < ds.length
  · rw [List.getElem?_append_left (by simpa using hi), List.getElem?_map] at q
    cases e : ds[i]? with
    | none => rw [e] at q; cases q
    | some d' =>
      rw [e] at q
      cases q
      obtain ⟨v, h1, h2⟩ := h.get e
      exact ⟨v, by rw [List.getElem?_append_left (by rw [List.length_map, h.length]; exact hi), List.getElem?_map, h1]; rfl, h2⟩
  · rw [List.getElem?_append_right (by simpa using hi), List.getElem?_replicate] at q
    split at q
    · cases q
    · cases q
section
variable {P : Program} {w : World} {K : PySem.W.Frag} {mg : Str → Option Value} {base : Heap} {x qual : Str} {params : Arguments} {body : List Stmt} {scope : Scope} {f : Addr} {fd : FuncData} {N ps : List Str} {k : Nat} {mb : MS}
abbrev WE' (E : XK) : WX := fun cls x _ H' => E cls x H'
/-- the context of a def's body -/
abbrev Cxf (P : Program) (w : World) (K : PySem.W.Frag) (mg : Str → Option Value) (base : Heap) (N : List Str) (qual : Str) (scope : Scope) (f : Addr) (cdv : Value) (A : Around) (outer : List Env) (s : Shared) (H : Hp) (E : XK) : Cx := cxOf (L2.CX P w) P w K mg base N qual scope f cdv A outer s H E
abbrev BodyOk (P : Program) (w : World) (K : PySem.W.Frag) (mg : Str → Option Value) (base : Heap) (N : List Str) (qual : Str) (scope : Scope) (f : Addr) (k : Nat) (body : List Stmt) (mb : MS) : Prop :=
  ∀ (cdv : Value) (A : Around) (outer : List Env) (s : Shared) (H : Hp) (E : XK), Room k (A.deeper (envOfC qual scope s.heap.objs.size f cdv)) →
    Takes (Cxf P w K mg base N qual scope f cdv A outer s H E) (WE' E) →
    PassesOwn (model P w) (Cxf P w K mg base N qual scope f cdv A outer s H E).A (Cxf P w K mg base N qual scope f cdv A outer s H E).env (Cxf P w K mg base N qual scope f cdv A outer s H E).xe →
    DSs (Cxf P w K mg base N qual scope f cdv A outer s H E) (WE' E) body mb
theorem mk_read {K : Frag} {Z : Hp} {R : List Addr} {F : Hp} {E : XK} {Q : VK} {o : Fl} (h : Aft K Z (WE' E) R F [] (match o with
    | .nx _ c' => .ok .non c'
    | .rt d c' => .ok d c'
    | .exc k ns es _ c' => .exc k ns es c'
    | _ => .bad) (QV K Q)) : AftS K Z (WE' E) R F o { nx := fun _ H' => Q .non H', rt := Q } := by
  cases o with
  | nx δ c' => exact fun R' F' H' σ p e w rs => h R' F' H' p e w .non .non
  | rt d c' => exact fun R' F' H' v p e w r => h R' F' H' p e w v r
  | exc k ns es δ c' => exact fun R' F' H' σ x p e w rs xr => h R' F' H' x p e w xr
  | bk δ c' => exact h.elim
  | ct δ c' => exact h.elim
  | bad => exact h.elim
theorem fn_ok (Fn : FunD K x qual params body scope [] [] f fd) (S : FnScope N ps scope) (hb : BodyOk P w K mg base N qual scope f k body mb) : FnOk P w K mg base (L2.CX P w) (k + 1) f fd ps (spOf K (mkFn ps.length N.length mb)) := by
  refine Fn.ok S ?_ ?_
  · rintro vs H Q E ⟨Z, R, F, c, ds, wd, r, h⟩
    unfold mkFn at h
    split at h
    · rename_i hl
      rw [r.length]; exact hl
    · exact h.elim
  · rintro cdv A outer s H vs Q E hr ⟨Z, R, F, c, ds, wd, r, h⟩
    obtain ⟨t, p, sd⟩ := (hb cdv A outer s H E hr (takes_of rfl rfl rfl rfl) (passes_of rfl)).ex
    refine ⟨t, p, ?_⟩
    unfold mkFn at h
    split at h
    · rename_i hl
      have e : L2.start N vs = vs.map some ++ List.replicate (N.length - ps.length) none := by unfold L2.start; rw [r.length, hl]
      rw [e]
      exact sd Z R F _ c _ H _ wd (relS_start _ r) (mk_read h)
    · exact h.elim
theorem fn_okB (Fn : FunD K x qual params body scope [] [] f fd) (S : FnScope N ps scope) (hb : BodyOk P w K mg base N qual scope f k body mb) : FnOk P w K mg base (L2.CX P w) (k + 1) f fd ps (spOf K (mkFnB ps.length N.length mb)) := by
  refine Fn.ok S ?_ ?_
  · rintro vs H Q E ⟨Z, R, F, c, ds, wd, r, h⟩
    unfold mkFnB at h
    split at h
    · rename_i hl
      rw [r.length]; exact hl
    · exact h.elim
  · rintro cdv A outer s H vs Q E hr ⟨Z, R, F, c, ds, wd, r, h⟩
    obtain ⟨t, p, sd⟩ := (hb cdv A outer s H E hr (takes_of rfl rfl rfl rfl) (passes_of rfl)).ex
    refine ⟨t, p, ?_⟩
    unfold mkFnB at h
    split at h
    · rename_i hl
      have e : L2.start N vs = vs.map some ++ List.replicate (N.length - ps.length) none := by unfold L2.start; rw [r.length, hl]
      rw [e]
      refine sd Z R F _ c _ H _ wd (relS_start _ r) ?_
      generalize mb (ds.map some ++ List.replicate (N.length - ps.length) none) c = o at h
      cases o with
      | nx δ c' => exact fun R' F' H' σ p e w' rs => fin_read wd p e w' .non h
      | rt d c' => exact fun R' F' H' v p e w' rv => fin_read wd p e w' rv h
      | exc k ns es δ c' =>
        intro R' F' H' σ x p e w' rs xr
        dsimp only at h
        unfold fin at h
        split at h
        · rename_i es' c2 hz
          split at hz
          · rename_i hc
            split at hz
            · rename_i d' hd
              injection hz with hz1 hz2
              subst hz1
              subst hz2
              obtain ⟨F2, sF, hF, w2, eR⟩ := wd.drop p e w' hc
              refine h _ F2 H' x (by rw [eR]; exact List.prefix_refl _) (e.trans sF) w2 ?_
              -- the fields one by one
              have key : ∀ (f : Nat) (vs : List V) (ds : List D) (e' : D), RelL K R' F' vs ds → frz c' c.length (f + 1) (.tup ds) = some e' → ∃ ds', e' = .tup ds' ∧ RelL K (R'.take c.length) F2 vs ds' := by
                intro f vs ds e' rl hf
                unfold frz at hf
                split at hf
                · rename_i hn
                  cases hf
                  unfold nc at hn
                  exact ⟨ds, rfl, (rl.cut hn).mono (List.prefix_refl _) sF⟩
                · have hf : (ds.mapM (frz c' c.length f)).map D.tup = some e' := hf
                  cases e1 : List.mapM (frz c' c.length f) ds with
                  | none => rw [e1] at hf; simp at hf
                  | some es2 =>
                    rw [e1] at hf
                    simp at hf
                    subst hf
                    exact ⟨es2, rfl, mapM_rel rl e1 (fun v d e r h => frz_rel w' sF hF f v d e r h) fun v e z => z⟩
              cases xr with
              | none =>
                obtain ⟨ds', e1, rl'⟩ := key 29 [] [] _ .nil hd
                cases e1
                cases rl'
                exact .none
              | some hx z rl =>
                obtain ⟨ds', e1, rl'⟩ := key 29 _ _ _ rl hd
                cases e1
                exact .some (sF _ _ hx) z rl'
            · cases hz
          · cases hz
        · exact h.elim
      | bk δ c' => exact h.elim
      | ct δ c' => exact h.elim
      | bad => exact h.elim
    · exact h.elim
end
end Nw

set_option Elab.async false
set_option linter.all false
set_option maxRecDepth 100000
set_option maxHeartbeats 4000000
/-! Nw5: calls, methods, instances, attributes. -/
namespace Nw
open PySem PySem.Spec
open PyProof.Rows hiding St
open L2
variable [TheW]

section
variable {X : Cx} {W : WX} {k : Nat} {fa C : Addr} {fd : FuncData} {ps : List Str} {m : MF} {x mn : Str} {p pos apos : Pos} {e o : Expr} {es : List Expr} {ma : MA} {mo : ME}
/-- a call's promise, used -/
theorem sp_of {Z : Hp} {R : List Addr} {F : Hp} {c : Cells} {σ : St} {H : Hp} {vs : List V} {ds : List D} {Q : VK} (w : Wd X.K Z R F c H) (r : RelL X.K R F vs ds) (h : Aft X.K Z W R F σ (m ds c) (QV X.K Q)) : spOf X.K m vs H Q (WE W σ) := by
  refine ⟨Z, R, F, c, ds, w, r, ?_⟩
  cases q : m ds c with
  | ok d c' => rw [q] at h; exact h
  | exc k ns es c' => rw [q] at h; exact h
  | bad => rw [q] at h; exact h
def mCall (m : MF) (ma : MA) : ME := fun δ c => (ma δ c).bind fun ds c1 => m ds c1
/-- f(e, ..) -/
theorem de_call (G : FnOk X.prog X.w X.K X.mg X.base (L2.CX X.prog X.w) k fa fd ps (spOf X.K m)) (hr : Room k X.A) (tk : Takes X W) (hm : X.mg x = some (.ref fa)) (hk : PySem.W.keepIn X.K (.ref fa) = true) (hb : Binds X.K fd ps []) (ha : DA X W (e :: es) ma)
    (hg : Gl X x := by rfl) (hdb : (x == ("__debug__" : Str)) = false := by decide) (he : starEach (e :: es) X.env = (false, eval e X.env) :: starEach es X.env := by rfl) (hpl : (backTo pos (starEach es X.env)).any (·.1) = false := by rfl) :
    DE X W (.Call (.Name x p) (e :: es) [] pos) (mCall m ma) := by
  obtain ⟨t, pa, sa⟩ := ha.ex
  refine ⟨_, pe_callS G hr hg hm hk hb (passAt tk) pa hdb he hpl, fun Z R F δ c σ H Q w rs h => sa Z R F δ c σ H _ w rs ((Aft.bind h).imp ?_)⟩
  rintro R1 F1 ds c1 H1 p1 e1 w1 ⟨_, _, _, h1⟩ vs rv
  exact sp_of w1 rv h1
/-- f() -/
theorem pe_callS0 {CX : CXT} {sp : Sp} {E : St → XK} (G : FnOk X.prog X.w X.K X.mg X.base CX k fa fd ps sp) (hr : Room k X.A) (hg : Gl X x) (hm : X.mg x = some (.ref fa)) (hk : PySem.W.keepIn X.K (.ref fa) = true) (hb : Binds X.K fd ps [])
    (hx : ∀ σ, PassesAt CX X σ (E σ)) (hdb : (x == ("__debug__" : Str)) = false) : PE X (.Call (.Name x p) [] [] pos) (fun σ H Q => sp [] H Q (E σ)) :=
  ⟨fun pins s σ H Q I z => wpAny_Call_Name_kw (ld_glob I hg hm (PySem.W.callWith_K0 I.kIn hk (run_fnS (E := E) (us := []) G hr hb (hx σ) I .nil z)) hdb)⟩
theorem de_call0 (G : FnOk X.prog X.w X.K X.mg X.base (L2.CX X.prog X.w) k fa fd ps (spOf X.K m)) (hr : Room k X.A) (tk : Takes X W) (hm : X.mg x = some (.ref fa)) (hk : PySem.W.keepIn X.K (.ref fa) = true) (hb : Binds X.K fd ps [])
    (hg : Gl X x := by rfl) (hdb : (x == ("__debug__" : Str)) = false := by decide) : DE X W (.Call (.Name x p) [] [] pos) (mCall m mNil) :=
  ⟨_, pe_callS0 G hr hg hm hk hb (passAt tk) hdb, fun Z R F δ c σ H Q w rs h => sp_of w .nil h⟩

/-! ### methods of the text's own classes, by the instance's class -/
/-- the class named cn has the method mn, which does what m says -/
structure MethOk (X : Cx) (k : Nat) (mn cn : Str) (m : MF) : Prop where
  cl : Cls X.K (He.ga X.K cn)
  ex : ∃ f fd ps, Meth X.K (He.ga X.K cn) mn f ∧ FnOk X.prog X.w X.K X.mg X.base (L2.CX X.prog X.w) k f fd ps (spOf X.K m) ∧ Binds X.K fd ps []
inductive Disp (X : Cx) (k : Nat) (mn : Str) : List (Str × MF) → Prop where
  | nil : Disp X k mn []
  | cons {cn : Str} {m : MF} {r : List (Str × MF)} (h : MethOk X k mn cn m) (t : Disp X k mn r) : Disp X k mn ((cn, m) :: r)
theorem Disp.look : ∀ {ds : List (Str × MF)} {cn : Str} {m : MF}, Disp X k mn ds → ds.lookup cn = some m → MethOk X k mn cn m
  | _, cn, m, .nil, e => by cases e
  | _, cn, m, .cons (cn := c0) h t, e => by
    rw [List.lookup_cons] at e
    cases q : cn == c0 with
    | true =>
      rw [q] at e
      cases e
      rw [eq_of_beq q]
      exact h
    | false =>
      rw [q] at e
      exact t.look e
/-- the class and the attributes' names of an instance -/
def insOf (c : Cells) : D → Option (Str × List Str × List D)
  | .obj cn ns ds => some (cn, ns, ds)
  | .cell i => match c[i]? with
    | some (.ins cn ns ds) => some (cn, ns, ds)
    | _ => none
  | _ => none
theorem insOf_cell {c : Cells} {i : Nat} {q : Str × List Str × List D} (h : insOf c (.cell i) = some q) : c[i]? = some (.ins q.1 q.2.1 q.2.2) := by
  simp only [insOf] at h
  split at h
  · rename_i e
    cases h
    exact e
  · cases h
theorem Wd.inst {K : Frag} {Z : Hp} {R : List Addr} {F : Hp} {c : Cells} {H : Hp} {v : V} {d : D} {cn : Str} {ns : List Str} {ds : List D} (w : Wd K Z R F c H) (r : Rel K R F v d) (e : insOf c d = some (cn, ns, ds)) :
    ∃ a dx vs, v = .ref a ∧ H a = some (.ins (He.ga K cn) dx (ns.zip vs)) ∧ ns.length = vs.length ∧ RelL K R F vs ds := by
  cases r with
  | obj h z l =>
    cases e
    exact ⟨_, _, _, rfl, w.same _ _ h, z, l⟩
  | cell h =>
    have e := insOf_cell e
    obtain ⟨a, o, h1, h2, h3, h4⟩ := w.cel _ _ e
    rw [h] at h1
    cases h1
    cases h3 with
    | ins z l => exact ⟨_, _, _, rfl, h2, z, l⟩
  | _ => cases e
theorem zip_lookup_none {f : Str} : ∀ {ns : List Str} {vs : List V}, ns.contains f = false → (ns.zip vs).lookup f = none
  | [], _, _ => rfl
  | _ :: _, [], _ => rfl
  | n :: ns, v :: vs, h => by
    rw [List.contains_cons] at h
    have h := Bool.or_eq_false_iff.mp h
    show ((n, v) :: ns.zip vs).lookup f = none
    rw [List.lookup_cons, h.1]
    exact zip_lookup_none h.2
/-- o.m(e, ..): the instance's class chooses among ds -/
def methOf (mn : Str) (ds : List (Str × MF)) (c : Cells) (d : D) : Option MF := match insOf c d with
  | some q => if q.2.1.contains mn = true then none else ds.lookup q.1
  | none => none
def mMeth (mn : Str) (ds : List (Str × MF)) (mo : ME) (ma : MA) : ME := fun δ c => (mo δ c).bind fun d c1 => match methOf mn ds c1 d with
  | some m => (ma δ c1).bind fun args c2 => m (d :: args) c2
  | none => .bad
theorem methOf_some {mn : Str} {ds : List (Str × MF)} {c : Cells} {d : D} {m : MF} (h : methOf mn ds c d = some m) : ∃ cn ns fs, insOf c d = some (cn, ns, fs) ∧ ns.contains mn = false ∧ ds.lookup cn = some m := by
  unfold methOf at h
  split at h
  · rename_i q hq
    obtain ⟨cn, ns, fs⟩ := q
    by_cases hn : ns.contains mn = true
    · rw [if_pos hn] at h
      cases h
    · rw [if_neg hn] at h
      exact ⟨cn, ns, fs, hq, by simpa using hn, h⟩
  · cases h
theorem pe_methD {pl : Sem Bool} {CX : CXT} {ta : TE} {t : TA} {ι : Type} {Cf : ι → Addr} {spf : ι → Sp} {E : St → XK} (he : PE X o ta)
    (hi : ∀ i, Cls X.K (Cf i) ∧ ∃ f fd ps, Meth X.K (Cf i) mn f ∧ FnOk X.prog X.w X.K X.mg X.base CX k f fd ps (spf i) ∧ Binds X.K fd ps []) (hr : Room k X.A) (hx : ∀ σ, PassesAt CX X σ (E σ)) (ha : PA X (e :: es) t)
    (hst : starEach (e :: es) X.env = (false, eval e X.env) :: starEach es X.env) (hpl : (backTo pos (starEach es X.env)).any (·.1) = false)
    (ht : eval (.Call (.Attribute o mn apos) (e :: es) [] pos) X.env = (do
      let ov ← eval o X.env
      standAt apos.atName
      let (f, first) ← holding [ov] (getMethod ov mn pl)
      callWith pos f first (backTo pos (starEach (e :: es) X.env)) (backToKw pos (keywordEach [] X.env)))) :
    PE X (.Call (.Attribute o mn apos) (e :: es) [] pos) (fun σ H Q => ta σ H fun v H1 => ∃ i a dx fs, v = .ref a ∧ H1 a = some (.ins (Cf i) dx fs) ∧ fs.lookup mn = none ∧ t σ H1 fun vs H2 => spf i (v :: vs) H2 Q (E σ)) := by
  refine ⟨fun pins s σ H Q I z => PySem.W.methodCall_KW (pl := pl) (thn (he.run pins s σ H _ I z) ?_) ht⟩
  rintro u s1 ⟨v, H1, I1, rv, i, a, dx, fs, rfl, ea, l, q⟩
  obtain ⟨c, f, fd, ps, hm, G, hb⟩ := hi i
  obtain rfl : u = Value.ref a := rv
  refine getmeth_ok I1 ea c hm l (PySem.W.callWith_K (first := [.ref a]) (h₀ := X.base) I.ok.mod.kin hm.kp (thn (ha.run pos pins s1 σ H1 _ I1 q) ?_) hst hpl)
  rintro us s2 ⟨vs, H2, I2, r, q2⟩
  exact ⟨I2.kIn, run_fnS (E := E) (us := .ref a :: us) (vs := .ref a :: vs) G hr hb (hx σ) I2 (.cons rfl r) q2⟩
theorem pe_methD0 {pl : Sem Bool} {CX : CXT} {ta : TE} {ι : Type} {Cf : ι → Addr} {spf : ι → Sp} {E : St → XK} (he : PE X o ta)
    (hi : ∀ i, Cls X.K (Cf i) ∧ ∃ f fd ps, Meth X.K (Cf i) mn f ∧ FnOk X.prog X.w X.K X.mg X.base CX k f fd ps (spf i) ∧ Binds X.K fd ps []) (hr : Room k X.A) (hx : ∀ σ, PassesAt CX X σ (E σ))
    (ht : eval (.Call (.Attribute o mn apos) [] [] pos) X.env = (do
      let ov ← eval o X.env
      standAt apos.atName
      let (f, first) ← holding [ov] (getMethod ov mn pl)
      callWith pos f first (backTo pos (starEach [] X.env)) (backToKw pos (keywordEach [] X.env)))) :
    PE X (.Call (.Attribute o mn apos) [] [] pos) (fun σ H Q => ta σ H fun v H1 => ∃ i a dx fs, v = .ref a ∧ H1 a = some (.ins (Cf i) dx fs) ∧ fs.lookup mn = none ∧ spf i [v] H1 Q (E σ)) := by
  refine ⟨fun pins s σ H Q I z => PySem.W.methodCall_KW (pl := pl) (thn (he.run pins s σ H _ I z) ?_) ht⟩
  rintro u s1 ⟨v, H1, I1, rv, i, a, dx, fs, rfl, ea, l, q⟩
  obtain ⟨c, f, fd, ps, hm, G, hb⟩ := hi i
  obtain rfl : u = Value.ref a := rv
  refine getmeth_ok I1 ea c hm l ?_
  exact PySem.W.callWith_K0 (first := [.ref a]) I1.kIn hm.kp (run_fnS (E := E) (us := [.ref a]) (vs := [.ref a]) G hr hb (hx σ) I1 (.cons rfl .nil) q)
theorem de_meth {pl : Sem Bool} {ds : List (Str × MF)} (ho : DE X W o mo) (hd : Disp X k mn ds) (hr : Room k X.A) (tk : Takes X W) (ha : DA X W (e :: es) ma)
    (hst : starEach (e :: es) X.env = (false, eval e X.env) :: starEach es X.env := by rfl) (hpl : (backTo pos (starEach es X.env)).any (·.1) = false := by rfl)
    (ht : eval (.Call (.Attribute o mn apos) (e :: es) [] pos) X.env = (do
      let ov ← eval o X.env
      standAt apos.atName
      let (f, first) ← holding [ov] (getMethod ov mn pl)
      callWith pos f first (backTo pos (starEach (e :: es) X.env)) (backToKw pos (keywordEach [] X.env))) := by rfl) :
    DE X W (.Call (.Attribute o mn apos) (e :: es) [] pos) (mMeth mn ds mo ma) := by
  obtain ⟨ta, pa, sa⟩ := ho.ex
  obtain ⟨t, pt, st⟩ := ha.ex
  let ι := { q : Str × MF // ds.lookup q.1 = some q.2 }
  refine ⟨_, pe_methD (ι := ι) (Cf := fun i => He.ga X.K i.1.1) (spf := fun i => spOf X.K i.1.2) (E := WE W) pa (fun i => let g := hd.look i.2; ⟨g.cl, g.ex⟩) hr (passAt tk) pt hst hpl ht, fun Z R F δ c σ H Q w rs h => sa Z R F δ c σ H _ w rs ((Aft.bind h).imp ?_)⟩
  rintro R1 F1 d c1 H1 p1 e1 w1 ⟨_, _, _, h1⟩ v rv
  split at h1
  · rename_i mf hq
    obtain ⟨cn, ns, fs, hq, hn, hl⟩ := methOf_some hq
    obtain ⟨a, dx, vs, rfl, ea, z, rl⟩ := w1.inst rv hq
    refine ⟨⟨(cn, mf), hl⟩, a, dx, _, rfl, ea, zip_lookup_none hn, st Z R1 F1 δ c1 σ H1 _ w1 (rs.mono p1 e1) ((Aft.bind h1).imp ?_)⟩
    rintro R2 F2 as c2 H2 p2 e2 w2 ⟨_, _, _, h2⟩ us ru
    exact sp_of w2 (.cons (rv.mono p2 e2) ru) h2
  · exact h1.elim
def mMeth0 (mn : Str) (ds : List (Str × MF)) (mo : ME) : ME := fun δ c => (mo δ c).bind fun d c1 => match methOf mn ds c1 d with
  | some m => m [d] c1
  | none => .bad
theorem de_meth0 {pl : Sem Bool} {ds : List (Str × MF)} (ho : DE X W o mo) (hd : Disp X k mn ds) (hr : Room k X.A) (tk : Takes X W)
    (ht : eval (.Call (.Attribute o mn apos) [] [] pos) X.env = (do
      let ov ← eval o X.env
      standAt apos.atName
      let (f, first) ← holding [ov] (getMethod ov mn pl)
      callWith pos f first (backTo pos (starEach [] X.env)) (backToKw pos (keywordEach [] X.env))) := by rfl) :
    DE X W (.Call (.Attribute o mn apos) [] [] pos) (mMeth0 mn ds mo) := by
  obtain ⟨ta, pa, sa⟩ := ho.ex
  let ι := { q : Str × MF // ds.lookup q.1 = some q.2 }
  refine ⟨_, pe_methD0 (ι := ι) (Cf := fun i => He.ga X.K i.1.1) (spf := fun i => spOf X.K i.1.2) (E := WE W) pa (fun i => let g := hd.look i.2; ⟨g.cl, g.ex⟩) hr (passAt tk) ht, fun Z R F δ c σ H Q w rs h => sa Z R F δ c σ H _ w rs ((Aft.bind h).imp ?_)⟩
  rintro R1 F1 d c1 H1 p1 e1 w1 ⟨_, _, _, h1⟩ v rv
  split at h1
  · rename_i mf hq
    obtain ⟨cn, ns, fs, hq, hn, hl⟩ := methOf_some hq
    obtain ⟨a, dx, vs, rfl, ea, z, rl⟩ := w1.inst rv hq
    exact ⟨⟨(cn, mf), hl⟩, a, dx, _, rfl, ea, zip_lookup_none hn, sp_of w1 (.cons rv .nil) h1⟩
  · exact h1.elim

/-! ### instances -/
theorem mkS {CX : CXT} {sp : Sp} {E : XK} {pins : List (Addr × Obj)} {σ : St} {H : Hp} {s : Shared} {Q : VK} {us : List Value} {vs : List V} (M : Mk X.K C fa) (G : FnOk X.prog X.w X.K X.mg X.base CX k fa fd ps sp) (hr : Room (k + 1) X.A) (hb : Binds X.K fd ps [])
    (hx : PassesAt CX X σ E) (I : Inv X pins σ H s) (r : Vals vs us)
    (h : ∀ y dy, H y = none → H dy = none → dy ≠ y → sp (.ref y :: vs) (upd (upd H dy (.own y)) y (.ins C dy [])) (fun v H2 => v = .non ∧ Q (.ref y) H2) E) :
    wpAny (model X.prog X.w) X.A (call (.ref C) us) (EP X pins σ Q) X.xe s := by
  have n0 := I.hok.fresh (Nat.le_refl s.heap.objs.size)
  have n1 := I.hok.fresh (Nat.le_succ s.heap.objs.size)
  have J := Inv.made (C := C) I
  have hq := h _ _ n1 n0 (Nat.ne_of_lt (Nat.lt_succ_self _))
  have rr : Vals (V.ref (s.heap.objs.size + 1) :: vs) (Value.ref (s.heap.objs.size + 1) :: us) := .cons rfl r
  have hl : (Value.ref (s.heap.objs.size + 1) :: us).length = ps.length := rr.length.symm.trans (G.len _ _ _ _ hq)
  have bb := hb _ (Value.ref (s.heap.objs.size + 1) :: us) J.kIn (by rw [List.append_nil]; exact hl)
  rw [List.append_nil] at bb
  have run := G.run _ X.stack _ _ _ _ _ _ E (hr.make C us []) (J.env0.make C us []) bb rr hq
  refine wpAny_call (make_map (f := fa) I.kIn M.makes M.init (beq_iff_eq.mp M.fn) (codeAny_mono run ?_))
  rintro (er | fl) s' q
  · exact hx pins _ _ er s' J q
  · cases fl with
    | ret u =>
      obtain ⟨v, H', I3, rv, ev, q3⟩ := J.after q
      subst ev
      exact ⟨rv, ⟨.ref (s.heap.objs.size + 1), H', I3, rfl, q3⟩⟩
    | _ => exact q.elim
theorem pe_makeS {CX : CXT} {sp : Sp} {E : St → XK} {t : TA} (M : Mk X.K C fa) (G : FnOk X.prog X.w X.K X.mg X.base CX k fa fd ps sp) (hr : Room (k + 1) X.A) (hg : Gl X x) (hm : X.mg x = some (.ref C)) (hb : Binds X.K fd ps []) (hx : ∀ σ, PassesAt CX X σ (E σ))
    (ha : PA X (e :: es) t) (hdb : (x == ("__debug__" : Str)) = false) (he : starEach (e :: es) X.env = (false, eval e X.env) :: starEach es X.env) (hpl : (backTo pos (starEach es X.env)).any (·.1) = false) :
    PE X (.Call (.Name x p) (e :: es) [] pos) (fun σ H Q => t σ H fun vs H1 => ∀ y dy, H1 y = none → H1 dy = none → dy ≠ y → sp (.ref y :: vs) (upd (upd H1 dy (.own y)) y (.ins C dy [])) (fun v H2 => v = .non ∧ Q (.ref y) H2) (E σ)) := by
  refine ⟨fun pins s σ H Q I z => wpAny_Call_Name_kw (ld_glob I hg hm (PySem.W.callWith_K (h₀ := X.base) I.ok.mod.kin M.kp (thn (ha.run pos pins s σ H _ I z) ?_) he hpl) hdb)⟩
  rintro us s1 ⟨vs, H1, I1, r, q⟩
  exact ⟨I1.kIn, mkS M G hr hb (hx σ) I1 r q⟩
theorem pe_makeS0 {CX : CXT} {sp : Sp} {E : St → XK} (M : Mk X.K C fa) (G : FnOk X.prog X.w X.K X.mg X.base CX k fa fd ps sp) (hr : Room (k + 1) X.A) (hg : Gl X x) (hm : X.mg x = some (.ref C)) (hb : Binds X.K fd ps []) (hx : ∀ σ, PassesAt CX X σ (E σ)) (hdb : (x == ("__debug__" : Str)) = false) :
    PE X (.Call (.Name x p) [] [] pos) (fun σ H Q => ∀ y dy, H y = none → H dy = none → dy ≠ y → sp [.ref y] (upd (upd H dy (.own y)) y (.ins C dy [])) (fun v H2 => v = .non ∧ Q (.ref y) H2) (E σ)) :=
  ⟨fun pins s σ H Q I z => wpAny_Call_Name_kw (ld_glob I hg hm (PySem.W.callWith_K0 I.kIn M.kp (mkS (us := []) (vs := []) M G hr hb (hx σ) I .nil z)) hdb)⟩
/-- C(e, ..): the new instance is a cell while __init__ runs, then plain data -/
def makeGo (cn : Str) (m : MF) (ds : List D) (c : Cells) : Out D := (m (.cell c.length :: ds) (c ++ [.ins cn [] []])).bind fun r c2 => match r with
  | .non => fin c c2 (.cell c.length)
  | _ => .bad
def mMake (cn : Str) (m : MF) (ma : MA) : ME := fun δ c => (ma δ c).bind fun ds c1 => makeGo cn m ds c1
theorem make_sp {Z : Hp} {R : List Addr} {F : Hp} {c : Cells} {σ : St} {H : Hp} {vs : List V} {ds : List D} {Q : VK} {cn : Str} (w : Wd X.K Z R F c H) (r : RelL X.K R F vs ds) (h : Aft X.K Z W R F σ (makeGo cn m ds c) (QV X.K Q)) :
    ∀ y dy, H y = none → H dy = none → dy ≠ y → spOf X.K m (.ref y :: vs) (upd (upd H dy (.own y)) y (.ins (He.ga X.K cn) dy [])) (fun v H2 => v = .non ∧ Q (.ref y) H2) (WE W σ) := by
  intro y dy hy hdy ne
  have w1 : Wd X.K Z R F c (upd H dy (.own y)) := w.more (Ext.upd hdy)
  have hy1 : upd H dy (.own y) y = none := by rw [upd_ne (Ne.symm ne)]; exact hy
  have w2 : Wd X.K Z (R ++ [y]) F (c ++ [.ins cn [] []]) (upd (upd H dy (.own y)) y (.ins (He.ga X.K cn) dy [])) := w1.alloc hy1 (.ins (ns := []) (vs := []) (ds := []) rfl .nil)
  have pr : R <+: R ++ [y] := List.prefix_append _ _
  have hc : Rel X.K (R ++ [y]) F (.ref y) (.cell c.length) := .cell (by
    rw [← w.len, List.getElem?_append_right (Nat.le_refl _), Nat.sub_self]
    rfl)
  refine sp_of (σ := σ) (W := W) w2 (.cons hc (r.mono pr (Same.refl _))) ?_
  unfold makeGo at h
  cases q : m (.cell c.length :: ds) (c ++ [.ins cn [] []]) with
  | bad => rw [q] at h; exact h.elim
  | exc k ns es c2 => rw [q] at h; exact fun R1 F1 H1 x p1 e1 w3 xr => h R1 F1 H1 x (pr.trans p1) e1 w3 xr
  | ok d c2 =>
    rw [q] at h
    intro R1 F1 H1 p1 e1 w3 v rv
    cases rv with
    | non => exact ⟨rfl, fin_read (W := W) (σ := σ) w1 (pr.trans p1) e1 w3 (hc.mono p1 e1) h⟩
    | _ => exact h.elim
theorem de_make (M : Mk X.K (He.ga X.K x) fa) (G : FnOk X.prog X.w X.K X.mg X.base (L2.CX X.prog X.w) k fa fd ps (spOf X.K m)) (hr : Room (k + 1) X.A) (tk : Takes X W) (hm : X.mg x = some (.ref (He.ga X.K x))) (hb : Binds X.K fd ps []) (ha : DA X W (e :: es) ma)
    (hg : Gl X x := by rfl) (hdb : (x == ("__debug__" : Str)) = false := by decide) (he : starEach (e :: es) X.env = (false, eval e X.env) :: starEach es X.env := by rfl) (hpl : (backTo pos (starEach es X.env)).any (·.1) = false := by rfl) :
    DE X W (.Call (.Name x p) (e :: es) [] pos) (mMake x m ma) := by
  obtain ⟨t, pa, sa⟩ := ha.ex
  refine ⟨_, pe_makeS M G hr hg hm hb (passAt tk) pa hdb he hpl, fun Z R F δ c σ H Q w rs h => sa Z R F δ c σ H _ w rs ((Aft.bind h).imp ?_)⟩
  rintro R1 F1 ds c1 H1 p1 e1 w1 ⟨_, _, _, h1⟩ vs rv
  exact make_sp w1 rv h1
theorem de_make0 (M : Mk X.K (He.ga X.K x) fa) (G : FnOk X.prog X.w X.K X.mg X.base (L2.CX X.prog X.w) k fa fd ps (spOf X.K m)) (hr : Room (k + 1) X.A) (tk : Takes X W) (hm : X.mg x = some (.ref (He.ga X.K x))) (hb : Binds X.K fd ps [])
    (hg : Gl X x := by rfl) (hdb : (x == ("__debug__" : Str)) = false := by decide) : DE X W (.Call (.Name x p) [] [] pos) (mMake x m mNil) :=
  ⟨_, pe_makeS0 M G hr hg hm hb (passAt tk) hdb, fun Z R F δ c σ H Q w rs h => make_sp w .nil h⟩

/-! ### attributes -/
/-- instances of the classes cs have the attribute f in their own dict -/
def FldOk (K : Frag) (f : Str) (cs : List Str) : Prop := ∀ cn ∈ cs, Cls K (He.ga K cn) ∧ NoAttr K (He.ga K cn) f
def lookF (f : Str) : List Str → List D → Option D
  | n :: ns, d :: ds => if f = n then some d else lookF f ns ds
  | _, _ => none
theorem lookF_rel {K : Frag} {R : List Addr} {F : Hp} {f : Str} : ∀ {ns : List Str} {vs : List V} {ds : List D} {d : D}, RelL K R F vs ds → lookF f ns ds = some d → ∃ v, (ns.zip vs).lookup f = some v ∧ Rel K R F v d
  | [], _, _, _, _, h => by unfold lookF at h; cases h
  | _ :: _, _, _, _, .nil, h => by unfold lookF at h; cases h
  | n :: ns, v :: vs, e :: ds, d, .cons r t, h => by
    unfold lookF at h
    show ∃ u, ((n, v) :: ns.zip vs).lookup f = some u ∧ _
    rw [List.lookup_cons]
    by_cases hf : f = n
    · rw [if_pos hf] at h
      cases h
      rw [beq_iff_eq.mpr hf]
      exact ⟨v, rfl, r⟩
    · rw [if_neg hf] at h
      rw [beq_eq_false_iff_ne.mpr hf]
      exact lookF_rel t h
def fldGo (f : Str) (cs : List Str) (d : D) (c : Cells) : Out D := match insOf c d with
  | some q => if cs.contains q.1 = true then (match lookF f q.2.1 q.2.2 with
    | some v => .ok v c
    | none => .bad) else .bad
  | none => .bad
def mFld (f : Str) (cs : List Str) (mo : ME) : ME := fun δ c => (mo δ c).bind fun d c1 => fldGo f cs d c1
theorem de_fld {f : Str} {cs : List Str} (hf : FldOk X.K f cs) (ho : DE X W o mo) (hb : attributeBase o f X.env (eval o X.env) = eval o X.env := by rfl) : DE X W (.Attribute o f pos) (mFld f cs mo) := by
  obtain ⟨t, po, so⟩ := ho.ex
  refine ⟨_, pe_fld po hb, fun Z R F δ c σ H Q w rs h => so Z R F δ c σ H _ w rs ((Aft.bind h).imp ?_)⟩
  rintro R1 F1 d c1 H1 p1 e1 w1 ⟨_, _, _, h1⟩ v rv
  unfold fldGo at h1
  split at h1
  · rename_i q hq
    obtain ⟨cn, ns, fs⟩ := q
    by_cases hc : cs.contains cn = true
    · rw [if_pos hc] at h1
      split at h1
      · rename_i u hu
        obtain ⟨a, dx, vs, rfl, ea, z, rl⟩ := w1.inst rv hq
        obtain ⟨y, hy, ry⟩ := lookF_rel rl hu
        obtain ⟨hC, hN⟩ := hf cn (by simpa using hc)
        exact ⟨a, _, dx, _, y, rfl, ea, hC, hN, hy, h1.ok w1 y ry⟩
      · exact h1.elim
    · rw [if_neg hc] at h1
      exact h1.elim
  · exact h1.elim
/-- o.f = e, o a cell -/
def putN (f : Str) : List Str → List Str
  | [] => [f]
  | n :: ns => if n = f then n :: ns else n :: putN f ns
def putL {α : Type} (f : Str) (y : α) : List Str → List α → List α
  | [], _ => [y]
  | n :: ns, v :: vs => if n = f then y :: vs else v :: putL f y ns vs
  | _ :: _, [] => []
theorem put_zip {f : Str} {y : V} : ∀ {ns : List Str} {vs : List V}, ns.length = vs.length → putF f y (ns.zip vs) = (putN f ns).zip (putL f y ns vs) ∧ (putN f ns).length = (putL f y ns vs).length
  | [], [], _ => ⟨rfl, rfl⟩
  | n :: ns, v :: vs, h => by
    obtain ⟨i1, i2⟩ := put_zip (f := f) (y := y) (ns := ns) (vs := vs) (by simpa using h)
    show putF f y ((n, v) :: ns.zip vs) = _ ∧ _
    unfold putF putN putL
    by_cases hn : n = f
    · rw [if_pos hn, if_pos hn, if_pos hn]
      exact ⟨rfl, by simpa using h⟩
    · rw [if_neg hn, if_neg hn, if_neg hn, i1]
      exact ⟨rfl, by rw [List.length_cons, List.length_cons, i2]⟩
theorem putL_rel {K : Frag} {R : List Addr} {F : Hp} {f : Str} {y : V} {d : D} (r : Rel K R F y d) : ∀ {ns : List Str} {vs : List V} {ds : List D}, RelL K R F vs ds → RelL K R F (putL f y ns vs) (putL f d ns ds)
  | [], _, _, _ => .cons r .nil
  | n :: ns, _, _, .nil => .nil
  | n :: ns, _, _, .cons h t => by
    unfold putL
    by_cases hn : n = f
    · rw [if_pos hn, if_pos hn]
      exact .cons r t
    · rw [if_neg hn, if_neg hn]
      exact .cons h (putL_rel r t)
def setFGo (f : Str) (cs : List Str) (y d : D) (c : Cells) : Option Cells := match d with
  | .cell i => (match c[i]? with
    | some (.ins cn ns ds) => if cs.contains cn = true ∧ ns.length < 1000 then some (c.set i (.ins cn (putN f ns) (putL f y ns ds))) else none
    | _ => none)
  | _ => none
def mSetF (f : Str) (cs : List Str) (mo mv : ME) : MS := fun δ c => (mv δ c).fl δ fun y c1 => (mo δ c1).fl δ fun d c2 => match setFGo f cs y d c2 with
  | some c3 => .nx δ c3
  | none => .bad
theorem ds_setF {f : Str} {cs : List Str} {value : Expr} {mv : ME} {pos' : Pos} (hf : FldOk X.K f cs) (ho : DE X W o mo) (hv : DE X W value mv) (hs : swapsWith value (some (.Attribute o f pos')) pos.line X.env = pure false := by rfl) :
    DS X W (.Assign [.Attribute o f pos'] value pos) (mSetF f cs mo mv) := by
  obtain ⟨t, po, so⟩ := ho.ex
  obtain ⟨u, pv, sv⟩ := hv.ex
  refine ⟨_, ps_fld po pv hs, fun Z R F δ c σ H E w rs h => sv Z R F δ c σ H _ w rs ((AftS.fl rs h).imp ?_)⟩
  rintro R1 F1 y c1 H1 p1 e1 w1 ⟨_, _, _, h1⟩ v rv
  have rs1 := rs.mono p1 e1
  refine so Z R1 F1 δ c1 σ H1 _ w1 rs1 ((AftS.fl rs1 h1).imp ?_)
  rintro R2 F2 d c2 H2 p2 e2 w2 ⟨_, _, _, h2⟩ z rz
  split at h2
  · rename_i c3 hc3
    unfold setFGo at hc3
    split at hc3
    · rename_i i
      split at hc3
      · rename_i cn ns ds hi
        split at hc3
        · rename_i hcs
          cases hc3
          cases rz with
          | cell hR =>
            rename_i a
            obtain ⟨a', o', q1, q2, q3, q4⟩ := w2.cel i _ hi
            rw [hR] at q1
            cases q1
            cases q3 with
            | @ins dx _ _ vs _ hz rl =>
              obtain ⟨hC, hN⟩ := hf cn (by simpa using hcs.1)
              obtain ⟨z1, z2⟩ := put_zip (f := f) (y := v) hz
              refine ⟨a, _, dx, _, rfl, q2, hC, hN, by rw [List.length_zip, ← hz, Nat.min_self]; exact hcs.2, ?_⟩
              rw [z1]
              exact h2 R2 F2 _ σ (List.prefix_refl _) (Same.refl _) (w2.write hR (.ins z2 (putL_rel (rv.mono p2 e2) rl)) (w2.at0 hR hi)) (rs1.mono p2 e2)
        · cases hc3
      · cases hc3
    · cases hc3
  · exact h2.elim
end
end Nw

set_option Elab.async false
set_option linter.all false
set_option maxRecDepth 100000
set_option maxHeartbeats 4000000
/-! Nw6: exceptions. -/
namespace Nw
open PySem PySem.Spec
open PyProof.Rows hiding St
open L2
variable [TheW]

/-! ### raise C() -/
section
variable {X : Cx} {W : WX} {x : Str} {p pos : Pos}
theorem pmk_own0 {C : Addr} {bmB : List Value} {B newId initId : String} (F : ExcBaseFacts B newId initId bmB) (q : PySem.W.excIn X.K C bmB newId = true) (gC : X.mg x = some (.ref C)) (kC : PySem.W.keepIn X.K (.ref C) = true) (r : Raises X (.ref C)) (hg : Gl X x)
    (hdb : (x == ("__debug__" : Str)) = false) : PMk X (.Call (.Name x p) [] [] pos) (fun _ H Q => Q (.ref C) none H) := by
  intro pins s σ H Q I h
  refine wpAny_Call_Name_kw (ld_glob I hg gC (PySem.W.callWith_K0 I.kIn kC ?_) hdb)
  obtain ⟨bm, N, nm, qn, bs, hdct, sn, sub, ab, col, dd, k0, k1, k2, k3, k5, mN, hC, hN, hni, T⟩ := exc_obj I.kIn q
  exact wpAny_call_exc_subT F T hC hN hni (fun h' e hm => mk_of I hm r h (I.hok.gone hm.new)) (by simp)
/-- a class of errors without an __init__ of its own -/
structure Exc0 (K : Frag) (mg : Str → Option Value) (x : Str) : Prop where
  g : mg x = some (.ref (He.ga K x))
  ex : PySem.W.excIn K (He.ga K x) He.veBase "ValueError.__new__" = true
  kp : PySem.W.keepIn K (.ref (He.ga K x)) = true
  sub : PySem.W.subIn K (.ref (He.ga K x)) (.type "BaseException") = some true
  ty : PySem.W.typeIn K (.ref (He.ga K x)) = some (.type "type")
theorem ds_raise0 {pos' : Pos} (T : Exc0 X.K X.mg x) (hc : X.calm = true) (tk : Takes X W) (hg : Gl X x := by rfl) (hdb : (x == ("__debug__" : Str)) = false := by decide) : DS X W (.Raise (some (.Call (.Name x p) [] [] pos)) none pos') (fun δ c => .exc x [] [] δ c) :=
  ⟨_, ps_raise hc tk (pmk_own0 PySem.F.excBase_ValueError T.ex T.g T.kp (raises_own T.sub T.ty) hg hdb), fun Z R F δ c σ H E w rs h => h R F H σ none (List.prefix_refl _) (Same.refl _) w rs .none⟩
end

/-! ### an error class whose __init__ keeps its arguments -/
def spX (C : Addr) (ns : List Str) : Sp := fun vs H Q _ => ∃ a ws, vs = .ref a :: ws ∧ ws.length = ns.length ∧ H a = some (exo a C none) ∧
  ∀ d H', H d = none → d ≠ a → H' a = some (exo a C (some d)) → H' d = some (exd d (ns.zip ws).reverse) → (∀ b, b ≠ a → b ≠ d → H' b = H b) → Q .non H'
section
variable {P : Program} {w : World} {K : PySem.W.Frag} {mg : Str → Option Value} {base : Heap} {qual : Str} {params : Arguments} {scope : Scope} {f C : Addr} {fd : FuncData} {CX : CXT} {y z : Str} {p1 p2 p3 p4 q1 q2 q3 q4 : Pos}
theorem vis_of {N ps : List Str} {sc : Scope} (S : FnScope N ps sc) {u : Str} (h : u ∈ ps) : Vis sc u := by
  rcases S.par u h with e | e
  · exact .inl e
  · exact .inr (.inl e)
theorem exc_init1 (Fn : FunD K "__init__" qual params [.Assign [.Attribute (.Name "self" p1) y p2] (.Name y p3) p4] scope [] [] f fd) (S : FnScope ["self", y] ["self", y] scope) (T : OexC K C) (hno : PySem.W.findIn K (.ref C) y = some none)
    (hd : (y == ("__debug__" : Str)) = false := by decide) (hc : (y == ("__classdict__" : Str)) = false := by decide) : FnOk P w K mg base CX 1 f fd ["self", y] (spX C [y]) := by
  refine Fn.ok S ?_ ?_
  · rintro vs H Q E ⟨a, ws, rfl, hl, _⟩
    rw [List.length_cons, hl]; rfl
  · rintro cdv A outer s H vs Q E hr ⟨a, ws, rfl, hl, ha, k⟩
    match ws, hl with
    | [v], _ =>
      refine ⟨_, pss_one (ps_ost (pe_var (i := 0) rfl (vis_of S (by simp)) (by decide) (by decide)) (pe_var (i := 1) rfl (vis_of S (by simp)) hd hc)), ?_⟩
      refine ⟨_, rfl, _, rfl, a, C, rfl, T, hno, .inl ⟨ha, fun d hd' ne => ?_⟩⟩
      refine k d _ hd' ne upd_same (by rw [upd_ne ne, upd_same]; rfl) fun b h1 h2 => ?_
      rw [upd_ne h1, upd_ne h2]
theorem exc_init2 (Fn : FunD K "__init__" qual params [.Assign [.Attribute (.Name "self" p1) y p2] (.Name y p3) p4, .Assign [.Attribute (.Name "self" q1) z q2] (.Name z q3) q4] scope [] [] f fd) (S : FnScope ["self", y, z] ["self", y, z] scope) (T : OexC K C)
    (hno : PySem.W.findIn K (.ref C) y = some none) (hnz : PySem.W.findIn K (.ref C) z = some none) (hd : (y == ("__debug__" : Str)) = false := by decide) (hc : (y == ("__classdict__" : Str)) = false := by decide)
    (hd2 : (z == ("__debug__" : Str)) = false := by decide) (hc2 : (z == ("__classdict__" : Str)) = false := by decide) : FnOk P w K mg base CX 1 f fd ["self", y, z] (spX C [y, z]) := by
  refine Fn.ok S ?_ ?_
  · rintro vs H Q E ⟨a, ws, rfl, hl, _⟩
    rw [List.length_cons, hl]; rfl
  · rintro cdv A outer s H vs Q E hr ⟨a, ws, rfl, hl, ha, k⟩
    match ws, hl with
    | [v, u], _ =>
      refine ⟨_, pss_cons (ps_ost (pe_var (i := 0) rfl (vis_of S (by simp)) (by decide) (by decide)) (pe_var (i := 1) rfl (vis_of S (by simp)) hd hc))
        (pss_one (ps_ost (pe_var (i := 0) rfl (vis_of S (by simp)) (by decide) (by decide)) (pe_var (i := 2) rfl (vis_of S (by simp)) hd2 hc2))), ?_⟩
      refine ⟨_, rfl, _, rfl, a, C, rfl, T, hno, .inl ⟨ha, fun d hd' ne => ?_⟩⟩
      refine ⟨_, rfl, _, rfl, a, C, rfl, T, hnz, .inr ⟨d, [(y, v)], upd_same, by rw [upd_ne ne, upd_same], by show 1 ≤ 900; decide, ?_⟩⟩
      refine k d _ hd' ne (by rw [upd_ne (Ne.symm ne), upd_same]) (by rw [upd_same]; rfl) fun b h1 h2 => ?_
      rw [upd_ne h2, upd_ne h1, upd_ne h2]
end
/-- the class of errors named x, its fields ns in the order of its parameters -/
structure ExcN (X : Cx) (k : Nat) (x : Str) (ns : List Str) : Prop where
  g : X.mg x = some (.ref (He.ga X.K x))
  T : OexC X.K (He.ga X.K x)
  ini : ∃ f fd ps, PySem.W.findIn X.K (.ref (He.ga X.K x)) "__init__" = some (some (.ref f)) ∧ PySem.W.typeIn X.K (.ref f) = some (.type "function") ∧ FnOk X.prog X.w X.K X.mg X.base (L2.CX X.prog X.w) k f fd ps (spX (He.ga X.K x) ns) ∧ Binds X.K fd ps []
theorem zip_reverse {α β : Type} : ∀ {l : List α} {m : List β}, l.length = m.length → (l.zip m).reverse = l.reverse.zip m.reverse
  | [], [], _ => rfl
  | a :: l, b :: m, h => by
    have h : l.length = m.length := by simpa using h
    show ((a, b) :: l.zip m).reverse = (a :: l).reverse.zip (b :: m).reverse
    rw [List.reverse_cons, List.reverse_cons, List.reverse_cons, List.zip_append (by rw [List.length_reverse, List.length_reverse]; exact h), zip_reverse h]
    rfl
theorem RelL.reverse {K : Frag} {R : List Addr} {F : Hp} : ∀ {vs : List V} {ds : List D}, RelL K R F vs ds → RelL K R F vs.reverse ds.reverse
  | _, _, .nil => .nil
  | _, _, .cons h t => by
    rw [List.reverse_cons, List.reverse_cons]
    exact t.reverse.append (.cons h .nil)
section
variable {X : Cx} {W : WX} {x : Str} {k : Nat} {p pos pos' : Pos} {e : Expr} {es : List Expr} {ma : MA} {ns : List Str}
def mRaise (x : Str) (ns : List Str) (ma : MA) : MS := fun δ c => (ma δ c).fl δ fun ds c1 => if ds.length = ns.length ∧ ds.length ≤ 1000 then .exc x ns.reverse ds.reverse δ c1 else .bad
theorem ds_raise (T : ExcN X k x ns) (hr : Room (k + 1) X.A) (hc : X.calm = true) (tk : Takes X W) (ha : DA X W (e :: es) ma) (hg : Gl X x := by rfl) (hdb : (x == ("__debug__" : Str)) = false := by decide)
    (he : starEach (e :: es) X.env = (false, eval e X.env) :: starEach es X.env := by rfl) (hpl : (backTo pos (starEach es X.env)).any (·.1) = false := by rfl) :
    DS X W (.Raise (some (.Call (.Name x p) (e :: es) [] pos)) none pos') (mRaise x ns ma) := by
  obtain ⟨t, pa, sa⟩ := ha.ex
  obtain ⟨f, fd, ps, h1, h2, G, hb⟩ := T.ini
  refine ⟨_, ps_raise hc tk (pmk_oex T.T h1 h2 G hr hb .nil passL hg T.g pa hdb he hpl), fun Z R F δ c σ H E w rs h => sa Z R F δ c σ H _ w rs ((AftS.fl rs h).imp ?_)⟩
  rintro R1 F1 ds c1 H1 p1 e1 w1 ⟨_, _, _, h1⟩ vs rv
  split at h1
  · rename_i hl
    refine ⟨by rw [rv.length]; exact hl.2, fun a na => ⟨a, vs, by rw [List.append_nil], by rw [rv.length]; exact hl.1, upd_same, fun d H' nd ne h3 h4 h5 => ?_⟩⟩
    have nd1 : H1 d = none := by rw [upd_ne ne] at nd; exact nd
    refine ⟨rfl, d, _, h3, h4, nd1, ?_⟩
    have eH : upd (del H' a) d (.xd (ns.zip vs).reverse) = upd H1 d (.xd (ns.zip vs).reverse) := by
      funext b
      by_cases hb : b = d
      · subst hb; rw [upd_same, upd_same]
      · rw [upd_ne hb, upd_ne hb]
        by_cases hba : b = a
        · subst hba; rw [del_same, na]
        · rw [del_ne hba, h5 b hba hb, upd_ne hba]
    rw [eH]
    obtain ⟨w2, s2⟩ := w1.frozen nd1 (.xd (ns.zip vs).reverse)
    have hlv : ns.length = vs.length := by rw [rv.length]; exact hl.1.symm
    refine h1 _ _ _ σ (some d) (List.prefix_refl _) s2 w2 ((rs.mono p1 e1).mono (List.prefix_refl _) s2) (.some (vs := vs.reverse) ?_ (by rw [List.length_reverse, List.length_reverse]; exact hlv) ((rv.mono (List.prefix_refl _) s2).reverse))
    rw [upd_same, zip_reverse hlv]
  · exact h1.elim
end

/-! ### try -/
def noExc : Fl → Fl
  | .exc _ _ _ _ _ => .bad
  | o => o
theorem noExc_aft {K : Frag} {Z : Hp} {W : WX} {R : List Addr} {F : Hp} {o : Fl} {E : Ends} (h : AftS K Z W R F (noExc o) E) : AftS K Z W0 R F o E := by
  cases o with
  | exc => exact h.elim
  | nx => exact h
  | rt => exact h
  | bk => exact h
  | ct => exact h
  | bad => exact h
/-- the clauses: which classes each takes (told class by class), what its suite does -/
def tryGo : List (List (Str × Bool) × MS) → Str → List Str → List D → MS
  | [], k, ns, ds, δ, c => .exc k ns ds δ c
  | (t, ms) :: r, k, ns, ds, δ, c => match t.lookup k with
    | some true => noExc (ms δ c)
    | some false => tryGo r k ns ds δ c
    | none => .bad
def mTry (mb : MS) (hs : List (List (Str × Bool) × MS)) : MS := fun δ c => match mb δ c with
  | .exc k ns ds δ1 c1 => tryGo hs k ns ds δ1 c1
  | o => o
/-- the class named x in a clause takes, or does not take, the classes of t -/
def ExmOk (K : Frag) (x : Str) (t : List (Str × Bool)) : Prop := ∀ k b, t.lookup k = some b → PySem.W.exmOne K (.ref (He.ga K k)) (.ref (He.ga K x)) = some b
section
variable {X : Cx} {W : WX} {body : List Stmt} {mb : MS} {pos : Pos}
theorem tr_body (h : ∀ (W' : WX) (pn : List (Addr × Obj)) (xe : Value → Shared → Prop), Takes (X.tr pn xe) W' → PassesOwn (model X.prog X.w) X.A X.env xe → DSs (X.tr pn xe) W' body mb) :
    ∃ tb : WX → TS, (∀ (W' : WX) (pn : List (Addr × Obj)) (xe : Value → Shared → Prop), Takes (X.tr pn xe) W' → PassesOwn (model X.prog X.w) X.A X.env xe → PSs (X.tr pn xe) body (tb W')) ∧
      ∀ W' Z R F δ c σ H E, Wd X.K Z R F c H → RelS X.K R F δ σ → AftS X.K Z W' R F (mb δ c) E → tb W' E σ H := by
  refine ⟨fun W' E σ H => ∀ pn xe (h1 : Takes (X.tr pn xe) W') (h2 : PassesOwn (model X.prog X.w) X.A X.env xe), Classical.choose (h W' pn xe h1 h2).ex E σ H,
    fun W' pn xe h1 h2 => ⟨fun pins s σ H E I z => (Classical.choose_spec (h W' pn xe h1 h2).ex).1.run pins s σ H E I (z pn xe h1 h2)⟩, ?_⟩
  intro W' Z R F δ c σ H E w rs a pn xe h1 h2
  exact (Classical.choose_spec (h W' pn xe h1 h2).ex).2 Z R F δ c σ H E w rs a
inductive HdsD (X : Cx) : List ExceptHandler → List (List (Str × Bool) × MS) → Prop
  | nil : HdsD X [] []
  | cons {x : Str} {t : List (Str × Bool)} {ms : MS} {b₀ : Stmt} {suite : List Stmt} {np pos' : Pos} {hds : List ExceptHandler} {l : List (List (Str × Bool) × MS)} (hg : Gl X x) (hdb : (x == ("__debug__" : Str)) = false) (hm : X.mg x = some (.ref (He.ga X.K x))) (ht : ExmOk X.K x t)
      (hsu : ∀ (a : Addr) (oe : Obj) (pn : List (Addr × Obj)), DSs (X.suite a ((a, oe) :: pn)) W0 (b₀ :: suite) ms) (r : HdsD X hds l) :
      HdsD X (.ExceptHandler (some (.Name x np)) none (b₀ :: suite) pos' :: hds) ((t, ms) :: l)
theorem hds_read {hds : List ExceptHandler} {l : List (List (Str × Bool) × MS)} (h : HdsD X hds l) : ∃ l', HdsOk X hds l' ∧ ∀ (Z : Hp) (R : List Addr) (F : Hp) (δ : En) (c : Cells) (σ : St) (H : Hp) (E : Ends) (k : Str) (ns : List Str) (ds : List D) (x : Option Addr), Wd X.K Z R F c H → RelS X.K R F δ σ → XR X.K R F ns ds x →
    AftS X.K Z W R F (tryGo l k ns ds δ c) E → wMany X.K W E l' (.ref (He.ga X.K k)) x σ H := by
  induction h with
  | nil => exact ⟨[], .nil, fun Z R F δ c σ H E k ns ds x w rs xr h => h R F H σ x (List.prefix_refl _) (Same.refl _) w rs xr⟩
  | @cons x t ms b₀ suite np pos' hds l hg hdb hm ht hsu r ih =>
    obtain ⟨l', ok, ih⟩ := ih
    have su : ∃ ts : TS, (∀ (a : Addr) (oe : Obj) (pn : List (Addr × Obj)), PSs (X.suite a ((a, oe) :: pn)) (b₀ :: suite) ts) ∧ ∀ Z R F δ c σ H E, Wd X.K Z R F c H → RelS X.K R F δ σ → AftS X.K Z W0 R F (ms δ c) E → ts E σ H := by
      refine ⟨fun E σ H => ∀ a oe pn, Classical.choose (hsu a oe pn).ex E σ H, fun a oe pn => ⟨fun pins s σ H E I z => (Classical.choose_spec (hsu a oe pn).ex).1.run pins s σ H E I (z a oe pn)⟩, ?_⟩
      intro Z R F δ c σ H E w rs q a oe pn
      exact (Classical.choose_spec (hsu a oe pn).ex).2 Z R F δ c σ H E w rs q
    obtain ⟨ts, pts, sts⟩ := su
    refine ⟨(.ref (He.ga X.K x), fun _ _ _ => ts) :: l', .cons ⟨hg, hdb, .inl hm⟩ (fun a oe cls d pn _ _ => pts a oe pn) ok, ?_⟩
    intro Z R F δ c σ H E k ns ds y w rs xr h
    unfold tryGo at h
    cases e : t.lookup k with
    | none => rw [e] at h; exact h.elim
    | some b =>
      rw [e] at h
      refine ⟨b, ht k b e, fun hb a na => ?_, fun hb => ?_⟩
      · subst hb
        exact sts Z R F δ c σ H E w rs (noExc_aft h)
      · subst hb
        exact ih Z R F δ c σ H E k ns ds y w rs xr h
/-- try .. except C: .. (clauses without 'as') -/
theorem ds_try {h₀ : ExceptHandler} {hds : List ExceptHandler} {l : List (List (Str × Bool) × MS)} (hs : X.stack = X.env :: X.outer) (hf : X.env.frame = some X.env.locals) (tk : Takes X W)
    (hb : ∀ (W' : WX) (pn : List (Addr × Obj)) (xe : Value → Shared → Prop), Takes (X.tr pn xe) W' → PassesOwn (model X.prog X.w) X.A X.env xe → DSs (X.tr pn xe) W' body mb) (hh : HdsD X (h₀ :: hds) l) :
    DS X W (.Try body (h₀ :: hds) [] [] pos) (mTry mb l) := by
  obtain ⟨tb, ptb, stb⟩ := tr_body hb
  obtain ⟨l', ok, sl⟩ := hds_read (W := W) hh
  refine ⟨_, ps_try_many hs hf tk ptb ok, fun Z R F δ c σ H E w rs h => stb _ Z R F δ c σ H E w rs ?_⟩
  unfold mTry at h
  cases e : mb δ c with
  | exc k ns ds δ1 c1 =>
    rw [e] at h
    intro R' F' H' σ' x p1 e1 w1 rs1 xr
    exact sl Z R' F' δ1 c1 σ' H' E k ns ds x w1 rs1 xr (AftS.mono p1 e1 h)
  | nx => rw [e] at h; exact h
  | rt => rw [e] at h; exact h
  | bk => rw [e] at h; exact h
  | ct => rw [e] at h; exact h
  | bad => rw [e] at h; exact h
end
end Nw

set_option Elab.async false
set_option linter.all false
set_option maxRecDepth 100000
set_option maxHeartbeats 4000000
/-! Nw7: operators, built-in calls, subscripts. -/
namespace Nw
open PySem PySem.Spec
open PyProof.Rows hiding St
open L2
variable [TheW]

section
variable {K : Frag} {Z : Hp} {R : List Addr} {F : Hp} {c : Cells} {H : Hp} {v : V} {d : D}
/-- the items of a list -/
def lstOf (c : Cells) : D → Option (List D)
  | .lst ds => some ds
  | .scr ds => some ds
  | .cell i => match c[i]? with
    | some (.lst ds) => some ds
    | _ => none
  | _ => none
theorem lstOf_cell {i : Nat} {ds : List D} (h : lstOf c (.cell i) = some ds) : c[i]? = some (.lst ds) := by
  simp only [lstOf] at h
  split at h
  · rename_i q
    cases h
    exact q
  · cases h
theorem Wd.list {ds : List D} (w : Wd K Z R F c H) (r : Rel K R F v d) (e : lstOf c d = some ds) : ∃ a vs, v = .ref a ∧ SqL K H a vs ∧ RelL K R F vs ds := by
  cases r with
  | lst h l => cases e; exact ⟨_, _, rfl, SqL.of (w.same _ _ h), l⟩
  | scr h l => cases e; exact ⟨_, _, rfl, h.ext w.same, l⟩
  | cell h =>
    obtain ⟨vs, q, l⟩ := w.atList h (lstOf_cell e)
    exact ⟨_, vs, rfl, SqL.of q, l⟩
  | _ => cases e
theorem Wd.seq {ds : List D} (w : Wd K Z R F c H) (r : Rel K R F v d) (e : items c d = some ds) : ∃ a vs, v = .ref a ∧ RelL K R F vs ds ∧ (SqL K H a vs ∨ SqT K H a vs) := seqAt_list w r e
end

/-! ### operators that give ints, bools, texts -/
section
variable {X : Cx}
theorem opI_s {g : Value → Value → Sem Value} {C : Int → Int → Prop} [∀ i j, Decidable (C i j)] {f : Int → Int → V} {h : Int → Int → D} (ho : OpR X g (rI C f)) (hr : ∀ i j K R F, Rel K R F (f i j) (h i j)) :
    OpS X g (fun d e c => match d, e with
      | .int i, .int j => if C i j then .ok (h i j) c else .bad
      | _, _ => .bad) := by
  refine ⟨_, ho, fun Z W R F c σ H x y d e Q w rx ry q => ?_⟩
  cases rx with
  | int i =>
    cases ry with
    | int j =>
      by_cases hc : C i j
      · have q : Aft X.K Z W R F σ (if C i j then .ok (h i j) c else .bad) (QV X.K Q) := q
        rw [if_pos hc] at q
        exact ⟨i, j, rfl, rfl, hc, q.ok w _ (hr i j _ _ _)⟩
      · have q : Aft X.K Z W R F σ (if C i j then .ok (h i j) c else .bad) (QV X.K Q) := q
        rw [if_neg hc] at q
        exact q.elim
    | _ => exact q.elim
  | _ => exact q.elim
theorem opI0_s {g : Value → Value → Sem Value} {f : Int → Int → V} {h : Int → Int → D} (ho : OpR X g (rI0 f)) (hr : ∀ i j K R F, Rel K R F (f i j) (h i j)) :
    OpS X g (fun d e c => match d, e with
      | .int i, .int j => .ok (h i j) c
      | _, _ => .bad) := by
  refine ⟨_, ho, fun Z W R F c σ H x y d e Q w rx ry q => ?_⟩
  cases rx with
  | int i =>
    cases ry with
    | int j =>
      have q : Aft X.K Z W R F σ (.ok (h i j) c) (QV X.K Q) := q
      exact ⟨i, j, rfl, rfl, q.ok w _ (hr i j _ _ _)⟩
    | _ => exact q.elim
  | _ => exact q.elim
def subD : O2 := fun d e c => match d, e with
  | .int i, .int j => .ok (.int (i - j)) c
  | _, _ => .bad
theorem os_sub : OpS X (binaryOp .Sub) subD := opI0_s (h := fun i j => .int (i - j)) op_sub fun _ _ _ _ _ => .int _
instance : ∀ i j, Decidable (CDiv i j) := fun i j => by unfold CDiv; infer_instance
instance : ∀ i j, Decidable (CPow i j) := fun i j => by unfold CPow; infer_instance
instance : ∀ i j, Decidable (CMul i j) := fun i j => by unfold CMul; infer_instance
def fdivD : O2 := fun d e c => match d, e with
  | .int i, .int j => if CDiv i j then .ok (.int (i / j)) c else .bad
  | _, _ => .bad
theorem os_fdiv : OpS X (binaryOp .FloorDiv) fdivD := opI_s (h := fun i j => .int (i / j)) op_fdiv fun _ _ _ _ _ => .int _
def modD : O2 := fun d e c => match d, e with
  | .int i, .int j => if 0 < j then .ok (.int (i % j)) c else .bad
  | _, _ => .bad
theorem os_mod : OpS X (binaryOp .Mod) modD := opI_s (C := fun _ j => 0 < j) (h := fun i j => .int (i % j)) op_mod fun _ _ _ _ _ => .int _
def powD : O2 := fun d e c => match d, e with
  | .int i, .int j => if CPow i j then .ok (.int (i ^ j.toNat)) c else .bad
  | _, _ => .bad
theorem os_pow : OpS X (binaryOp .Pow) powD := opI_s (h := fun i j => .int (i ^ j.toNat)) op_pow fun _ _ _ _ _ => .int _
def ltD : O2 := fun d e c => match d, e with
  | .int i, .int j => .ok (.bl (decide (i < j))) c
  | _, _ => .bad
theorem os_lt : OpS X (compareOp .Lt) ltD := opI0_s (h := fun i j => .bl (decide (i < j))) op_lt fun _ _ _ _ _ => .bl _
def leD : O2 := fun d e c => match d, e with
  | .int i, .int j => .ok (.bl (decide (i ≤ j))) c
  | _, _ => .bad
theorem os_le : OpS X (compareOp .LtE) leD := opI0_s (h := fun i j => .bl (decide (i ≤ j))) op_le fun _ _ _ _ _ => .bl _
def gtD : O2 := fun d e c => match d, e with
  | .int i, .int j => .ok (.bl (decide (j < i))) c
  | _, _ => .bad
theorem os_gt : OpS X (compareOp .Gt) gtD := opI0_s (h := fun i j => .bl (decide (j < i))) op_gt fun _ _ _ _ _ => .bl _
def geD : O2 := fun d e c => match d, e with
  | .int i, .int j => .ok (.bl (decide (j ≤ i))) c
  | _, _ => .bad
theorem os_ge : OpS X (compareOp .GtE) geD := opI0_s (h := fun i j => .bl (decide (j ≤ i))) op_ge fun _ _ _ _ _ => .bl _
/-! is None -/
def isN (d : D) : Bool := match d with
  | .non => true
  | _ => false
theorem isN_rel {K : Frag} {R : List Addr} {F : Hp} {v : V} {d : D} (r : Rel K R F v d) : decide (v = .non) = isN d := by
  cases r <;> first | rfl | (simp [isN])
def isD : O2 := fun d e c => match e with
  | .non => .ok (.bl (isN d)) c
  | _ => .bad
def isnotD : O2 := fun d e c => match e with
  | .non => .ok (.bl (!isN d)) c
  | _ => .bad
theorem os_is : OpS X (compareOp .Is) isD := by
  refine ⟨_, op_isN, fun Z W R F c σ H x y d e Q w rx ry q => ?_⟩
  cases ry with
  | non =>
    refine ⟨rfl, ?_⟩
    rw [isN_rel rx]
    have q : Aft X.K Z W R F σ (.ok (.bl (isN d)) c) (QV X.K Q) := q
    exact q.ok w _ (.bl _)
  | _ => exact q.elim
theorem os_isnot : OpS X (compareOp .IsNot) isnotD := by
  refine ⟨_, op_notN, fun Z W R F c σ H x y d e Q w rx ry q => ?_⟩
  cases ry with
  | non =>
    refine ⟨rfl, ?_⟩
    rw [isN_rel rx]
    have q : Aft X.K Z W R F σ (.ok (.bl (!isN d)) c) (QV X.K Q) := q
    exact q.ok w _ (.bl _)
  | _ => exact q.elim

/-! ### + -/
def rCatS (K : Frag) : R2 := fun x y H Q => ∃ l b xs zs, x = .ref l ∧ y = .ref b ∧ SqL K H l xs ∧ SqL K H b zs ∧ xs.length + zs.length ≤ sizeLine ∧ ∀ p, H p = none → Q (.ref p) (upd H p (.lst (xs ++ zs)))
open MeetsSeq MeetsSeq2 MeetsSeq3 SeqRoads2 in
theorem meets_cat (l : Addr) (items : Array Value) (n : Nat) (sl : Array (Option Value)) (b : Addr) (items2 : Array Value) (n2 : Nat) (sl2 : Array (Option Value)) (hc0 : items.size + items2.size ≤ sizeLine) :
    Meets (Builtin.«list.__add__» ⟨[.ref l, .ref b], []⟩) (fun _ R s => s.heap.get? l = some { cls := .type "list", dict := none, data := .seq items n, slots := sl } ∧ s.heap.get? b = some { cls := .type "list", dict := none, data := .seq items2 n2, slots := sl2 } ∧ R (.ok (.ret (.ref s.heap.objs.size))) { s with heap := s.heap.push { cls := .type "list", data := .seq (items ++ items2) } }) :=
  .of_wp fun prog w A R s h => by
    obtain ⟨hp, g, d, tk, os⟩ := s
    obtain ⟨hl, hb, h⟩ := h
    have f3 := AutoSeq1.sub_list_list
    wp_walk using AutoSeq1.wpAny_loadPart' hl, AutoSeq1.wpAny_loadPart' hb
    exact ⟨_, rfl, h⟩
theorem op_catS : OpR X (binaryOp .Add) (rCatS X.K) := by
  intro pins s σ H x y v u Q I rx ry h
  obtain ⟨l, b, xs, zs, rfl, rfl, hl, hb, hz, q⟩ := h
  cases rx
  cases ry
  obtain ⟨its, r1, ⟨⟨c1, d1, k1, s1⟩, n1, g1, j1, j2, j3⟩, _⟩ := I.list hl
  obtain ⟨its2, r2, ⟨⟨c2, d2, k2, s2⟩, n2, g2, j4, j5, j6⟩, _⟩ := I.list hb
  dsimp only at j1 j2 j3 j4 j5 j6
  subst j1 j2 j3 j4 j5 j6
  have e1 := r1.length
  have e2 := r2.length
  refine PySem.concat_meets ⟨_, g1, rfl⟩ ⟨_, g2, rfl⟩ PySem.noFill_list_add PySem.seq_list_add PySem.F.slot_list_add PySem.F.entry_list_add (PySem.F.args_list_add_2 _ _) (meets_cat l its.toArray n1 s1 b its2.toArray n2 s2 (by rw [List.size_toArray, List.size_toArray, ← e1, ← e2]; exact hz)) ⟨g1, g2, ?_⟩
  rw [show its.toArray ++ its2.toArray = (its ++ its2).toArray by simp]
  exact ⟨.ref _, _, I.lnew (t' := s.toks) (r1.append r2) (by rw [List.length_append]; exact hz), rfl, q _ I.fresh⟩
/-- what a sum of two sequences is; new: how a new list is laid -/
def addG (new : List D → Cells → Out D) : O2 := fun d e c => match d, e with
  | .int i, .int j => .ok (.int (i + j)) c
  | .str a, .str b => if a.length + b.length ≤ sizeLine then .ok (.str (a ++ b)) c else .bad
  | .tup l, .tup m => if l.length + m.length ≤ sizeLine then .ok (.tup (l ++ m)) c else .bad
  | d, e => match lstOf c d, lstOf c e with
    | some l, some m => new (l ++ m) c
    | _, _ => .bad
def addD : O2 := addG lstD
def addC : O2 := addG lstC
def NewL (X : Cx) (new : List D → Cells → Out D) : Prop := ∀ (Z : Hp) (W : WX) (R : List Addr) (F : Hp) (σ : St) (c : Cells) (H : Hp) (ds : List D) (vs : List V) (Q : VK), Wd X.K Z R F c H → RelL X.K R F vs ds → Aft X.K Z W R F σ (new ds c) (QV X.K Q) → vs.length ≤ sizeLine ∧ ∀ p, H p = none → Q (.ref p) (upd H p (.lst vs))
theorem newL : NewL X lstD := fun Z W R F σ c H ds vs Q w r h => new_lst w r h
theorem newC : NewL X lstC := fun Z W R F σ c H ds vs Q w r h => new_lstC w r h
theorem RelL.nil_iff {K : Frag} {R : List Addr} {F : Hp} {vs : List V} {ds : List D} (r : RelL K R F vs ds) : vs = [] ↔ ds = [] := by
  cases r with
  | nil => simp
  | cons => simp
theorem os_addG {new : List D → Cells → Out D} (hn : NewL X new) : OpS X (binaryOp .Add) (addG new) := by
  refine ⟨_, OpR.or (OpR.or op_add op_add_str) (OpR.or op_catA op_catS), fun Z W R F c σ H x y d e Q w rx ry q => ?_⟩
  by_cases hl : ∃ l m, lstOf c d = some l ∧ lstOf c e = some m
  · obtain ⟨l, m, h1, h2⟩ := hl
    obtain ⟨a, vs, rfl, q1, r1⟩ := w.list rx h1
    obtain ⟨b, us, rfl, q2, r2⟩ := w.list ry h2
    have q' : Aft X.K Z W R F σ (new (l ++ m) c) (QV X.K Q) := by
      unfold addG at q
      cases d with
      | lst => simpa [h1, h2] using q
      | scr => simpa [h1, h2] using q
      | cell => simpa [h1, h2] using q
      | _ => cases h1
    obtain ⟨z1, z2⟩ := hn Z W R F σ c H _ _ Q w (r1.append r2) q'
    exact .inr (.inr ⟨a, b, vs, us, rfl, rfl, q1, q2, by rw [← List.length_append]; exact z1, z2⟩)
  · have hb : (match lstOf c d, lstOf c e with
        | some l, some m => new (l ++ m) c
        | _, _ => .bad) = .bad := by
      cases h1 : lstOf c d with
      | none => rfl
      | some l =>
        cases h2 : lstOf c e with
        | none => rfl
        | some m => exact absurd ⟨l, m, h1, h2⟩ hl
    unfold addG at q
    split at q
    · cases rx; cases ry
      exact .inl (.inl ⟨_, _, rfl, rfl, q.ok w _ (.int _)⟩)
    · cases rx; cases ry
      split at q
      · rename_i hz
        exact .inl (.inr ⟨_, _, rfl, rfl, hz, q.ok w _ (.str _)⟩)
      · exact q.elim
    · rename_i l m
      cases rx with
      | @tup a vs _ h1 r1 =>
        cases ry with
        | @tup b us _ h2 r2 =>
          split at q
          · rename_i hz
            refine .inr (.inl ⟨a, b, vs, us, rfl, rfl, h1.ext w.same, h2.ext w.same, by rw [r1.length, r2.length]; exact hz, fun e1 => ?_, fun e1 e2 => ?_, fun e1 e2 p n => ?_⟩)
            · have := r1.nil_iff.mp e1
              subst this
              exact q.ok w _ (.tup h2 r2)
            · have := r2.nil_iff.mp e2
              subst this
              rw [List.append_nil] at q
              exact q.ok w _ (.tup h1 r1)
            · obtain ⟨w2, s2⟩ := w.frozen n (.tup (vs ++ us))
              exact q _ _ _ (List.prefix_refl _) s2 w2 _ (.tup (SqT.of upd_same) ((r1.append r2).mono (List.prefix_refl _) s2))
          · exact q.elim
    · rw [hb] at q
      exact q.elim
theorem os_add : OpS X (binaryOp .Add) addD := os_addG newL
theorem os_addC : OpS X (binaryOp .Add) addC := os_addG newC

/-! ### * -/
theorem fold_size (a : Array Nat) : ∀ (n : Nat) (b : Array Nat), ((List.replicate n a).foldl (· ++ ·) b).size = b.size + n * a.size
  | 0, b => by simp
  | n + 1, b => by
    rw [List.replicate_succ, List.foldl_cons, fold_size a n, Array.size_append, Nat.succ_mul]
    omega
def repS (x : Str) (n : Nat) : Str := ⟨(List.replicate n x.cps).foldl (· ++ ·) #[]⟩
theorem op_mul_str : OpR X (binaryOp .Mult) (fun x y H Q => ∃ a i, x = .str a ∧ y = .int i ∧ 2 ≤ i ∧ i < 1000000 ∧ 0 < a.length ∧ a.length < 10 ∧ Q (.str (repS a i.toNat)) H) := by
  intro pins s σ H x y v u Q I rx ry h
  obtain ⟨a, i, rfl, rfl, h1, h2, h3, h4, q⟩ := h
  obtain ⟨t, rfl⟩ := rx
  obtain ⟨t2, rfl⟩ := ry
  refine PySem.P.mul_str (by rw [decide_eq_false (by omega), decide_eq_false (by omega)]; rfl) (fun _ _ => ?_) (fun _ _ => ?_) ?_
  · have hd : (10 : Int) ≤ (2 ^ 63 - 1) / i := by
      rw [Int.le_ediv_iff_mul_le (by omega)]
      omega
    omega
  · show decide (a.length * i.toNat > sizeLine) = false
    refine decide_eq_false ?_
    rw [sizeLine_eq]
    have : a.length * i.toNat ≤ 9 * i.toNat := Nat.mul_le_mul_right _ (by omega)
    omega
  · have h6 : (i == 1 || a.length == 0) = false := by
      rw [Bool.or_eq_false_iff]
      exact ⟨beq_eq_false_iff_ne.mpr (by omega), beq_eq_false_iff_ne.mpr (by omega)⟩
    rw [if_neg (by omega), if_neg (by rw [h6]; decide)]
    refine ⟨?_, .str _, H, I.tok _, ⟨_, rfl⟩, q⟩
    show (Str.length ⟨(List.replicate i.toNat a.cps).foldl (· ++ ·) #[]⟩) ≤ sizeLine
    show ((List.replicate i.toNat a.cps).foldl (· ++ ·) #[]).size ≤ sizeLine
    rw [fold_size, sizeLine_eq]
    have h7 : a.cps.size < 10 := h4
    have : i.toNat * a.cps.size ≤ i.toNat * 9 := Nat.mul_le_mul_left _ (by omega)
    have h8 : (#[] : Array Nat).size = 0 := rfl
    omega
def mulD : O2 := fun d e c => match d, e with
  | .int i, .int j => if CMul i j then .ok (.int (i * j)) c else .bad
  | .str a, .int i => if 2 ≤ i ∧ i < 1000000 ∧ 0 < a.length ∧ a.length < 10 then .ok (.str (repS a i.toNat)) c else .bad
  | _, _ => .bad
theorem os_mul : OpS X (binaryOp .Mult) mulD := by
  refine ⟨_, OpR.or op_mul op_mul_str, fun Z W R F c σ H x y d e Q w rx ry q => ?_⟩
  unfold mulD at q
  split at q
  · cases rx; cases ry
    split at q
    · rename_i hc
      exact .inl ⟨_, _, rfl, rfl, hc, q.ok w _ (.int _)⟩
    · exact q.elim
  · cases rx; cases ry
    split at q
    · rename_i hc
      exact .inr ⟨_, _, rfl, rfl, hc.1, hc.2.1, hc.2.2.1, hc.2.2.2, q.ok w _ (.str _)⟩
    · exact q.elim
  · exact q.elim

/-! ### in, not in -/
def flatD : D → Bool
  | .non => true
  | .bl _ => true
  | .int _ => true
  | .str _ => true
  | _ => false
def eqFl : D → D → Bool
  | .non, .non => true
  | .bl a, .bl b => a == b
  | .bl a, .int b => (if a then 1 else 0) == b
  | .int a, .bl b => a == (if b then 1 else 0)
  | .int a, .int b => a == b
  | .str a, .str b => a == b
  | _, _ => false
theorem flat_rel {K : Frag} {R : List Addr} {F : Hp} {v : V} {d : D} (r : Rel K R F v d) : flatV v = flatD d := by cases r <;> rfl
theorem eqFl_rel {K : Frag} {R : List Addr} {F : Hp} {v u : V} {d e : D} (r : Rel K R F v d) (q : Rel K R F u e) : eqV v u = eqFl d e := by cases r <;> cases q <;> rfl
theorem allFlat_rel {K : Frag} {R : List Addr} {F : Hp} : ∀ {vs : List V} {ds : List D}, RelL K R F vs ds → vs.all flatV = ds.all flatD
  | _, _, .nil => rfl
  | _, _, .cons h t => by rw [List.all_cons, List.all_cons, flat_rel h, allFlat_rel t]
theorem inV_rel {K : Frag} {R : List Addr} {F : Hp} {u : V} {e : D} (q : Rel K R F u e) : ∀ {vs : List V} {ds : List D}, RelL K R F vs ds → inV u vs = ds.any (fun d => eqFl d e)
  | _, _, .nil => rfl
  | _, _, .cons h t => by
    unfold inV
    rw [List.any_cons, List.any_cons, eqFl_rel h q, ← inV_rel q t]
    rfl
/-- neg: not in -/
def inD (neg : Bool) : O2 := fun d e c => match d, e with
  | .str x, .str z => match x.cps.toList with
    | [k] => .ok (.bl (neg != decide (k ∈ z.cps.toList))) c
    | _ => .bad
  | d, e => match items c e with
    | some ds => if flatD d = true ∧ ds.all flatD = true then .ok (.bl (neg != ds.any fun y => eqFl y d)) c else .bad
    | none => .bad
theorem str_one {x : Str} {k : Nat} (h : x.cps.toList = [k]) : x = ⟨#[k]⟩ := by
  cases x with
  | mk a =>
    have : a = #[k] := by
      apply Array.ext'
      exact h
    rw [this]
theorem os_in : OpS X (compareOp .In) (inD false) := by
  refine ⟨_, OpR.or op_in_sign op_in_seq, fun Z W R F c σ H x y d e Q w rx ry q => ?_⟩
  unfold inD at q
  split at q
  · cases rx; cases ry
    split at q
    · rename_i k hk
      have := str_one hk
      subst this
      refine .inl ⟨k, _, rfl, rfl, ?_⟩
      have q := q.ok w _ (.bl _)
      simpa using q
    · exact q.elim
  · split at q
    · rename_i ds hi
      split at q
      · rename_i hf
        obtain ⟨a, vs, rfl, rl, hq⟩ := w.seq ry hi
        refine .inr ⟨a, vs, rfl, hq, by rw [flat_rel rx]; exact hf.1, by rw [allFlat_rel rl]; exact hf.2, ?_⟩
        have q := q.ok w _ (.bl _)
        rw [inV_rel rx rl]
        simpa using q
      · exact q.elim
    · exact q.elim
theorem os_notIn : OpS X (compareOp .NotIn) (inD true) := by
  refine ⟨_, OpR.or op_notIn_sign op_notIn_seq, fun Z W R F c σ H x y d e Q w rx ry q => ?_⟩
  unfold inD at q
  split at q
  · cases rx; cases ry
    split at q
    · rename_i k hk
      have := str_one hk
      subst this
      refine .inl ⟨k, _, rfl, rfl, ?_⟩
      have q := q.ok w _ (.bl _)
      simpa using q
    · exact q.elim
  · split at q
    · rename_i ds hi
      split at q
      · rename_i hf
        obtain ⟨a, vs, rfl, rl, hq⟩ := w.seq ry hi
        refine .inr ⟨a, vs, rfl, hq, by rw [flat_rel rx]; exact hf.1, by rw [allFlat_rel rl]; exact hf.2, ?_⟩
        have q := q.ok w _ (.bl _)
        rw [inV_rel rx rl]
        simpa using q
      · exact q.elim
    · exact q.elim
end

/-! ### subscripts -/
section
variable {X : Cx} {W : WX} {pos : Pos} {a b o e : Expr} {ma mb mo me : ME}
def ixD : O2 := fun d e c => match d, e with
  | .str z, .int i => if z.length ≤ sizeLine then (match atI z.cps.toList i with
    | some k => .ok (.str ⟨#[k]⟩) c
    | none => .bad) else .bad
  | d, .int i => match items c d with
    | some ds => (match atI ds i with
      | some v => .ok v c
      | none => .bad)
    | none => .bad
  | _, _ => .bad
theorem atI_rel {K : Frag} {R : List Addr} {F : Hp} {vs : List V} {ds : List D} {i : Int} {d : D} (r : RelL K R F vs ds) (h : atI ds i = some d) : ∃ v, atI vs i = some v ∧ Rel K R F v d := by
  unfold atI at h ⊢
  rw [r.length]
  cases q : ixN ds.length i with
  | none => rw [q] at h; cases h
  | some j =>
    rw [q] at h
    exact r.get h
theorem de_ix (ha : DE X W a ma) (hb : DE X W b mb) (hs : PlainIx b := by exact fun _ _ => rfl) : DE X W (.Subscript a b pos) (mOp ixD ma mb) := by
  obtain ⟨ta, pa, sa⟩ := ha.ex
  obtain ⟨tb, pb, sb⟩ := hb.ex
  refine ⟨_, pe_ix ix_seq pa pb hs, op_read sa sb fun Z W R F c σ H x y d e Q w rx ry q => ?_⟩
  unfold ixD at q
  split at q
  · cases rx; cases ry
    split at q
    · rename_i hz
      split at q
      · rename_i k hk
        exact .inr (.inr ⟨_, _, k, rfl, rfl, hz, hk, q.ok w _ (.str _)⟩)
      · exact q.elim
    · exact q.elim
  · cases ry
    split at q
    · rename_i ds hi
      split at q
      · rename_i v hv
        obtain ⟨p, vs, rfl, rl, hq⟩ := w.seq rx hi
        obtain ⟨u, hu, ru⟩ := atI_rel rl hv
        rcases hq with hq | hq
        · exact .inl ⟨p, vs, _, u, rfl, rfl, hq, hu, q.ok w _ ru⟩
        · exact .inr (.inl ⟨p, vs, _, u, rfl, rfl, hq, hu, q.ok w _ ru⟩)
      · exact q.elim
    · exact q.elim
  · exact q.elim
/-- the parts of a slice -/
structure DO (X : Cx) (W : WX) (e : Option Expr) (m : En → Cells → Out (Option Int)) : Prop where
  ex : ∃ t, PO X e t ∧ ∀ Z R F δ c σ H Q, Wd X.K Z R F c H → RelS X.K R F δ σ → Aft X.K Z W R F σ (m δ c) (fun _ _ i _ H' => Q i H') → t σ H Q
theorem do_none : DO X W none (fun _ c => .ok none c) := ⟨_, po_none, fun Z R F δ c σ H Q w rs h => h.ok w⟩
def asI (d : D) (c : Cells) : Out (Option Int) := match d with
  | .int i => .ok (some i) c
  | _ => .bad
theorem do_some (h : DE X W e me) : DO X W (some e) (fun δ c => (me δ c).bind asI) := by
  obtain ⟨t, p, s⟩ := h.ex
  refine ⟨_, po_some p, fun Z R F δ c σ H Q w rs h => s Z R F δ c σ H _ w rs ((Aft.bind h).imp ?_)⟩
  rintro R1 F1 d c1 H1 p1 e1 w1 ⟨_, _, _, h1⟩ v rv
  unfold asI at h1
  split at h1
  · cases rv
    exact ⟨_, rfl, h1.ok w1⟩
  · exact h1.elim
def cutD (xs : List D) (lo hi : Option Int) : List D := (xs.drop (HT.sIx xs.length 0 lo)).take (HT.sIx xs.length xs.length hi - HT.sIx xs.length 0 lo)
theorem cut_rel {K : Frag} {R : List Addr} {F : Hp} {vs : List V} {ds : List D} (r : RelL K R F vs ds) (lo hi : Option Int) : RelL K R F (cutV vs lo hi) (cutD ds lo hi) := by
  unfold cutV cutD
  rw [r.length]
  exact (r.drop _).take _
def slG (new : List D → Cells → Out D) (d : D) (lo hi : Option Int) (c : Cells) : Out D := match d with
  | .str z => if z.length ≤ sizeLine then .ok (.str (cutS z lo hi)) c else .bad
  | .tup ds => if HT.sIx ds.length 0 lo = 0 ∧ HT.sIx ds.length ds.length hi = ds.length then .ok (.tup ds) c else .ok (.tup (cutD ds lo hi)) c
  | d => match lstOf c d with
    | some ds => new (cutD ds lo hi) c
    | none => .bad
def mSl (new : List D → Cells → Out D) (mo : ME) (ml mh : En → Cells → Out (Option Int)) : ME := fun δ c => (mo δ c).bind fun d c1 => (ml δ c1).bind fun l c2 => (mh δ c2).bind fun u c3 => slG new d l u c3
theorem sl_read {new : List D → Cells → Out D} (hn : NewL X new) {Z : Hp} {R : List Addr} {F : Hp} {c : Cells} {σ : St} {H : Hp} {x : V} {d : D} {lo hi : Option Int} {Q : VK} (w : Wd X.K Z R F c H) (rx : Rel X.K R F x d) (q : Aft X.K Z W R F σ (slG new d lo hi c) (QV X.K Q)) :
    (rSlL X.K x lo hi H Q ∨ rSlS x lo hi H Q) ∨ rSlA X.K x lo hi H Q := by
  by_cases hl : ∃ ds, lstOf c d = some ds
  · obtain ⟨ds, h1⟩ := hl
    obtain ⟨a, vs, rfl, q1, r1⟩ := w.list rx h1
    have q' : Aft X.K Z W R F σ (new (cutD ds lo hi) c) (QV X.K Q) := by
      unfold slG at q
      cases d with
      | lst => simpa [h1] using q
      | scr => simpa [h1] using q
      | cell => simpa [h1] using q
      | _ => cases h1
    exact .inl (.inl ⟨a, vs, rfl, q1, (hn Z W R F σ c H _ _ Q w (cut_rel r1 lo hi) q').2⟩)
  · unfold slG at q
    split at q
    · cases rx
      split at q
      · rename_i hz
        exact .inl (.inr ⟨_, rfl, hz, q.ok w _ (.str _)⟩)
      · exact q.elim
    · rename_i ds
      cases rx with
      | @tup a vs _ h1 r1 =>
        refine .inr ⟨a, vs, rfl, h1.ext w.same, fun hw => ?_, fun hw p n => ?_⟩
        · rw [r1.length] at hw
          rw [if_pos hw] at q
          exact q.ok w _ (.tup h1 r1)
        · rw [r1.length] at hw
          rw [if_neg hw] at q
          obtain ⟨w2, s2⟩ := w.frozen n (.tup (cutV vs lo hi))
          exact q _ _ _ (List.prefix_refl _) s2 w2 _ (.tup (SqT.of upd_same) ((cut_rel r1 lo hi).mono (List.prefix_refl _) s2))
    · rename_i h1 h2
      split at q
      · rename_i ds hd
        exact absurd ⟨ds, hd⟩ hl
      · exact q.elim
theorem de_sl {lo hi : Option Expr} {p2 : Pos} {new : List D → Cells → Out D} {ml mh : En → Cells → Out (Option Int)} (hn : NewL X new) (ho : DE X W o mo) (hl : DO X W lo ml) (hh : DO X W hi mh) : DE X W (.Subscript o (.Slice lo hi none p2) pos) (mSl new mo ml mh) := by
  obtain ⟨t, p, s⟩ := ho.ex
  obtain ⟨tl, pl, sl⟩ := hl.ex
  obtain ⟨th, ph, sh⟩ := hh.ex
  refine ⟨_, pe_slice ((L2.SlR.or sl_list sl_str).or sl_tupA) p pl ph, fun Z R F δ c σ H Q w rs h => s Z R F δ c σ H _ w rs ((Aft.bind h).imp ?_)⟩
  rintro R1 F1 d c1 H1 p1 e1 w1 ⟨_, _, _, h1⟩ v rv
  refine sl Z R1 F1 δ c1 σ H1 _ w1 (rs.mono p1 e1) ((Aft.bind h1).imp ?_)
  rintro R2 F2 l c2 H2 p2 e2 w2 ⟨_, _, _, h2⟩
  refine sh Z R2 F2 δ c2 σ H2 _ w2 ((rs.mono p1 e1).mono p2 e2) ((Aft.bind h2).imp ?_)
  rintro R3 F3 u c3 H3 p3 e3 w3 ⟨_, _, _, h3⟩
  exact sl_read hn w3 ((rv.mono p2 e2).mono p3 e3) h3
/-! o[i] = e, o a cell -/
def setIGo (d i v : D) (c : Cells) : Option Cells := match d, i with
  | .cell k, .int j => (match c[k]? with
    | some (.lst ds) => (match ixN ds.length j with
      | some n => some (c.set k (.lst (ds.set n v)))
      | none => none)
    | _ => none)
  | _, _ => none
def mSetI (mo mi mv : ME) : MS := fun δ c => (mv δ c).fl δ fun v c1 => (mo δ c1).fl δ fun d c2 => (mi δ c2).fl δ fun i c3 => match setIGo d i v c3 with
  | some c4 => .nx δ c4
  | none => .bad
theorem ds_setI {i : Expr} {mi : ME} {pos' : Pos} (ho : DE X W o mo) (hi : DE X W i mi) (hv : DE X W e me) (hs : swapsWithSole [.Subscript o i pos'] e pos.line X.env = pure false := by rfl) (hw : swappedStores [.Subscript o i pos'] e X.env = pure none := by rfl)
    (h1 : (assignEach [.Subscript o i pos'] X.env).map (·.2) = [assign (.Subscript o i pos') X.env] := by rfl)
    (ha : ∀ v, assign (.Subscript o i pos') X.env v = (do
      let ov ← holding [v] (eval o X.env)
      let iv ← holding [v, ov] (eval i X.env)
      standAt pos'
      holding [v, ov, iv] (setItem ov iv v)
      release [v, ov, iv] []) := by intro _; rfl) : DS X W (.Assign [.Subscript o i pos'] e pos) (mSetI mo mi me) := by
  obtain ⟨t, p, s⟩ := ho.ex
  obtain ⟨ti, pi, si⟩ := hi.ex
  obtain ⟨tv, pv, sv⟩ := hv.ex
  refine ⟨_, ps_asg pv (pg_sub p pi set_list ha) hs hw h1, fun Z R F δ c σ H E w rs h => sv Z R F δ c σ H _ w rs ((AftS.fl rs h).imp ?_)⟩
  rintro R1 F1 v c1 H1 p1 e1 w1 ⟨_, _, _, h1⟩ y ry
  have rs1 := rs.mono p1 e1
  refine s Z R1 F1 δ c1 σ H1 _ w1 rs1 ((AftS.fl rs1 h1).imp ?_)
  rintro R2 F2 d c2 H2 p2 e2 w2 ⟨_, _, _, h2⟩ z rz
  have rs2 := rs1.mono p2 e2
  refine si Z R2 F2 δ c2 σ H2 _ w2 rs2 ((AftS.fl rs2 h2).imp ?_)
  rintro R3 F3 j c3 H3 p3 e3 w3 ⟨_, _, _, h3⟩ u ru
  have rs3 := rs2.mono p3 e3
  split at h3
  · rename_i c4 hc4
    unfold setIGo at hc4
    split at hc4
    · split at hc4
      · rename_i ds hk
        split at hc4
        · rename_i n hn
          cases hc4
          cases ru
          have rz := rz.mono p3 e3
          cases rz with
          | cell hR =>
            obtain ⟨vs, q, l⟩ := w3.atList hR hk
            refine ⟨_, vs, _, n, rfl, rfl, q, by rw [l.length]; exact hn, ?_⟩
            exact h3 R3 F3 _ σ (List.prefix_refl _) (Same.refl _) (w3.write hR (.lst (l.set ((ry.mono p2 e2).mono p3 e3) n)) (w3.at0 hR hk)) rs3
        · cases hc4
      · cases hc4
    · cases hc4
  · exact h3.elim
end

/-! ### built-in functions and types, called -/
def CallS (X : Cx) (f : Value) (g : List D → Cells → Out D) : Prop := ∃ r, CallR X f r ∧ ∀ Z W R F c σ H vs ds Q, Wd X.K Z R F c H → RelL X.K R F vs ds → Aft X.K Z W R F σ (g ds c) (QV X.K Q) → r vs H Q
def mCB (g : List D → Cells → Out D) (ma : MA) : ME := fun δ c => (ma δ c).bind g
section
variable {X : Cx} {W : WX} {p pos : Pos} {x : Str} {e : Expr} {es : List Expr} {ma : MA} {g : List D → Cells → Out D}
theorem de_callB {id : String} (hc : CallS X (.builtin id) g) (hm : X.mg x = none) (hv : bootBuiltins x = some (.builtin id)) (ha : DA X W (e :: es) ma) (hg : Gl X x := by rfl) (hn : x ≠ "__name__" := by decide) (hdb : (x == ("__debug__" : Str)) = false := by decide)
    (he : starEach (e :: es) X.env = (false, eval e X.env) :: starEach es X.env := by rfl) (hpl : (backTo pos (starEach es X.env)).any (·.1) = false := by rfl) : DE X W (.Call (.Name x p) (e :: es) [] pos) (mCB g ma) := by
  obtain ⟨r, pr, sr⟩ := hc
  obtain ⟨t, pa, sa⟩ := ha.ex
  refine ⟨_, pe_callB pr hg hm hv pa hn hdb he hpl, fun Z R F δ c σ H Q w rs h => sa Z R F δ c σ H _ w rs ((Aft.bind h).imp ?_)⟩
  rintro R1 F1 ds c1 H1 p1 e1 w1 ⟨_, _, _, h1⟩ vs rv
  exact sr Z W R1 F1 c1 σ H1 vs ds Q w1 rv h1
theorem de_callTy {T : String} (hc : CallS X (.type T) g) (hm : X.mg x = none) (hv : bootBuiltins x = some (.type T)) (ha : DA X W (e :: es) ma) (hg : Gl X x := by rfl) (hn : x ≠ "__name__" := by decide) (hdb : (x == ("__debug__" : Str)) = false := by decide)
    (he : starEach (e :: es) X.env = (false, eval e X.env) :: starEach es X.env := by rfl) (hpl : (backTo pos (starEach es X.env)).any (·.1) = false := by rfl) : DE X W (.Call (.Name x p) (e :: es) [] pos) (mCB g ma) := by
  obtain ⟨r, pr, sr⟩ := hc
  obtain ⟨t, pa, sa⟩ := ha.ex
  refine ⟨_, pe_callTy pr hg hm hv pa hn hdb he hpl, fun Z R F δ c σ H Q w rs h => sa Z R F δ c σ H _ w rs ((Aft.bind h).imp ?_)⟩
  rintro R1 F1 ds c1 H1 p1 e1 w1 ⟨_, _, _, h1⟩ vs rv
  exact sr Z W R1 F1 c1 σ H1 vs ds Q w1 rv h1
def lenD (ds : List D) (c : Cells) : Out D := match ds with
  | [.str z] => if z.length ≤ sizeLine then .ok (.int z.length) c else .bad
  | [d] => match items c d with
    | some l => .ok (.int l.length) c
    | none => .bad
  | _ => .bad
theorem cs_len : CallS X (.builtin "len") lenD := by
  refine ⟨_, call_len, fun Z W R F c σ H vs ds Q w r h => ?_⟩
  unfold lenD at h
  split at h
  · obtain ⟨v, e1, rr⟩ : ∃ v, vs = [v] ∧ Rel X.K R F v (.str _) := by
      cases r with
      | cons r t => cases t; exact ⟨_, rfl, r⟩
    subst e1
    cases rr
    split at h
    · rename_i hz
      exact ⟨.str _, _, rfl, ⟨hz, rfl⟩, h.ok w _ (.int _)⟩
    · exact h.elim
  · obtain ⟨v, e1, rr⟩ : ∃ v, vs = [v] ∧ Rel X.K R F v _ := by
      cases r with
      | cons r t => cases t; exact ⟨_, rfl, r⟩
    subst e1
    split at h
    · rename_i l hl
      obtain ⟨a, us, rfl, rl, hq⟩ := w.seq rr hl
      refine ⟨_, us.length, rfl, ?_, by rw [rl.length]; exact h.ok w _ (.int _)⟩
      rcases hq with hq | hq
      · exact .inl ⟨_, hq, rfl⟩
      · exact .inr ⟨_, hq, rfl⟩
    · exact h.elim
  · exact h.elim
def absD (ds : List D) (c : Cells) : Out D := match ds with
  | [.int i] => .ok (.int (if i < 0 then -i else i)) c
  | _ => .bad
theorem cs_abs : CallS X (.builtin "abs") absD := by
  refine ⟨_, call_abs, fun Z W R F c σ H vs ds Q w r h => ?_⟩
  unfold absD at h
  split at h
  · cases r with
    | cons r t =>
      cases t
      cases r
      exact ⟨_, rfl, h.ok w _ (.int _)⟩
  · exact h.elim
def intD (ds : List D) (c : Cells) : Out D := match ds with
  | [.int i] => .ok (.int i) c
  | [.bl k] => .ok (.int (if k then 1 else 0)) c
  | _ => .bad
theorem cs_int : CallS X (.type "int") intD := by
  refine ⟨_, call_int1, fun Z W R F c σ H vs ds Q w r h => ?_⟩
  unfold intD at h
  split at h
  · cases r with
    | cons r t =>
      cases t
      cases r
      exact .inl ⟨_, rfl, h.ok w _ (.int _)⟩
  · cases r with
    | cons r t =>
      cases t
      cases r
      exact .inr ⟨_, rfl, h.ok w _ (.int _)⟩
  · exact h.elim
def tupleD (ds : List D) (c : Cells) : Out D := match ds with
  | [.tup l] => .ok (.tup l) c
  | [d] => match lstOf c d with
    | some l => .ok (.tup l) c
    | none => .bad
  | _ => .bad
theorem cs_tuple : CallS X (.type "tuple") tupleD := by
  refine ⟨_, call_tuple_of, fun Z W R F c σ H vs ds Q w r h => ?_⟩
  unfold tupleD at h
  split at h
  · cases r with
    | cons r t =>
      cases t
      cases r with
      | tup h1 r1 => exact ⟨_, _, rfl, .inr ⟨h1.ext w.same, h.ok w _ (.tup h1 r1)⟩⟩
  · obtain ⟨v, e1, rr⟩ : ∃ v, vs = [v] ∧ Rel X.K R F v _ := by
      cases r with
      | cons r t => cases t; exact ⟨_, rfl, r⟩
    subst e1
    split at h
    · rename_i l hl
      obtain ⟨a, us, rfl, q1, rl⟩ := w.list rr hl
      refine ⟨a, us, rfl, .inl ⟨q1, fun p n => ?_⟩⟩
      obtain ⟨w2, s2⟩ := w.frozen n (.tup us)
      exact h _ _ _ (List.prefix_refl _) s2 w2 _ (.tup (SqT.of upd_same) (rl.mono (List.prefix_refl _) s2))
    · exact h.elim
  · exact h.elim
def allBl : List D → Option (List Bool)
  | [] => some []
  | .bl b :: r => (allBl r).map (b :: ·)
  | _ :: _ => none
theorem allBl_rel {K : Frag} {R : List Addr} {F : Hp} : ∀ {vs : List V} {ds : List D} {bs : List Bool}, RelL K R F vs ds → allBl ds = some bs → vs = bs.map V.bl
  | _, _, _, .nil, h => by cases h; rfl
  | _, _, bs, .cons (d := .bl b) (ds := l) r t, h => by
    cases r
    have h : (allBl l).map (b :: ·) = some bs := h
    cases q : allBl l with
    | none => rw [q] at h; cases h
    | some cs =>
      rw [q] at h
      cases h
      rw [List.map_cons, allBl_rel t q]
def allD (ds : List D) (c : Cells) : Out D := match ds with
  | [d] => match lstOf c d with
    | some l => (match allBl l with
      | some bs => .ok (.bl (bs.all id)) c
      | none => .bad)
    | none => .bad
  | _ => .bad
theorem cs_all (hc : X.calm = true) : CallS X (.builtin "all") allD := by
  refine ⟨_, cr_all hc, fun Z W R F c σ H vs ds Q w r h => ?_⟩
  unfold allD at h
  split at h
  · obtain ⟨v, e1, rr⟩ : ∃ v, vs = [v] ∧ Rel X.K R F v _ := by
      cases r with
      | cons r t => cases t; exact ⟨_, rfl, r⟩
    subst e1
    split at h
    · rename_i l hl
      split at h
      · rename_i bs hbs
        obtain ⟨a, us, rfl, q1, rl⟩ := w.list rr hl
        have := allBl_rel rl hbs
        subst this
        exact ⟨a, bs, rfl, q1, h.ok w _ (.bl _)⟩
      · exact h.elim
    · exact h.elim
  · exact h.elim
end
end Nw

set_option Elab.async false
set_option linter.all false
set_option maxRecDepth 100000
set_option maxHeartbeats 4000000
/-! Nw8: methods of lists and texts, isinstance. -/
namespace Nw
open PySem PySem.Spec
open PyProof.Rows hiding St
open L2
variable [TheW]

section
variable {X : Cx} {W : WX} {apos pos : Pos} {o e : Expr} {es : List Expr} {mo : ME} {ma : MA}
/-- a built-in type's method does what g says -/
def MtS (X : Cx) (id : String) (g : D → List D → Cells → Out D) : Prop := ∃ r, MtR X id r ∧ ∀ Z W R F c σ H x d vs ds Q, Wd X.K Z R F c H → Rel X.K R F x d → RelL X.K R F vs ds → Aft X.K Z W R F σ (g d ds c) (QV X.K Q) → r x vs H Q
inductive Bt where
  | l | s
def Bt.n : Bt → String
  | .l => "list"
  | .s => "str"
def isBt : Bt → Cells → D → Bool
  | .l, c, d => (lstOf c d).isSome
  | .s, _, .str _ => true
  | .s, _, _ => false
theorem tyV_of {T : Bt} {Z : Hp} {R : List Addr} {F : Hp} {c : Cells} {H : Hp} {v : V} {d : D} (w : Wd X.K Z R F c H) (r : Rel X.K R F v d) (h : isBt T c d = true) : tyV X.K T.n v H := by
  cases T with
  | l =>
    obtain ⟨ds, hd⟩ := Option.isSome_iff_exists.mp h
    obtain ⟨a, vs, rfl, q, _⟩ := w.list r hd
    exact .inl ⟨rfl, _, q⟩
  | s =>
    cases r with
    | str x => exact rfl
    | _ => cases h
def mBM (T : Bt) (g : D → List D → Cells → Out D) (mo : ME) (ma : MA) : ME := fun δ c => (mo δ c).bind fun d c1 => if isBt T c1 d = true then (ma δ c1).bind fun ds c2 => g d ds c2 else .bad
def mBM0 (T : Bt) (g : D → List D → Cells → Out D) (mo : ME) : ME := fun δ c => (mo δ c).bind fun d c1 => if isBt T c1 d = true then g d [] c1 else .bad
theorem de_bm {T : Bt} {name : Str} {id : String} {g : D → List D → Cells → Out D} (pa : PlainAttrs T.n) (slot : Slot T.n name id) (hty : typeOf (.builtin id) = pure (.type "method_descriptor")) (hm : MtS X id g) (ho : DE X W o mo) (ha : DA X W (e :: es) ma)
    (hb : attributeBase o name X.env (eval o X.env) = eval o X.env := by rfl)
    (hfew : ((backTo pos (starEach (e :: es) X.env)).all (fun x => !x.1) && (backToKw pos (keywordEach [] X.env)).all (fun x => x.1.isSome) && decide ((e :: es).length + ([] : List Keyword).length + (if ([] : List Keyword).isEmpty then 0 else 1) < 30)) = true := by rfl)
    (hline : (apos.endLine == pos.line) = true := by rfl) (hst : starEach (e :: es) X.env = (false, eval e X.env) :: starEach es X.env := by rfl) (hpl : (backTo pos (starEach es X.env)).any (·.1) = false := by rfl) :
    DE X W (.Call (.Attribute o name apos) (e :: es) [] pos) (mBM T g mo ma) := by
  obtain ⟨r, pr, sr⟩ := hm
  obtain ⟨t, po, so⟩ := ho.ex
  obtain ⟨ta, pa', sa⟩ := ha.ex
  refine ⟨_, pe_bm pa slot hty pr po pa' hb hfew hline hst hpl, fun Z R F δ c σ H Q w rs h => so Z R F δ c σ H _ w rs ((Aft.bind h).imp ?_)⟩
  rintro R1 F1 d c1 H1 p1 e1 w1 ⟨_, _, _, h1⟩ v rv
  split at h1
  · rename_i ht
    refine ⟨tyV_of w1 rv ht, sa Z R1 F1 δ c1 σ H1 _ w1 (rs.mono p1 e1) ((Aft.bind h1).imp ?_)⟩
    rintro R2 F2 ds c2 H2 p2 e2 w2 ⟨_, _, _, h2⟩ vs rvs
    exact sr Z W R2 F2 c2 σ H2 v d vs ds Q w2 (rv.mono p2 e2) rvs h2
  · exact h1.elim
theorem de_bm0 {T : Bt} {name : Str} {id : String} {g : D → List D → Cells → Out D} (pa : PlainAttrs T.n) (slot : Slot T.n name id) (hty : typeOf (.builtin id) = pure (.type "method_descriptor")) (hm : MtS X id g) (ho : DE X W o mo)
    (hb : attributeBase o name X.env (eval o X.env) = eval o X.env := by rfl) (hline : (apos.endLine == pos.line) = true := by rfl) : DE X W (.Call (.Attribute o name apos) [] [] pos) (mBM0 T g mo) := by
  obtain ⟨r, pr, sr⟩ := hm
  obtain ⟨t, po, so⟩ := ho.ex
  refine ⟨_, pe_bm0 pa slot hty pr po hb hline, fun Z R F δ c σ H Q w rs h => so Z R F δ c σ H _ w rs ((Aft.bind h).imp ?_)⟩
  rintro R1 F1 d c1 H1 p1 e1 w1 ⟨_, _, _, h1⟩ v rv
  split at h1
  · rename_i ht
    exact ⟨tyV_of w1 rv ht, sr Z W R1 F1 c1 σ H1 v d [] [] Q w1 rv .nil h1⟩
  · exact h1.elim

/-! ### lists that change -/
def appendD (d : D) (ds : List D) (c : Cells) : Out D := match d, ds with
  | .cell i, [y] => (match c[i]? with
    | some (.lst l) => if l.length < sizeLine then .ok .non (c.set i (.lst (l ++ [y]))) else .bad
    | _ => .bad)
  | _, _ => .bad
theorem ms_append : MtS X "list.append" appendD := by
  refine ⟨_, mt_append, fun Z W R F c σ H x d vs ds Q w rx rv h => ?_⟩
  unfold appendD at h
  split at h
  · rename_i i y
    obtain ⟨u, e1, ru⟩ : ∃ u, vs = [u] ∧ Rel X.K R F u y := by
      cases rv with
      | cons r t => cases t; exact ⟨_, rfl, r⟩
    subst e1
    cases rx with
    | cell hR =>
      split at h
      · rename_i l hl
        split at h
        · rename_i hz
          obtain ⟨us, q, rl⟩ := w.atList hR hl
          exact ⟨_, us, u, rfl, rfl, q, by rw [rl.length]; exact hz, h _ _ _ (List.prefix_refl _) (Same.refl _) (w.write hR (.lst (rl.append (.cons ru .nil))) (w.at0 hR hl)) _ .non⟩
        · exact h.elim
      · exact h.elim
  · exact h.elim
def popD (d : D) (ds : List D) (c : Cells) : Out D := match d, ds with
  | .cell i, [] => (match c[i]? with
    | some (.lst l) => (match l[l.length - 1]? with
      | some y => .ok y (c.set i (.lst l.dropLast))
      | none => .bad)
    | _ => .bad)
  | _, _ => .bad
theorem RelL.dropLast {K : Frag} {R : List Addr} {F : Hp} {vs : List V} {ds : List D} (r : RelL K R F vs ds) : RelL K R F vs.dropLast ds.dropLast := by
  rw [List.dropLast_eq_take, List.dropLast_eq_take, r.length]
  exact r.take _
theorem ms_pop : MtS X "list.pop" popD := by
  refine ⟨_, mt_pop, fun Z W R F c σ H x d vs ds Q w rx rv h => ?_⟩
  unfold popD at h
  split at h
  · rename_i i
    cases rv
    cases rx with
    | cell hR =>
      split at h
      · rename_i l hl
        split at h
        · rename_i y hy
          obtain ⟨us, q, rl⟩ := w.atList hR hl
          obtain ⟨u, hu, ru⟩ := rl.get hy
          exact ⟨_, us, u, rfl, rfl, q, by rw [rl.length]; exact hu, h _ _ _ (List.prefix_refl _) (Same.refl _) (w.write hR (.lst rl.dropLast) (w.at0 hR hl)) _ ru⟩
        · exact h.elim
      · exact h.elim
  · exact h.elim
theorem RelL.eraseIdx {K : Frag} {R : List Addr} {F : Hp} : ∀ {vs : List V} {ds : List D} (k : Nat), RelL K R F vs ds → RelL K R F (vs.eraseIdx k) (ds.eraseIdx k)
  | _, _, _, .nil => .nil
  | _, _, 0, .cons _ t => t
  | _, _, k + 1, .cons h t => .cons h (t.eraseIdx k)
def popAtD (d : D) (ds : List D) (c : Cells) : Out D := match d, ds with
  | .cell i, [.int j] => (match c[i]? with
    | some (.lst l) => if -(2 ^ 63) ≤ j ∧ j < 2 ^ 63 then (match seqIndex? j l.length with
      | some k => (match l[k]? with
        | some y => .ok y (c.set i (.lst (l.eraseIdx k)))
        | none => .bad)
      | none => .bad) else .bad
    | _ => .bad)
  | _, _ => .bad
theorem ms_popAt : MtS X "list.pop" popAtD := by
  refine ⟨_, mt_popAt, fun Z W R F c σ H x d vs ds Q w rx rv h => ?_⟩
  unfold popAtD at h
  split at h
  · rename_i i j
    obtain ⟨u, e1, ru⟩ : ∃ u, vs = [u] ∧ Rel X.K R F u (.int j) := by
      cases rv with
      | cons r t => cases t; exact ⟨_, rfl, r⟩
    subst e1
    cases ru
    cases rx with
    | cell hR =>
      split at h
      · rename_i l hl
        split at h
        · rename_i hj
          split at h
          · rename_i k hk
            split at h
            · rename_i y hy
              obtain ⟨us, q, rl⟩ := w.atList hR hl
              obtain ⟨u, hu, ru⟩ := rl.get hy
              exact ⟨_, us, _, k, u, rfl, rfl, q, hj.1, hj.2, by rw [rl.length]; exact hk, hu, h _ _ _ (List.prefix_refl _) (Same.refl _) (w.write hR (.lst (rl.eraseIdx k)) (w.at0 hR hl)) _ ru⟩
            · exact h.elim
          · exact h.elim
        · exact h.elim
      · exact h.elim
  · exact h.elim
/-- a list that is not the script -/
def lstOwn (c : Cells) : D → Option (List D)
  | .lst ds => some ds
  | .cell i => match c[i]? with
    | some (.lst ds) => some ds
    | _ => none
  | _ => none
theorem Wd.own {K : Frag} {Z : Hp} {R : List Addr} {F : Hp} {c : Cells} {H : Hp} {v : V} {d : D} {ds : List D} (w : Wd K Z R F c H) (r : Rel K R F v d) (e : lstOwn c d = some ds) : ∃ a vs, v = .ref a ∧ H a = some (.lst vs) ∧ RelL K R F vs ds := by
  cases r with
  | lst h l => cases e; exact ⟨_, _, rfl, w.same _ _ h, l⟩
  | @cell i a h =>
    have e2 : lstOf c (.cell i) = some ds := e
    obtain ⟨vs, q, l⟩ := w.atList h (lstOf_cell e2)
    exact ⟨_, vs, rfl, q, l⟩
  | _ => cases e
def extendD (d : D) (ds : List D) (c : Cells) : Out D := match d, ds with
  | .cell i, [y] => (match c[i]?, lstOwn c y with
    | some (.lst l), some m => if l.length + m.length ≤ sizeLine then .ok .non (c.set i (.lst (l ++ m))) else .bad
    | _, _ => .bad)
  | _, _ => .bad
theorem ms_extend : MtS X "list.extend" extendD := by
  refine ⟨_, mt_extend, fun Z W R F c σ H x d vs ds Q w rx rv h => ?_⟩
  unfold extendD at h
  split at h
  · rename_i i y
    obtain ⟨u, e1, ru⟩ : ∃ u, vs = [u] ∧ Rel X.K R F u y := by
      cases rv with
      | cons r t => cases t; exact ⟨_, rfl, r⟩
    subst e1
    cases rx with
    | cell hR =>
      split at h
      · rename_i l m hl hm
        split at h
        · rename_i hz
          obtain ⟨us, q, rl⟩ := w.atList hR hl
          obtain ⟨b, ws, rfl, q2, rm⟩ := w.own ru hm
          exact ⟨_, b, us, ws, rfl, rfl, q, q2, by rw [rl.length, rm.length]; exact hz, h _ _ _ (List.prefix_refl _) (Same.refl _) (w.write hR (.lst (rl.append rm)) (w.at0 hR hl)) _ .non⟩
        · exact h.elim
      · exact h.elim
  · exact h.elim
/-! ### texts -/
def splitD (d : D) (ds : List D) (c : Cells) : Out D := match d, ds with
  | .str a, [.str b] => if (b.length == 0) = false ∧ a.length + 2 ≤ sizeLine then .ok (.lst ((Txt.split a b).map .str)) c else .bad
  | _, _ => .bad
theorem relL_strs {K : Frag} {R : List Addr} {F : Hp} : ∀ ys : List Str, RelL K R F (ys.map V.str) (ys.map D.str)
  | [] => .nil
  | y :: ys => .cons (.str y) (relL_strs ys)
theorem ms_split : MtS X "str.split" splitD := by
  refine ⟨_, mt_split, fun Z W R F c σ H x d vs ds Q w rx rv h => ?_⟩
  unfold splitD at h
  split at h
  · rename_i a b
    obtain ⟨u, e1, ru⟩ : ∃ u, vs = [u] ∧ Rel X.K R F u (.str b) := by
      cases rv with
      | cons r t => cases t; exact ⟨_, rfl, r⟩
    subst e1
    cases ru
    cases rx
    split at h
    · rename_i hz
      refine ⟨a, b, rfl, rfl, hz.1, hz.2, fun p n => ?_⟩
      obtain ⟨w2, s2⟩ := w.frozen n (.lst ((Txt.split a b).map V.str))
      exact h _ _ _ (List.prefix_refl _) s2 w2 _ (.lst upd_same (relL_strs _))
    · exact h.elim
  · exact h.elim
def allStr : List D → Option (List Str)
  | [] => some []
  | .str b :: r => (allStr r).map (b :: ·)
  | _ :: _ => none
theorem allStr_rel {K : Frag} {R : List Addr} {F : Hp} : ∀ {vs : List V} {ds : List D} {bs : List Str}, RelL K R F vs ds → allStr ds = some bs → vs = bs.map V.str
  | _, _, _, .nil, h => by cases h; rfl
  | _, _, bs, .cons (d := .str b) (ds := l) r t, h => by
    cases r
    have h : (allStr l).map (b :: ·) = some bs := h
    cases q : allStr l with
    | none => rw [q] at h; cases h
    | some cs =>
      rw [q] at h
      cases h
      rw [List.map_cons, allStr_rel t q]
theorem allStr_map : ∀ ys : List Str, allStr (ys.map D.str) = some ys
  | [] => rfl
  | y :: ys => by
    show (allStr (ys.map D.str)).map (y :: ·) = _
    rw [allStr_map ys]
    rfl
def joinD (d : D) (ds : List D) (c : Cells) : Out D := match d, ds with
  | .str a, [y] => (match items c y with
    | some l => (match allStr l with
      | some ys => if (ys.map (·.length)).sum + ys.length * a.length ≤ 16777216 then .ok (.str (Txt.join a ys)) c else .bad
      | none => .bad)
    | none => .bad)
  | _, _ => .bad
theorem ms_join : MtS X "str.join" joinD := by
  refine ⟨_, mt_join, fun Z W R F c σ H x d vs ds Q w rx rv h => ?_⟩
  unfold joinD at h
  split at h
  · rename_i a y
    obtain ⟨u, e1, ru⟩ : ∃ u, vs = [u] ∧ Rel X.K R F u y := by
      cases rv with
      | cons r t => cases t; exact ⟨_, rfl, r⟩
    subst e1
    cases rx
    split at h
    · rename_i l hl
      split at h
      · rename_i ys hys
        split at h
        · rename_i hz
          obtain ⟨p, us, rfl, rl, hq⟩ := w.seq ru hl
          have := allStr_rel rl hys
          subst this
          exact ⟨a, p, ys, rfl, rfl, hq, hz, h.ok w _ (.str _)⟩
        · exact h.elim
      · exact h.elim
    · exact h.elim
  · exact h.elim
end

/-! ### isinstance -/
inductive Ty where
  | b (n : String) | o (x : Str)
  deriving DecidableEq
def Ty.v (K : Frag) : Ty → Value
  | .b n => .type n
  | .o x => .ref (He.ga K x)
inductive Cl where
  | ty (n : String) | gl (x : Str)
  deriving DecidableEq
def Cl.v (K : Frag) : Cl → Value
  | .ty n => .type n
  | .gl x => .ref (He.ga K x)
def tyD (c : Cells) : D → Option Ty
  | .non => some (.b "NoneType")
  | .bl _ => some (.b "bool")
  | .int _ => some (.b "int")
  | .str _ => some (.b "str")
  | .tup _ => some (.b "tuple")
  | .lst _ => some (.b "list")
  | .scr _ => some (.b "list")
  | .obj x _ _ => some (.o x)
  | .cell i => match c[i]? with
    | some (.lst _) => some (.b "list")
    | some (.ins x _ _) => some (.o x)
    | some (.dct _ _) => some (.b "dict")
    | _ => none
  | .dic _ _ => some (.b "dict")
  | _ => none
/-- what isinstance asks of a class's instances -/
structure InsC (K : Frag) (x : Str) : Prop where
  cl : Cls K (He.ga K x)
  ha : PySem.W.findIn K (.ref (He.ga K x)) "__class__" = some (some (.builtin "object.__class__"))
  hn : PySem.W.specialIn K (.builtin "object.__class__") "__get__" = some (some (.builtin "getset_descriptor.__get__"))
  tk : PySem.W.takesIn K (.builtin "object.__class__") = some true
  hm : PySem.W.mroIn K (He.ga K x) (.type "object") = some true
theorem tyX_of {K : Frag} {Z : Hp} {R : List Addr} {F : Hp} {c : Cells} {H : Hp} {v : V} {d : D} {t : Ty} (w : Wd K Z R F c H) (r : Rel K R F v d) (h : tyD c d = some t) (hi : ∀ x, t = .o x → InsC K x) : TyX K H v (t.v K) := by
  cases r with
  | non => cases h; exact .base .non
  | bl b => cases h; exact .base (.bl b)
  | int i => cases h; exact .base (.int i)
  | str x => cases h; exact .base (.str x)
  | tup q l =>
    cases h
    rcases q with (q | ⟨o, q⟩) | ⟨o, its, n, hk, hc, _⟩
    · exact .base (.tup (w.same _ _ q))
    · exact .fTuple (w.same _ _ q)
    · exact .kTuple hk hc
  | lst q l => cases h; exact .base (.lst (w.same _ _ q))
  | scr q l =>
    cases h
    rcases q with (q | ⟨o, q⟩) | ⟨o, its, n, hk, hc, _⟩
    · exact .base (.lst (w.same _ _ q))
    · exact .base (.frz (w.same _ _ q))
    · exact .kList hk hc
  | obj q z l =>
    cases h
    have T := hi _ rfl
    exact .base (.ins (w.same _ _ q) T.cl T.ha T.hn T.tk T.hm)
  | @cell i a q =>
    simp only [tyD] at h
    split at h
    · rename_i l hl
      cases h
      obtain ⟨vs, q2, _⟩ := w.atList q hl
      exact .base (.lst q2)
    · rename_i x ns l hl
      cases h
      obtain ⟨a', o, h1, h2, h3, h4⟩ := w.cel i _ hl
      rw [q] at h1
      cases h1
      cases h3 with
      | ins z rl =>
        have T := hi _ rfl
        exact .base (.ins h2 T.cl T.ha T.hn T.tk T.hm)
    · rename_i ks l hl
      cases h
      obtain ⟨a', o, h1, h2, h3, h4⟩ := w.cel i _ hl
      rw [q] at h1
      cases h1
      cases h3 with
      | dct z rl => exact .base (.dK h2)
    · cases h
  | dic q z l => cases h; exact .base (.dK (w.same _ _ q))
  | _ => cases h
/-- ts: the types that are asked about; f: the answers for the classes Cs -/
structure IsiOk (K : Frag) (ts : List Ty) (f : Ty → Bool) (Cs : List Cl) : Prop where
  ans : ∀ t ∈ ts, PySem.W.kitAny K (t.v K) (Cs.map (Cl.v K)) = some (f t)
  ins : ∀ x, Ty.o x ∈ ts → InsC K x
theorem kitOne_of {K : Frag} {t u : Value} {b : Bool} (h : PySem.W.kitAny K t [u] = some b) : PySem.W.kitOne K t u = some b := by
  unfold PySem.W.kitAny at h
  split at h
  · rename_i e; rw [e]; exact h
  · rename_i e; rw [e]; exact h
  · cases h
def isiD (ts : List Ty) (f : Ty → Bool) (d : D) (c : Cells) : Out D := match tyD c d with
  | some t => if t ∈ ts then .ok (.bl (f t)) c else .bad
  | none => .bad
def mIsi (ts : List Ty) (f : Ty → Bool) (m : ME) : ME := fun δ c => (m δ c).bind (isiD ts f)
section
variable {X : Cx} {W : WX} {p p2 pos : Pos} {e ce : Expr} {m : ME} {ts : List Ty} {f : Ty → Bool}
/-- the class as an expression -/
structure DC (X : Cx) (e : Expr) (C : Cl) : Prop where
  ex : ∃ v, PE X e (tC v) ∧ ClsV v (C.v X.K)
theorem dc_ty {x : Str} {n : String} (hm : X.mg x = none) (hv : bootBuiltins x = some (.type n)) (hg : Gl X x := by rfl) (hn : x ≠ "__name__" := by decide) (hd : (x == ("__debug__" : Str)) = false := by decide) : DC X (.Name x pos) (.ty n) :=
  ⟨.ty n, pe_bltn hg hm hv (v := .ty n) rfl hn hd, .ty n⟩
theorem dc_gl {x : Str} (hm : X.mg x = some (.ref (He.ga X.K x))) (hg : Gl X x := by rfl) (hd : (x == ("__debug__" : Str)) = false := by decide) : DC X (.Name x pos) (.gl x) :=
  ⟨.ref (He.ga X.K x), pe_glob hg hm (v := .ref (He.ga X.K x)) rfl hd, .own _⟩
theorem isi_of {Z : Hp} {R : List Addr} {F : Hp} {c : Cells} {σ : St} {H : Hp} {v : V} {d : D} {Cs : List Cl} {Q : VK} (T : IsiOk X.K ts f Cs) (w : Wd X.K Z R F c H) (r : Rel X.K R F v d) (h : Aft X.K Z W R F σ (isiD ts f d c) (QV X.K Q)) :
    ∃ t b, TyX X.K H v t ∧ PySem.W.kitAny X.K t (Cs.map (Cl.v X.K)) = some b ∧ Q (.bl b) H := by
  unfold isiD at h
  split at h
  · rename_i t ht
    split at h
    · rename_i hm
      refine ⟨_, f t, tyX_of w r ht (fun x e => T.ins x (e ▸ hm)), T.ans t hm, h.ok w _ (.bl _)⟩
    · exact h.elim
  · exact h.elim
theorem de_isi {C : Cl} (T : IsiOk X.K ts f [C]) (hm : X.mg "isinstance" = none) (he : DE X W e m) (hc : DC X ce C) (hg : Gl X "isinstance" := by rfl)
    (hs : starEach [e, ce] X.env = [(false, eval e X.env), (false, eval ce X.env)] := by rfl) (hs2 : starEach [ce] X.env = [(false, eval ce X.env)] := by rfl) (hpl : (backTo pos (starEach [ce] X.env)).any (·.1) = false := by rfl) :
    DE X W (.Call (.Name "isinstance" p) [e, ce] [] pos) (mIsi ts f m) := by
  obtain ⟨t, pe, se⟩ := he.ex
  obtain ⟨v, pc, kc⟩ := hc.ex
  refine ⟨_, pe_callB call_isi hg hm PyProof.Rows.boot_isinstance (pa_cons pe (pa_cons pc pa_nil hs2) (by rw [hs, hs2])) (by decide) (by decide) (by rw [hs, hs2]) hpl, fun Z R F δ c σ H Q w rs h => se Z R F δ c σ H _ w rs ((Aft.bind h).imp ?_)⟩
  rintro R1 F1 d c1 H1 p1 e1 w1 ⟨_, _, _, h1⟩ x rx
  obtain ⟨t, b, ty, k, q⟩ := isi_of T w1 rx h1
  exact ⟨x, v, t, _, b, rfl, kc, ty, kitOne_of k, q⟩
/-- classes in a tuple -/
inductive DCs (X : Cx) : List Expr → List Cl → Prop
  | nil : DCs X [] []
  | cons {e : Expr} {es : List Expr} {C : Cl} {Cs : List Cl} (h : DC X e C) (hs : starEach (e :: es) X.env = (false, eval e X.env) :: starEach es X.env) (t : DCs X es Cs) : DCs X (e :: es) (C :: Cs)
theorem dcs_pa : ∀ {es : List Expr} {Cs : List Cl}, DCs X es Cs → ∃ vs t, PA X es t ∧ Paired ClsV vs (Cs.map (Cl.v X.K)) ∧ vs.length = Cs.length ∧ ∀ σ H Q, Q vs H → t σ H Q
  | _, _, .nil => ⟨[], _, pa_nil, .nil, rfl, fun σ H Q h => h⟩
  | _, _, .cons h hs t => by
    obtain ⟨v, pv, kv⟩ := h.ex
    obtain ⟨vs, t', pt, kt, hl, st⟩ := dcs_pa t
    exact ⟨v :: vs, _, pa_cons pv pt hs, .cons kv kt, by rw [List.length_cons, List.length_cons, hl], fun σ H Q h => st σ H _ h⟩
theorem de_isiT {es : List Expr} {k : Nat} {Cs : List Cl} (T : IsiOk X.K ts f Cs) (hm : X.mg "isinstance" = none) (he : DE X W e m) (hc : DCs X es Cs) (hl : Cs.length ≤ 100 := by decide) (hg : Gl X "isinstance" := by rfl)
    (hs : starEach [e, .Tuple es k p2] X.env = [(false, eval e X.env), (false, eval (.Tuple es k p2) X.env)] := by rfl) (hs2 : starEach [.Tuple es k p2] X.env = [(false, eval (.Tuple es k p2) X.env)] := by rfl) (hpl : (backTo pos (starEach [.Tuple es k p2] X.env)).any (·.1) = false := by rfl) :
    DE X W (.Call (.Name "isinstance" p) [e, .Tuple es k p2] [] pos) (mIsi ts f m) := by
  obtain ⟨t, pe, se⟩ := he.ex
  obtain ⟨vs, t', pt, kt, hl', st⟩ := dcs_pa hc
  refine ⟨_, pe_callB call_isiT hg hm PyProof.Rows.boot_isinstance (pa_cons pe (pa_cons (pe_tup pt) pa_nil hs2) (by rw [hs, hs2])) (by decide) (by decide) (by rw [hs, hs2]) hpl, fun Z R F δ c σ H Q w rs h => se Z R F δ c σ H _ w rs ((Aft.bind h).imp ?_)⟩
  rintro R1 F1 d c1 H1 p1 e1 w1 ⟨_, _, _, h1⟩ x rx
  refine st σ H1 _ ⟨by rw [hl']; exact Nat.le_trans hl (by decide), fun a na => ?_⟩
  have w2 : Wd X.K Z R1 F1 c1 (upd H1 a (.tup vs)) := w1.more (Ext.upd na)
  obtain ⟨t, b, ty, k, q⟩ := isi_of T w2 rx h1
  exact ⟨x, a, vs, t, _, b, rfl, upd_same, kt, ty, k, q⟩
end
end Nw

set_option Elab.async false
set_option linter.all false
set_option maxRecDepth 100000
set_option maxHeartbeats 4000000
/-! Nw9: == and != of sequences whose items are compared by the text's own __eq__: both answers. -/
namespace NwQ
open PySem PySem.SeqAt
open AutoSeq1 (wpAny_loadPart')
open MeetsSeq MeetsSeq2 MeetsSeq3 SeqRoads2
open GQ (FinOf call_here)
section
variable {prog : Program} {w : World} {A : Around} {R : Result → Shared → Prop}

/-- tuples, item by item: I i: the first i are equal; J: two differ -/
theorem tuple_eq (l b : Addr) (xs ys : Array Value) (n m : Nat) (dl db : Option Addr) (sl sb : Array (Option Value)) (I : Nat → Shared → Prop) (J : Shared → Prop)
    (turn : ∀ i (h1 : i < xs.size) (h2 : i < ys.size) s, I i s → wpAny (model prog w) A.in1 (eqBool xs[i] ys[i]) (fun r s' => if r = true then I (i + 1) s' else J s') (fun e s' => R (.error e) s') s)
    (fin : ∀ s, I (min xs.size ys.size) s → R (.ok (.ret (.bool ((xs.size == ys.size))))) s) (stop : ∀ s, J s → R (.ok (.ret (.bool false))) s) {s : Shared}
    (hl : s.heap.get? l = some { cls := .type "tuple", dict := dl, data := .seq xs n, slots := sl }) (hb : s.heap.get? b = some { cls := .type "tuple", dict := db, data := .seq ys m, slots := sb }) (h : I 0 s) :
    wpAny (model prog w) A.in1 (Builtin.«tuple.__eq__» ⟨[.ref l, .ref b], []⟩) (FinOf prog w A R) (fun e s' => R (.error e) s') s := by
  have f2 := AutoSeq1.sub_tuple_tuple
  have hz : (xs.toList.zip ys.toList).length = min xs.size ys.size := by simp
  have h0 := h
  obtain ⟨hp, g, d, tk, os⟩ := s
  wp_walk using wpAny_loadPart' hl, wpAny_loadPart' hb, wpAny_forIn_list _ (fun rest q s' => q.1 = none ∧ ∃ i, rest = (xs.toList.zip ys.toList).drop i ∧ i ≤ min xs.size ys.size ∧ I i s') _
  case turn =>
    rintro ⟨x, y⟩ rest q s' ⟨hq, i, e, hi, hI⟩
    have lt : i < (xs.toList.zip ys.toList).length := Nat.lt_of_not_le fun z => by rw [List.drop_of_length_le z] at e; cases e
    have lt2 : i < min xs.size ys.size := hz ▸ lt
    have h1 : i < xs.size := Nat.lt_of_lt_of_le lt2 (Nat.min_le_left _ _)
    have h2 : i < ys.size := Nat.lt_of_lt_of_le lt2 (Nat.min_le_right _ _)
    rw [List.drop_eq_getElem_cons lt] at e
    injection e with exy er
    obtain rfl : x = xs[i] := by simpa using congrArg Prod.fst exy
    obtain rfl : y = ys[i] := by simpa using congrArg Prod.snd exy
    refine wpAny_bind (wpAny_mono (turn i h1 h2 s' hI) (fun r s2 q2 => ?_) fun _ _ z => z)
    cases r with
    | true =>
      rw [if_pos rfl] at q2
      wp_walk
      exact ⟨rfl, i + 1, er, lt2, q2⟩
    | false =>
      rw [if_neg (by decide)] at q2
      have hR := stop s2 q2
      wp_walk
      exact hR
  case fin =>
    rintro ⟨q1, q2⟩ s' ⟨hq, i, e, hi, hI⟩
    simp only at hq
    subst hq
    have ge : min xs.size ys.size ≤ i := Nat.le_of_not_lt fun z => by rw [List.drop_eq_getElem_cons (hz ▸ z)] at e; cases e
    obtain rfl : i = min xs.size ys.size := Nat.le_antisymm hi ge
    have hR := fin s' hI
    wp_walk
    simpa [Builtin.Tuple.tupleCompareSizes, bne] using hR
  case h => exact ⟨rfl, 0, rfl, Nat.zero_le _, h0⟩

/-- tuples, item by item: I i: the first i are equal; J: two differ -/
theorem tuple_ne (l b : Addr) (xs ys : Array Value) (n m : Nat) (dl db : Option Addr) (sl sb : Array (Option Value)) (I : Nat → Shared → Prop) (J : Shared → Prop)
    (turn : ∀ i (h1 : i < xs.size) (h2 : i < ys.size) s, I i s → wpAny (model prog w) A.in1 (eqBool xs[i] ys[i]) (fun r s' => if r = true then I (i + 1) s' else J s') (fun e s' => R (.error e) s') s)
    (fin : ∀ s, I (min xs.size ys.size) s → R (.ok (.ret (.bool (!(xs.size == ys.size))))) s) (stop : ∀ s, J s → R (.ok (.ret (.bool true))) s) {s : Shared}
    (hl : s.heap.get? l = some { cls := .type "tuple", dict := dl, data := .seq xs n, slots := sl }) (hb : s.heap.get? b = some { cls := .type "tuple", dict := db, data := .seq ys m, slots := sb }) (h : I 0 s) :
    wpAny (model prog w) A.in1 (Builtin.«tuple.__ne__» ⟨[.ref l, .ref b], []⟩) (FinOf prog w A R) (fun e s' => R (.error e) s') s := by
  have f2 := AutoSeq1.sub_tuple_tuple
  have hz : (xs.toList.zip ys.toList).length = min xs.size ys.size := by simp
  have h0 := h
  obtain ⟨hp, g, d, tk, os⟩ := s
  wp_walk using wpAny_loadPart' hl, wpAny_loadPart' hb, wpAny_forIn_list _ (fun rest q s' => q.1 = none ∧ ∃ i, rest = (xs.toList.zip ys.toList).drop i ∧ i ≤ min xs.size ys.size ∧ I i s') _
  case turn =>
    rintro ⟨x, y⟩ rest q s' ⟨hq, i, e, hi, hI⟩
    have lt : i < (xs.toList.zip ys.toList).length := Nat.lt_of_not_le fun z => by rw [List.drop_of_length_le z] at e; cases e
    have lt2 : i < min xs.size ys.size := hz ▸ lt
    have h1 : i < xs.size := Nat.lt_of_lt_of_le lt2 (Nat.min_le_left _ _)
    have h2 : i < ys.size := Nat.lt_of_lt_of_le lt2 (Nat.min_le_right _ _)
    rw [List.drop_eq_getElem_cons lt] at e
    injection e with exy er
    obtain rfl : x = xs[i] := by simpa using congrArg Prod.fst exy
    obtain rfl : y = ys[i] := by simpa using congrArg Prod.snd exy
    refine wpAny_bind (wpAny_mono (turn i h1 h2 s' hI) (fun r s2 q2 => ?_) fun _ _ z => z)
    cases r with
    | true =>
      rw [if_pos rfl] at q2
      wp_walk
      exact ⟨rfl, i + 1, er, lt2, q2⟩
    | false =>
      rw [if_neg (by decide)] at q2
      have hR := stop s2 q2
      wp_walk
      exact hR
  case fin =>
    rintro ⟨q1, q2⟩ s' ⟨hq, i, e, hi, hI⟩
    simp only at hq
    subst hq
    have ge : min xs.size ys.size ≤ i := Nat.le_of_not_lt fun z => by rw [List.drop_eq_getElem_cons (hz ▸ z)] at e; cases e
    obtain rfl : i = min xs.size ys.size := Nat.le_antisymm hi ge
    have hR := fin s' hI
    wp_walk
    simpa [Builtin.Tuple.tupleCompareSizes, bne] using hR
  case h => exact ⟨rfl, 0, rfl, Nat.zero_le _, h0⟩

/-- two lists of N items stand at l and b -/
def Two (l b : Addr) (N : Nat) (s : Shared) (k : Array Value → Array Value → Prop) : Prop := ∃ (xs ys : Array Value) (n m : Nat), s.heap.get? l = some { cls := .type "list", data := .seq xs n } ∧ s.heap.get? b = some { cls := .type "list", data := .seq ys m } ∧ xs.size = N ∧ ys.size = N ∧ k xs ys
def LstI (prog : Program) (w : World) (A : Around) (E : Value → Shared → Prop) (l b : Addr) (N : Nat) (I : Nat → Shared → Prop) (J : Shared → Prop) : Prop :=
  (∀ i s, I i s → Two l b N s fun xs ys => ∀ (h1 : i < xs.size) (h2 : i < ys.size), wpAny (model prog w) A.in1 (eqBool xs[i] ys[i]) (fun r s' => if r = true then I (i + 1) s' else J s') E s) ∧ ∀ s, J s → Two l b N s fun _ _ => True

theorem list_eq_loop (l b : Addr) (N : Nat) (I : Nat → Shared → Prop) (J : Shared → Prop) (hl : LstI prog w A (fun e s' => R (.error e) s') l b N I J) (fin : ∀ s, I N s → R (.ok (.ret (.bool true))) s) (stop : ∀ s, J s → R (.ok (.ret (.bool false))) s) (k : Nat) :
    ∀ i : Nat, N - i = k → i ≤ N → ∀ s, I i s → wpAny (model prog w) A.in1 (Builtin.«list.__eq__.loop» ⟨[.ref l, .ref b, rawInt i, rawInt 2], []⟩) (FinOf prog w A R) (fun e s' => R (.error e) s') s := by
  induction k with
  | zero =>
    intro i hk hi s h
    obtain ⟨xs, ys, n, m, gl, gb, zx, zy, _⟩ := hl.1 _ _ h
    obtain rfl : i = N := by omega
    have hR := fin s h
    obtain ⟨hp, g, d, tk, os⟩ := s
    wp_walk using wpAny_loadPart' gl, wpAny_loadPart' gb
    rw [show xs[((i : Nat) : Int).toNat]? = none by simp; omega, show ys[((i : Nat) : Int).toNat]? = none by simp; omega]
    wp_walk using wpAny_loadPart' gl, wpAny_loadPart' gb
    show R (.ok (.ret (.bool (xs.size == ys.size)))) _
    rw [zx, zy]
    simpa using hR
  | succ k ih =>
    intro i hk hi s h
    obtain ⟨xs, ys, n, m, gl, gb, zx, zy, turn⟩ := hl.1 _ _ h
    have h1 : i < xs.size := by omega
    have h2 : i < ys.size := by omega
    have ht := turn h1 h2
    obtain ⟨hp, g, d, tk, os⟩ := s
    wp_walk using wpAny_loadPart' gl, wpAny_loadPart' gb
    rw [show xs[((i : Nat) : Int).toNat]? = some xs[i] by simp [h1], show ys[((i : Nat) : Int).toNat]? = some ys[i] by simp [h2]]
    refine wpAny_bind (wpAny_mono ht (fun r s2 q2 => ?_) fun _ _ z => z)
    cases r with
    | true =>
      rw [if_pos rfl] at q2
      have hrec := ih (i + 1) (by omega) (by omega) s2 q2
      obtain ⟨hp2, g2, d2, tk2, os2⟩ := s2
      wp_walk
      rw [show ((i : Int) + 1) = ((i + 1 : Nat) : Int) by omega]
      refine ⟨plainId_quiet plain_eq_loop _, codeAny_builtin entry_eq_loop ?_⟩
      rw [Around.under_plainId plain_eq_loop _]
      exact hrec
    | false =>
      rw [if_neg (by decide)] at q2
      have hR := stop s2 q2
      obtain ⟨xs2, ys2, n2, m2, gl2, gb2, zx2, zy2, _⟩ := hl.2 s2 q2
      obtain ⟨hp2, g2, d2, tk2, os2⟩ := s2
      wp_walk using wpAny_loadPart' gl2, wpAny_loadPart' gb2
      rw [show xs2[((i : Nat) : Int).toNat]? = some (xs2[i]'(by omega)) by simp [zx2], show ys2[((i : Nat) : Int).toNat]? = some (ys2[i]'(by omega)) by simp [zy2]]
      wp_walk
      exact hR

theorem list_ne_loop (l b : Addr) (N : Nat) (I : Nat → Shared → Prop) (J : Shared → Prop) (hl : LstI prog w A (fun e s' => R (.error e) s') l b N I J) (fin : ∀ s, I N s → R (.ok (.ret (.bool false))) s) (stop : ∀ s, J s → R (.ok (.ret (.bool true))) s) (k : Nat) :
    ∀ i : Nat, N - i = k → i ≤ N → ∀ s, I i s → wpAny (model prog w) A.in1 (Builtin.«list.__eq__.loop» ⟨[.ref l, .ref b, rawInt i, rawInt 3], []⟩) (FinOf prog w A R) (fun e s' => R (.error e) s') s := by
  induction k with
  | zero =>
    intro i hk hi s h
    obtain ⟨xs, ys, n, m, gl, gb, zx, zy, _⟩ := hl.1 _ _ h
    obtain rfl : i = N := by omega
    have hR := fin s h
    obtain ⟨hp, g, d, tk, os⟩ := s
    wp_walk using wpAny_loadPart' gl, wpAny_loadPart' gb
    rw [show xs[((i : Nat) : Int).toNat]? = none by simp; omega, show ys[((i : Nat) : Int).toNat]? = none by simp; omega]
    wp_walk using wpAny_loadPart' gl, wpAny_loadPart' gb
    show R (.ok (.ret (.bool (xs.size != ys.size)))) _
    rw [zx, zy]
    simpa using hR
  | succ k ih =>
    intro i hk hi s h
    obtain ⟨xs, ys, n, m, gl, gb, zx, zy, turn⟩ := hl.1 _ _ h
    have h1 : i < xs.size := by omega
    have h2 : i < ys.size := by omega
    have ht := turn h1 h2
    obtain ⟨hp, g, d, tk, os⟩ := s
    wp_walk using wpAny_loadPart' gl, wpAny_loadPart' gb
    rw [show xs[((i : Nat) : Int).toNat]? = some xs[i] by simp [h1], show ys[((i : Nat) : Int).toNat]? = some ys[i] by simp [h2]]
    refine wpAny_bind (wpAny_mono ht (fun r s2 q2 => ?_) fun _ _ z => z)
    cases r with
    | true =>
      rw [if_pos rfl] at q2
      have hrec := ih (i + 1) (by omega) (by omega) s2 q2
      obtain ⟨hp2, g2, d2, tk2, os2⟩ := s2
      wp_walk
      rw [show ((i : Int) + 1) = ((i + 1 : Nat) : Int) by omega]
      refine ⟨plainId_quiet plain_eq_loop _, codeAny_builtin entry_eq_loop ?_⟩
      rw [Around.under_plainId plain_eq_loop _]
      exact hrec
    | false =>
      rw [if_neg (by decide)] at q2
      have hR := stop s2 q2
      obtain ⟨xs2, ys2, n2, m2, gl2, gb2, zx2, zy2, _⟩ := hl.2 s2 q2
      obtain ⟨hp2, g2, d2, tk2, os2⟩ := s2
      wp_walk using wpAny_loadPart' gl2, wpAny_loadPart' gb2
      rw [show xs2[((i : Nat) : Int).toNat]? = some (xs2[i]'(by omega)) by simp [zx2], show ys2[((i : Nat) : Int).toNat]? = some (ys2[i]'(by omega)) by simp [zy2]]
      wp_walk
      exact hR

theorem list_eq (l b : Addr) (N : Nat) (I : Nat → Shared → Prop) (J : Shared → Prop) (hl : LstI prog w A (fun e s' => R (.error e) s') l b N I J) (fin : ∀ s, I N s → R (.ok (.ret (.bool true))) s) (stop : ∀ s, J s → R (.ok (.ret (.bool false))) s) {s : Shared} (h : I 0 s) :
    wpAny (model prog w) A.in1 (Builtin.«list.__eq__» ⟨[.ref l, .ref b], []⟩) (FinOf prog w A R) (fun e s' => R (.error e) s') s := by
  obtain ⟨xs, ys, n, m, gl, gb, zx, zy, _⟩ := hl.1 _ _ h
  have hrec := list_eq_loop l b N I J hl fin stop _ 0 rfl (Nat.zero_le _) s h
  obtain ⟨hp, g, d, tk, os⟩ := s
  have f3 := AutoSeq1.sub_list_list
  have hne : ¬ (xs.size != ys.size) = true := by simp [zx, zy]
  wp_walk using wpAny_loadPart' gl, wpAny_loadPart' gb
  refine ⟨plainId_quiet plain_eq_loop _, codeAny_builtin entry_eq_loop ?_⟩
  rw [Around.under_plainId plain_eq_loop _]
  exact hrec
theorem list_eq_len (l b : Addr) {xs ys : Array Value} {n m : Nat} {s : Shared} (gl : s.heap.get? l = some { cls := .type "list", data := .seq xs n }) (gb : s.heap.get? b = some { cls := .type "list", data := .seq ys m }) (hne : (xs.size != ys.size) = true) (stop : R (.ok (.ret (.bool false))) s) :
    wpAny (model prog w) A.in1 (Builtin.«list.__eq__» ⟨[.ref l, .ref b], []⟩) (FinOf prog w A R) (fun e s' => R (.error e) s') s := by
  obtain ⟨hp, g, d, tk, os⟩ := s
  have f3 := AutoSeq1.sub_list_list
  wp_walk using wpAny_loadPart' gl, wpAny_loadPart' gb
  exact stop

theorem list_ne (l b : Addr) (N : Nat) (I : Nat → Shared → Prop) (J : Shared → Prop) (hl : LstI prog w A (fun e s' => R (.error e) s') l b N I J) (fin : ∀ s, I N s → R (.ok (.ret (.bool false))) s) (stop : ∀ s, J s → R (.ok (.ret (.bool true))) s) {s : Shared} (h : I 0 s) :
    wpAny (model prog w) A.in1 (Builtin.«list.__ne__» ⟨[.ref l, .ref b], []⟩) (FinOf prog w A R) (fun e s' => R (.error e) s') s := by
  obtain ⟨xs, ys, n, m, gl, gb, zx, zy, _⟩ := hl.1 _ _ h
  have hrec := list_ne_loop l b N I J hl fin stop _ 0 rfl (Nat.zero_le _) s h
  obtain ⟨hp, g, d, tk, os⟩ := s
  have f3 := AutoSeq1.sub_list_list
  have hne : ¬ (xs.size != ys.size) = true := by simp [zx, zy]
  wp_walk using wpAny_loadPart' gl, wpAny_loadPart' gb
  refine ⟨plainId_quiet plain_eq_loop _, codeAny_builtin entry_eq_loop ?_⟩
  rw [Around.under_plainId plain_eq_loop _]
  exact hrec
theorem list_ne_len (l b : Addr) {xs ys : Array Value} {n m : Nat} {s : Shared} (gl : s.heap.get? l = some { cls := .type "list", data := .seq xs n }) (gb : s.heap.get? b = some { cls := .type "list", data := .seq ys m }) (hne : (xs.size != ys.size) = true) (stop : R (.ok (.ret (.bool true))) s) :
    wpAny (model prog w) A.in1 (Builtin.«list.__ne__» ⟨[.ref l, .ref b], []⟩) (FinOf prog w A R) (fun e s' => R (.error e) s') s := by
  obtain ⟨hp, g, d, tk, os⟩ := s
  have f3 := AutoSeq1.sub_list_list
  wp_walk using wpAny_loadPart' gl, wpAny_loadPart' gb
  exact stop
end
section
variable {prog : Program} {w : World} {A : Around} {E : Value → Shared → Prop} {s : Shared}

theorem rc_list_eq {l b : Addr} {N : Nat} {Q : Value → Shared → Prop} (hu : A.units < cLine) (I : Nat → Shared → Prop) (J : Shared → Prop) (hl : LstI prog w A E l b N I J) (fin : ∀ s, I N s → Q (.bool true) s) (stop : ∀ s, J s → Q (.bool false) s) (h : I 0 s) :
    wpAny (model prog w) A (richCompare .Eq (.ref l) (.ref b)) Q E s := by
  obtain ⟨xs, ys, n, m, gl, gb, _⟩ := hl.1 _ _ h
  refine wpAny_richCompare_same_room (op := .Eq) ⟨_, gl, rfl⟩ ⟨_, gb, rfl⟩ F.slot_list_eq (call_here F.slot_list_eq ⟨_, gl, rfl⟩ F.entry_list_eq (F.args_list_eq_2 _ _) ?_) hu
  exact list_eq (R := wants (fun v s' => v ≠ .notImplemented ∧ Q v s') E) l b N I J hl (fun s' q => ⟨(fun z => nomatch z), fin s' q⟩) (fun s' q => ⟨(fun z => nomatch z), stop s' q⟩) h
theorem rc_list_eq_len {l b : Addr} {xs ys : Array Value} {n m : Nat} {Q : Value → Shared → Prop} (hu : A.units < cLine) (gl : s.heap.get? l = some { cls := .type "list", data := .seq xs n }) (gb : s.heap.get? b = some { cls := .type "list", data := .seq ys m }) (hne : (xs.size != ys.size) = true) (h : Q (.bool false) s) :
    wpAny (model prog w) A (richCompare .Eq (.ref l) (.ref b)) Q E s := by
  refine wpAny_richCompare_same_room (op := .Eq) ⟨_, gl, rfl⟩ ⟨_, gb, rfl⟩ F.slot_list_eq (call_here F.slot_list_eq ⟨_, gl, rfl⟩ F.entry_list_eq (F.args_list_eq_2 _ _) ?_) hu
  exact list_eq_len (R := wants (fun v s' => v ≠ .notImplemented ∧ Q v s') E) l b gl gb hne ⟨(fun z => nomatch z), h⟩
theorem rc_tup_eq {l b : Addr} {xs ys : Array Value} {Q : Value → Shared → Prop} (hu : A.units < cLine) (I : Nat → Shared → Prop) (J : Shared → Prop) (hl : s.heap.IsTuple l xs) (hb : s.heap.IsTuple b ys)
    (turn : ∀ i (h1 : i < xs.size) (h2 : i < ys.size) s, I i s → wpAny (model prog w) A.in1 (eqBool xs[i] ys[i]) (fun r s' => if r = true then I (i + 1) s' else J s') E s)
    (fin : ∀ s, I (min xs.size ys.size) s → Q (.bool ((xs.size == ys.size))) s) (stop : ∀ s, J s → Q (.bool false) s) (h : I 0 s) : wpAny (model prog w) A (richCompare .Eq (.ref l) (.ref b)) Q E s := by
  obtain ⟨⟨c1, d1, t1, s1⟩, g1, k1, n1, q1⟩ := id hl
  obtain ⟨⟨c2, d2, t2, s2⟩, g2, k2, n2, q2⟩ := id hb
  simp only at k1 q1 k2 q2
  subst k1 q1 k2 q2
  refine wpAny_richCompare_same_room (op := .Eq) ⟨_, g1, rfl⟩ ⟨_, g2, rfl⟩ F.slot_tuple_eq (call_here F.slot_tuple_eq ⟨_, g1, rfl⟩ F.entry_tuple_eq (F.args_tuple_eq_2 _ _) ?_) hu
  exact tuple_eq (R := wants (fun v s' => v ≠ .notImplemented ∧ Q v s') E) l b xs ys n1 n2 d1 d2 s1 s2 I J turn (fun s' q => ⟨(fun z => nomatch z), fin s' q⟩) (fun s' q => ⟨(fun z => nomatch z), stop s' q⟩) g1 g2 h

theorem rc_list_ne {l b : Addr} {N : Nat} {Q : Value → Shared → Prop} (hu : A.units < cLine) (I : Nat → Shared → Prop) (J : Shared → Prop) (hl : LstI prog w A E l b N I J) (fin : ∀ s, I N s → Q (.bool false) s) (stop : ∀ s, J s → Q (.bool true) s) (h : I 0 s) :
    wpAny (model prog w) A (richCompare .NotEq (.ref l) (.ref b)) Q E s := by
  obtain ⟨xs, ys, n, m, gl, gb, _⟩ := hl.1 _ _ h
  refine wpAny_richCompare_same_room (op := .NotEq) ⟨_, gl, rfl⟩ ⟨_, gb, rfl⟩ F.slot_list_ne (call_here F.slot_list_ne ⟨_, gl, rfl⟩ F.entry_list_ne (F.args_list_ne_2 _ _) ?_) hu
  exact list_ne (R := wants (fun v s' => v ≠ .notImplemented ∧ Q v s') E) l b N I J hl (fun s' q => ⟨(fun z => nomatch z), fin s' q⟩) (fun s' q => ⟨(fun z => nomatch z), stop s' q⟩) h
theorem rc_list_ne_len {l b : Addr} {xs ys : Array Value} {n m : Nat} {Q : Value → Shared → Prop} (hu : A.units < cLine) (gl : s.heap.get? l = some { cls := .type "list", data := .seq xs n }) (gb : s.heap.get? b = some { cls := .type "list", data := .seq ys m }) (hne : (xs.size != ys.size) = true) (h : Q (.bool true) s) :
    wpAny (model prog w) A (richCompare .NotEq (.ref l) (.ref b)) Q E s := by
  refine wpAny_richCompare_same_room (op := .NotEq) ⟨_, gl, rfl⟩ ⟨_, gb, rfl⟩ F.slot_list_ne (call_here F.slot_list_ne ⟨_, gl, rfl⟩ F.entry_list_ne (F.args_list_ne_2 _ _) ?_) hu
  exact list_ne_len (R := wants (fun v s' => v ≠ .notImplemented ∧ Q v s') E) l b gl gb hne ⟨(fun z => nomatch z), h⟩
theorem rc_tup_ne {l b : Addr} {xs ys : Array Value} {Q : Value → Shared → Prop} (hu : A.units < cLine) (I : Nat → Shared → Prop) (J : Shared → Prop) (hl : s.heap.IsTuple l xs) (hb : s.heap.IsTuple b ys)
    (turn : ∀ i (h1 : i < xs.size) (h2 : i < ys.size) s, I i s → wpAny (model prog w) A.in1 (eqBool xs[i] ys[i]) (fun r s' => if r = true then I (i + 1) s' else J s') E s)
    (fin : ∀ s, I (min xs.size ys.size) s → Q (.bool (!(xs.size == ys.size))) s) (stop : ∀ s, J s → Q (.bool true) s) (h : I 0 s) : wpAny (model prog w) A (richCompare .NotEq (.ref l) (.ref b)) Q E s := by
  obtain ⟨⟨c1, d1, t1, s1⟩, g1, k1, n1, q1⟩ := id hl
  obtain ⟨⟨c2, d2, t2, s2⟩, g2, k2, n2, q2⟩ := id hb
  simp only at k1 q1 k2 q2
  subst k1 q1 k2 q2
  refine wpAny_richCompare_same_room (op := .NotEq) ⟨_, g1, rfl⟩ ⟨_, g2, rfl⟩ F.slot_tuple_ne (call_here F.slot_tuple_ne ⟨_, g1, rfl⟩ F.entry_tuple_ne (F.args_tuple_ne_2 _ _) ?_) hu
  exact tuple_ne (R := wants (fun v s' => v ≠ .notImplemented ∧ Q v s') E) l b xs ys n1 n2 d1 d2 s1 s2 I J turn (fun s' q => ⟨(fun z => nomatch z), fin s' q⟩) (fun s' q => ⟨(fun z => nomatch z), stop s' q⟩) g1 g2 h
end
end NwQ

set_option Elab.async false
set_option linter.all false
set_option maxRecDepth 100000
set_option maxHeartbeats 4000000
/-! Nw10: == and != by the text's own __eq__, by plain data. -/
namespace NwN
open PySem PySem.W
section
variable {prog : Program} {w : World} {A : Around} {E : Value → Shared → Prop} {s : Shared} {K : Frag} {x C f : Addr} {ox : Obj} {od : Option Obj} {b tb : Value}
/-- x != b, x an instance whose class has an own __eq__ and no own __ne__ -/
theorem tryNe_K {Q : Value → Shared → Prop} (hu : A.units + 1 < cLine) (X : K.In s.heap) (I : InstAt s.heap x ox C od)
    (hne : findIn K (.ref C) "__ne__" = some (some (.builtin "object.__ne__"))) (hs : findIn K (.ref C) "__eq__" = some (some (.ref f))) (hf : isFn K (.ref f) = true) (ho : subIn K (.ref C) (.type "object") = some true)
    (h : wpAny (model prog w) A.in1 (call (.ref f) [.ref x, b]) (fun v s' => ∃ k, v = .bool k ∧ Q (.bool (!k)) s') E s) : wpAny (model prog w) A (tryCompare (.ref x) "__ne__" b) (fun r s' => ∃ v, r = some v ∧ Q v s') E s := by
  have inner : ∀ {Q' : Fin → Shared → Prop}, (∀ k s', Q (.bool (!k)) s' → Q' (.done (.ret (.bool (!k)))) s') → wpAny (model prog w) A.in1 (Builtin.«object.__ne__» ⟨[.ref x, b], []⟩) Q' E s := by
    intro Q' hQ
    unfold Builtin.«object.__ne__»
    have hcall : wpAny (model prog w) A.in1 (callSpecialIfBound? (.ref x) (Str.ofString "__eq__") [b]) (fun r s' => ∃ k, r = some (.bool k) ∧ Q (.bool (!k)) s') E s :=
      ifBound_K X I hs hf (wpAny_mono h (fun v s' hv => by obtain ⟨k, rfl, q⟩ := hv; exact ⟨k, rfl, q⟩) fun _ _ e => e)
    repeat (first
      | with_reducible refine wpAny_cRoomFor hu ?_
      | (refine wpAny_bind (m := callSpecialIfBound? (.ref x) (Str.ofString "__eq__") [b]) (wpAny_mono hcall (fun r s' hr => by
          obtain ⟨k, rfl, hq⟩ := hr
          have hq' := hQ k s' hq
          repeat (first | exact hq' | exact wpAny_pure hq' | exact wpAny_truthy_bool hq' | (refine wpAny_bind (m := truthy (.bool _)) (wpAny_truthy_bool ?_)) | wp_step)) fun _ _ e => e))
      | wp_step)
  simp only [tryCompare, callSpecialIfBound?, bindSpecialIfBound?]
  refine wpAny_bind (wpAny_holding (wpAny_bind (wpAny_bind (wpAny_bind (I.type.here ((looks_findIn X hne).here ?_))))))
  have S : Slot "object" "__ne__" "object.__ne__" := F.slot_object_ne
  simp only [S.bind]
  have fin : wpAny (model prog w) A (call (.builtin "object.__ne__") ([.ref x] ++ [b])) (fun v s' => ∃ k, v = .bool (!k) ∧ Q (.bool (!k)) s') E s := by
    refine wpAny_call (codeAny_call_builtin S.plain F.entry_object_ne ?_)
    show wpAny _ _ (checkBuiltinCall "object.__ne__" ⟨.ref x :: [b], []⟩) _ _ _
    have go : wpAny (model prog w) A.in1 (Builtin.«object.__ne__» ⟨[.ref x, b], []⟩) (fun fin s' => match fin with
        | .done f => wants (fun v s' => ∃ k, v = .bool (!k) ∧ Q (.bool (!k)) s') E (.ok f) s'
        | .again c' => c'.quiet = true ∧ codeAny (model prog w) A c' (wants (fun v s' => ∃ k, v = .bool (!k) ∧ Q (.bool (!k)) s') E) s') E s := inner fun k s' q => ⟨k, rfl, q⟩
    have hk := F.cmpKind_ne
    have hsp := F.cmpSplit_ne
    have ha := F.cmpArgs_ne (.ref x) b
    simp only [checkBuiltinCall, hk, hsp]
    refine wpAny_bind ?_
    unfold isInstance
    refine wpAny_bind (I.type.here ((looks_subIn X ho).here ?_))
    simp only [if_true, Bool.not_true, Bool.false_eq_true, if_false]
    cases hsig : Manifest.signature? "object.__ne__" with
    | none => exact wpAny_pure go
    | some sig =>
      simp only [argsOk, hsig] at ha
      have h2 : Bind.checkArgs "object.__ne__" sig ⟨.ref x :: [b], []⟩ = pure () := ha
      show wpAny _ _ (Bind.checkArgs "object.__ne__" sig ⟨.ref x :: [b], []⟩) _ _ _
      rw [h2]
      exact wpAny_pure go
  have done : wpAny (model prog w) A (call (.builtin "object.__ne__") ([.ref x] ++ [b]) >>= fun v => pure (some v)) (fun r s' => wpAny (model prog w) A (match r with
      | some .notImplemented | none => (pure none : Sem (Option Value))
      | some v => pure (some v)) (fun r s' => ∃ v, r = some v ∧ Q v s') E s') E s := by
    refine wpAny_bind (wpAny_mono fin (fun v s' hv => ?_) fun _ _ e => e)
    obtain ⟨k, rfl, q⟩ := hv
    exact wpAny_pure (wpAny_pure ⟨_, rfl, q⟩)
  refine wpAny_bind (wpAny_askSetting (wpAny_ite ?_))
  split
  · exact wpAny_bind (wpAny_pure (wpAny_pure done))
  · exact wpAny_tryCatch (wpAny_bind (wpAny_pure (wpAny_pure done)))
/-- x != b, x an instance whose class has an own __eq__ and no own __ne__ -/
theorem ne_K {Q : Value → Shared → Prop} (hu : A.units + 1 < cLine) (X : K.In s.heap) (I : InstAt s.heap x ox C od) (hb : Looks (model prog w) s.heap (typeOf b) tb) (hn : notFirst K C tb = true)
    (hne : findIn K (.ref C) "__ne__" = some (some (.builtin "object.__ne__"))) (hs : findIn K (.ref C) "__eq__" = some (some (.ref f))) (hf : isFn K (.ref f) = true) (ho : subIn K (.ref C) (.type "object") = some true)
    (h : wpAny (model prog w) A.in1 (call (.ref f) [.ref x, b]) (fun v s' => ∃ k, v = .bool k ∧ Q (.bool (!k)) s') E s) : wpAny (model prog w) A (richCompare .NotEq (.ref x) b) Q E s := by
  have one := tryNe_K (Q := Q) hu X I hne hs hf ho h
  unfold richCompare
  simp only [oneThing_ref]
  refine wpAny_holding (wpAny_bind (wpAny_cRoomFor (Nat.lt_of_succ_lt hu) ?_))
  refine wpAny_bind (I.type.here (wpAny_bind (hb.here ?_)))
  have last : wpAny (model prog w) A (tryCompare (.ref x) (cmpInfo .NotEq).2.1 b) (fun r s' => ∃ v, r = some v ∧ Q v s') E s := one
  split
  · rename_i q
    have e : subIn K tb (.ref C) = some false := by
      rcases Bool.or_eq_true_iff.mp hn with e | e
      · rw [beq_iff_eq.mp e] at q; simp at q
      · exact beq_iff_eq.mp e
    refine wpAny_bind ((looks_subIn X e).here ?_)
    simp only [Bool.false_eq_true, if_false]
    refine wpAny_bind (wpAny_mono last (fun r s' z => ?_) fun _ _ e => e)
    obtain ⟨v, rfl, hq⟩ := z
    exact wpAny_pure hq
  · refine wpAny_bind (wpAny_pure ?_)
    simp only [Bool.false_eq_true, if_false]
    refine wpAny_bind (wpAny_mono last (fun r s' z => ?_) fun _ _ e => e)
    obtain ⟨v, rfl, hq⟩ := z
    exact wpAny_pure hq
end
end NwN

set_option Elab.async false
set_option linter.all false
set_option maxRecDepth 100000
set_option maxHeartbeats 4000000
/-! Nw10b: == and != where the left side declines and the right side is an instance with an own __eq__. -/
namespace NwR
open PySem PySem.W PySem.SeqAt
open AutoSeq1 (wpAny_loadPart')
open MeetsSeq MeetsSeq2 MeetsSeq3 SeqRoads2
open GQ (FinOf call_here)
section
variable {prog : Program} {w : World} {A : Around} {R : Result → Shared → Prop} {s : Shared} {x C dx : Addr} {K : Frag}
theorem dec_str_eq (a : Str) (t : Tok) (g : s.heap.get? x = some (instObj C dx)) (h : R (.ok (.ret .notImplemented)) s) : wpAny (model prog w) A.in1 (Builtin.«str.__eq__» ⟨[.str a t, .ref x], []⟩) (FinOf prog w A R) (fun e s' => R (.error e) s') s := by
  obtain ⟨hp, gg, d, tk, os⟩ := s
  unfold instObj at g
  wp_walk using wpAny_loadPart' g
  exact h
theorem dec_str_ne (a : Str) (t : Tok) (g : s.heap.get? x = some (instObj C dx)) (h : R (.ok (.ret .notImplemented)) s) : wpAny (model prog w) A.in1 (Builtin.«str.__ne__» ⟨[.str a t, .ref x], []⟩) (FinOf prog w A R) (fun e s' => R (.error e) s') s := by
  obtain ⟨hp, gg, d, tk, os⟩ := s
  unfold instObj at g
  wp_walk using wpAny_loadPart' g
  exact h
theorem dec_int_eq (a : Int) (t : Tok) (g : s.heap.get? x = some (instObj C dx)) (h : R (.ok (.ret .notImplemented)) s) : wpAny (model prog w) A.in1 (Builtin.«int.__eq__» ⟨[.int a t, .ref x], []⟩) (FinOf prog w A R) (fun e s' => R (.error e) s') s := by
  obtain ⟨hp, gg, d, tk, os⟩ := s
  unfold instObj at g
  wp_walk using wpAny_loadPart' g
  exact h
theorem dec_int_ne (a : Int) (t : Tok) (g : s.heap.get? x = some (instObj C dx)) (h : R (.ok (.ret .notImplemented)) s) : wpAny (model prog w) A.in1 (Builtin.«int.__ne__» ⟨[.int a t, .ref x], []⟩) (FinOf prog w A R) (fun e s' => R (.error e) s') s := by
  obtain ⟨hp, gg, d, tk, os⟩ := s
  unfold instObj at g
  wp_walk using wpAny_loadPart' g
  exact h
theorem dec_bool_eq (a : Bool) (g : s.heap.get? x = some (instObj C dx)) (h : R (.ok (.ret .notImplemented)) s) : wpAny (model prog w) A.in1 (Builtin.«int.__eq__» ⟨[.bool a, .ref x], []⟩) (FinOf prog w A R) (fun e s' => R (.error e) s') s := by
  obtain ⟨hp, gg, d, tk, os⟩ := s
  unfold instObj at g
  wp_walk using wpAny_loadPart' g
  exact h
theorem dec_bool_ne (a : Bool) (g : s.heap.get? x = some (instObj C dx)) (h : R (.ok (.ret .notImplemented)) s) : wpAny (model prog w) A.in1 (Builtin.«int.__ne__» ⟨[.bool a, .ref x], []⟩) (FinOf prog w A R) (fun e s' => R (.error e) s') s := by
  obtain ⟨hp, gg, d, tk, os⟩ := s
  unfold instObj at g
  wp_walk using wpAny_loadPart' g
  exact h
theorem isI_no {b : Value} {E : Value → Shared → Prop} {M : Model} {T : String} {od : Option Obj} {ox : Obj} {Q : Bool → Shared → Prop} (X : K.In s.heap) (I : InstAt s.heap x ox C od) (hs : subIn K (.ref C) (.type T) = some false) (h : Q false s) : wpAny M A (isInstance (.ref x) (.type T)) Q E s := by
  unfold isInstance
  exact wpAny_bind (I.type.here ((looks_subIn X hs).here h))
theorem dec_tup_eq {l : Addr} {od : Option Obj} {ox : Obj} (X : K.In s.heap) (I : InstAt s.heap x ox C od) (hs : subIn K (.ref C) (.type "tuple") = some false) (h : R (.ok (.ret .notImplemented)) s) : wpAny (model prog w) A.in1 (Builtin.«tuple.__eq__» ⟨[.ref l, .ref x], []⟩) (FinOf prog w A R) (fun e s' => R (.error e) s') s := by
  unfold Builtin.«tuple.__eq__»
  repeat (first | with_reducible refine isI_no (b := .none) X I hs ?_ | wp_step)
  exact h
theorem dec_tup_ne {l : Addr} {od : Option Obj} {ox : Obj} (X : K.In s.heap) (I : InstAt s.heap x ox C od) (hs : subIn K (.ref C) (.type "tuple") = some false) (h : R (.ok (.ret .notImplemented)) s) : wpAny (model prog w) A.in1 (Builtin.«tuple.__ne__» ⟨[.ref l, .ref x], []⟩) (FinOf prog w A R) (fun e s' => R (.error e) s') s := by
  unfold Builtin.«tuple.__ne__»
  repeat (first | with_reducible refine isI_no (b := .none) X I hs ?_ | wp_step)
  exact h
theorem dec_list_eq {l : Addr} {od : Option Obj} {ox : Obj} (X : K.In s.heap) (I : InstAt s.heap x ox C od) (hs : subIn K (.ref C) (.type "list") = some false) (h : R (.ok (.ret .notImplemented)) s) : wpAny (model prog w) A.in1 (Builtin.«list.__eq__» ⟨[.ref l, .ref x], []⟩) (FinOf prog w A R) (fun e s' => R (.error e) s') s := by
  unfold Builtin.«list.__eq__»
  repeat (first | with_reducible refine isI_no (b := .none) X I hs ?_ | wp_step)
  exact h
theorem dec_list_ne {l : Addr} {od : Option Obj} {ox : Obj} (X : K.In s.heap) (I : InstAt s.heap x ox C od) (hs : subIn K (.ref C) (.type "list") = some false) (h : R (.ok (.ret .notImplemented)) s) : wpAny (model prog w) A.in1 (Builtin.«list.__ne__» ⟨[.ref l, .ref x], []⟩) (FinOf prog w A R) (fun e s' => R (.error e) s') s := by
  unfold Builtin.«list.__ne__»
  repeat (first | with_reducible refine isI_no (b := .none) X I hs ?_ | wp_step)
  exact h
theorem dec_dict_eq {l : Addr} {od : Option Obj} {ox : Obj} (X : K.In s.heap) (I : InstAt s.heap x ox C od) (hs : subIn K (.ref C) (.type "dict") = some false) (h : R (.ok (.ret .notImplemented)) s) : wpAny (model prog w) A.in1 (Builtin.«dict.__eq__» ⟨[.ref l, .ref x], []⟩) (FinOf prog w A R) (fun e s' => R (.error e) s') s := by
  unfold Builtin.«dict.__eq__»
  repeat (first | with_reducible refine isI_no (b := .none) X I hs ?_ | wp_step)
  exact h
theorem dec_dict_ne {l : Addr} {od : Option Obj} {ox : Obj} (X : K.In s.heap) (I : InstAt s.heap x ox C od) (hs : subIn K (.ref C) (.type "dict") = some false) (h : R (.ok (.ret .notImplemented)) s) : wpAny (model prog w) A.in1 (Builtin.«dict.__ne__» ⟨[.ref l, .ref x], []⟩) (FinOf prog w A R) (fun e s' => R (.error e) s') s := by
  unfold Builtin.«dict.__ne__»
  repeat (first | with_reducible refine isI_no (b := .none) X I hs ?_ | wp_step)
  exact h
end
section
variable {prog : Program} {w : World} {A : Around} {E : Value → Shared → Prop} {s : Shared} {x C f dx : Addr} {K : Frag} {ox : Obj} {od : Option Obj} {a : Value} {T id : String}
theorem refl_eq {Q : Value → Shared → Prop} (hu : A.units < cLine) (X : K.In s.heap) (I : InstAt s.heap x ox C od) (ha : s.TypeIs a T) (hsub : subIn K (.ref C) (.type T) = some false) (S : Slot T (cmpInfo .Eq).2.1 id)
    (dec : ∀ Q' : Value → Shared → Prop, Q' .notImplemented s → wpAny (model prog w) A (call (.builtin id) [a, .ref x]) Q' E s) (hs : findIn K (.ref C) "__eq__" = some (some (.ref f))) (hf : isFn K (.ref f) = true)
    (h : wpAny (model prog w) A (call (.ref f) [.ref x, a]) (CmpBack Q) E s) : wpAny (model prog w) A (richCompare .Eq a (.ref x)) Q E s := by
  have one : wpAny (model prog w) A (tryCompare (.ref x) (cmpInfo .Eq).2.2 a) (fun r s' => ∃ v, r = some v ∧ Q v s') E s := by
    unfold tryCompare
    refine wpAny_bind (ifBound_K X I hs hf (wpAny_mono h (fun v s' hv => ?_) fun _ _ e => e))
    cases v <;> first | exact hv.elim | exact wpAny_pure ⟨_, rfl, hv⟩
  rcases hi : cmpInfo CmpOp.Eq with ⟨sym, g, r⟩
  rw [hi] at S one
  simp only [richCompare, hi, ha.oneThing_none]
  refine wpAny_holding (wpAny_bind (wpAny_cRoomFor hu ?_))
  refine wpAny_bind (wpAny_typeOf ha (wpAny_bind (I.type.here ?_)))
  split
  · refine wpAny_bind ((looks_subIn X hsub).here ?_)
    simp only [Bool.false_eq_true, if_false, Bool.not_false, if_true]
    refine wpAny_bind (m := tryCompare a _ (.ref x)) (wpAny_tryCompare_declines ha S (dec _ ⟨rfl, ?_⟩))
    refine wpAny_bind (wpAny_mono one (fun r s' z => ?_) fun _ _ e => e)
    obtain ⟨v, rfl, hq⟩ := z
    exact wpAny_pure hq
  · rename_i q
    exact absurd (by simp) q
theorem refl_ne {Q : Value → Shared → Prop} (hu : A.units + 1 < cLine) (X : K.In s.heap) (I : InstAt s.heap x ox C od) (ha : s.TypeIs a T) (hsub : subIn K (.ref C) (.type T) = some false) (S : Slot T (cmpInfo .NotEq).2.1 id)
    (dec : ∀ Q' : Value → Shared → Prop, Q' .notImplemented s → wpAny (model prog w) A (call (.builtin id) [a, .ref x]) Q' E s) (hne : findIn K (.ref C) "__ne__" = some (some (.builtin "object.__ne__"))) (hs : findIn K (.ref C) "__eq__" = some (some (.ref f))) (hf : isFn K (.ref f) = true) (ho : subIn K (.ref C) (.type "object") = some true)
    (h : wpAny (model prog w) A.in1 (call (.ref f) [.ref x, a]) (fun v s' => ∃ k, v = .bool k ∧ Q (.bool (!k)) s') E s) : wpAny (model prog w) A (richCompare .NotEq a (.ref x)) Q E s := by
  have one : wpAny (model prog w) A (tryCompare (.ref x) (cmpInfo .NotEq).2.2 a) (fun r s' => ∃ v, r = some v ∧ Q v s') E s := NwN.tryNe_K hu X I hne hs hf ho h
  rcases hi : cmpInfo CmpOp.NotEq with ⟨sym, g, r⟩
  rw [hi] at S one
  simp only [richCompare, hi, ha.oneThing_none]
  refine wpAny_holding (wpAny_bind (wpAny_cRoomFor (Nat.lt_of_succ_lt hu) ?_))
  refine wpAny_bind (wpAny_typeOf ha (wpAny_bind (I.type.here ?_)))
  split
  · refine wpAny_bind ((looks_subIn X hsub).here ?_)
    simp only [Bool.false_eq_true, if_false, Bool.not_false, if_true]
    refine wpAny_bind (m := tryCompare a _ (.ref x)) (wpAny_tryCompare_declines ha S (dec _ ⟨rfl, ?_⟩))
    refine wpAny_bind (wpAny_mono one (fun r s' z => ?_) fun _ _ e => e)
    obtain ⟨v, rfl, hq⟩ := z
    exact wpAny_pure hq
  · rename_i q
    exact absurd (by simp) q
/-- a value of type T declines == and != with the instance at x -/
structure Dec (prog : Program) (w : World) (A : Around) (E : Value → Shared → Prop) (s : Shared) (x : Addr) (a : Value) (T : String) : Prop where
  ty : s.TypeIs a T
  eq : ∃ id, Slot T (cmpInfo .Eq).2.1 id ∧ ∀ Q' : Value → Shared → Prop, Q' .notImplemented s → wpAny (model prog w) A (call (.builtin id) [a, .ref x]) Q' E s
  ne : ∃ id, Slot T (cmpInfo .NotEq).2.1 id ∧ ∀ Q' : Value → Shared → Prop, Q' .notImplemented s → wpAny (model prog w) A (call (.builtin id) [a, .ref x]) Q' E s
theorem dec_none : Dec prog w A E s x .none "NoneType" where
  ty := rfl
  eq := ⟨_, F.slot_NoneType_eq, fun Q' q => call_gives F.slot_NoneType_eq rfl F.entry_NoneType_eq (F.args_NoneType_eq_2 _ _) (NoneType___eq___none_ref_0 x) q⟩
  ne := ⟨_, F.slot_NoneType_ne, fun Q' q => call_gives F.slot_NoneType_ne rfl F.entry_NoneType_ne (F.args_NoneType_ne_2 _ _) (NoneType___ne___none_ref_0 x) q⟩
theorem dec_str (v : Str) (t : Tok) (g : s.heap.get? x = some (instObj C dx)) : Dec prog w A E s x (.str v t) "str" where
  ty := rfl
  eq := ⟨_, F.slot_str_eq, fun Q' q => call_here F.slot_str_eq rfl F.entry_str_eq (F.args_str_eq_2 _ _) (dec_str_eq (R := wants Q' E) v t g q)⟩
  ne := ⟨_, F.slot_str_ne, fun Q' q => call_here F.slot_str_ne rfl F.entry_str_ne (F.args_str_ne_2 _ _) (dec_str_ne (R := wants Q' E) v t g q)⟩
theorem dec_int (v : Int) (t : Tok) (g : s.heap.get? x = some (instObj C dx)) : Dec prog w A E s x (.int v t) "int" where
  ty := rfl
  eq := ⟨_, F.slot_int_eq, fun Q' q => call_here F.slot_int_eq rfl F.entry_int_eq (F.args_int_eq_2 _ _) (dec_int_eq (R := wants Q' E) v t g q)⟩
  ne := ⟨_, F.slot_int_ne, fun Q' q => call_here F.slot_int_ne rfl F.entry_int_ne (F.args_int_ne_2 _ _) (dec_int_ne (R := wants Q' E) v t g q)⟩
theorem dec_bool (v : Bool) (g : s.heap.get? x = some (instObj C dx)) : Dec prog w A E s x (.bool v) "bool" where
  ty := rfl
  eq := ⟨_, F.slot_bool_eq, fun Q' q => call_here F.slot_bool_eq rfl F.entry_int_eq (F.args_int_eq_2 _ _) (dec_bool_eq (R := wants Q' E) v g q)⟩
  ne := ⟨_, F.slot_bool_ne, fun Q' q => call_here F.slot_bool_ne rfl F.entry_int_ne (F.args_int_ne_2 _ _) (dec_bool_ne (R := wants Q' E) v g q)⟩
theorem dec_tuple {l : Addr} (X : K.In s.heap) (I : InstAt s.heap x ox C od) (hs : subIn K (.ref C) (.type "tuple") = some false) (hT : s.TypeIs (.ref l) "tuple") : Dec prog w A E s x (.ref l) "tuple" where
  ty := hT
  eq := ⟨_, F.slot_tuple_eq, fun Q' q => call_here F.slot_tuple_eq hT F.entry_tuple_eq (F.args_tuple_eq_2 _ _) (dec_tup_eq (R := wants Q' E) X I hs q)⟩
  ne := ⟨_, F.slot_tuple_ne, fun Q' q => call_here F.slot_tuple_ne hT F.entry_tuple_ne (F.args_tuple_ne_2 _ _) (dec_tup_ne (R := wants Q' E) X I hs q)⟩
theorem dec_list {l : Addr} (X : K.In s.heap) (I : InstAt s.heap x ox C od) (hs : subIn K (.ref C) (.type "list") = some false) (hT : s.TypeIs (.ref l) "list") : Dec prog w A E s x (.ref l) "list" where
  ty := hT
  eq := ⟨_, F.slot_list_eq, fun Q' q => call_here F.slot_list_eq hT F.entry_list_eq (F.args_list_eq_2 _ _) (dec_list_eq (R := wants Q' E) X I hs q)⟩
  ne := ⟨_, F.slot_list_ne, fun Q' q => call_here F.slot_list_ne hT F.entry_list_ne (F.args_list_ne_2 _ _) (dec_list_ne (R := wants Q' E) X I hs q)⟩
theorem dec_dict {l : Addr} (X : K.In s.heap) (I : InstAt s.heap x ox C od) (hs : subIn K (.ref C) (.type "dict") = some false) (hT : s.TypeIs (.ref l) "dict") : Dec prog w A E s x (.ref l) "dict" where
  ty := hT
  eq := ⟨_, F.slot_dict_eq, fun Q' q => call_here F.slot_dict_eq hT F.entry_dict_eq (F.args_dict_eq_2 _ _) (dec_dict_eq (R := wants Q' E) X I hs q)⟩
  ne := ⟨_, F.slot_dict_ne, fun Q' q => call_here F.slot_dict_ne hT F.entry_dict_ne (F.args_dict_ne_2 _ _) (dec_dict_ne (R := wants Q' E) X I hs q)⟩
end
end NwR

set_option Elab.async false
set_option linter.all false
set_option maxRecDepth 100000
set_option maxHeartbeats 4000000
/-! Nw10c: in, not in, item by item, both answers. -/
namespace NwC
open PySem PySem.SeqAt
open AutoSeq1 (wpAny_loadPart')
open MeetsSeq MeetsSeq2 MeetsSeq3 SeqRoads2
open GQ (FinOf call_here)
section
variable {prog : Program} {w : World} {A : Around} {R : Result → Shared → Prop}
def CtI (prog : Program) (w : World) (A : Around) (E : Value → Shared → Prop) (l : Addr) (x : Value) (N : Nat) (I : Nat → Shared → Prop) (J : Shared → Prop) : Prop :=
  ∀ i s, I i s → ∃ (xs : Array Value) (n : Nat), s.heap.get? l = some { cls := .type "list", data := .seq xs n } ∧ xs.size = N ∧ ∀ (h1 : i < xs.size), wpAny (model prog w) A.in1 (eqBool xs[i] x) (fun r s' => if r = true then J s' else I (i + 1) s') E s
theorem ct_loop (l : Addr) (x : Value) (N : Nat) (I : Nat → Shared → Prop) (J : Shared → Prop) (hl : CtI prog w A (fun e s' => R (.error e) s') l x N I J) (fin : ∀ s, I N s → R (.ok (.ret (.bool false))) s) (stop : ∀ s, J s → R (.ok (.ret (.bool true))) s) (k : Nat) :
    ∀ i : Nat, N - i = k → i ≤ N → ∀ s, I i s → wpAny (model prog w) A.in1 (Builtin.«list.__contains__.loop» ⟨[.ref l, x, rawInt i], []⟩) (FinOf prog w A R) (fun e s' => R (.error e) s') s := by
  induction k with
  | zero =>
    intro i hk hi s h
    obtain ⟨xs, n, gl, zx, _⟩ := hl _ _ h
    obtain rfl : i = N := by omega
    have hR := fin s h
    obtain ⟨hp, g, d, tk, os⟩ := s
    wp_walk using wpAny_loadPart' gl
    rw [show xs[((i : Nat) : Int).toNat]? = none by simp; omega]
    wp_walk
    exact hR
  | succ k ih =>
    intro i hk hi s h
    obtain ⟨xs, n, gl, zx, turn⟩ := hl _ _ h
    have h1 : i < xs.size := by omega
    have ht := turn h1
    obtain ⟨hp, g, d, tk, os⟩ := s
    wp_walk using wpAny_loadPart' gl
    rw [show xs[((i : Nat) : Int).toNat]? = some xs[i] by simp [h1]]
    refine wpAny_bind (wpAny_mono ht (fun r s2 q2 => ?_) fun _ _ z => z)
    cases r with
    | true =>
      rw [if_pos rfl] at q2
      have hR := stop s2 q2
      obtain ⟨hp2, g2, d2, tk2, os2⟩ := s2
      wp_walk
      exact hR
    | false =>
      rw [if_neg (by decide)] at q2
      have hrec := ih (i + 1) (by omega) (by omega) s2 q2
      obtain ⟨hp2, g2, d2, tk2, os2⟩ := s2
      wp_walk
      rw [show ((i : Int) + 1) = ((i + 1 : Nat) : Int) by omega]
      refine ⟨plainId_quiet plain_contains_loop _, codeAny_builtin entry_contains_loop ?_⟩
      rw [Around.under_plainId plain_contains_loop _]
      exact hrec
theorem ct_list (l : Addr) (x : Value) (N : Nat) (I : Nat → Shared → Prop) (J : Shared → Prop) (hl : CtI prog w A (fun e s' => R (.error e) s') l x N I J) (fin : ∀ s, I N s → R (.ok (.ret (.bool false))) s) (stop : ∀ s, J s → R (.ok (.ret (.bool true))) s) {s : Shared} (h : I 0 s) :
    wpAny (model prog w) A.in1 (Builtin.«list.__contains__» ⟨[.ref l, x], []⟩) (FinOf prog w A R) (fun e s' => R (.error e) s') s := by
  obtain ⟨xs, n, gl, zx, _⟩ := hl _ _ h
  have hrec := ct_loop l x N I J hl fin stop _ 0 rfl (Nat.zero_le _) s h
  obtain ⟨hp, g, d, tk, os⟩ := s
  wp_walk using wpAny_loadPart' gl
  refine ⟨plainId_quiet plain_contains_loop _, codeAny_builtin entry_contains_loop ?_⟩
  rw [Around.under_plainId plain_contains_loop _]
  exact hrec
theorem ct_tuple (l : Addr) (xs : Array Value) (n : Nat) (dl : Option Addr) (sl : Array (Option Value)) (x : Value) (I : Nat → Shared → Prop) (J : Shared → Prop)
    (turn : ∀ i (h1 : i < xs.size) s, I i s → wpAny (model prog w) A.in1 (eqBool xs[i] x) (fun r s' => if r = true then J s' else I (i + 1) s') (fun e s' => R (.error e) s') s)
    (fin : ∀ s, I xs.size s → R (.ok (.ret (.bool false))) s) (stop : ∀ s, J s → R (.ok (.ret (.bool true))) s) {s : Shared}
    (hl : s.heap.get? l = some { cls := .type "tuple", dict := dl, data := .seq xs n, slots := sl }) (h : I 0 s) :
    wpAny (model prog w) A.in1 (Builtin.«tuple.__contains__» ⟨[.ref l, x], []⟩) (FinOf prog w A R) (fun e s' => R (.error e) s') s := by
  have h0 := h
  obtain ⟨hp, g, d, tk, os⟩ := s
  wp_walk using wpAny_loadPart' hl, wpAny_forIn_array _ (fun rest b s' => b.1 = none ∧ ∃ i, rest = xs.toList.drop i ∧ i ≤ xs.size ∧ I i s') _
  case turn =>
    rintro y rest q s' ⟨hq, i, e, hi, hI⟩
    have lt : i < xs.toList.length := Nat.lt_of_not_le fun z => by rw [List.drop_of_length_le z] at e; cases e
    have lt2 : i < xs.size := by simpa using lt
    rw [List.drop_eq_getElem_cons lt] at e
    injection e with ex er
    obtain rfl : y = xs[i] := by simpa using ex
    refine wpAny_bind (wpAny_mono (turn i lt2 s' hI) (fun r s2 q2 => ?_) fun _ _ z => z)
    cases r with
    | true =>
      rw [if_pos rfl] at q2
      have hR := stop s2 q2
      wp_walk
      exact hR
    | false =>
      rw [if_neg (by decide)] at q2
      wp_walk
      exact ⟨rfl, i + 1, er, lt2, q2⟩
  case fin =>
    rintro ⟨q1, q2⟩ s' ⟨hq, i, e, hi, hI⟩
    simp only at hq
    subst hq
    have ge : xs.size ≤ i := Nat.le_of_not_lt fun z => by rw [List.drop_eq_getElem_cons (by simpa using z)] at e; cases e
    obtain rfl : i = xs.size := Nat.le_antisymm hi ge
    have hR := fin s' hI
    wp_walk
    exact hR
  case h => exact ⟨rfl, 0, rfl, Nat.zero_le _, h0⟩
end
section
variable {prog : Program} {w : World} {A : Around} {E : Value → Shared → Prop} {s : Shared} {Q : Value → Shared → Prop} {l : Addr} {x : Value}
theorem in_of {T id : String} (hT : s.TypeIs (.ref l) T) (slot : Slot T "__contains__" id) (h : wpAny (model prog w) A (call (.builtin id) [.ref l, x]) (fun v s' => ∃ b, v = .bool b ∧ Q (.bool b) s') E s) : wpAny (model prog w) A (compareOp .In x (.ref l)) Q E s := by
  show wpAny _ A (do return .bool (← contains (.ref l) x)) Q E s
  refine wpAny_bind (wpAny_contains_slot hT slot (wpAny_mono h (fun v s' hv => ?_) fun _ _ e => e))
  obtain ⟨b, rfl, hq⟩ := hv
  exact wpAny_truthy_bool (wpAny_pure hq)
theorem notIn_of {T id : String} (hT : s.TypeIs (.ref l) T) (slot : Slot T "__contains__" id) (h : wpAny (model prog w) A (call (.builtin id) [.ref l, x]) (fun v s' => ∃ b, v = .bool b ∧ Q (.bool (!b)) s') E s) : wpAny (model prog w) A (compareOp .NotIn x (.ref l)) Q E s := by
  show wpAny _ A (do return .bool (!(← contains (.ref l) x))) Q E s
  refine wpAny_bind (wpAny_contains_slot hT slot (wpAny_mono h (fun v s' hv => ?_) fun _ _ e => e))
  obtain ⟨b, rfl, hq⟩ := hv
  exact wpAny_truthy_bool (wpAny_pure hq)
theorem call_list {N : Nat} {Q : Bool → Shared → Prop} (I : Nat → Shared → Prop) (J : Shared → Prop) (hl : CtI prog w A E l x N I J) (fin : ∀ s, I N s → Q false s) (stop : ∀ s, J s → Q true s) (h : I 0 s) :
    s.TypeIs (.ref l) "list" ∧ wpAny (model prog w) A (call (.builtin "list.__contains__") [.ref l, x]) (fun v s' => ∃ b, v = .bool b ∧ Q b s') E s := by
  obtain ⟨xs, n, gl, _⟩ := hl _ _ h
  exact ⟨⟨_, gl, rfl⟩, call_here F.slot_list_contains ⟨_, gl, rfl⟩ F.entry_list_contains (F.args_list_contains_2 _ _) (ct_list (R := wants (fun v s' => ∃ b, v = .bool b ∧ Q b s') E) l x N I J hl (fun s' q => ⟨_, rfl, fin s' q⟩) (fun s' q => ⟨_, rfl, stop s' q⟩) h)⟩
theorem call_tuple {xs : Array Value} {Q : Bool → Shared → Prop} (I : Nat → Shared → Prop) (J : Shared → Prop) (hl : s.heap.IsTuple l xs)
    (turn : ∀ i (h1 : i < xs.size) s, I i s → wpAny (model prog w) A.in1 (eqBool xs[i] x) (fun r s' => if r = true then J s' else I (i + 1) s') E s) (fin : ∀ s, I xs.size s → Q false s) (stop : ∀ s, J s → Q true s) (h : I 0 s) :
    s.TypeIs (.ref l) "tuple" ∧ wpAny (model prog w) A (call (.builtin "tuple.__contains__") [.ref l, x]) (fun v s' => ∃ b, v = .bool b ∧ Q b s') E s := by
  obtain ⟨⟨c1, d1, t1, s1⟩, g1, k1, n1, q1⟩ := id hl
  simp only at k1 q1
  subst k1 q1
  exact ⟨⟨_, g1, rfl⟩, call_here F.slot_tuple_contains ⟨_, g1, rfl⟩ F.entry_tuple_contains (F.args_tuple_contains_2 _ _) (ct_tuple (R := wants (fun v s' => ∃ b, v = .bool b ∧ Q b s') E) l xs n1 d1 s1 x I J turn (fun s' q => ⟨_, rfl, fin s' q⟩) (fun s' q => ⟨_, rfl, stop s' q⟩) g1 h)⟩
end
end NwC

set_option Elab.async false
set_option linter.all false
set_option maxRecDepth 100000
set_option maxHeartbeats 4000000
/-! Nw11: the tower of equalities. -/
namespace Nw
open PySem PySem.Spec
open PyProof.Rows hiding St
open L2
variable [TheW]

/-! ### plain data without instances -/
def pyD (c : Cells) : Nat → D → Option PyData
  | 0, _ => none
  | f + 1, d => match d with
    | .non => some .none
    | .bl b => some (.bool b)
    | .int i => some (.int i)
    | .str x => some (.str x)
    | .tup l => (l.mapM (pyD c f)).map .tuple
    | .lst l => (l.mapM (pyD c f)).map .list
    | .scr l => (l.mapM (pyD c f)).map .list
    | .cell i => (match c[i]? with
      | some (.lst l) => (l.mapM (pyD c f)).map .list
      | _ => none)
    | _ => none
theorem mapM_dp {K : Frag} {R : List Addr} {F H : Hp} {g : D → Option PyData} (ih : ∀ v d p, Rel K R F v d → g d = some p → Dp K H v p) : ∀ {vs : List V} {ds : List D} {ps : List PyData}, RelL K R F vs ds → ds.mapM g = some ps → DpAll K H vs ps
  | _, _, _, .nil, h => by
    simp at h
    subst h
    exact .nil
  | _, _, _, .cons (d := d) (ds := ds) r t, h => by
    rw [List.mapM_cons] at h
    cases e1 : g d with
    | none => rw [e1] at h; simp at h
    | some e =>
      rw [e1] at h
      cases e2 : List.mapM g ds with
      | none => rw [e2] at h; simp at h
      | some es' =>
        rw [e2] at h
        simp at h
        subst h
        exact .cons (ih _ _ _ r e1) (mapM_dp ih t e2)
theorem map_some {α β : Type} {o : Option α} {f : α → β} {b : β} (h : o.map f = some b) : ∃ a, o = some a ∧ f a = b := by
  cases o with
  | none => cases h
  | some a => cases h; exact ⟨a, rfl, rfl⟩
theorem dp_of {K : Frag} {Z : Hp} {R : List Addr} {F : Hp} {c : Cells} {H : Hp} (w : Wd K Z R F c H) : ∀ (f : Nat) (v : V) (d : D) (p : PyData), Rel K R F v d → pyD c f d = some p → Dp K H v p
  | 0, _, _, _, _, h => by cases h
  | f + 1, v, d, p, r, h => by
    have ih := fun v d p r h => dp_of w f v d p r h
    unfold pyD at h
    cases r with
    | non => cases h; exact .non
    | bl b => cases h; exact .bl b
    | int i => cases h; exact .int i
    | str x => cases h; exact .str x
    | tup q l =>
      obtain ⟨ps, e1, rfl⟩ := map_some h
      exact .tup (q.ext w.same) (mapM_dp ih l e1)
    | lst q l =>
      obtain ⟨ps, e1, rfl⟩ := map_some h
      exact .lst (SqL.of (w.same _ _ q)) (mapM_dp ih l e1)
    | scr q l =>
      obtain ⟨ps, e1, rfl⟩ := map_some h
      exact .lst (q.ext w.same) (mapM_dp ih l e1)
    | @cell i a q =>
      dsimp only at h
      split at h
      · rename_i l hl
        obtain ⟨ps, e1, rfl⟩ := map_some h
        obtain ⟨vs, q2, rl⟩ := w.atList q hl
        exact .lst (SqL.of q2) (mapM_dp ih rl e1)
      · cases h
    | _ => cases h

/-! ### one value, one datum -/
mutual
def okE (cs : List Str) : D → Bool
  | .non => true
  | .bl _ => true
  | .int _ => true
  | .str _ => true
  | .tup l => okL cs l
  | .lst l => okL cs l
  | .obj c _ l => cs.contains c && okL cs l
  | .cell _ => true
  | .scr _ => false
  | .ty _ => false
  | .gl _ => false
  | .exo _ _ _ _ _ => false
  | .err _ _ _ => false
  | .dic _ _ => false
  | .dit _ _ => false
def okL (cs : List Str) : List D → Bool
  | [] => true
  | d :: r => okE cs d && okL cs r
end
theorem zip_inj {α β : Type} : ∀ {l l' : List α} {m m' : List β}, l.length = m.length → l'.length = m'.length → l.zip m = l'.zip m' → l = l' ∧ m = m'
  | [], [], [], [], _, _, _ => ⟨rfl, rfl⟩
  | [], _ :: _, [], _ :: _, _, _, h => by cases h
  | _ :: _, [], _ :: _, [], _, _, h => by cases h
  | a :: l, a' :: l', b :: m, b' :: m', h1, h2, h => by
    have h : (a, b) :: l.zip m = (a', b') :: l'.zip m' := h
    injection h with e1 e2
    injection e1 with e3 e4
    obtain ⟨e5, e6⟩ := zip_inj (by simpa using h1) (by simpa using h2) e2
    rw [e3, e4, e5, e6]
    exact ⟨rfl, rfl⟩
section
variable {K : Frag} {Z : Hp} {R : List Addr} {F : Hp} {c : Cells} {H : Hp} {cs : List Str}
theorem Wd.cellF (w : Wd K Z R F c H) {i : Nat} {a : Addr} {u : HO} (q : R[i]? = some a) (e : F a = some u) : (∃ od kvs, u = .frz od (.dK kvs)) ∨ ∃ od, u = exD a od := by
  have hi : i < c.length := by rw [← w.len]; exact (List.getElem?_eq_some_iff.mp q).1
  obtain ⟨a', o, h1, h2, h3, h4⟩ := w.cel i c[i] (List.getElem?_eq_getElem hi)
  rw [q] at h1
  cases h1
  cases hk : c[i] with
  | lck ks ds =>
    rw [hk] at h3 h4
    have h4 : F a = some o := h4
    rw [e] at h4
    cases h4
    cases h3
    exact .inl ⟨_, _, rfl⟩
  | dead =>
    rw [hk] at h3 h4
    have h4 : F a = some o := h4
    rw [e] at h4
    cases h4
    cases h3
    exact .inr ⟨_, rfl⟩
  | _ => rw [hk] at h4; have h4 : F a = none := h4; rw [e] at h4; cases h4
variable (w : Wd K Z R F c H) (hT : ∀ a xs ys, SqT K H a xs → SqT K H a ys → xs = ys) (hK : ∀ a o, K.lookup a = some o → H a = none) (hC : ∀ x ∈ cs, ∀ y ∈ cs, He.ga K x = He.ga K y → x = y)
include w hT hK hC
theorem notTup {a : Addr} {vs : List V} (h : SqT K F a vs) {o : HO} (ho : H a = some o) (h1 : ∀ xs, o ≠ .tup xs) (h2 : ∀ p xs, o ≠ .frz p (.tup xs)) : False := by
  rcases h with (h | ⟨p, h⟩) | ⟨o', its, n, hk, _⟩
  · have := w.same _ _ h
    rw [ho] at this
    exact h1 _ (Option.some.inj this)
  · have := w.same _ _ h
    rw [ho] at this
    exact h2 _ _ (Option.some.inj this)
  · rw [hK a o' hk] at ho
    cases ho
theorem cellNoTup {i : Nat} {a : Addr} {vs : List V} (q : R[i]? = some a) (h : SqT K F a vs) : False := by
  have hi : i < c.length := by rw [← w.len]; exact (List.getElem?_eq_some_iff.mp q).1
  obtain ⟨a', o', h1, h2, h3, h4⟩ := w.cel i c[i] (List.getElem?_eq_getElem hi)
  rw [q] at h1
  cases h1
  rcases h with (z | ⟨p, z⟩) | ⟨o, its, n, hk, _⟩
  · rcases w.cellF q z with ⟨_, _, e⟩ | ⟨_, e⟩ <;> cases e
  · rcases w.cellF q z with ⟨_, _, e⟩ | ⟨_, e⟩ <;> cases e
  · rw [hK _ _ hk] at h2
    cases h2
mutual
theorem Rel.one : ∀ {v : V} {d e : D}, Rel K R F v d → Rel K R F v e → okE cs d = true → okE cs e = true → d = e
  | _, _, _, .non, .non, _, _ => rfl
  | _, _, _, .bl b, .bl _, _, _ => rfl
  | _, _, _, .int i, .int _, _, _ => rfl
  | _, _, _, .str x, .str _, _, _ => rfl
  | _, _, _, .ty n, .ty _, _, _ => rfl
  | _, _, _, .tup q l, r2, k1, k2 => by
    cases r2 with
    | tup q2 l2 =>
      have e := hT _ _ _ (q.ext w.same) (q2.ext w.same)
      subst e
      unfold okE at k1 k2
      rw [RelL.inj1 l l2 k1 k2]
    | lst q2 l2 => exact (notTup w hT hK hC q (w.same _ _ q2) (fun _ z => (nomatch z)) fun _ _ z => (nomatch z)).elim
    | obj q2 z l2 => exact (notTup w hT hK hC q (w.same _ _ q2) (fun _ z => (nomatch z)) fun _ _ z => (nomatch z)).elim
    | cell q2 => exact (cellNoTup w hT hK hC q2 q).elim
    | scr => unfold okE at k2; cases k2
    | gl => unfold okE at k2; cases k2
    | exo => unfold okE at k2; cases k2
    | exo0 => unfold okE at k2; cases k2
    | err => unfold okE at k2; cases k2
    | err0 => unfold okE at k2; cases k2
    | dic => unfold okE at k2; cases k2
    | dit => unfold okE at k2; cases k2
  | _, _, _, .lst q l, r2, k1, k2 => by
    cases r2 with
    | tup q2 l2 => exact (notTup w hT hK hC q2 (w.same _ _ q) (fun _ z => (nomatch z)) fun _ _ z => (nomatch z)).elim
    | lst q2 l2 =>
      rw [q] at q2
      cases q2
      unfold okE at k1 k2
      rw [RelL.inj1 l l2 k1 k2]
    | obj q2 z l2 => rw [q] at q2; cases q2
    | cell q2 => rcases w.cellF q2 q with ⟨_, _, z⟩ | ⟨_, z⟩ <;> cases z
    | scr => unfold okE at k2; cases k2
    | gl => unfold okE at k2; cases k2
    | exo => unfold okE at k2; cases k2
    | exo0 => unfold okE at k2; cases k2
    | err => unfold okE at k2; cases k2
    | err0 => unfold okE at k2; cases k2
    | dic => unfold okE at k2; cases k2
    | dit => unfold okE at k2; cases k2
  | _, _, _, .obj q z l, r2, k1, k2 => by
    cases r2 with
    | tup q2 l2 => exact (notTup w hT hK hC q2 (w.same _ _ q) (fun _ z => (nomatch z)) fun _ _ z => (nomatch z)).elim
    | lst q2 l2 => rw [q] at q2; cases q2
    | obj q2 z2 l2 =>
      rw [q] at q2
      injection q2 with q2
      injection q2 with e1 e2 e3
      obtain ⟨e4, e5⟩ := zip_inj z z2 e3
      subst e4
      subst e5
      unfold okE at k1 k2
      have k1 := Bool.and_eq_true_iff.mp k1
      have k2 := Bool.and_eq_true_iff.mp k2
      rw [RelL.inj1 l l2 k1.2 k2.2, hC _ (by simpa using k1.1) _ (by simpa using k2.1) e1]
    | cell q2 => rcases w.cellF q2 q with ⟨_, _, z⟩ | ⟨_, z⟩ <;> cases z
    | scr => unfold okE at k2; cases k2
    | gl => unfold okE at k2; cases k2
    | exo => unfold okE at k2; cases k2
    | exo0 => unfold okE at k2; cases k2
    | err => unfold okE at k2; cases k2
    | err0 => unfold okE at k2; cases k2
    | dic => unfold okE at k2; cases k2
    | dit => unfold okE at k2; cases k2
  | _, _, _, .cell q, r2, k1, k2 => by
    cases r2 with
    | tup q2 l2 => exact (cellNoTup w hT hK hC q q2).elim
    | lst q2 l2 => rcases w.cellF q q2 with ⟨_, _, z⟩ | ⟨_, z⟩ <;> cases z
    | obj q2 z l2 => rcases w.cellF q q2 with ⟨_, _, z⟩ | ⟨_, z⟩ <;> cases z
    | cell q2 =>
      obtain ⟨l1, e1⟩ := List.getElem?_eq_some_iff.mp q
      obtain ⟨l2, e2⟩ := List.getElem?_eq_some_iff.mp q2
      rw [(List.getElem_inj w.nd).mp (e1.trans e2.symm)]
    | scr => unfold okE at k2; cases k2
    | gl => unfold okE at k2; cases k2
    | exo => unfold okE at k2; cases k2
    | exo0 => unfold okE at k2; cases k2
    | err => unfold okE at k2; cases k2
    | err0 => unfold okE at k2; cases k2
    | dic => unfold okE at k2; cases k2
    | dit => unfold okE at k2; cases k2
  | _, _, _, .scr q l, r2, k1, k2 => by unfold okE at k1; cases k1
  | _, _, _, .gl x, r2, k1, k2 => by unfold okE at k1; cases k1
  | _, _, _, .exo q z l, r2, k1, k2 => by unfold okE at k1; cases k1
  | _, _, _, .exo0, r2, k1, k2 => by unfold okE at k1; cases k1
  | _, _, _, .err h h2 z l, r2, k1, k2 => by unfold okE at k1; cases k1
  | _, _, _, .err0 h, r2, k1, k2 => by unfold okE at k1; cases k1
  | _, _, _, .dic q z l, r2, k1, k2 => by unfold okE at k1; cases k1
  | _, _, _, .dit q z l, r2, k1, k2 => by unfold okE at k1; cases k1
theorem RelL.inj1 : ∀ {vs : List V} {ds es : List D}, RelL K R F vs ds → RelL K R F vs es → okL cs ds = true → okL cs es = true → ds = es
  | _, _, _, .nil, .nil, _, _ => rfl
  | _, _, _, .cons h t, .cons h2 t2, k1, k2 => by
    unfold okL at k1 k2
    have k1 := Bool.and_eq_true_iff.mp k1
    have k2 := Bool.and_eq_true_iff.mp k2
    rw [Rel.one h h2 k1.1 k2.1, RelL.inj1 t t2 k1.2 k2.2]
end
end
end Nw

set_option Elab.async false
set_option linter.all false
set_option maxRecDepth 100000
set_option maxHeartbeats 4000000
/-! Nw12: == and != of anything. -/
namespace Nw
open PySem PySem.Spec
open PyProof.Rows hiding St
open L2
variable [TheW]

abbrev E2 := D → D → Cells → Out Bool
/-! ### what changes no cell -/
def PuE (g : E2) : Prop := ∀ d e c b c1, g d e c = .ok b c1 → c1 = c
def PuM (m : ME) : Prop := ∀ δ c d c1, m δ c = .ok d c1 → c1 = c
def PuT (m : MT) : Prop := ∀ δ c d c1, m δ c = .ok d c1 → c1 = c
def PuA (m : MA) : Prop := ∀ δ c d c1, m δ c = .ok d c1 → c1 = c
def PuF (m : MF) : Prop := ∀ ds c d c1, m ds c = .ok d c1 → c1 = c
def PuO (f : O2) : Prop := ∀ d e c b c1, f d e c = .ok b c1 → c1 = c
def PuS (m : MS) : Prop := ∀ δ c, match m δ c with
  | .nx _ c1 => c1 = c
  | .rt _ c1 => c1 = c
  | .bk _ c1 => c1 = c
  | .ct _ c1 => c1 = c
  | _ => True
theorem bind_ok {α β : Type} {o : Out α} {f : α → Cells → Out β} {b : β} {c1 : Cells} (h : o.bind f = .ok b c1) : ∃ a c2, o = .ok a c2 ∧ f a c2 = .ok b c1 := by
  cases o with
  | ok a c2 => exact ⟨a, c2, rfl, h⟩
  | exc => cases h
  | bad => cases h
theorem pu_c {d : D} : PuM (mC d) := fun _ _ _ _ h => by cases h; rfl
theorem pu_var {i : Nat} : PuM (mVar i) := fun δ c d c1 h => by
  unfold mVar at h
  split at h
  · cases h; rfl
  · cases h
theorem pu_nil : PuA mNil := fun _ _ _ _ h => by cases h; rfl
theorem pu_cons {m : ME} {ms : MA} (h1 : PuM m) (h2 : PuA ms) : PuA (mCons m ms) := fun δ c d c1 h => by
  obtain ⟨a, c2, e1, h⟩ := bind_ok h
  obtain ⟨b, c3, e2, h⟩ := bind_ok h
  cases h
  rw [h2 _ _ _ _ e2, h1 _ _ _ _ e1]
theorem pu_tup {ms : MA} (h1 : PuA ms) : PuM (mTup ms) := fun δ c d c1 h => by
  obtain ⟨a, c2, e1, h⟩ := bind_ok h
  unfold tupD at h
  split at h
  · cases h; exact h1 _ _ _ _ e1
  · cases h
theorem pu_op {f : O2} {m n : ME} (hf : PuO f) (h1 : PuM m) (h2 : PuM n) : PuM (mOp f m n) := fun δ c d c1 h => by
  obtain ⟨a, c2, e1, h⟩ := bind_ok h
  obtain ⟨b, c3, e2, h⟩ := bind_ok h
  rw [hf _ _ _ _ _ h, h2 _ _ _ _ e2, h1 _ _ _ _ e1]
theorem pu_fld {f : Str} {cs : List Str} {m : ME} (h1 : PuM m) : PuM (mFld f cs m) := fun δ c d c1 h => by
  obtain ⟨a, c2, e1, h⟩ := bind_ok h
  unfold fldGo at h
  split at h
  · split at h
    · split at h
      · cases h; exact h1 _ _ _ _ e1
      · cases h
    · cases h
  · cases h
theorem pu_isi {ts : List Ty} {f : Ty → Bool} {m : ME} (h1 : PuM m) : PuM (mIsi ts f m) := fun δ c d c1 h => by
  obtain ⟨a, c2, e1, h⟩ := bind_ok h
  unfold isiD at h
  split at h
  · split at h
    · cases h; exact h1 _ _ _ _ e1
    · cases h
  · cases h
theorem pu_b {m : ME} (h1 : PuM m) : PuT (mB m) := fun δ c d c1 h => by
  obtain ⟨a, c2, e1, h⟩ := bind_ok h
  cases a with
  | bl b => cases h; exact h1 _ _ _ _ e1
  | _ => cases h
theorem pu_not {m : MT} (h1 : PuT m) : PuT (mNotT m) := fun δ c d c1 h => by
  obtain ⟨a, c2, e1, h⟩ := bind_ok h
  cases h
  exact h1 _ _ _ _ e1
theorem pu_or {m n : MT} (h1 : PuT m) (h2 : PuT n) : PuT (mOrT m n) := fun δ c d c1 h => by
  obtain ⟨a, c2, e1, h⟩ := bind_ok h
  have e := h1 _ _ _ _ e1
  subst e
  cases a with
  | true => rw [if_pos rfl] at h; cases h; rfl
  | false => rw [if_neg (by decide)] at h; exact h2 _ _ _ _ h
theorem pu_and {m n : MT} (h1 : PuT m) (h2 : PuT n) : PuT (mAndT m n) := fun δ c d c1 h => by
  obtain ⟨a, c2, e1, h⟩ := bind_ok h
  have e := h1 _ _ _ _ e1
  subst e
  cases a with
  | false => rw [if_neg (by decide)] at h; cases h; rfl
  | true => rw [if_pos rfl] at h; exact h2 _ _ _ _ h
theorem lk_mem {α : Type} : ∀ {l : List (Str × α)} {k : Str} {b : α}, l.lookup k = some b → (k, b) ∈ l
  | [], _, _, h => by cases h
  | (j, y) :: r, k, b, h => by
    rw [List.lookup_cons] at h
    by_cases q : (k == j) = true
    · rw [q] at h
      cases h
      rw [eq_of_beq q]
      exact List.mem_cons_self
    · rw [Bool.not_eq_true] at q
      rw [q] at h
      exact List.mem_cons_of_mem _ (lk_mem h)
theorem pu_meth0 {mn : Str} {ds : List (Str × MF)} {m : ME} (h1 : PuM m) (h2 : ∀ q ∈ ds, PuF q.2) : PuM (mMeth0 mn ds m) := fun δ c d c1 h => by
  obtain ⟨a, c2, e1, h⟩ := bind_ok h
  split at h
  · rename_i mf hq
    obtain ⟨cn, ns, fs, _, _, hl⟩ := methOf_some hq
    have hm : (cn, mf) ∈ ds := lk_mem hl
    rw [h2 _ hm _ _ _ _ h]
    exact h1 _ _ _ _ e1
  · cases h
theorem pul_nil : ∀ q ∈ ([] : List (Str × MF)), PuF q.2 := fun q hq => by cases hq
theorem pul_cons {cn : Str} {m : MF} {r : List (Str × MF)} (h : PuF m) (t : ∀ q ∈ r, PuF q.2) : ∀ q ∈ (cn, m) :: r, PuF q.2 := fun q hq => by
  rcases List.mem_cons.mp hq with rfl | hq
  · exact h
  · exact t q hq
theorem pus_skip : PuS mSkip := fun _ _ => rfl
theorem pus_ret {m : ME} (h1 : PuM m) : PuS (mRet m) := fun δ c => by
  unfold mRet
  cases e : m δ c with
  | ok d c1 => exact h1 _ _ _ _ e
  | exc => exact True.intro
  | bad => exact True.intro
theorem pus_if {t : MT} {a b : MS} (h : PuT t) (h1 : PuS a) (h2 : PuS b) : PuS (mIfS t a b) := fun δ c => by
  unfold mIfS
  cases e : t δ c with
  | ok d c1 =>
    have e1 := h _ _ _ _ e
    subst e1
    cases d with
    | true => exact h1 δ c1
    | false => exact h2 δ c1
  | exc => exact True.intro
  | bad => exact True.intro
theorem pus_seq {a b : MS} (h1 : PuS a) (h2 : PuS b) : PuS (mSeq a b) := fun δ c => by
  have z := h1 δ c
  unfold mSeq
  cases e : a δ c with
  | nx δ1 c1 =>
    rw [e] at z
    have z : c1 = c := z
    subst z
    exact h2 δ1 c1
  | rt => rw [e] at z; exact z
  | bk => rw [e] at z; exact z
  | ct => rw [e] at z; exact z
  | exc => exact True.intro
  | bad => exact True.intro
theorem pu_fn {np nl : Nat} {m : MS} (h : PuS m) : PuF (mkFn np nl m) := fun ds c d c1 e => by
  unfold mkFn at e
  split at e
  · have z := h (ds.map some ++ List.replicate (nl - np) none) c
    split at e
    · rename_i q; rw [q] at z; cases e; exact z
    · rename_i q; rw [q] at z; cases e; exact z
    · cases e
    · cases e
  · cases e
/-- items in turn; comparing changes no cell -/
def seqEq (eb : E2) : List D → List D → Cells → Out Bool
  | [], [], c => .ok true c
  | x :: xs, y :: ys, c => match eb x y c with
    | .ok b _ => if b = true then seqEq eb xs ys c else .ok false c
    | _ => .bad
  | _, _, c => .ok false c
def isT (o : Out Bool) : Bool := match o with
  | .ok true _ => true
  | _ => false
theorem isT_eq {g : E2} {d e : D} {c : Cells} (p : PuE g) (h : isT (g d e c) = true) : g d e c = .ok true c := by
  cases q : g d e c with
  | ok b c1 =>
    rw [q] at h
    cases b with
    | true => rw [p _ _ _ _ _ q]
    | false => cases h
  | exc => rw [q] at h; cases h
  | bad => rw [q] at h; cases h
theorem isT_of {o : Out Bool} {c : Cells} (h : o = .ok true c) : isT o = true := by
  rw [h]
  rfl
/-- == of items: the same object is equal to itself -/
def eqB (cs : List Str) (g : E2) : E2 := fun d e c => if okE cs d = true ∧ okE cs e = true then (if d = e then (if isT (g d e c) = true then .ok true c else .bad) else g d e c) else .bad
def eqG (cs : List Str) (ts : List Ty) (me : MF) (eb : E2) : E2 := fun d e c => match insOf c d with
  | some q => if cs.contains q.1 = true ∧ (tyD c e).any (fun t => ts.contains t) = true then (me [d, e] c).bind asB else .bad
  | none => match insOf c e with
    | some q => if cs.contains q.1 = true ∧ (tyD c d).any (fun t => ts.contains t) = true then (me [e, d] c).bind asB else .bad
    | none => match d, e with
      | .tup l, .tup m => seqEq eb l m c
      | d, e => match lstOwn c d, lstOwn c e with
        | some l, some m => if l.length = m.length then seqEq eb l m c else .ok false c
        | _, _ => .bad
/-- == with n levels of instances; Fe: what the text's __eq__ does, by the == of its parts -/
def eqF (cs : List Str) (ts : List Ty) (Fe : E2 → MF) : Nat → E2
  | 0, _, _, _ => .bad
  | n + 1, d, e, c => match pyD c 60 d, pyD c 60 e with
    | some p, some q => if SeqAt.shaped p = true ∧ SeqAt.shaped q = true then .ok (PyData.eqv p q) c else .bad
    | _, _ => eqG cs ts (Fe (eqF cs ts Fe n)) (eqB cs (eqF cs ts Fe n)) d e c
/-- richCompare does what g says -/
theorem pu_eqB {cs : List Str} {g : E2} (p : PuE g) : PuE (eqB cs g) := fun d e c b c1 h => by
  unfold eqB at h
  split at h
  · split at h
    · split at h
      · cases h; rfl
      · cases h
    · exact p _ _ _ _ _ h
  · cases h
theorem pu_seq {eb : E2} : ∀ {l m : List D} {c : Cells} {b : Bool} {c1 : Cells}, seqEq eb l m c = .ok b c1 → c1 = c
  | [], [], _, _, _, h => by unfold seqEq at h; cases h; rfl
  | [], _ :: _, _, _, _, h => by unfold seqEq at h; cases h; rfl
  | _ :: _, [], _, _, _, h => by unfold seqEq at h; cases h; rfl
  | x :: xs, y :: ys, _, _, _, h => by
    unfold seqEq at h
    split at h
    · split at h
      · exact pu_seq h
      · cases h; rfl
    · cases h
theorem pu_eqG {cs : List Str} {ts : List Ty} {me : MF} {eb : E2} (p : PuF me) : PuE (eqG cs ts me eb) := fun d e c b c1 h => by
  have go : ∀ x y : D, (me [x, y] c).bind asB = .ok b c1 → c1 = c := fun x y h => by
    obtain ⟨a, c2, e1, h⟩ := bind_ok h
    cases a with
    | bl k => cases h; exact p _ _ _ _ e1
    | _ => cases h
  unfold eqG at h
  split at h
  · split at h
    · exact go _ _ h
    · cases h
  · split at h
    · split at h
      · exact go _ _ h
      · cases h
    · split at h
      · exact pu_seq h
      · split at h
        · split at h
          · exact pu_seq h
          · cases h; rfl
        · cases h
theorem pu_eqF {cs : List Str} {ts : List Ty} {Fe : E2 → MF} (p : ∀ g, PuE g → PuF (Fe g)) : ∀ n, PuE (eqF cs ts Fe n)
  | 0 => fun d e c b c1 h => by unfold eqF at h; cases h
  | n + 1 => fun d e c b c1 h => by
    unfold eqF at h
    split at h
    · split at h
      · cases h; rfl
      · cases h
    · exact pu_eqG (p _ (pu_eqF p n)) _ _ _ _ _ h
structure EqX (X : Cx) (n : Nat) (g : E2) : Prop where
  pu : PuE g
  rc : ∀ (A : Around) (pins : List (Addr × Obj)) (s : Shared) (σ : St) (H Z : Hp) (R : List Addr) (F : Hp) (c : Cells) (x y : V) (d e : D) (u v : Value) (Q : Bool → Hp → Prop), Sub X n A → Inv X pins σ H s → Wd X.K Z R F c H → Rel X.K R F x d → Rel X.K R F y e → RelV x u → RelV y v →
    Aft X.K Z W0 R F σ (g d e c) (QB Q) → wpAny (model X.prog X.w) A (richCompare .Eq u v) (fun r s' => ∃ b H', r = .bool b ∧ Inv X pins σ H' s' ∧ Q b H') X.xe s
  rn : ∀ (A : Around) (pins : List (Addr × Obj)) (s : Shared) (σ : St) (H Z : Hp) (R : List Addr) (F : Hp) (c : Cells) (x y : V) (d e : D) (u v : Value) (Q : Bool → Hp → Prop), Sub X n A → Inv X pins σ H s → Wd X.K Z R F c H → Rel X.K R F x d → Rel X.K R F y e → RelV x u → RelV y v →
    Aft X.K Z W0 R F σ (g d e c) (QB Q) → wpAny (model X.prog X.w) A (richCompare .NotEq u v) (fun r s' => ∃ b H', r = .bool (!b) ∧ Inv X pins σ H' s' ∧ Q b H') X.xe s
/-- eqBool does what g says -/
def EqI (X : Cx) (n : Nat) (g : E2) : Prop := PuE g ∧ ∀ (A : Around) (pins : List (Addr × Obj)) (s : Shared) (σ : St) (H Z : Hp) (R : List Addr) (F : Hp) (c : Cells) (x y : V) (d e : D) (u v : Value) (Q : Bool → Hp → Prop), Sub X n A → Inv X pins σ H s → Wd X.K Z R F c H → Rel X.K R F x d → Rel X.K R F y e → RelV x u → RelV y v →
    Aft X.K Z W0 R F σ (g d e c) (QB Q) → wpAny (model X.prog X.w) A (eqBool u v) (fun b s' => ∃ H', Inv X pins σ H' s' ∧ Q b H') X.xe s
section
variable {X : Cx} {n : Nat} {g : E2} {cs : List Str}
theorem inv_hT {pins : List (Addr × Obj)} {s : Shared} {σ : St} {H : Hp} (I : Inv X pins σ H s) : ∀ a xs ys, SqT X.K H a xs → SqT X.K H a ys → xs = ys := fun _ _ _ h1 h2 => I.tuple_inj h1 h2
theorem inv_hK {pins : List (Addr × Obj)} {s : Shared} {σ : St} {H : Hp} (I : Inv X pins σ H s) : ∀ a o, X.K.lookup a = some o → H a = none := fun a o h => (I.bs a o (I.ok.mod.kin a o h)).2
theorem eqBool_of {A : Around} {s : Shared} {x : V} {u v : Value} {E : Value → Shared → Prop} {Q : Bool → Shared → Prop} (rx : RelV x u) (hx : ∀ b, x ≠ .flt b) (hne : u ≠ v) (h : wpAny (model X.prog X.w) A (richCompare .Eq u v) (fun r s' => ∃ b, r = .bool b ∧ Q b s') E s) : wpAny (model X.prog X.w) A (eqBool u v) Q E s := by
  unfold eqBool
  refine wpAny_holding (wpAny_ite_split (fun hab => absurd (eq_of_beq hab) hne) (fun _ => ?_))
  have go : wpAny (model X.prog X.w) A (richCompare .Eq u v >>= truthOfDropped) Q E s := by
    refine wpAny_bind (wpAny_mono h (fun r s' z => ?_) fun _ _ z => z)
    obtain ⟨b, rfl, q⟩ := z
    exact wpAny_truthy_bool q
  cases x with
  | non => cases (show u = Value.none from rx); exact go
  | bl b => cases (show u = Value.bool b from rx); exact go
  | int i => obtain ⟨t, rfl⟩ := (show ∃ t, u = Value.int i t from rx); exact go
  | str i => obtain ⟨t, rfl⟩ := (show ∃ t, u = Value.str i t from rx); exact go
  | byt i => obtain ⟨t, rfl⟩ := (show ∃ t, u = Value.bytes i t from rx); exact go
  | flt b => exact absurd rfl (hx b)
  | ref a => cases (show u = Value.ref a from rx); exact go
  | ty a => cases (show u = Value.type a from rx); exact go
theorem Rel.noFlt {K : Frag} {R : List Addr} {F : Hp} {v : V} {d : D} (r : Rel K R F v d) : ∀ b, v ≠ .flt b := by
  intro b
  cases r <;> intro h <;> cases h
theorem eqB_of (hC : ∀ x ∈ cs, ∀ y ∈ cs, He.ga X.K x = He.ga X.K y → x = y) (h : EqX X n g) : EqI X n (eqB cs g) := by
  refine ⟨pu_eqB h.pu, ?_⟩
  intro A pins s σ H Z R F c x y d e u v Q sb I w rx ry rux rvy q
  have go : Aft X.K Z W0 R F σ (g d e c) (QB Q) → u ≠ v → wpAny (model X.prog X.w) A (eqBool u v) (fun b s' => ∃ H', Inv X pins σ H' s' ∧ Q b H') X.xe s := fun q hne =>
    eqBool_of rux rx.noFlt hne (wpAny_mono (h.rc A pins s σ H Z R F c x y d e u v Q sb I w rx ry rux rvy q) (fun r s' z => by
      obtain ⟨b, H', e1, I', q'⟩ := z
      exact ⟨b, e1, H', I', q'⟩) fun _ _ z => z)
  unfold eqB at q
  split at q
  · rename_i hok
    by_cases hde : d = e
    · rw [if_pos hde] at q
      split at q
      · rename_i hg
        by_cases huv : u = v
        · subst huv
          exact SeqAt.EqAt.same (A := A) (s := s) u X.prog X.w X.xe _ ⟨H, I, q.ok w⟩
        · exact go (by rw [isT_eq h.pu hg]; exact q) huv
      · exact q.elim
    · rw [if_neg hde] at q
      refine go q fun huv => ?_
      subst huv
      have := rux.inj rvy
      subst this
      exact hde (Rel.one w (inv_hT I) (inv_hK I) hC rx ry hok.1 hok.2)
  · exact q.elim
/-- what the loop over items keeps -/
def LpI (X : Cx) (pins : List (Addr × Obj)) (σ : St) (Z : Hp) (R : List Addr) (F : Hp) (c : Cells) (eb : E2) (l m : List D) (Q : Bool → Hp → Prop) (i : Nat) (s : Shared) : Prop :=
  ∃ R' F' H', R <+: R' ∧ Same F F' ∧ Inv X pins σ H' s ∧ Wd X.K Z R' F' c H' ∧ Aft X.K Z W0 R' F' σ (seqEq eb (l.drop i) (m.drop i) c) (QB Q)
def LpJ (X : Cx) (pins : List (Addr × Obj)) (σ : St) (Z : Hp) (R : List Addr) (F : Hp) (c : Cells) (Q : Bool → Hp → Prop) (s : Shared) : Prop := ∃ R' F' H', R <+: R' ∧ Same F F' ∧ Inv X pins σ H' s ∧ Wd X.K Z R' F' c H' ∧ Q false H'
theorem lp_turn {A : Around} {pins : List (Addr × Obj)} {σ : St} {Z : Hp} {R : List Addr} {F : Hp} {c : Cells} {eb : E2} {l m : List D} {Q : Bool → Hp → Prop} (he : EqI X n eb) (sb : Sub X n A) {i : Nat} {s : Shared} {x y : V} {u v : Value} {d e : D} (hd : l[i]? = some d) (hm : m[i]? = some e)
    {R' : List Addr} {F' H' : Hp} (p : R <+: R') (ef : Same F F') (I : Inv X pins σ H' s) (w : Wd X.K Z R' F' c H') (q : Aft X.K Z W0 R' F' σ (seqEq eb (l.drop i) (m.drop i) c) (QB Q)) (rx : Rel X.K R' F' x d) (ry : Rel X.K R' F' y e) (ru : RelV x u) (rv : RelV y v) :
    wpAny (model X.prog X.w) A (eqBool u v) (fun r s' => if r = true then LpI X pins σ Z R F c eb l m Q (i + 1) s' else LpJ X pins σ Z R F c Q s') X.xe s := by
  obtain ⟨l1, e1⟩ := List.getElem?_eq_some_iff.mp hd
  obtain ⟨l2, e2⟩ := List.getElem?_eq_some_iff.mp hm
  rw [List.drop_eq_getElem_cons l1, List.drop_eq_getElem_cons l2, e1, e2] at q
  unfold seqEq at q
  refine wpAny_mono (he.2 A pins s σ H' Z R' F' c x y d e u v (fun b H'' => ∃ R2 F2, R' <+: R2 ∧ Same F' F2 ∧ Wd X.K Z R2 F2 c H'' ∧ if b = true then Aft X.K Z W0 R2 F2 σ (seqEq eb (l.drop (i + 1)) (m.drop (i + 1)) c) (QB Q) else Q false H'') sb I w rx ry ru rv ?_) (fun b s' z => ?_) fun _ _ z => z
  · cases o : eb d e c with
    | bad => rw [o] at q; exact q.elim
    | exc => rw [o] at q; exact q.elim
    | ok b c1 =>
      rw [o] at q
      dsimp only at q
      have hc := he.1 _ _ _ _ _ o
      subst hc
      intro R2 F2 H2 p2 e2 w2
      refine ⟨R2, F2, p2, e2, w2, ?_⟩
      cases b with
      | true =>
        rw [if_pos rfl] at q ⊢
        exact Aft.mono p2 e2 q
      | false =>
        rw [if_neg (by decide)] at q ⊢
        exact (Aft.mono p2 e2 q).ok w2
  · obtain ⟨H2, I2, R2, F2, p2, e2, w2, q2⟩ := z
    cases b with
    | true =>
      rw [if_pos rfl] at q2 ⊢
      exact ⟨R2, F2, H2, p.trans p2, ef.trans e2, I2, w2, q2⟩
    | false =>
      rw [if_neg (by decide)] at q2 ⊢
      exact ⟨R2, F2, H2, p.trans p2, ef.trans e2, I2, w2, q2⟩

/-! tuples, lists -/
theorem min_drop {l m : List D} {n : Nat} (h : n = min l.length m.length) : l.drop n = [] ∨ m.drop n = [] := by
  rcases Nat.le_total l.length m.length with z | z
  · exact .inl (List.drop_eq_nil_of_le (by omega))
  · exact .inr (List.drop_eq_nil_of_le (by omega))
theorem seqEq_end {eb : E2} {l m : List D} {n : Nat} {c : Cells} (h : n = min l.length m.length) : seqEq eb (l.drop n) (m.drop n) c = .ok (l.length == m.length) c := by
  subst h
  rcases Nat.lt_trichotomy l.length m.length with z | z | z
  · rw [List.drop_eq_nil_of_le (by omega : l.length ≤ min l.length m.length)]
    have : m.drop (min l.length m.length) ≠ [] := fun e => by have := List.drop_eq_nil_iff.mp e; omega
    cases e : m.drop (min l.length m.length) with
    | nil => exact absurd e this
    | cons a r => unfold seqEq; rw [show (l.length == m.length) = false from beq_eq_false_iff_ne.mpr (by omega)]
  · rw [List.drop_eq_nil_of_le (by omega : l.length ≤ min l.length m.length), List.drop_eq_nil_of_le (by omega : m.length ≤ min l.length m.length)]
    unfold seqEq
    rw [show (l.length == m.length) = true from beq_iff_eq.mpr z]
  · rw [List.drop_eq_nil_of_le (by omega : m.length ≤ min l.length m.length)]
    have : l.drop (min l.length m.length) ≠ [] := fun e => by have := List.drop_eq_nil_iff.mp e; omega
    cases e : l.drop (min l.length m.length) with
    | nil => exact absurd e this
    | cons a r => unfold seqEq; rw [show (l.length == m.length) = false from beq_eq_false_iff_ne.mpr (by omega)]
variable {pins : List (Addr × Obj)} {s : Shared} {σ : St} {H Z : Hp} {R : List Addr} {F : Hp} {c : Cells} {A : Around} {eb : E2} {Q : Bool → Hp → Prop} {l m : List D} {a b : Addr}
theorem tup_turn (he : EqI X n eb) (sb : Sub X (n + 1) A) {vs us : List V} (h1 : SqT X.K F a vs) (h2 : SqT X.K F b us) (r1 : RelL X.K R F vs l) (r2 : RelL X.K R F us m) {xs ys : List Value} (v1 : Vals vs xs) (v2 : Vals us ys) :
    ∀ i (h1 : i < xs.toArray.size) (h2 : i < ys.toArray.size) s, LpI X pins σ Z R F c eb l m Q i s → wpAny (model X.prog X.w) A.in1 (eqBool xs.toArray[i] ys.toArray[i]) (fun r s' => if r = true then LpI X pins σ Z R F c eb l m Q (i + 1) s' else LpJ X pins σ Z R F c Q s') X.xe s := by
  rintro i k1 k2 s ⟨R', F', H', p, ef, I, w, q⟩
  have k1' : i < xs.length := by simpa using k1
  have k2' : i < ys.length := by simpa using k2
  have j1 : i < vs.length := by rw [v1.length]; exact k1'
  have j2 : i < us.length := by rw [v2.length]; exact k2'
  obtain ⟨u, hu, ru⟩ := v1.get (List.getElem?_eq_getElem j1)
  obtain ⟨v, hv, rv⟩ := v2.get (List.getElem?_eq_getElem j2)
  rw [List.getElem?_eq_getElem k1'] at hu
  rw [List.getElem?_eq_getElem k2'] at hv
  obtain ⟨d, hd, rd⟩ := r1.getV (List.getElem?_eq_getElem j1)
  obtain ⟨e, hm, re⟩ := r2.getV (List.getElem?_eq_getElem j2)
  have e1 : xs.toArray[i] = u := by simpa using Option.some.inj hu
  have e2 : ys.toArray[i] = v := by simpa using Option.some.inj hv
  rw [e1, e2]
  exact lp_turn he sb.in1 hd hm p ef I w q (rd.mono p ef) (re.mono p ef) ru rv
theorem rc_tup (he : EqI X n eb) (sb : Sub X (n + 1) A) (I : Inv X pins σ H s) (w : Wd X.K Z R F c H) {vs us : List V} (h1 : SqT X.K F a vs) (h2 : SqT X.K F b us) (r1 : RelL X.K R F vs l) (r2 : RelL X.K R F us m)
    (q : Aft X.K Z W0 R F σ (seqEq eb l m c) (QB Q)) : wpAny (model X.prog X.w) A (richCompare .Eq (.ref a) (.ref b)) (fun r s' => ∃ b H', r = .bool b ∧ Inv X pins σ H' s' ∧ Q b H') X.xe s := by
  obtain ⟨xs, v1, t1, z1⟩ := I.tuple (h1.ext w.same)
  obtain ⟨ys, v2, t2, z2⟩ := I.tuple (h2.ext w.same)
  have e1 : xs.length = l.length := by rw [← v1.length, r1.length]
  have e2 : ys.length = m.length := by rw [← v2.length, r2.length]
  refine NwQ.rc_tup_eq sb.room.units0 (LpI X pins σ Z R F c eb l m Q) (LpJ X pins σ Z R F c Q) t1 t2 (tup_turn he sb h1 h2 r1 r2 v1 v2) ?_ ?_ ⟨R, F, H, List.prefix_refl _, Same.refl _, I, w, q⟩
  · rintro s' ⟨R', F', H', p, ef, I', w', q'⟩
    rw [List.size_toArray, List.size_toArray, e1, e2] at q' ⊢
    rw [seqEq_end rfl] at q'
    exact ⟨_, H', rfl, I', q'.ok w'⟩
  · rintro s' ⟨R', F', H', p, ef, I', w', q'⟩
    exact ⟨false, H', rfl, I', q'⟩
theorem rn_tup (he : EqI X n eb) (sb : Sub X (n + 1) A) (I : Inv X pins σ H s) (w : Wd X.K Z R F c H) {vs us : List V} (h1 : SqT X.K F a vs) (h2 : SqT X.K F b us) (r1 : RelL X.K R F vs l) (r2 : RelL X.K R F us m)
    (q : Aft X.K Z W0 R F σ (seqEq eb l m c) (QB Q)) : wpAny (model X.prog X.w) A (richCompare .NotEq (.ref a) (.ref b)) (fun r s' => ∃ b H', r = .bool (!b) ∧ Inv X pins σ H' s' ∧ Q b H') X.xe s := by
  obtain ⟨xs, v1, t1, z1⟩ := I.tuple (h1.ext w.same)
  obtain ⟨ys, v2, t2, z2⟩ := I.tuple (h2.ext w.same)
  have e1 : xs.length = l.length := by rw [← v1.length, r1.length]
  have e2 : ys.length = m.length := by rw [← v2.length, r2.length]
  refine NwQ.rc_tup_ne sb.room.units0 (LpI X pins σ Z R F c eb l m Q) (LpJ X pins σ Z R F c Q) t1 t2 (tup_turn he sb h1 h2 r1 r2 v1 v2) ?_ ?_ ⟨R, F, H, List.prefix_refl _, Same.refl _, I, w, q⟩
  · rintro s' ⟨R', F', H', p, ef, I', w', q'⟩
    rw [List.size_toArray, List.size_toArray, e1, e2] at q' ⊢
    rw [seqEq_end rfl] at q'
    exact ⟨_, H', rfl, I', q'.ok w'⟩
  · rintro s' ⟨R', F', H', p, ef, I', w', q'⟩
    exact ⟨false, H', rfl, I', q'⟩
/-- two lists that stand -/
theorem two_of {d e : D} (w : Wd X.K Z R F c H) (I : Inv X pins σ H s) (ra : Rel X.K R F (.ref a) d) (rb : Rel X.K R F (.ref b) e) (hl : lstOwn c d = some l) (hm : lstOwn c e = some m) :
    ∃ (vs us : List V) (xs ys : List Value) (n1 n2 : Nat), s.heap.get? a = some { cls := .type "list", data := .seq xs.toArray n1 } ∧ s.heap.get? b = some { cls := .type "list", data := .seq ys.toArray n2 } ∧ Vals vs xs ∧ Vals us ys ∧ RelL X.K R F vs l ∧ RelL X.K R F us m := by
  obtain ⟨a', vs, e1, q1, r1⟩ := w.own ra hl
  obtain ⟨b', us, e2, q2, r2⟩ := w.own rb hm
  cases e1
  cases e2
  obtain ⟨_, xs, n1, v1, g1⟩ := I.hok _ _ q1
  obtain ⟨_, ys, n2, v2, g2⟩ := I.hok _ _ q2
  exact ⟨vs, us, xs, ys, n1, n2, g1, g2, v1, v2, r1, r2⟩
theorem lst_I (he : EqI X n eb) (sb : Sub X (n + 1) A) {d e : D} (ra : Rel X.K R F (.ref a) d) (rb : Rel X.K R F (.ref b) e) (hl : lstOwn c d = some l) (hm : lstOwn c e = some m) (hlm : l.length = m.length) :
    NwQ.LstI X.prog X.w A X.xe a b l.length (LpI X pins σ Z R F c eb l m Q) (LpJ X pins σ Z R F c Q) := by
  constructor
  · rintro i s ⟨R', F', H', p, ef, I, w, q⟩
    obtain ⟨vs, us, xs, ys, n1, n2, g1, g2, v1, v2, r1, r2⟩ := two_of w I (ra.mono p ef) (rb.mono p ef) hl hm
    refine ⟨xs.toArray, ys.toArray, n1, n2, g1, g2, by rw [List.size_toArray, ← v1.length, r1.length], by rw [List.size_toArray, ← v2.length, r2.length, hlm], fun k1 k2 => ?_⟩
    have k1' : i < xs.length := by simpa using k1
    have k2' : i < ys.length := by simpa using k2
    have j1 : i < vs.length := by rw [v1.length]; exact k1'
    have j2 : i < us.length := by rw [v2.length]; exact k2'
    obtain ⟨u, hu, ru⟩ := v1.get (List.getElem?_eq_getElem j1)
    obtain ⟨v, hv, rv⟩ := v2.get (List.getElem?_eq_getElem j2)
    rw [List.getElem?_eq_getElem k1'] at hu
    rw [List.getElem?_eq_getElem k2'] at hv
    obtain ⟨d', hd, rd⟩ := r1.getV (List.getElem?_eq_getElem j1)
    obtain ⟨e', hm', re⟩ := r2.getV (List.getElem?_eq_getElem j2)
    have e1 : xs.toArray[i] = u := by simpa using Option.some.inj hu
    have e2 : ys.toArray[i] = v := by simpa using Option.some.inj hv
    rw [e1, e2]
    exact lp_turn he sb.in1 hd hm' p ef I w q rd re ru rv
  · rintro s ⟨R', F', H', p, ef, I, w, q⟩
    obtain ⟨vs, us, xs, ys, n1, n2, g1, g2, v1, v2, r1, r2⟩ := two_of w I (ra.mono p ef) (rb.mono p ef) hl hm
    exact ⟨xs.toArray, ys.toArray, n1, n2, g1, g2, by rw [List.size_toArray, ← v1.length, r1.length], by rw [List.size_toArray, ← v2.length, r2.length, hlm], trivial⟩
theorem lst_fin {s' : Shared} (hlm : l.length = m.length) (h : LpI X pins σ Z R F c eb l m Q l.length s') : ∃ H', Inv X pins σ H' s' ∧ Q true H' := by
  obtain ⟨R', F', H', p, ef, I', w', q'⟩ := h
  rw [seqEq_end (by omega)] at q'
  have q2 := q'.ok w'
  rw [show (l.length == m.length) = true from beq_iff_eq.mpr hlm] at q2
  exact ⟨H', I', q2⟩
theorem rc_lst (he : EqI X n eb) (sb : Sub X (n + 1) A) (I : Inv X pins σ H s) (w : Wd X.K Z R F c H) {d e : D} (ra : Rel X.K R F (.ref a) d) (rb : Rel X.K R F (.ref b) e) (hl : lstOwn c d = some l) (hm : lstOwn c e = some m)
    (q : Aft X.K Z W0 R F σ (if l.length = m.length then seqEq eb l m c else .ok false c) (QB Q)) : wpAny (model X.prog X.w) A (richCompare .Eq (.ref a) (.ref b)) (fun r s' => ∃ b H', r = .bool b ∧ Inv X pins σ H' s' ∧ Q b H') X.xe s := by
  by_cases hlm : l.length = m.length
  · rw [if_pos hlm] at q
    refine NwQ.rc_list_eq sb.room.units0 _ _ (lst_I he sb ra rb hl hm hlm) ?_ ?_ ⟨R, F, H, List.prefix_refl _, Same.refl _, I, w, q⟩
    · intro s' h
      obtain ⟨H', I', q'⟩ := lst_fin hlm h
      exact ⟨true, H', rfl, I', q'⟩
    · rintro s' ⟨R', F', H', p, ef, I', w', q'⟩
      exact ⟨false, H', rfl, I', q'⟩
  · rw [if_neg hlm] at q
    obtain ⟨vs, us, xs, ys, n1, n2, g1, g2, v1, v2, r1, r2⟩ := two_of w I ra rb hl hm
    refine NwQ.rc_list_eq_len sb.room.units0 g1 g2 ?_ ⟨false, H, rfl, I, q.ok w⟩
    rw [List.size_toArray, List.size_toArray, ← v1.length, ← v2.length, r1.length, r2.length]
    simpa using hlm
theorem rn_lst (he : EqI X n eb) (sb : Sub X (n + 1) A) (I : Inv X pins σ H s) (w : Wd X.K Z R F c H) {d e : D} (ra : Rel X.K R F (.ref a) d) (rb : Rel X.K R F (.ref b) e) (hl : lstOwn c d = some l) (hm : lstOwn c e = some m)
    (q : Aft X.K Z W0 R F σ (if l.length = m.length then seqEq eb l m c else .ok false c) (QB Q)) : wpAny (model X.prog X.w) A (richCompare .NotEq (.ref a) (.ref b)) (fun r s' => ∃ b H', r = .bool (!b) ∧ Inv X pins σ H' s' ∧ Q b H') X.xe s := by
  by_cases hlm : l.length = m.length
  · rw [if_pos hlm] at q
    refine NwQ.rc_list_ne sb.room.units0 _ _ (lst_I he sb ra rb hl hm hlm) ?_ ?_ ⟨R, F, H, List.prefix_refl _, Same.refl _, I, w, q⟩
    · intro s' h
      obtain ⟨H', I', q'⟩ := lst_fin hlm h
      exact ⟨true, H', rfl, I', q'⟩
    · rintro s' ⟨R', F', H', p, ef, I', w', q'⟩
      exact ⟨false, H', rfl, I', q'⟩
  · rw [if_neg hlm] at q
    obtain ⟨vs, us, xs, ys, n1, n2, g1, g2, v1, v2, r1, r2⟩ := two_of w I ra rb hl hm
    refine NwQ.rc_list_ne_len sb.room.units0 g1 g2 ?_ ⟨false, H, rfl, I, q.ok w⟩
    rw [List.size_toArray, List.size_toArray, ← v1.length, ← v2.length, r1.length, r2.length]
    simpa using hlm
end
end Nw

set_option Elab.async false
set_option linter.all false
set_option maxRecDepth 100000
set_option maxHeartbeats 4000000
/-! Nw13: == by the text's own __eq__; the tower; the operators. -/
namespace Nw
open PySem PySem.Spec
open PyProof.Rows hiding St
open L2
variable [TheW]

theorem looks_tyD {X : Cx} {pins : List (Addr × Obj)} {s : Shared} {σ : St} {H Z : Hp} {R : List Addr} {F : Hp} {c : Cells} {M : Model} {y : V} {e : D} {v : Value} {t : Ty} (I : Inv X pins σ H s) (w : Wd X.K Z R F c H) (r : Rel X.K R F y e) (rv : RelV y v) (h : tyD c e = some t) :
    PySem.W.Looks M s.heap (typeOf v) (t.v X.K) := by
  have ofRef : ∀ {a : Addr} {o : Obj} {k : Value}, s.heap.get? a = some o → o.cls = k → PySem.W.Looks M s.heap (typeOf (.ref a)) k := fun {a o k} g e A Q E s' kp q => wpAny_typeOf_ref (kp _ _ g) (by rw [e]; exact q)
  have lst : ∀ {a : Addr} {vs : List V}, H a = some (.lst vs) → PySem.W.Looks M s.heap (typeOf (.ref a)) (.type "list") := fun {a vs} q => by
    obtain ⟨_, its, n, _, g⟩ := I.hok _ _ q
    exact ofRef g rfl
  have ins : ∀ {a C dx : Addr} {fs : List (Str × V)}, H a = some (.ins C dx fs) → PySem.W.Looks M s.heap (typeOf (.ref a)) (.ref C) := fun {a C dx fs} q => by
    obtain ⟨_, _, _, g, _⟩ := I.hok _ _ q
    exact ofRef g rfl
  have dct : ∀ {a : Addr}, IsD H a → PySem.W.Looks M s.heap (typeOf (.ref a)) (.type "dict") := fun {a} q => by
    obtain ⟨⟨o, g, k⟩, _⟩ := isD_at I q
    exact ofRef g k
  cases r with
  | dic q z l => cases h; cases (show v = Value.ref _ from rv); exact dct (.inl ⟨_, .inl (w.same _ _ q)⟩)
  | non => cases h; cases (show v = Value.none from rv); exact PySem.W.Looks.of_pure rfl
  | bl b => cases h; cases (show v = Value.bool b from rv); exact PySem.W.Looks.of_pure rfl
  | int i => cases h; obtain ⟨t, rfl⟩ := (show ∃ t, v = Value.int i t from rv); exact PySem.W.Looks.of_pure rfl
  | str i => cases h; obtain ⟨t, rfl⟩ := (show ∃ t, v = Value.str i t from rv); exact PySem.W.Looks.of_pure rfl
  | @tup a vs ds q l =>
    cases h
    cases (show v = Value.ref a from rv)
    obtain ⟨its, _, ⟨o, g, k, _⟩, _⟩ := I.tuple (q.ext w.same)
    exact ofRef g k
  | @lst a vs ds q l => cases h; cases (show v = Value.ref a from rv); exact lst (w.same _ _ q)
  | @scr a vs ds q l =>
    cases h
    cases (show v = Value.ref a from rv)
    obtain ⟨its, _, ⟨o, n, g, k, _⟩, _⟩ := I.list (q.ext w.same)
    exact ofRef g k
  | @obj a dx cn ns vs ds q z l => cases h; cases (show v = Value.ref a from rv); exact ins (w.same _ _ q)
  | @cell i a q =>
    cases (show v = Value.ref a from rv)
    simp only [tyD] at h
    split at h
    · rename_i l hl
      cases h
      obtain ⟨vs, q2, _⟩ := w.atList q hl
      exact lst q2
    · rename_i x ns l hl
      cases h
      obtain ⟨a', o, h1, h2, h3, h4⟩ := w.cel i _ hl
      rw [q] at h1
      cases h1
      cases h3 with
      | ins z rl => exact ins h2
    · rename_i ks l hl
      cases h
      obtain ⟨a', o, h1, h2, h3, h4⟩ := w.cel i _ hl
      rw [q] at h1
      cases h1
      cases h3 with
      | dct z rl => exact dct (.inl ⟨_, .inl h2⟩)
    · cases h
  | _ => cases h
theorem dec_of {X : Cx} {pins : List (Addr × Obj)} {s : Shared} {σ : St} {H Z : Hp} {R : List Addr} {F : Hp} {c : Cells} {A : Around} {y : V} {d : D} {v : Value} {t : Ty} {a C dx : Addr} {ox : Obj} {od : Option Obj} (I : Inv X pins σ H s) (w : Wd X.K Z R F c H) (r : Rel X.K R F y d) (rv : RelV y v) (hn : insOf c d = none) (h : tyD c d = some t)
    (g : s.heap.get? a = some (PySem.W.instObj C dx)) (J : PySem.W.InstAt s.heap a ox C od) (hs : ∀ T, t = .b T → PySem.W.subIn X.K (.ref C) (.type T) = some false) : ∃ T, t = .b T ∧ NwR.Dec X.prog X.w A X.xe s a v T := by
  have lst : ∀ {b : Addr} {vs : List V}, H b = some (.lst vs) → s.TypeIs (.ref b) "list" := fun {b vs} q => by
    obtain ⟨_, its, n, _, g⟩ := I.hok _ _ q
    exact ⟨_, g, rfl⟩
  have dct : ∀ {b : Addr}, IsD H b → s.TypeIs (.ref b) "dict" := fun {b} q => (isD_at I q).1
  cases r with
  | dic q z l => cases h; cases (show v = Value.ref _ from rv); exact ⟨_, rfl, NwR.dec_dict I.kIn J (hs _ rfl) (dct (.inl ⟨_, .inl (w.same _ _ q)⟩))⟩
  | non => cases h; cases (show v = Value.none from rv); exact ⟨_, rfl, NwR.dec_none⟩
  | bl b => cases h; cases (show v = Value.bool b from rv); exact ⟨_, rfl, NwR.dec_bool b g⟩
  | int i => cases h; obtain ⟨t, rfl⟩ := (show ∃ t, v = Value.int i t from rv); exact ⟨_, rfl, NwR.dec_int i t g⟩
  | str i => cases h; obtain ⟨t, rfl⟩ := (show ∃ t, v = Value.str i t from rv); exact ⟨_, rfl, NwR.dec_str i t g⟩
  | @tup b vs ds q l =>
    cases h
    cases (show v = Value.ref b from rv)
    obtain ⟨its, _, ⟨o, g1, k, _⟩, _⟩ := I.tuple (q.ext w.same)
    exact ⟨_, rfl, NwR.dec_tuple I.kIn J (hs _ rfl) ⟨o, g1, k⟩⟩
  | @lst b vs ds q l => cases h; cases (show v = Value.ref b from rv); exact ⟨_, rfl, NwR.dec_list I.kIn J (hs _ rfl) (lst (w.same _ _ q))⟩
  | @scr b vs ds q l =>
    cases h
    cases (show v = Value.ref b from rv)
    obtain ⟨its, _, ⟨o, n, g1, k, _⟩, _⟩ := I.list (q.ext w.same)
    exact ⟨_, rfl, NwR.dec_list I.kIn J (hs _ rfl) ⟨_, g1, k⟩⟩
  | @obj b dx cn ns vs ds q z l => cases hn
  | @cell i b q =>
    cases (show v = Value.ref b from rv)
    simp only [tyD] at h
    split at h
    · rename_i l hl
      cases h
      obtain ⟨vs, q2, _⟩ := w.atList q hl
      exact ⟨_, rfl, NwR.dec_list I.kIn J (hs _ rfl) (lst q2)⟩
    · rename_i x ns l hl
      simp only [insOf, hl] at hn
      cases hn
    · rename_i ks l hl
      cases h
      obtain ⟨a', o, h1, h2, h3, h4⟩ := w.cel i _ hl
      rw [q] at h1
      cases h1
      cases h3 with
      | dct z rl => exact ⟨_, rfl, NwR.dec_dict I.kIn J (hs _ rfl) (dct (.inl ⟨_, .inl h2⟩))⟩
    · cases h
  | _ => cases h
/-- the class named x compares by the text's __eq__ at f -/
structure EqC (K : Frag) (f : Addr) (ts : List Ty) (x : Str) : Prop where
  eq : PySem.W.findIn K (.ref (He.ga K x)) "__eq__" = some (some (.ref f))
  ne : PySem.W.findIn K (.ref (He.ga K x)) "__ne__" = some (some (.builtin "object.__ne__"))
  fn : PySem.W.isFn K (.ref f) = true
  sub : PySem.W.subIn K (.ref (He.ga K x)) (.type "object") = some true
  nf : ∀ t ∈ ts, PySem.W.notFirst K (He.ga K x) (t.v K) = true
  sb : ∀ T : String, Ty.b T ∈ ts → PySem.W.subIn K (.ref (He.ga K x)) (.type T) = some false
section
variable {X : Cx} {n : Nat} {cs : List Str} {ts : List Ty} {pins : List (Addr × Obj)} {s : Shared} {σ : St} {H Z : Hp} {R : List Addr} {F : Hp} {c : Cells} {A : Around} {Q : Bool → Hp → Prop} {me : MF} {f : Addr} {fd : FuncData} {ps : List Str}
/-- the text's __eq__, called from within -/
theorem eq_call (G : FnOk X.prog X.w X.K X.mg X.base (L2.CX X.prog X.w) n f fd ps (spOf X.K me)) (hb : Binds X.K fd ps []) (sb : Sub X n A) (I : Inv X pins σ H s) (w : Wd X.K Z R F c H) {x y : V} {d e : D} {u v : Value} (rx : Rel X.K R F x d) (ry : Rel X.K R F y e) (ru : RelV x u) (rv : RelV y v)
    (q : Aft X.K Z W0 R F σ ((me [d, e] c).bind asB) (QB Q)) : wpAny (model X.prog X.w) A (call (.ref f) [u, v]) (fun r s' => ∃ b H', r = .bool b ∧ Inv X pins σ H' s' ∧ Q b H') X.xe s := by
  have hsp : spOf X.K me [x, y] H (fun z H' => ∃ b, z = .bl b ∧ Q b H') (WE W0 σ) := by
    refine sp_of w (.cons rx (.cons ry .nil)) ((Aft.bind q).imp ?_)
    rintro R1 F1 d1 c1 H1 p1 e1 w1 ⟨_, _, _, h1⟩ z rz
    obtain ⟨b, rfl, h1⟩ := h1.asB
    cases rz
    exact ⟨b, rfl, h1.ok w1⟩
  have e0 : Env0 X.prog X.w X.K X.mg X.base A X.stack s H := by
    have e := I.env0
    exact ⟨by rw [sb.fr]; exact e.frames, e.mod, e.bs, e.bsz, e.funs, e.frf, e.hok, e.bare⟩
  have r2 : Vals [x, y] [u, v] := .cons ru (.cons rv .nil)
  have hl := G.len _ _ _ _ hsp
  have bb := hb s [u, v] I.kIn (by simpa using hl)
  rw [List.append_nil] at bb
  refine wpAny_call (codeAny_mono (G.run A X.stack s H ⟨[u, v], []⟩ [u, v] [x, y] _ _ sb.room e0 bb r2 hsp) ?_)
  rintro (er | fl) s' hq
  · exact passL pins σ H s er s' I hq
  · cases fl with
    | ret z =>
      obtain ⟨zv, H', I', rz, b, rfl, q'⟩ := I.after hq
      cases rz
      exact ⟨b, H', rfl, I', q'⟩
    | _ => exact hq.elim
theorem rc_obj (G : FnOk X.prog X.w X.K X.mg X.base (L2.CX X.prog X.w) n f fd ps (spOf X.K me)) (hb : Binds X.K fd ps []) (hc : ∀ x ∈ cs, EqC X.K f ts x) (sb : Sub X (n + 1) A) (I : Inv X pins σ H s) (w : Wd X.K Z R F c H) {x y : V} {d e : D} {u v : Value} (rx : Rel X.K R F x d) (ry : Rel X.K R F y e) (ru : RelV x u) (rv : RelV y v)
    {cn : Str} {ns : List Str} {fs : List D} (hd : insOf c d = some (cn, ns, fs)) (hcn : cs.contains cn = true) {t : Ty} (ht : tyD c e = some t) (hts : t ∈ ts) (q : Aft X.K Z W0 R F σ ((me [d, e] c).bind asB) (QB Q)) :
    wpAny (model X.prog X.w) A (richCompare .Eq u v) (fun r s' => ∃ b H', r = .bool b ∧ Inv X pins σ H' s' ∧ Q b H') X.xe s ∧ wpAny (model X.prog X.w) A (richCompare .NotEq u v) (fun r s' => ∃ b H', r = .bool (!b) ∧ Inv X pins σ H' s' ∧ Q b H') X.xe s := by
  obtain ⟨a, dx, vs, rfl, ea, z, rl⟩ := w.inst rx hd
  cases (show u = Value.ref a from ru)
  have T := hc cn (by simpa using hcn)
  obtain ⟨mA, J, _⟩ := ins_get I.hok ea
  obtain ⟨od, J, _⟩ := J.look
  obtain ⟨m, hF⟩ := I.fr
  constructor
  · refine PySem.W.cmp_K (op := .Eq) sb.room.units0 hF I.ok.mod.kin J (looks_tyD I w ry rv ht) (T.nf t hts) T.eq T.fn ?_
    refine wpAny_mono (eq_call G hb (sb.mono (Nat.le_succ _)) I w rx ry rfl rv q) (fun r s' h => ?_) fun _ _ z => z
    obtain ⟨b, H', rfl, I', q'⟩ := h
    exact ⟨b, H', rfl, I', q'⟩
  · have hu : A.units + 1 < cLine := Nat.lt_of_le_of_lt (Nat.add_le_add_left (by decide : 1 ≤ 64) _) sb.room.units
    refine NwN.ne_K hu I.kIn J (looks_tyD I w ry rv ht) (T.nf t hts) T.ne T.eq T.fn T.sub ?_
    refine wpAny_mono (eq_call G hb sb.in1 I w rx ry rfl rv q) (fun r s' h => ?_) fun _ _ z => z
    obtain ⟨b, H', rfl, I', q'⟩ := h
    exact ⟨b, rfl, b, H', rfl, I', q'⟩
theorem rc_refl (G : FnOk X.prog X.w X.K X.mg X.base (L2.CX X.prog X.w) n f fd ps (spOf X.K me)) (hb : Binds X.K fd ps []) (hc : ∀ x ∈ cs, EqC X.K f ts x) (sb : Sub X (n + 1) A) (I : Inv X pins σ H s) (w : Wd X.K Z R F c H) {x y : V} {d e : D} {u v : Value} (rx : Rel X.K R F x d) (ry : Rel X.K R F y e) (ru : RelV x u) (rv : RelV y v)
    {cn : Str} {ns : List Str} {fs : List D} (hd : insOf c e = some (cn, ns, fs)) (hcn : cs.contains cn = true) {t : Ty} (hn : insOf c d = none) (ht : tyD c d = some t) (hts : t ∈ ts) (q : Aft X.K Z W0 R F σ ((me [e, d] c).bind asB) (QB Q)) :
    wpAny (model X.prog X.w) A (richCompare .Eq u v) (fun r s' => ∃ b H', r = .bool b ∧ Inv X pins σ H' s' ∧ Q b H') X.xe s ∧ wpAny (model X.prog X.w) A (richCompare .NotEq u v) (fun r s' => ∃ b H', r = .bool (!b) ∧ Inv X pins σ H' s' ∧ Q b H') X.xe s := by
  obtain ⟨a, dx, vs, rfl, ea, z, rl⟩ := w.inst ry hd
  cases (show v = Value.ref a from rv)
  have T := hc cn (by simpa using hcn)
  obtain ⟨_, _, _, gi, _⟩ := I.hok _ _ ea
  obtain ⟨mA, J, _⟩ := ins_get I.hok ea
  obtain ⟨od, J, _⟩ := J.look
  obtain ⟨T0, rfl, D⟩ := dec_of (A := A) I w rx ru hn ht gi J fun T0 e0 => T.sb T0 (e0 ▸ hts)
  have hu : A.units + 1 < cLine := Nat.lt_of_le_of_lt (Nat.add_le_add_left (by decide : 1 ≤ 64) _) sb.room.units
  obtain ⟨id1, S1, D1⟩ := D.eq
  obtain ⟨id2, S2, D2⟩ := D.ne
  constructor
  · refine NwR.refl_eq sb.room.units0 I.kIn J D.ty (T.sb _ hts) S1 D1 T.eq T.fn ?_
    refine wpAny_mono (eq_call G hb (sb.mono (Nat.le_succ _)) I w ry rx rfl ru q) (fun r s' h => ?_) fun _ _ z => z
    obtain ⟨b, H', rfl, I', q'⟩ := h
    exact ⟨b, H', rfl, I', q'⟩
  · refine NwR.refl_ne hu I.kIn J D.ty (T.sb _ hts) S2 D2 T.ne T.eq T.fn T.sub ?_
    refine wpAny_mono (eq_call G hb sb.in1 I w ry rx rfl ru q) (fun r s' h => ?_) fun _ _ z => z
    obtain ⟨b, H', rfl, I', q'⟩ := h
    exact ⟨b, rfl, b, H', rfl, I', q'⟩
/-- one level more -/
theorem eqX_succ {g : E2} (hC : ∀ x ∈ cs, ∀ y ∈ cs, He.ga X.K x = He.ga X.K y → x = y) (h : EqX X n g) (G : FnOk X.prog X.w X.K X.mg X.base (L2.CX X.prog X.w) n f fd ps (spOf X.K me)) (hb : Binds X.K fd ps []) (hc : ∀ x ∈ cs, EqC X.K f ts x) (pf : PuF me) :
    EqX X (n + 1) (fun d e c => match pyD c 60 d, pyD c 60 e with
      | some p, some q => if SeqAt.shaped p = true ∧ SeqAt.shaped q = true then .ok (PyData.eqv p q) c else .bad
      | _, _ => eqG cs ts me (eqB cs g) d e c) := by
  have he := eqB_of hC h
  have both : ∀ (A : Around) (pins : List (Addr × Obj)) (s : Shared) (σ : St) (H Z : Hp) (R : List Addr) (F : Hp) (c : Cells) (x y : V) (d e : D) (u v : Value) (Q : Bool → Hp → Prop), Sub X (n + 1) A → Inv X pins σ H s → Wd X.K Z R F c H → Rel X.K R F x d → Rel X.K R F y e → RelV x u → RelV y v →
      Aft X.K Z W0 R F σ (match pyD c 60 d, pyD c 60 e with
        | some p, some q => if SeqAt.shaped p = true ∧ SeqAt.shaped q = true then .ok (PyData.eqv p q) c else .bad
        | _, _ => eqG cs ts me (eqB cs g) d e c) (QB Q) → wpAny (model X.prog X.w) A (richCompare .Eq u v) (fun r s' => ∃ b H', r = .bool b ∧ Inv X pins σ H' s' ∧ Q b H') X.xe s ∧ wpAny (model X.prog X.w) A (richCompare .NotEq u v) (fun r s' => ∃ b H', r = .bool (!b) ∧ Inv X pins σ H' s' ∧ Q b H') X.xe s := by
    intro A pins s σ H Z R F c x y d e u v Q sb I w rx ry ru rv q
    split at q
    · rename_i p p' h1 h2
      split at q
      · rename_i hs
        obtain ⟨as, k1⟩ := Dp.reads I p x u (dp_of w 60 x d p rx h1) ru
        obtain ⟨bs, k2⟩ := Dp.reads I p' y v (dp_of w 60 y e p' ry h2) rv
        exact ⟨SeqAt.compareEq_shaped k1 k2 hs.1 hs.2 sb.room.units ⟨_, H, rfl, I, q.ok w⟩, SeqAt.compareNe_shaped k1 k2 hs.1 hs.2 sb.room.units ⟨_, H, rfl, I, q.ok w⟩⟩
      · exact q.elim
    · unfold eqG at q
      split at q
      · rename_i qd hd
        obtain ⟨cn, ns, fs⟩ := qd
        split at q
        · rename_i hcn
          cases ht : tyD c e with
          | none => rw [ht] at hcn; exact absurd hcn.2 (by simp)
          | some t =>
            rw [ht] at hcn
            exact rc_obj G hb hc sb I w rx ry ru rv hd hcn.1 ht (by simpa using hcn.2) q
        · exact q.elim
      · rename_i hn
        split at q
        · rename_i qe he'
          obtain ⟨cn, ns, fs⟩ := qe
          split at q
          · rename_i hcn
            cases ht : tyD c d with
            | none => rw [ht] at hcn; exact absurd hcn.2 (by simp)
            | some t =>
              rw [ht] at hcn
              exact rc_refl G hb hc sb I w rx ry ru rv he' hcn.1 hn ht (by simpa using hcn.2) q
          · exact q.elim
        · split at q
          · rename_i l m
            cases rx with
            | tup h1 r1 =>
              cases ry with
              | tup h2 r2 =>
                cases ru
                cases rv
                exact ⟨rc_tup he sb I w h1 h2 r1 r2 q, rn_tup he sb I w h1 h2 r1 r2 q⟩
          · split at q
            · rename_i l m hl hm
              obtain ⟨a, _, rfl, _, _⟩ := w.own rx hl
              obtain ⟨b, _, rfl, _, _⟩ := w.own ry hm
              cases ru
              cases rv
              exact ⟨rc_lst he sb I w rx ry hl hm q, rn_lst he sb I w rx ry hl hm q⟩
            · exact q.elim
  refine ⟨fun d e c b c1 h => ?_, fun A pins s σ H Z R F c x y d e u v Q sb I w rx ry ru rv q => (both A pins s σ H Z R F c x y d e u v Q sb I w rx ry ru rv q).1, fun A pins s σ H Z R F c x y d e u v Q sb I w rx ry ru rv q => (both A pins s σ H Z R F c x y d e u v Q sb I w rx ry ru rv q).2⟩
  split at h
  · split at h
    · cases h; rfl
    · cases h
  · exact pu_eqG pf _ _ _ _ _ h
/-- the operators -/
def eqO (g : E2) : O2 := fun d e c => match g d e c with
  | .ok b c1 => .ok (.bl b) c1
  | _ => .bad
def neO (g : E2) : O2 := fun d e c => match g d e c with
  | .ok b c1 => .ok (.bl (!b)) c1
  | _ => .bad
theorem os_eq {g : E2} (h : EqX X n g) (hr : Room n X.A) : OpS X (compareOp .Eq) (eqO g) := by
  refine ⟨fun x y H Q => ∃ (Z : Hp) (R : List Addr) (F : Hp) (c : Cells) (d e : D) (Q' : Bool → Hp → Prop), Wd X.K Z R F c H ∧ Rel X.K R F x d ∧ Rel X.K R F y e ∧ Aft X.K Z W0 R F [] (g d e c) (QB Q') ∧ ∀ b H', Q' b H' → Q (.bl b) H', ?_, ?_⟩
  · rintro pins s σ H x y u v Q I ru rv ⟨Z, R, F, c, d, e, Q', w, rx, ry, q, hQ⟩
    show wpAny (model X.prog X.w) X.A (richCompare .Eq u v) (EP X pins σ Q) X.xe s
    have q' : Aft X.K Z W0 R F σ (g d e c) (QB Q') := by
      cases o : g d e c with
      | ok b c1 => rw [o] at q; exact q
      | exc => rw [o] at q; exact q
      | bad => rw [o] at q; exact q
    refine wpAny_mono (h.rc X.A pins s σ H Z R F c x y d e u v Q' ⟨hr, rfl⟩ I w rx ry ru rv q') (fun r s' z => ?_) fun _ _ z => z
    obtain ⟨b, H', rfl, I', q2⟩ := z
    exact ⟨.bl b, H', I', rfl, hQ b H' q2⟩
  · intro Z W R F c σ H x y d e Q w rx ry q
    refine ⟨Z, R, F, c, d, e, fun b H' => Q (.bl b) H', w, rx, ry, ?_, fun _ _ z => z⟩
    unfold eqO at q
    cases o : g d e c with
    | ok b c1 => rw [o] at q; exact fun R' F' H' p ef w' => q R' F' H' p ef w' _ (.bl b)
    | exc => rw [o] at q; exact q.elim
    | bad => rw [o] at q; exact q.elim
theorem os_ne {g : E2} (h : EqX X n g) (hr : Room n X.A) : OpS X (compareOp .NotEq) (neO g) := by
  refine ⟨fun x y H Q => ∃ (Z : Hp) (R : List Addr) (F : Hp) (c : Cells) (d e : D) (Q' : Bool → Hp → Prop), Wd X.K Z R F c H ∧ Rel X.K R F x d ∧ Rel X.K R F y e ∧ Aft X.K Z W0 R F [] (g d e c) (QB Q') ∧ ∀ b H', Q' b H' → Q (.bl (!b)) H', ?_, ?_⟩
  · rintro pins s σ H x y u v Q I ru rv ⟨Z, R, F, c, d, e, Q', w, rx, ry, q, hQ⟩
    show wpAny (model X.prog X.w) X.A (richCompare .NotEq u v) (EP X pins σ Q) X.xe s
    have q' : Aft X.K Z W0 R F σ (g d e c) (QB Q') := by
      cases o : g d e c with
      | ok b c1 => rw [o] at q; exact q
      | exc => rw [o] at q; exact q
      | bad => rw [o] at q; exact q
    refine wpAny_mono (h.rn X.A pins s σ H Z R F c x y d e u v Q' ⟨hr, rfl⟩ I w rx ry ru rv q') (fun r s' z => ?_) fun _ _ z => z
    obtain ⟨b, H', rfl, I', q2⟩ := z
    exact ⟨.bl (!b), H', I', rfl, hQ b H' q2⟩
  · intro Z W R F c σ H x y d e Q w rx ry q
    refine ⟨Z, R, F, c, d, e, fun b H' => Q (.bl (!b)) H', w, rx, ry, ?_, fun _ _ z => z⟩
    unfold neO at q
    cases o : g d e c with
    | ok b c1 => rw [o] at q; exact fun R' F' H' p ef w' => q R' F' H' p ef w' _ (.bl _)
    | exc => rw [o] at q; exact q.elim
    | bad => rw [o] at q; exact q.elim
/-- data without instances -/
def eqP : E2 := fun d e c => match pyD c 60 d, pyD c 60 e with
  | some p, some q => if SeqAt.shaped p = true ∧ SeqAt.shaped q = true then .ok (PyData.eqv p q) c else .bad
  | _, _ => .bad
theorem eqX_P : EqX X n eqP := by
  have both : ∀ (A : Around) (pins : List (Addr × Obj)) (s : Shared) (σ : St) (H Z : Hp) (R : List Addr) (F : Hp) (c : Cells) (x y : V) (d e : D) (u v : Value) (Q : Bool → Hp → Prop), Sub X n A → Inv X pins σ H s → Wd X.K Z R F c H → Rel X.K R F x d → Rel X.K R F y e → RelV x u → RelV y v →
      Aft X.K Z W0 R F σ (eqP d e c) (QB Q) → wpAny (model X.prog X.w) A (richCompare .Eq u v) (fun r s' => ∃ b H', r = .bool b ∧ Inv X pins σ H' s' ∧ Q b H') X.xe s ∧ wpAny (model X.prog X.w) A (richCompare .NotEq u v) (fun r s' => ∃ b H', r = .bool (!b) ∧ Inv X pins σ H' s' ∧ Q b H') X.xe s := by
    intro A pins s σ H Z R F c x y d e u v Q sb I w rx ry ru rv q
    unfold eqP at q
    split at q
    · rename_i p p' h1 h2
      split at q
      · rename_i hs
        obtain ⟨as, k1⟩ := Dp.reads I p x u (dp_of w 60 x d p rx h1) ru
        obtain ⟨bs, k2⟩ := Dp.reads I p' y v (dp_of w 60 y e p' ry h2) rv
        exact ⟨SeqAt.compareEq_shaped k1 k2 hs.1 hs.2 sb.room.units ⟨_, H, rfl, I, q.ok w⟩, SeqAt.compareNe_shaped k1 k2 hs.1 hs.2 sb.room.units ⟨_, H, rfl, I, q.ok w⟩⟩
      · exact q.elim
    · exact q.elim
  refine ⟨fun d e c b c1 h => ?_, fun A pins s σ H Z R F c x y d e u v Q sb I w rx ry ru rv q => (both A pins s σ H Z R F c x y d e u v Q sb I w rx ry ru rv q).1, fun A pins s σ H Z R F c x y d e u v Q sb I w rx ry ru rv q => (both A pins s σ H Z R F c x y d e u v Q sb I w rx ry ru rv q).2⟩
  unfold eqP at h
  split at h
  · split at h
    · cases h; rfl
    · cases h
  · cases h
theorem EqX.mono {g : E2} {k : Nat} (h : EqX X n g) (hk : n ≤ k) : EqX X k g :=
  ⟨h.pu, fun A pins s σ H Z R F c x y d e u v Q sb => h.rc A pins s σ H Z R F c x y d e u v Q (sb.mono hk), fun A pins s σ H Z R F c x y d e u v Q sb => h.rn A pins s σ H Z R F c x y d e u v Q (sb.mono hk)⟩
end
/-- everywhere in the program's run -/
def EqAll (P : Program) (w : World) (K : Frag) (mg : Str → Option Value) (base : Heap) (k : Nat) (g : E2) : Prop := ∀ X : Cx, X.prog = P → X.w = w → X.K = K → X.mg = mg → X.base = base → EqX X k g
theorem eq_tower {P : Program} {w : World} {K : Frag} {mg : Str → Option Value} {base : Heap} {cs : List Str} {ts : List Ty} {Fe : E2 → MF} {f : Addr} {fd : FuncData} {ps : List Str} (hC : ∀ x ∈ cs, ∀ y ∈ cs, He.ga K x = He.ga K y → x = y) (hc : ∀ x ∈ cs, EqC K f ts x) (hb : Binds K fd ps [])
    (step : ∀ (n : Nat) (g : E2), EqAll P w K mg base (2 * n + 2) g → FnOk P w K mg base (L2.CX P w) (2 * n + 3) f fd ps (spOf K (Fe g))) (pf : ∀ g, PuE g → PuF (Fe g)) : ∀ n, EqAll P w K mg base (2 * n + 2) (eqF cs ts Fe n)
  | 0 => fun X _ _ _ _ _ => ⟨fun d e c b c1 h => (by unfold eqF at h; cases h), fun A pins s σ H Z R F c x y d e u v Q sb I w rx ry ru rv q => q.elim, fun A pins s σ H Z R F c x y d e u v Q sb I w rx ry ru rv q => q.elim⟩
  | n + 1 => by
    intro X h1 h2 h3 h4 h5
    have ih := eq_tower hC hc hb step pf n
    have G := step n _ ih
    have h := (ih X h1 h2 h3 h4 h5).mono (Nat.le_succ _)
    subst h1 h2 h3 h4 h5
    exact eqX_succ hC h G hb hc (pf _ (pu_eqF pf n))
theorem pu_eqO {g : E2} (p : PuE g) : PuO (eqO g) := fun d e c b c1 h => by
  unfold eqO at h
  split at h
  · rename_i q; cases h; exact p _ _ _ _ _ q
  · cases h
theorem pu_neO {g : E2} (p : PuE g) : PuO (neO g) := fun d e c b c1 h => by
  unfold neO at h
  split at h
  · rename_i q; cases h; exact p _ _ _ _ _ q
  · cases h
theorem pu_eqP : PuE eqP := fun d e c b c1 h => by
  unfold eqP at h
  split at h
  · split at h
    · cases h; rfl
    · cases h
  · cases h
end Nw

set_option Elab.async false
set_option linter.all false
set_option maxRecDepth 100000
set_option maxHeartbeats 4000000
/-! Nw13b: in, not in, with items compared by ==. -/
namespace Nw
open PySem PySem.Spec
open PyProof.Rows hiding St
open L2
variable [TheW]
def ctD (eb : E2) (x : D) : List D → Cells → Out Bool
  | [], c => .ok false c
  | y :: ys, c => match eb y x c with
    | .ok b _ => if b = true then .ok true c else ctD eb x ys c
    | _ => .bad
def inO (cs : List Str) (g : E2) (neg : Bool) : O2 := fun d e c => match inD neg d e c with
  | .ok v c1 => .ok v c1
  | _ => match e with
    | .tup l => match ctD (eqB cs g) d l c with
      | .ok b c1 => .ok (.bl (neg != b)) c1
      | _ => .bad
    | e => match lstOwn c e with
      | some l => match ctD (eqB cs g) d l c with
        | .ok b c1 => .ok (.bl (neg != b)) c1
        | _ => .bad
      | none => .bad
section
variable {X : Cx} {n : Nat} {eb : E2} {pins : List (Addr × Obj)} {s : Shared} {σ : St} {H Z : Hp} {R : List Addr} {F : Hp} {c : Cells} {A : Around} {Q : Bool → Hp → Prop} {l : List D} {a : Addr} {x : V} {d : D} {u : Value}
def CpI (X : Cx) (pins : List (Addr × Obj)) (σ : St) (Z : Hp) (R : List Addr) (F : Hp) (c : Cells) (eb : E2) (d : D) (l : List D) (Q : Bool → Hp → Prop) (i : Nat) (s : Shared) : Prop :=
  ∃ R' F' H', R <+: R' ∧ Same F F' ∧ Inv X pins σ H' s ∧ Wd X.K Z R' F' c H' ∧ Aft X.K Z W0 R' F' σ (ctD eb d (l.drop i) c) (QB Q)
def CpJ (X : Cx) (pins : List (Addr × Obj)) (σ : St) (Z : Hp) (R : List Addr) (F : Hp) (c : Cells) (Q : Bool → Hp → Prop) (s : Shared) : Prop := ∃ R' F' H', R <+: R' ∧ Same F F' ∧ Inv X pins σ H' s ∧ Wd X.K Z R' F' c H' ∧ Q true H'
theorem cp_turn (he : EqI X n eb) (sb : Sub X n A) {i : Nat} {y : V} {v : Value} {e : D} (hd : l[i]? = some e) {R' : List Addr} {F' H' : Hp} (p : R <+: R') (ef : Same F F') (I : Inv X pins σ H' s) (w : Wd X.K Z R' F' c H') (q : Aft X.K Z W0 R' F' σ (ctD eb d (l.drop i) c) (QB Q)) (rx : Rel X.K R' F' x d) (ry : Rel X.K R' F' y e) (ru : RelV x u) (rv : RelV y v) :
    wpAny (model X.prog X.w) A (eqBool v u) (fun r s' => if r = true then CpJ X pins σ Z R F c Q s' else CpI X pins σ Z R F c eb d l Q (i + 1) s') X.xe s := by
  obtain ⟨l1, e1⟩ := List.getElem?_eq_some_iff.mp hd
  rw [List.drop_eq_getElem_cons l1, e1] at q
  unfold ctD at q
  refine wpAny_mono (he.2 A pins s σ H' Z R' F' c y x e d v u (fun b H'' => ∃ R2 F2, R' <+: R2 ∧ Same F' F2 ∧ Wd X.K Z R2 F2 c H'' ∧ if b = true then Q true H'' else Aft X.K Z W0 R2 F2 σ (ctD eb d (l.drop (i + 1)) c) (QB Q)) sb I w ry rx rv ru ?_) (fun b s' z => ?_) fun _ _ z => z
  · cases o : eb e d c with
    | bad => rw [o] at q; exact q.elim
    | exc => rw [o] at q; exact q.elim
    | ok b c1 =>
      rw [o] at q
      dsimp only at q
      have hc := he.1 _ _ _ _ _ o
      subst hc
      intro R2 F2 H2 p2 e2 w2
      refine ⟨R2, F2, p2, e2, w2, ?_⟩
      cases b with
      | true =>
        rw [if_pos rfl] at q ⊢
        exact (Aft.mono p2 e2 q).ok w2
      | false =>
        rw [if_neg (by decide)] at q ⊢
        exact Aft.mono p2 e2 q
  · obtain ⟨H2, I2, R2, F2, p2, e2, w2, q2⟩ := z
    cases b with
    | true =>
      rw [if_pos rfl] at q2 ⊢
      exact ⟨R2, F2, H2, p.trans p2, ef.trans e2, I2, w2, q2⟩
    | false =>
      rw [if_neg (by decide)] at q2 ⊢
      exact ⟨R2, F2, H2, p.trans p2, ef.trans e2, I2, w2, q2⟩
theorem cp_fin {k : Nat} (hk : k = l.length) {s' : Shared} (h : CpI X pins σ Z R F c eb d l Q k s') : ∃ H', Inv X pins σ H' s' ∧ Q false H' := by
  obtain ⟨R', F', H', p, ef, I', w', q'⟩ := h
  rw [List.drop_of_length_le (by omega)] at q'
  unfold ctD at q'
  exact ⟨H', I', q'.ok w'⟩
theorem cp_stop {s' : Shared} (h : CpJ X pins σ Z R F c Q s') : ∃ H', Inv X pins σ H' s' ∧ Q true H' := by
  obtain ⟨R', F', H', p, ef, I', w', q'⟩ := h
  exact ⟨H', I', q'⟩
theorem cp_list (he : EqI X n eb) (sb : Sub X (n + 1) A) (I : Inv X pins σ H s) (w : Wd X.K Z R F c H) (rx : Rel X.K R F x d) (ru : RelV x u) {e : D} (ra : Rel X.K R F (.ref a) e) (hl : lstOwn c e = some l) (q : Aft X.K Z W0 R F σ (ctD eb d l c) (QB Q)) :
    s.TypeIs (.ref a) "list" ∧ wpAny (model X.prog X.w) A (call (.builtin "list.__contains__") [.ref a, u]) (fun v s' => ∃ b, v = .bool b ∧ ∃ H', Inv X pins σ H' s' ∧ Q b H') X.xe s := by
  refine NwC.call_list (N := l.length) (CpI X pins σ Z R F c eb d l Q) (CpJ X pins σ Z R F c Q) ?_ (fun s' => cp_fin rfl) (fun s' => cp_stop) ⟨R, F, H, List.prefix_refl _, Same.refl _, I, w, q⟩
  rintro i s ⟨R', F', H', p, ef, I, w, q⟩
  obtain ⟨a', vs, e1, q1, r1⟩ := w.own (ra.mono p ef) hl
  cases e1
  obtain ⟨_, xs, n1, v1, g1⟩ := I.hok _ _ q1
  refine ⟨xs.toArray, n1, g1, by rw [List.size_toArray, ← v1.length, r1.length], fun k1 => ?_⟩
  have k1' : i < xs.length := by simpa using k1
  have j1 : i < vs.length := by rw [v1.length]; exact k1'
  obtain ⟨v, hv, rv⟩ := v1.get (List.getElem?_eq_getElem j1)
  rw [List.getElem?_eq_getElem k1'] at hv
  obtain ⟨d', hd, rd⟩ := r1.getV (List.getElem?_eq_getElem j1)
  have e1 : xs.toArray[i] = v := by simpa using Option.some.inj hv
  rw [e1]
  exact cp_turn he sb.in1 hd p ef I w q (rx.mono p ef) rd ru rv
theorem cp_tup (he : EqI X n eb) (sb : Sub X (n + 1) A) (I : Inv X pins σ H s) (w : Wd X.K Z R F c H) (rx : Rel X.K R F x d) (ru : RelV x u) {vs : List V} (h1 : SqT X.K F a vs) (r1 : RelL X.K R F vs l) (q : Aft X.K Z W0 R F σ (ctD eb d l c) (QB Q)) :
    s.TypeIs (.ref a) "tuple" ∧ wpAny (model X.prog X.w) A (call (.builtin "tuple.__contains__") [.ref a, u]) (fun v s' => ∃ b, v = .bool b ∧ ∃ H', Inv X pins σ H' s' ∧ Q b H') X.xe s := by
  obtain ⟨xs, v1, t1, z1⟩ := I.tuple (h1.ext w.same)
  refine NwC.call_tuple (CpI X pins σ Z R F c eb d l Q) (CpJ X pins σ Z R F c Q) t1 ?_ (fun s' => cp_fin (by rw [List.size_toArray, ← v1.length, r1.length])) (fun s' => cp_stop) ⟨R, F, H, List.prefix_refl _, Same.refl _, I, w, q⟩
  rintro i k1 s ⟨R', F', H', p, ef, I, w, q⟩
  have k1' : i < xs.length := by simpa using k1
  have j1 : i < vs.length := by rw [v1.length]; exact k1'
  obtain ⟨v, hv, rv⟩ := v1.get (List.getElem?_eq_getElem j1)
  rw [List.getElem?_eq_getElem k1'] at hv
  obtain ⟨d', hd, rd⟩ := r1.getV (List.getElem?_eq_getElem j1)
  have e1 : xs.toArray[i] = v := by simpa using Option.some.inj hv
  rw [e1]
  exact cp_turn he sb.in1 hd p ef I w q (rx.mono p ef) (rd.mono p ef) ru rv
end
section
variable {X : Cx} {n : Nat} {g : E2} {cs : List Str}
/-- what holds of x in y beyond flat items -/
def rInO (X : Cx) (cs : List Str) (g : E2) (neg : Bool) : R2 := fun x y H Q => ∃ (Z : Hp) (R : List Addr) (F : Hp) (c : Cells) (d e : D) (l : List D) (Q' : Bool → Hp → Prop), Wd X.K Z R F c H ∧ Rel X.K R F x d ∧ Rel X.K R F y e ∧ (e = .tup l ∨ lstOwn c e = some l) ∧ Aft X.K Z W0 R F [] (ctD (eqB cs g) d l c) (QB Q') ∧ ∀ b H', Q' b H' → Q (.bl (neg != b)) H'
theorem aft_any {K : Frag} {Z : Hp} {R : List Addr} {F : Hp} {σ τ : St} {o : Out Bool} {Q : Bool → Hp → Prop} (q : Aft K Z W0 R F σ o (QB Q)) : Aft K Z W0 R F τ o (QB Q) := by
  cases o with
  | ok b c1 => exact q
  | exc => exact q
  | bad => exact q
theorem rInO_call (hC : ∀ x ∈ cs, ∀ y ∈ cs, He.ga X.K x = He.ga X.K y → x = y) (h : EqX X n g) (hr : Room (n + 1) X.A) {pins : List (Addr × Obj)} {s : Shared} {σ : St} {H : Hp} {x y : V} {u v : Value} {Q : VK} {neg : Bool} (I : Inv X pins σ H s) (ru : RelV x u) (rv : RelV y v) (hq : rInO X cs g neg x y H Q) :
    ∃ (a : Addr) (T id : String), v = .ref a ∧ s.TypeIs (.ref a) T ∧ Slot T "__contains__" id ∧ wpAny (model X.prog X.w) X.A (call (.builtin id) [.ref a, u]) (fun v s' => ∃ b, v = .bool b ∧ ∃ H', Inv X pins σ H' s' ∧ Q (.bl (neg != b)) H') X.xe s := by
  obtain ⟨Z, R, F, c, d, e, l, Q', w, rx, ry, hl, q, hQ⟩ := hq
  have he := eqB_of hC h
  have q' := aft_any (τ := σ) q
  rcases hl with rfl | hl
  · cases ry with
    | @tup a vs ds h1 r1 =>
      cases (show v = Value.ref a from rv)
      obtain ⟨t, k⟩ := cp_tup he ⟨hr, rfl⟩ I w rx ru h1 r1 q'
      refine ⟨a, _, _, rfl, t, PySem.F.slot_tuple_contains, wpAny_mono k (fun z s' hz => ?_) fun _ _ z => z⟩
      obtain ⟨b, e1, H', I', q2⟩ := hz
      exact ⟨b, e1, H', I', hQ b H' q2⟩
  · obtain ⟨a, vs, rfl, _, _⟩ := w.own ry hl
    cases (show v = Value.ref a from rv)
    obtain ⟨t, k⟩ := cp_list he ⟨hr, rfl⟩ I w rx ru ry hl q'
    refine ⟨a, _, _, rfl, t, PySem.F.slot_list_contains, wpAny_mono k (fun z s' hz => ?_) fun _ _ z => z⟩
    obtain ⟨b, e1, H', I', q2⟩ := hz
    exact ⟨b, e1, H', I', hQ b H' q2⟩
theorem op_inO (hC : ∀ x ∈ cs, ∀ y ∈ cs, He.ga X.K x = He.ga X.K y → x = y) (h : EqX X n g) (hr : Room (n + 1) X.A) : OpR X (compareOp .In) (rInO X cs g false) := by
  intro pins s σ H x y u v Q I ru rv hq
  obtain ⟨a, T, id, rfl, t, S, k⟩ := rInO_call hC h hr I ru rv hq
  refine NwC.in_of t S (wpAny_mono k (fun z s' hz => ?_) fun _ _ z => z)
  obtain ⟨b, rfl, H', I', q2⟩ := hz
  exact ⟨b, rfl, .bl b, H', I', rfl, by simpa using q2⟩
theorem op_notInO (hC : ∀ x ∈ cs, ∀ y ∈ cs, He.ga X.K x = He.ga X.K y → x = y) (h : EqX X n g) (hr : Room (n + 1) X.A) : OpR X (compareOp .NotIn) (rInO X cs g true) := by
  intro pins s σ H x y u v Q I ru rv hq
  obtain ⟨a, T, id, rfl, t, S, k⟩ := rInO_call hC h hr I ru rv hq
  refine NwC.notIn_of t S (wpAny_mono k (fun z s' hz => ?_) fun _ _ z => z)
  obtain ⟨b, rfl, H', I', q2⟩ := hz
  exact ⟨b, rfl, .bl (!b), H', I', rfl, by simpa using q2⟩
theorem rInO_mk {neg : Bool} {Z : Hp} {W : WX} {R : List Addr} {F : Hp} {c : Cells} {σ : St} {H : Hp} {x y : V} {d e : D} {l : List D} {Q : VK} (w : Wd X.K Z R F c H) (rx : Rel X.K R F x d) (ry : Rel X.K R F y e) (hl : e = .tup l ∨ lstOwn c e = some l)
    (q : Aft X.K Z W R F σ (match ctD (eqB cs g) d l c with | .ok b c1 => .ok (.bl (neg != b)) c1 | _ => .bad) (QV X.K Q)) : rInO X cs g neg x y H Q := by
  refine ⟨Z, R, F, c, d, e, l, fun b H' => Q (.bl (neg != b)) H', w, rx, ry, hl, ?_, fun _ _ z => z⟩
  cases o : ctD (eqB cs g) d l c with
  | ok b c1 => rw [o] at q; exact fun R' F' H' p ef w' => q R' F' H' p ef w' _ (.bl _)
  | exc => rw [o] at q; exact q.elim
  | bad => rw [o] at q; exact q.elim
theorem inO_split {neg : Bool} {Z : Hp} {W : WX} {R : List Addr} {F : Hp} {c : Cells} {σ : St} {H : Hp} {x y : V} {d e : D} {Q : VK} (w : Wd X.K Z R F c H) (rx : Rel X.K R F x d) (ry : Rel X.K R F y e) (q : Aft X.K Z W R F σ (inO cs g neg d e c) (QV X.K Q)) :
    Aft X.K Z W R F σ (inD neg d e c) (QV X.K Q) ∨ rInO X cs g neg x y H Q := by
  unfold inO at q
  split at q
  · rename_i v c1 hv
    rw [hv]
    exact .inl q
  · split at q
    · exact .inr (rInO_mk w rx ry (.inl rfl) q)
    · split at q
      · rename_i l hl
        exact .inr (rInO_mk w rx ry (.inr hl) q)
      · exact q.elim
theorem os_inO (hC : ∀ x ∈ cs, ∀ y ∈ cs, He.ga X.K x = He.ga X.K y → x = y) (h : EqX X n g) (hr : Room (n + 1) X.A) : OpS X (compareOp .In) (inO cs g false) := by
  obtain ⟨f, k1, k2⟩ := os_in (X := X)
  refine ⟨_, OpR.or k1 (op_inO hC h hr), fun Z W R F c σ H x y d e Q w rx ry q => ?_⟩
  rcases inO_split w rx ry q with q | q
  · exact .inl (k2 Z W R F c σ H x y d e Q w rx ry q)
  · exact .inr q
theorem os_notInO (hC : ∀ x ∈ cs, ∀ y ∈ cs, He.ga X.K x = He.ga X.K y → x = y) (h : EqX X n g) (hr : Room (n + 1) X.A) : OpS X (compareOp .NotIn) (inO cs g true) := by
  obtain ⟨f, k1, k2⟩ := os_notIn (X := X)
  refine ⟨_, OpR.or k1 (op_notInO hC h hr), fun Z W R F c σ H x y d e Q w rx ry q => ?_⟩
  rcases inO_split w rx ry q with q | q
  · exact .inl (k2 Z W R F c σ H x y d e Q w rx ry q)
  · exact .inr q
end
end Nw

set_option Elab.async false
set_option linter.all false
set_option maxRecDepth 100000
set_option maxHeartbeats 4000000
/-! Nw14: defs, methods, classes by names; what the head is asked. -/
namespace Nw
open PySem PySem.Spec
open PyProof.Rows hiding St
open L2
variable [TheW]

section
variable (P : Program) (w : World) (K : Frag) (mg : Str → Option Value) (base : Heap)
/-- the def named x does what m says -/
structure DefOk (k : Nat) (x : Str) (m : MF) : Prop where
  g : mg x = some (.ref (He.ga K x))
  kp : PySem.W.keepIn K (.ref (He.ga K x)) = true
  ex : ∃ fd ps, FnOk P w K mg base (L2.CX P w) k (He.ga K x) fd ps (spOf K m) ∧ Binds K fd ps []
/-- the method mn of the class cn -/
structure MtOk (k : Nat) (mn cn : Str) (m : MF) : Prop where
  cl : Cls K (He.ga K cn)
  ex : ∃ fd ps, Meth K (He.ga K cn) mn (He.ma K (He.ga K cn) mn) ∧ FnOk P w K mg base (L2.CX P w) k (He.ma K (He.ga K cn) mn) fd ps (spOf K m) ∧ Binds K fd ps []
/-- the class cn, its __init__ -/
structure MkOk (k : Nat) (cn : Str) (m : MF) : Prop where
  g : mg cn = some (.ref (He.ga K cn))
  ex : ∃ fd ps, Mk K (He.ga K cn) (He.ma K (He.ga K cn) "__init__") ∧ FnOk P w K mg base (L2.CX P w) k (He.ma K (He.ga K cn) "__init__") fd ps (spOf K m) ∧ Binds K fd ps []
/-- the class of errors cn with fields -/
structure ExOk (k : Nat) (cn : Str) (ns : List Str) : Prop where
  g : mg cn = some (.ref (He.ga K cn))
  T : OexC K (He.ga K cn)
  ex : ∃ fd ps, PySem.W.findIn K (.ref (He.ga K cn)) "__init__" = some (some (.ref (He.ma K (He.ga K cn) "__init__"))) ∧ PySem.W.typeIn K (.ref (He.ma K (He.ga K cn) "__init__")) = some (.type "function") ∧ FnOk P w K mg base (L2.CX P w) k (He.ma K (He.ga K cn) "__init__") fd ps (spX (He.ga K cn) ns) ∧ Binds K fd ps []
end
section
variable {X : Cx} {W : WX} {k : Nat} {x cn mn : Str} {m : MF} {e o : Expr} {es : List Expr} {ma : MA} {p pos pos' apos : Pos} {ns : List Str}
theorem dd_call (G : DefOk X.prog X.w X.K X.mg X.base k x m) (hr : Room k X.A) (tk : Takes X W) (ha : DA X W (e :: es) ma) (hg : Gl X x := by rfl) (hdb : (x == ("__debug__" : Str)) = false := by decide)
    (he : starEach (e :: es) X.env = (false, eval e X.env) :: starEach es X.env := by rfl) (hpl : (backTo pos (starEach es X.env)).any (·.1) = false := by rfl) : DE X W (.Call (.Name x p) (e :: es) [] pos) (mCall m ma) := by
  obtain ⟨fd, ps, G', hb⟩ := G.ex
  exact de_call G' hr tk G.g G.kp hb ha hg hdb he hpl
theorem dd_call0 (G : DefOk X.prog X.w X.K X.mg X.base k x m) (hr : Room k X.A) (tk : Takes X W) (hg : Gl X x := by rfl) (hdb : (x == ("__debug__" : Str)) = false := by decide) : DE X W (.Call (.Name x p) [] [] pos) (mCall m mNil) := by
  obtain ⟨fd, ps, G', hb⟩ := G.ex
  exact de_call0 G' hr tk G.g G.kp hb hg hdb
theorem MtOk.me (G : MtOk X.prog X.w X.K X.mg X.base k mn cn m) : MethOk X k mn cn m := by
  obtain ⟨fd, ps, h1, h2, h3⟩ := G.ex
  exact ⟨G.cl, _, fd, ps, h1, h2, h3⟩
theorem MtOk.mono {P : Program} {w : World} {K : Frag} {mg : Str → Option Value} {base : Heap} {j : Nat} (G : MtOk P w K mg base k mn cn m) (h : k ≤ j) : MtOk P w K mg base j mn cn m := by
  obtain ⟨fd, ps, h1, h2, h3⟩ := G.ex
  exact ⟨G.cl, fd, ps, h1, h2.mono h, h3⟩
theorem disp_cons {r : List (Str × MF)} (G : MtOk X.prog X.w X.K X.mg X.base k mn cn m) (t : Disp X k mn r) : Disp X k mn ((cn, m) :: r) := .cons G.me t
theorem dd_make (G : MkOk X.prog X.w X.K X.mg X.base k cn m) (hr : Room (k + 1) X.A) (tk : Takes X W) (ha : DA X W (e :: es) ma) (hg : Gl X cn := by rfl) (hdb : (cn == ("__debug__" : Str)) = false := by decide)
    (he : starEach (e :: es) X.env = (false, eval e X.env) :: starEach es X.env := by rfl) (hpl : (backTo pos (starEach es X.env)).any (·.1) = false := by rfl) : DE X W (.Call (.Name cn p) (e :: es) [] pos) (mMake cn m ma) := by
  obtain ⟨fd, ps, M, G', hb⟩ := G.ex
  exact de_make M G' hr tk G.g hb ha hg hdb he hpl
theorem dd_make0 (G : MkOk X.prog X.w X.K X.mg X.base k cn m) (hr : Room (k + 1) X.A) (tk : Takes X W) (hg : Gl X cn := by rfl) (hdb : (cn == ("__debug__" : Str)) = false := by decide) : DE X W (.Call (.Name cn p) [] [] pos) (mMake cn m mNil) := by
  obtain ⟨fd, ps, M, G', hb⟩ := G.ex
  exact de_make0 M G' hr tk G.g hb hg hdb
theorem dd_raise (T : ExOk X.prog X.w X.K X.mg X.base k x ns) (hr : Room (k + 1) X.A) (hc : X.calm = true) (tk : Takes X W) (ha : DA X W (e :: es) ma) (hg : Gl X x := by rfl) (hdb : (x == ("__debug__" : Str)) = false := by decide)
    (he : starEach (e :: es) X.env = (false, eval e X.env) :: starEach es X.env := by rfl) (hpl : (backTo pos (starEach es X.env)).any (·.1) = false := by rfl) :
    DS X W (.Raise (some (.Call (.Name x p) (e :: es) [] pos)) none pos') (mRaise x ns ma) := by
  obtain ⟨fd, ps, h1, h2, h3, h4⟩ := T.ex
  exact ds_raise ⟨T.g, T.T, _, fd, ps, h1, h2, h3, h4⟩ hr hc tk ha hg hdb he hpl
end

/-! ### what the head is asked -/
def insB (K : Frag) (x : Str) : Bool := (He.Fa.cls x).ok K && (decide (PySem.W.findIn K (.ref (He.ga K x)) "__class__" = some (some (.builtin "object.__class__"))) && (decide (PySem.W.specialIn K (.builtin "object.__class__") "__get__" = some (some (.builtin "getset_descriptor.__get__"))) &&
  (decide (PySem.W.takesIn K (.builtin "object.__class__") = some true) && decide (PySem.W.mroIn K (He.ga K x) (.type "object") = some true))))
theorem insB_ok {K : Frag} {x : Str} (h : insB K x = true) : InsC K x := by
  obtain ⟨h1, h⟩ := He.ba h
  obtain ⟨h2, h⟩ := He.ba h
  obtain ⟨h3, h⟩ := He.ba h
  obtain ⟨h4, h5⟩ := He.ba h
  exact ⟨He.cls_ok h1, of_decide_eq_true h2, of_decide_eq_true h3, of_decide_eq_true h4, of_decide_eq_true h5⟩
def isiB (K : Frag) (ts : List Ty) (f : Ty → Bool) (Cs : List Cl) : Bool := ts.all fun t => decide (PySem.W.kitAny K (t.v K) (Cs.map (Cl.v K)) = some (f t))
def tsB (K : Frag) (ts : List Ty) : Bool := ts.all fun t => match t with
  | .o x => insB K x
  | .b _ => true
theorem isiB_ok {K : Frag} {ts : List Ty} {f : Ty → Bool} {Cs : List Cl} (h : isiB K ts f Cs = true) (h2 : tsB K ts = true) : IsiOk K ts f Cs :=
  ⟨fun t ht => of_decide_eq_true (List.all_eq_true.mp h t ht), fun x hx => insB_ok (List.all_eq_true.mp h2 (.o x) hx)⟩
def eqB_ (K : Frag) (f : Addr) (ts : List Ty) (x : Str) : Bool := decide (PySem.W.findIn K (.ref (He.ga K x)) "__eq__" = some (some (.ref f))) && (decide (PySem.W.findIn K (.ref (He.ga K x)) "__ne__" = some (some (.builtin "object.__ne__"))) &&
  (PySem.W.isFn K (.ref f) && (decide (PySem.W.subIn K (.ref (He.ga K x)) (.type "object") = some true) && (ts.all (fun t => PySem.W.notFirst K (He.ga K x) (t.v K)) && ts.all fun t => match t with
    | .b T => decide (PySem.W.subIn K (.ref (He.ga K x)) (.type T) = some false)
    | .o _ => true))))
theorem eqB_ok {K : Frag} {f : Addr} {ts : List Ty} {x : Str} (h : eqB_ K f ts x = true) : EqC K f ts x := by
  obtain ⟨h1, h⟩ := He.ba h
  obtain ⟨h2, h⟩ := He.ba h
  obtain ⟨h3, h⟩ := He.ba h
  obtain ⟨h4, h⟩ := He.ba h
  obtain ⟨h5, h6⟩ := He.ba h
  exact ⟨of_decide_eq_true h1, of_decide_eq_true h2, h3, of_decide_eq_true h4, fun t ht => List.all_eq_true.mp h5 t ht, fun T hT => of_decide_eq_true (List.all_eq_true.mp h6 (.b T) hT)⟩
def oexCB (K : Frag) (C : Addr) : Bool := match K.lookup C with
  | some ⟨.type t, _, .cls cd, sl⟩ => (match cd.mro, sl.toList with
    | .ref C' :: bm, [_, _, _, _, some (.builtin n), _] => decide (t = "type") && (decide (C' = C) && (decide (n = "ValueError.__new__") && (cd.hasDict && (!cd.hasDel && PySem.HandSPX.refsVE bm))))
    | _, _ => false)
  | _ => false
def oexB (K : Frag) (C : Addr) : Bool := oexCB K C && (decide (PySem.W.findIn K (.ref C) "__setattr__" = some (some (.builtin "object.__setattr__"))) && (decide (PySem.W.subIn K (.ref C) (.type "BaseException") = some true) && (decide (PySem.W.typeIn K (.ref C) = some (.type "type")) && PySem.W.keepIn K (.ref C))))
theorem oexB_ok {K : Frag} {C : Addr} (h : oexB K C = true) : OexC K C := by
  obtain ⟨h1, h⟩ := He.ba h
  obtain ⟨h2, h⟩ := He.ba h
  obtain ⟨h3, h⟩ := He.ba h
  obtain ⟨h4, h5⟩ := He.ba h
  refine ⟨?_, of_decide_eq_true h2, of_decide_eq_true h3, of_decide_eq_true h4, h5⟩
  unfold oexCB at h1
  split at h1
  · rename_i t dd cd sl ho
    split at h1
    · rename_i C' bm k0 k1 k2 k3 n k5 hm hs
      obtain ⟨g1, h1⟩ := He.ba h1
      obtain ⟨g2, h1⟩ := He.ba h1
      obtain ⟨g3, h1⟩ := He.ba h1
      obtain ⟨g4, h1⟩ := He.ba h1
      obtain ⟨g5, g6⟩ := He.ba h1
      have g1 := of_decide_eq_true g1
      have g2 := of_decide_eq_true g2
      have g3 := of_decide_eq_true g3
      subst g1 g2 g3
      obtain ⟨nm, bs, mro, ns, qn, hd, sn, sub, ab, col, del⟩ := cd
      dsimp only at hm g4 g5
      have g5 : del = false := by simpa using g5
      subst hm g4 g5
      obtain ⟨l⟩ := sl
      dsimp only at hs
      subst hs
      exact ⟨nm, qn, ns, bs, bm, sn, sub, ab, col, dd, k0, k1, k2, k3, k5, ho, g6⟩
    · cases h1
  · cases h1
/-- own questions -/
inductive Ck where
  | fld (f : Str) (cs : List Str) | isi (ts : List Ty) (f : Ty → Bool) (Cs : List Cl) | tys (l : List Ty) | eqc (th : Str) (ts : List Ty) (cs : List Str) | oex (x : Str) (fs : List Str) | dist (cs : List Str) | xf (x : Str) (fs : List Str) | exm (x : Str) (t : List (Str × Bool)) | fnT (x m : Str) | mko (x : Str) | any (b : Frag → Bool)
def Ck.ok (K : Frag) : Ck → Bool
  | .fld f cs => cs.all fun x => (He.Fa.cls x).ok K && (He.Fa.noat x f).ok K
  | .isi ts f Cs => isiB K ts f Cs
  | .tys l => tsB K l
  | .eqc th l cs => cs.all fun x => eqB_ K (He.ma K (He.ga K th) "__eq__") l x
  | .oex x fs => oexB K (He.ga K x) && (fs.all fun f => (He.Fa.noat x f).ok K)
  | .xf x fs => xfB K (He.ga K x) && (fs.all fun f => (He.Fa.noat x f).ok K)
  | .dist cs => cs.all fun x => cs.all fun y => !decide (He.ga K x = He.ga K y) || decide (x = y)
  | .exm x t => t.all fun p => decide (PySem.W.exmOne K (.ref (He.ga K p.1)) (.ref (He.ga K x)) = some p.2)
  | .fnT x m => decide (PySem.W.findIn K (.ref (He.ga K x)) m = some (some (.ref (He.ma K (He.ga K x) m)))) && decide (PySem.W.typeIn K (.ref (He.ma K (He.ga K x) m)) = some (.type "function"))
  | .any b => b K
  | .mko x => PySem.W.makesIn K (He.ga K x) && (He.eqO (PySem.W.findIn K (.ref (He.ga K x)) "__init__") (some (some (.builtin "object.__init__"))) && PySem.W.keepIn K (.ref (He.ga K x)))
section
variable {K : Frag}
theorem ck_fld {f : Str} {cs : List Str} (h : (Ck.fld f cs).ok K = true) : FldOk K f cs := fun cn hc => by
  obtain ⟨h1, h2⟩ := He.ba (List.all_eq_true.mp h cn hc)
  exact ⟨He.cls_ok h1, He.noat_ok h2⟩
theorem ck_eqc {th : Str} {l : List Ty} {cs : List Str} (h : (Ck.eqc th l cs).ok K = true) : ∀ x ∈ cs, EqC K (He.ma K (He.ga K th) "__eq__") l x := fun x hx => eqB_ok (List.all_eq_true.mp h x hx)
theorem ck_dist {cs : List Str} (h : (Ck.dist cs).ok K = true) : ∀ x ∈ cs, ∀ y ∈ cs, He.ga K x = He.ga K y → x = y := fun x hx y hy e => by
  have h1 := List.all_eq_true.mp (List.all_eq_true.mp h x hx) y hy
  rcases Bool.or_eq_true_iff.mp h1 with z | z
  · rw [decide_eq_true e] at z; cases z
  · exact of_decide_eq_true z
theorem lookup_mem {α : Type} : ∀ {l : List (Str × α)} {k : Str} {b : α}, l.lookup k = some b → (k, b) ∈ l
  | [], _, _, h => by cases h
  | (k', b') :: r, k, b, h => by
    rw [List.lookup_cons] at h
    cases q : k == k' with
    | true =>
      rw [q] at h
      cases h
      rw [eq_of_beq q]
      exact List.mem_cons_self
    | false =>
      rw [q] at h
      exact List.mem_cons_of_mem _ (lookup_mem h)
theorem ck_exm {x : Str} {t : List (Str × Bool)} (h : (Ck.exm x t).ok K = true) : ExmOk K x t := fun k b e => of_decide_eq_true (List.all_eq_true.mp h (k, b) (lookup_mem e))
end
/-! the Hook -/
def obsN (fa : List He.Fa) (ck : List Ck) (fn : List He.DefD) (K : Frag) : He.AlD := (((fa.all fun f => f.ok K) && (ck.all fun f => f.ok K)) && fn.all fun d => d.ok K, fn.map fun d => He.fnW K d.at_)
def SaysN (fa : List He.Fa) (ck : List Ck) (fn : List He.DefD) (K : Frag) : Prop := obsN fa ck fn K = He.valD fn
def obsNG (n : Nat) (fa : List He.Fa) (ck : List Ck) (fn : List He.DefD) (g : Addr → Option Obj) : He.AlD := obsN fa ck fn (He.frG g (He.asD g n))
def hookN (n : Nat) (fa : List He.Fa) (ck : List Ck) (fn : List He.DefD) : PySem.W.Hook where
  α := He.AlD
  obs := fun s => obsNG n fa ck fn s.heap.get?
  val := fun _ => He.valD fn
  says := fun _ h => ∃ K : Frag, K.In h ∧ SaysN fa ck fn K
  of := fun _ _ e => ⟨_, He.frG_in, e⟩
  keeps := fun _ _ _ ⟨K, hK, c⟩ k => ⟨K, PySem.W.Frag.In.keeps hK k, c⟩
theorem obsNG_eq {n : Nat} {fa : List He.Fa} {ck : List Ck} {fn : List He.DefD} {g : Addr → Option Obj} {s : Shared} (h : ∀ a, g a = s.heap.get? a) : obsNG n fa ck fn g = (hookN n fa ck fn).obs s := by
  have e : g = s.heap.get? := funext h
  rw [e] <;> rfl
section
variable {fa : List He.Fa} {ck : List Ck} {fn : List He.DefD} {K : Frag}
theorem SaysN.fact (c : SaysN fa ck fn K) (i : Nat) {f : He.Fa} (h : fa[i]? = some f := by rfl) : f.ok K = true := by
  have c1 := (He.ba (He.ba (show (((fa.all fun f => f.ok K) && (ck.all fun f => f.ok K)) && fn.all fun d => d.ok K) = true from congrArg (fun z : He.AlD => z.1) c)).1).1
  exact List.all_eq_true.mp c1 f (List.mem_of_getElem? h)
theorem SaysN.cka (c : SaysN fa ck fn K) (i : Nat) {f : Ck} (h : ck[i]? = some f := by rfl) : f.ok K = true := by
  have c1 := (He.ba (He.ba (show (((fa.all fun f => f.ok K) && (ck.all fun f => f.ok K)) && fn.all fun d => d.ok K) = true from congrArg (fun z : He.AlD => z.1) c)).1).2
  exact List.all_eq_true.mp c1 f (List.mem_of_getElem? h)
theorem SaysN.def_ (c : SaysN fa ck fn K) (i : Nat) {d : He.DefD} (h : fn[i]? = some d := by rfl) : ∃ fd, FunD K d.name d.qual d.params d.body d.scope (d.dvs K) (d.kws K) (He.fAd K d.at_) fd := by
  have c2 := (He.ba (show (((fa.all fun f => f.ok K) && (ck.all fun f => f.ok K)) && fn.all fun d => d.ok K) = true from congrArg (fun z : He.AlD => z.1) c)).2
  have e : fn.map (fun d => He.fnW K d.at_) = fn.map He.DefD.val := congrArg (fun z : He.AlD => z.2) c
  have e2 : (fn.map fun d => He.fnW K d.at_)[i]? = (fn.map He.DefD.val)[i]? := by rw [e]
  rw [List.getElem?_map, List.getElem?_map, h] at e2
  exact He.DefD.funD (Option.some.inj e2) (List.all_eq_true.mp c2 d (List.mem_of_getElem? h))
end
end Nw

set_option Elab.async false
set_option linter.all false
set_option maxRecDepth 100000
set_option maxHeartbeats 4000000
/-! Nw15: further rules. -/
namespace Nw
open PySem PySem.Spec
open PyProof.Rows hiding St
open L2
variable [TheW]
section
variable {X : Cx} {W : WX} {pos : Pos} {tg a : Expr} {ma : ME}
def negD (d : D) (c : Cells) : Out D := match d with
  | .int i => .ok (.int (-i)) c
  | _ => .bad
theorem de_neg (ha : DE X W a ma) : DE X W (.UnaryOp .USub a pos) (fun δ c => (ma δ c).bind negD) := by
  obtain ⟨t, p, s⟩ := ha.ex
  refine ⟨_, pe_un un_neg p, fun Z R F δ c σ H Q w rs h => s Z R F δ c σ H _ w rs ((Aft.bind h).imp ?_)⟩
  rintro R1 F1 d c1 H1 p1 e1 w1 ⟨_, _, _, h1⟩ v rv
  unfold negD at h1
  split at h1
  · cases rv
    exact ⟨_, rfl, h1.ok w1 _ (.int _)⟩
  · exact h1.elim
/-- over a list, a tuple, a text -/
def seqAny (d : D) (c : Cells) : Out Seq := match d with
  | .str x => .ok (strSeq x) c
  | d => seqOf d c
theorem di_any {l : Expr} {m : ME} (hl : DE X W l m) : DI X W tg l (fun δ c => (m δ c).bind seqAny) := by
  obtain ⟨t1, p1, s1⟩ := (di_seq (tg := tg) hl).ex
  obtain ⟨t2, p2, s2⟩ := (di_str (tg := tg) hl).ex
  have p : PI X tg l (fun σ H R => t1 σ H R ∨ t2 σ H R) := ⟨fun pins s σ H R I h => by
    rcases h with h | h
    · exact p1.run pins s σ H R I h
    · exact p2.run pins s σ H R I h⟩
  refine ⟨_, p, fun Z R F δ c σ H Q w rs h => ?_⟩
  cases e : m δ c with
  | bad => rw [e] at h; exact h.elim
  | exc k ns ds c1 =>
    rw [e] at h
    refine .inl (s1 Z R F δ c σ H _ w rs ?_)
    unfold mSq
    rw [e]
    exact h
  | ok d c1 =>
    rw [e] at h
    by_cases hs : ∃ x, d = .str x
    · obtain ⟨x, rfl⟩ := hs
      refine .inr (s2 Z R F δ c σ H _ w rs ?_)
      rw [e]
      exact h
    · refine .inl (s1 Z R F δ c σ H _ w rs ?_)
      unfold mSq
      rw [e]
      have : seqAny d c1 = seqOf d c1 := by
        unfold seqAny
        split
        · exact absurd ⟨_, rfl⟩ hs
        · rfl
      rw [show (Out.ok d c1).bind seqOf = seqOf d c1 from rfl, ← this]
      exact h
end
end Nw

set_option Elab.async false
set_option linter.all false
set_option maxRecDepth 100000
set_option maxHeartbeats 4000000
/-! Nw16: the law's promise. -/
namespace Nw
open PySem PySem.Spec
open PyProof.Rows hiding St
open L2
variable [TheW]
section
variable {K : Frag} {h : Heap} {mg : Str → Option Value}
theorem ck_exc0 (X : K.In h) (G : h.Ns mainGlobals mg) {x : Str} (c1 : (He.Fa.glo x).ok K = true) (c2 : (He.Fa.exc x).ok K = true) : Exc0 K mg x := by
  obtain ⟨h1, h2, h3, h4⟩ := He.exc_ok c2
  exact ⟨He.glo_ok X G c1, h1, h2, h3, h4⟩
theorem ck_oex1 {x f : Str} (c : (Ck.oex x [f]).ok K = true) : OexC K (He.ga K x) ∧ PySem.W.findIn K (.ref (He.ga K x)) f = some none := by
  obtain ⟨h1, h2⟩ := He.ba c
  exact ⟨oexB_ok h1, He.noat_ok (List.all_eq_true.mp h2 f (by simp))⟩
theorem ck_oex2 {x f g : Str} (c : (Ck.oex x [f, g]).ok K = true) : OexC K (He.ga K x) ∧ PySem.W.findIn K (.ref (He.ga K x)) f = some none ∧ PySem.W.findIn K (.ref (He.ga K x)) g = some none := by
  obtain ⟨h1, h2⟩ := He.ba c
  exact ⟨oexB_ok h1, He.noat_ok (List.all_eq_true.mp h2 f (by simp)), He.noat_ok (List.all_eq_true.mp h2 g (by simp))⟩
theorem ck_fnT {x m : Str} (c : (Ck.fnT x m).ok K = true) : PySem.W.findIn K (.ref (He.ga K x)) m = some (some (.ref (He.ma K (He.ga K x) m))) ∧ PySem.W.typeIn K (.ref (He.ma K (He.ga K x) m)) = some (.type "function") := by
  obtain ⟨h1, h2⟩ := He.ba c
  exact ⟨of_decide_eq_true h1, of_decide_eq_true h2⟩
end
theorem ints_rel {K : Frag} {R : List Addr} {F : Hp} : ∀ ns : List Int, RelL K R F (ns.map V.int) (ns.map D.int)
  | [] => .nil
  | i :: r => .cons (.int i) (ints_rel r)
def LawOk (m : MF) (n : Nat) : Prop := ∀ ns : List Int, ns.length ≤ n → ∃ c', m [.scr (ns.map D.int)] [] = .ok (.bl true) c'
theorem sp_law {K : Frag} {m : MF} {n : Nat} (h : LawOk m n) (H F : Hp) (sF : Same F H) (hT : TbW (fun _ => none) [] F H) (a : Addr) (ns : List Int) (hn : ns.length ≤ n) (hS : SqL K F a (ns.map V.int)) : spOf K m [.ref a] H (fun v _ => v = .bl true) (fun _ _ _ => False) := by
  obtain ⟨c', e⟩ := h ns hn
  refine ⟨fun _ => none, [], F, [], [.scr (ns.map D.int)], ⟨fun _ _ z => (nomatch z), fun _ _ z => (nomatch z), sF, rfl, List.nodup_nil, fun i k z => (by cases i <;> cases z), hT⟩, .cons (.scr hS (ints_rel ns)) .nil, ?_⟩
  rw [e]
  intro R' F' H' p ef w v r
  cases r
  rfl
theorem cx_no {P : Program} {w : World} (H : Hp) (s : Shared) (e : Value) (s' : Shared) (h : L2.CX P w [] H s (fun _ _ _ => False) e s') : False := by
  obtain ⟨_, _, _, _, _, _, _, _, _, _, _, _, z⟩ := h
  exact z
theorem walkW {l : PySem.W.OpenLaw} {n k : Nat} {q : Program} {loose : List Str} {XP : (Str → Option Value) → Heap → Prop} {YP : World → Heap → Prop} {d : DefRec} {x : Str} {m : MF} (hn : l.most = some n) (hn2 : n ≤ sizeLine) (hdf : d.params.defaults = []) (hr : Room k callerA) (hm : LawOk m n)
    (hF : ∀ (w : World) (mg : Str → Option Value) (f : Addr) (h : Heap), YP w h → h.Ns mainGlobals mg → mg d.name = some (.ref f) →
      ∃ (K : Frag) (fd : FuncData), K.In h ∧ (∀ (s : Shared) (u : Value), BindsTo s fd ⟨[u], []⟩ [(x, u)]) ∧ ∀ base : Heap, FnOk l.prog w K mg base (L2.CX l.prog w) k f fd [x] (@spOf ⟨some w, []⟩ K m)) :
    PySem.W.WalkO q loose XP YP l.row.toRowW d [] (fun f vs => PySem.call f vs) := by
  refine Att.attach_call hn hdf fun w s0 s1 mg mb f o pm cd doc a vs ns G Y ho hd hcd hmg hobj hints hlen hg => ?_
  letI : TheW := ⟨some w, []⟩
  obtain ⟨K, fd, KX, hb, hG⟩ := hF w mg f _ Y G.T.g hmg
  exact law_call (CX := L2.CX l.prog w) KX G.T.g G.T.b G.T.builtins G.T.nolimit hg hobj hints (Nat.le_trans hlen hn2) hr (fun base _ _ => hG base) hb (fun H hO hS => sp_law hm H H (Same.refl _) (fun p hp => absurd (show p ∈ ([] : List (Addr × Str)) from hp) List.not_mem_nil) a ns hlen hS) fun H e s' => cx_no H s1 e s'
end Nw

set_option Elab.async false
set_option linter.all false
set_option maxRecDepth 100000
set_option maxHeartbeats 4000000
/-! Nw17: plain data, compared. -/
namespace Nw
open PySem PySem.Spec
open PyProof.Rows hiding St
open L2
mutual
def py : D → PyData
  | .bl b => .bool b
  | .int i => .int i
  | .str x => .str x
  | .tup l => .tuple (pyL l)
  | .lst l => .list (pyL l)
  | _ => .none
def pyL : List D → List PyData
  | [] => []
  | d :: r => py d :: pyL r
end
mutual
def okp : D → Nat → Bool
  | .non, _ => true
  | .bl _, _ => true
  | .int _, _ => true
  | .str x, _ => PyData.strOk x
  | .tup l, n => decide (0 < n) && okpL l (n - 1)
  | .lst l, n => decide (0 < n) && okpL l (n - 1)
  | _, _ => false
def okpL : List D → Nat → Bool
  | [], _ => true
  | d :: r, n => okp d n && okpL r n
end
theorem pyD_tup {c : Cells} {f : Nat} {l : List D} : pyD c (f + 1) (.tup l) = (l.mapM (pyD c f)).map .tuple := rfl
theorem pyD_lst {c : Cells} {f : Nat} {l : List D} : pyD c (f + 1) (.lst l) = (l.mapM (pyD c f)).map .list := rfl
theorem pyD_cell {c : Cells} {f i : Nat} {l : List D} (h : c[i]? = some (.lst l)) : pyD c (f + 1) (.cell i) = (l.mapM (pyD c f)).map .list := by
  unfold pyD
  dsimp only
  rw [h]
mutual
theorem pyD_okp {c : Cells} : ∀ (d : D) (n f : Nat), okp d n = true → n < f → pyD c f d = some (py d)
  | d, n, 0, _, h => absurd h (Nat.not_lt_zero _)
  | .non, n, f + 1, _, _ => rfl
  | .bl b, n, f + 1, _, _ => rfl
  | .int i, n, f + 1, _, _ => rfl
  | .str x, n, f + 1, _, _ => rfl
  | .tup l, n, f + 1, h, hf => by
    unfold okp at h
    obtain ⟨h1, h2⟩ := Bool.and_eq_true_iff.mp h
    have h1 := of_decide_eq_true h1
    rw [pyD_tup, pyL_okp l (n - 1) f h2 (by omega), py]
    rfl
  | .lst l, n, f + 1, h, hf => by
    unfold okp at h
    obtain ⟨h1, h2⟩ := Bool.and_eq_true_iff.mp h
    have h1 := of_decide_eq_true h1
    rw [pyD_lst, pyL_okp l (n - 1) f h2 (by omega), py]
    rfl
  | .ty _, n, f + 1, h, _ => by unfold okp at h; cases h
  | .gl _, n, f + 1, h, _ => by unfold okp at h; cases h
  | .scr _, n, f + 1, h, _ => by unfold okp at h; cases h
  | .obj _ _ _, n, f + 1, h, _ => by unfold okp at h; cases h
  | .cell _, n, f + 1, h, _ => by unfold okp at h; cases h
  | .exo _ _ _ _ _, n, f + 1, h, _ => by unfold okp at h; cases h
  | .err _ _ _, n, f + 1, h, _ => by unfold okp at h; cases h
  | .dic _ _, n, f + 1, h, _ => by unfold okp at h; cases h
  | .dit _ _, n, f + 1, h, _ => by unfold okp at h; cases h
theorem pyL_okp {c : Cells} : ∀ (l : List D) (n f : Nat), okpL l n = true → n < f → l.mapM (pyD c f) = some (pyL l)
  | [], _, _, _, _ => rfl
  | d :: r, n, f, h, hf => by
    unfold okpL at h
    obtain ⟨h1, h2⟩ := Bool.and_eq_true_iff.mp h
    rw [List.mapM_cons, pyD_okp d n f h1 hf, pyL_okp r n f h2 hf]
    rfl
end
mutual
theorem lay_okp : ∀ (d : D) (n : Nat), okp d n = true → (py d).canLay0 = true ∧ (py d).depth ≤ n
  | .non, n, _ => by simp [py, PyData.canLay0, PyData.depth]
  | .bl b, n, _ => by simp [py, PyData.canLay0, PyData.depth]
  | .int i, n, _ => by simp [py, PyData.canLay0, PyData.depth]
  | .str x, n, h => by unfold okp at h; simp [py, PyData.canLay0, PyData.depth, h]
  | .tup l, n, h => by
    unfold okp at h
    obtain ⟨h1, h2⟩ := Bool.and_eq_true_iff.mp h
    have h1 := of_decide_eq_true h1
    obtain ⟨k1, k2⟩ := layL_okp l (n - 1) h2
    simp only [py, PyData.canLay0, PyData.depth]
    exact ⟨k1, by omega⟩
  | .lst l, n, h => by
    unfold okp at h
    obtain ⟨h1, h2⟩ := Bool.and_eq_true_iff.mp h
    have h1 := of_decide_eq_true h1
    obtain ⟨k1, k2⟩ := layL_okp l (n - 1) h2
    simp only [py, PyData.canLay0, PyData.depth]
    exact ⟨k1, by omega⟩
  | .ty _, n, h => by unfold okp at h; cases h
  | .gl _, n, h => by unfold okp at h; cases h
  | .scr _, n, h => by unfold okp at h; cases h
  | .obj _ _ _, n, h => by unfold okp at h; cases h
  | .cell _, n, h => by unfold okp at h; cases h
  | .exo _ _ _ _ _, n, h => by unfold okp at h; cases h
  | .err _ _ _, n, h => by unfold okp at h; cases h
  | .dic _ _, n, h => by unfold okp at h; cases h
  | .dit _ _, n, h => by unfold okp at h; cases h
theorem layL_okp : ∀ (l : List D) (n : Nat), okpL l n = true → PyData.canLayAll0 (pyL l) = true ∧ PyData.depthAll (pyL l) ≤ n
  | [], n, _ => by simp [pyL, PyData.canLayAll0, PyData.depthAll]
  | d :: r, n, h => by
    unfold okpL at h
    obtain ⟨h1, h2⟩ := Bool.and_eq_true_iff.mp h
    obtain ⟨k1, k2⟩ := lay_okp d n h1
    obtain ⟨k3, k4⟩ := layL_okp r n h2
    simp only [pyL, PyData.canLayAll0, PyData.depthAll, k1, k3]
    exact ⟨rfl, by omega⟩
end
theorem shaped_okp {d : D} (h : okp d 50 = true) : SeqAt.shaped (py d) = true := by
  obtain ⟨h1, h2⟩ := lay_okp d 50 h
  unfold SeqAt.shaped
  rw [h1, decide_eq_true (by omega)]
  rfl
section
variable {cs : List Str} {ts : List Ty} {Fe : E2 → MF} {n : Nat} {c : Cells} {d e : D}
/-- plain data, compared -/
theorem eqF_py {p q : PyData} (h1 : pyD c 60 d = some p) (h2 : pyD c 60 e = some q) (s1 : SeqAt.shaped p = true) (s2 : SeqAt.shaped q = true) : eqF cs ts Fe (n + 1) d e c = .ok (PyData.eqv p q) c := by
  unfold eqF
  rw [h1, h2]
  dsimp only
  rw [if_pos ⟨s1, s2⟩]
theorem eqF_ok (h1 : okp d 50 = true) (h2 : okp e 50 = true) : eqF cs ts Fe (n + 1) d e c = .ok (PyData.eqv (py d) (py e)) c :=
  eqF_py (pyD_okp d 50 60 h1 (by decide)) (pyD_okp e 50 60 h2 (by decide)) (shaped_okp h1) (shaped_okp h2)
theorem py_cell {i : Nat} {l : List D} (h : c[i]? = some (.lst l)) (hl : okp (.lst l) 50 = true) : pyD c 60 (.cell i) = some (py (.lst l)) := by
  have k := pyD_okp (c := c) (.lst l) 50 60 hl (by decide)
  rw [pyD_lst] at k
  rw [pyD_cell h]
  exact k
/-- a list in a cell against plain data -/
theorem eqF_cell {i : Nat} {l : List D} (h : c[i]? = some (.lst l)) (hl : okp (.lst l) 50 = true) (h2 : okp e 50 = true) : eqF cs ts Fe (n + 1) (.cell i) e c = .ok (PyData.eqv (py (.lst l)) (py e)) c :=
  eqF_py (py_cell h hl) (pyD_okp e 50 60 h2 (by decide)) (shaped_okp hl) (shaped_okp h2)
end
theorem eqv_self {d : D} {n : Nat} (h : okp d n = true) : PyData.eqv (py d) (py d) = true := PySem.SeqAt.eqv_refl_plain _ (PySem.PyData.plain_of_canLay0 _ (lay_okp d n h).1)
theorem pyL_strs : ∀ l : List Str, pyL (l.map D.str) = l.map PyData.str
  | [] => rfl
  | x :: r => by rw [List.map_cons, List.map_cons, pyL, pyL_strs r, py]
theorem okpL_strs : ∀ (l : List Str) (n : Nat), okpL (l.map D.str) n = l.all PyData.strOk
  | [], _ => rfl
  | x :: r, n => by rw [List.map_cons, okpL, okpL_strs r n, okp, List.all_cons]
theorem eqvAll_strs : ∀ l m : List Str, PyData.eqvAll (l.map PyData.str) (m.map PyData.str) = decide (l = m)
  | [], [] => rfl
  | [], _ :: _ => rfl
  | _ :: _, [] => rfl
  | x :: l, y :: m => by
    rw [List.map_cons, List.map_cons, PyData.eqvAll, eqvAll_strs l m, PyData.eqv]
    by_cases h : x = y
    · subst h
      simp
    · simp [h]
end Nw

set_option Elab.async false
set_option linter.all false
set_option maxRecDepth 100000
set_option maxHeartbeats 4000000
/-! Nw18: loops, plainly. -/
namespace Nw
open PySem PySem.Spec
open PyProof.Rows hiding St
open L2
theorem lcGo_map {chk : Cells → Bool} {g : MG} {me : ME} {δ : En} {c : Cells} {f : D → D} (hc : chk c = true) : ∀ {ds acc : List D}, (∀ d ∈ ds, ∃ δ1, g d δ = some δ1 ∧ me δ1 c = .ok (f d) c) → acc.length + ds.length ≤ sizeLine →
    lcGo chk g (fun _ c => .ok true c) me δ ds acc c = .ok (acc ++ ds.map f) c
  | [], acc, _, _ => by
    unfold lcGo
    rw [if_pos hc, List.map_nil, List.append_nil]
  | d :: r, acc, h, hz => by
    obtain ⟨δ1, h1, h2⟩ := h d List.mem_cons_self
    rw [List.length_cons] at hz
    unfold lcGo
    rw [if_pos hc, h1]
    dsimp only
    rw [h2]
    dsimp only
    rw [if_pos (by omega), lcGo_map hc (fun x hx => h x (List.mem_cons_of_mem _ hx)) (by rw [List.length_append, List.length_singleton]; omega), List.map_cons, List.append_assoc]
    rfl
/-- a loop whose every turn goes on -/
theorem loopGo_inv {chk : Cells → Bool} {g : MG} {mb : MS} (I : List D → En → Cells → Prop) : ∀ {ds : List D} {δ : En} {c : Cells}, I ds δ c → (∀ ds δ c, I ds δ c → chk c = true) →
    (∀ d r δ c, I (d :: r) δ c → ∃ δ1 δ2 c2, g d δ = some δ1 ∧ (mb δ1 c = .nx δ2 c2 ∨ mb δ1 c = .ct δ2 c2) ∧ I r δ2 c2) → ∃ δ' c', loopGo chk g mb ds δ c = .nx δ' c' ∧ I [] δ' c'
  | [], δ, c, h, hc, _ => ⟨δ, c, by unfold loopGo; rw [if_pos (hc _ _ _ h)], h⟩
  | d :: r, δ, c, h, hc, st => by
    obtain ⟨δ1, δ2, c2, h1, h2, h3⟩ := st d r δ c h
    obtain ⟨δ', c', k1, k2⟩ := loopGo_inv I h3 hc st
    refine ⟨δ', c', ?_, k2⟩
    unfold loopGo
    rw [if_pos (hc _ _ _ h), h1]
    dsimp only
    rcases h2 with h2 | h2 <;> rw [h2] <;> exact k1
theorem allBl_map : ∀ (l : List Bool), allBl (l.map D.bl) = some l
  | [] => rfl
  | b :: r => by rw [List.map_cons, allBl, allBl_map r]; rfl
end Nw

set_option Elab.async false
set_option linter.all false
set_option maxRecDepth 100000
set_option maxHeartbeats 4000000
/-! Nw19: comprehensions whose items change cells. -/
namespace Nw
open PySem PySem.Spec
open PyProof.Rows hiding St
open L2
theorem lcGo_inv {chk : Cells → Bool} {g : MG} {me : ME} {δ : En} (I : List D → Cells → Prop) : ∀ {ds acc : List D} {c : Cells}, I acc c → (∀ acc c, I acc c → chk c = true) → acc.length + ds.length ≤ sizeLine →
    (∀ d ∈ ds, ∀ acc c, I acc c → ∃ δ1 y c2, g d δ = some δ1 ∧ me δ1 c = .ok y c2 ∧ I (acc ++ [y]) c2) → ∃ acc' c', lcGo chk g (fun _ c => .ok true c) me δ ds acc c = .ok acc' c' ∧ I acc' c' ∧ acc'.length = acc.length + ds.length
  | [], acc, c, h, hc, _, _ => ⟨acc, c, by unfold lcGo; rw [if_pos (hc _ _ h)], h, rfl⟩
  | d :: r, acc, c, h, hc, hz, st => by
    obtain ⟨δ1, y, c2, h1, h2, h3⟩ := st d List.mem_cons_self acc c h
    rw [List.length_cons] at hz
    obtain ⟨acc', c', k1, k2, k3⟩ := lcGo_inv I (ds := r) h3 hc (by rw [List.length_append, List.length_singleton]; omega) fun x hx => st x (List.mem_cons_of_mem _ hx)
    refine ⟨acc', c', ?_, k2, by rw [k3, List.length_append, List.length_singleton, List.length_cons]; omega⟩
    unfold lcGo
    rw [if_pos (hc _ _ h), h1]
    dsimp only
    rw [h2]
    dsimp only
    rw [if_pos (by omega)]
    exact k1
end Nw

set_option Elab.async false
set_option linter.all false
set_option maxRecDepth 100000
set_option maxHeartbeats 4000000
/-! Nw20: except clauses of both kinds, with and without a name. -/
namespace Nw
open PySem PySem.Spec
open PyProof.Rows hiding St
open L2
/-- the exception a has come to the try of X; t: the state, sI: the state without it -/
structure Lnd (X : Cx) (ps : List (Addr × Obj)) (σ : St) (H : Hp) (k : Value) (d : Option Addr) (a : Addr) (B : Heap) (sI t : Shared) : Prop where
  iI : Inv X ps σ H sI
  kp : ∀ b o, sI.heap.get? b = some o → b ∉ frs X.stack → B.get? b = some o
  up : sI.heap.UpToSlots t.heap
  fl : HandSPX.FlyingZ B (X.env :: X.outer) a (Zc k d) t.heap
  no : H a = none
  os : t.os = sI.os
  ba : AllBare t.gens
section
variable {X : Cx} {ps : List (Addr × Obj)} {σ : St} {H : Hp} {k : Value} {d : Option Addr} {a : Addr} {B : Heap} {sI t : Shared}
theorem Lnd.inv (L : Lnd X ps σ H k d a B sI t) : Inv X ps σ H t := L.iI.landed L.kp L.fl.1 L.up L.os L.ba
theorem Lnd.notIn (L : Lnd X ps σ H k d a B sI t) : a ∉ frs (X.env :: X.outer) := by
  obtain ⟨o, vs, g, _, dd⟩ := L.fl.there
  intro hm
  obtain ⟨_, o2, g2, nf⟩ := (L.fl.2.2.1).mem hm
  have e : o = o2 := Option.some.inj (g.symm.trans g2)
  exact nf vs (by rw [← e]; exact dd)
theorem Lnd.suite (L : Lnd X ps σ H k d a B sI t) (hf : X.env.frame = some X.env.locals) : ∃ oe, Zc k d oe ∧ (∃ vs, oe.data = .fields vs) ∧ t.heap.get? a = some oe ∧ Inv (X.suite a ((a, oe) :: (X.pn ++ ps))) [] σ H t := by
  obtain ⟨o, vs, g, z, dd⟩ := L.fl.there
  have nm := L.notIn
  refine ⟨o, z, ⟨vs, dd⟩, g, L.inv.suite g dd L.no (fun e => nm ?_) fun hm => nm ?_⟩
  · exact List.mem_filterMap.mpr ⟨X.env, List.mem_cons_self, by rw [hf, e]⟩
  · obtain ⟨e, he, q⟩ := List.mem_filterMap.mp hm
    exact List.mem_filterMap.mpr ⟨e, List.mem_cons_of_mem _ he, q⟩
/-- the clauses hds do what w wishes -/
def HB (X : Cx) (hds : List ExceptHandler) (w : Ends → WX) : Prop := ∀ (ps : List (Addr × Obj)) (D : Ends) (σ : St) (H : Hp) (k : Value) (d : Option Addr) (a : Addr) (B : Heap) (sI t : Shared), Lnd X ps σ H k d a B sI t → w D k d σ H →
  wpAny (model X.prog X.w) X.A (handleBy (.ref a) X.env hds) (SP X ps D) X.xe t
theorem hb_nil {W : WX} (hs : X.stack = X.env :: X.outer) (hf : X.env.frame = some X.env.locals) (tk : Takes X W) : HB X [] (fun _ => W) := by
  intro ps D σ H k d a B sI t L w
  refine wpAny_handleBy_nil ?_
  obtain ⟨_, _, _, oe, vs, T, _, _, g, _, dd, h1, _⟩ := id L.fl
  have up : wpAny (model X.prog X.w) X.A (setFlight (.ref a) X.env.frame) (fun _ s4 => wpAny (model X.prog X.w) X.A (throw (.ref a) : Sem Flow) (SP X ps D) X.xe s4) X.xe t := by
    rw [hf]
    exact HandSPX.setFlight_upZ L.fl fun h4 held u4 => wpAny_throw (tk _ _ ⟨a, B, sI, ps, σ, H, k, d, rfl, L.iI, L.kp, L.up.trans u4, .inr (.inr (hs ▸ held)), L.no, L.os, L.ba, w⟩)
  unfold PySem.passOn
  refine wpAny_bind (wpAny_field g dd h1 ?_)
  have nT : ¬ ((Value.ref T == Value.none) = true) := by simp
  rw [if_neg nT]
  first
    | exact wpAny_bind (wpAny_pure (wpAny_bind up))
    | exact wpAny_bind up
/-- one clause: its test, then its suite or the others -/
theorem hb_test {x : Str} {c : Value} {nm : Option Str} {suite : List Stmt} {np q : Pos} {hds : List ExceptHandler} {D : Ends} {b : Bool} (hf : X.env.frame = some X.env.locals) (hc : Names X x c) (L : Lnd X ps σ H k d a B sI t) (hb : PySem.W.exmOne X.K k c = some b)
    (yes : b = true → codeAny (model X.prog X.w) (X.A.mark (some (.ref a))) (.handlers (.ref a) [.ExceptHandler none nm suite q] X.env) (fun r s₂ => match r with
          | .ok f => (match nm with
            | none => SP X ps D f s₂
            | some n => wpAny (model X.prog X.w) X.A (do bindName X.env n .none; unbindBehindTheSuite X.env n q) (fun _ s₃ => SP X ps D f s₃) X.xe s₂)
          | .error x => cameBackBy (model X.prog X.w) X.A X.env X.xe x s₂) t)
    (no : b = false → wpAny (model X.prog X.w) X.A (handleBy (.ref a) X.env hds) (SP X ps D) X.xe t) :
    wpAny (model X.prog X.w) X.A (handleBy (.ref a) X.env (.ExceptHandler (some (.Name x np)) nm suite q :: hds)) (SP X ps D) X.xe t := by
  obtain ⟨oe, z, _, g, S⟩ := L.suite hf
  have ty : PySem.W.Looks (model X.prog X.w) t.heap (typeOf (.ref a)) k := fun _ _ _ _ kk r => wpAny_typeOf_ref (kk _ _ g) (by rw [z.1]; exact r)
  have look := (PySem.W.exm_one (M := model X.prog X.w) L.inv.kIn ty hb)
  refine wpAny_handleBy_cons (codeAny_handlers_test ?_) (fun e => nomatch e)
  have name : ∀ {Q : Value → Shared → Prop} {E : Value → Shared → Prop}, Q c t → wpAny (model X.prog X.w) (X.A.mark (some (.ref a))) (eval (.Name x np) X.env) Q E t := by
    intro Q E r
    rcases hc with ⟨hg, hdb, hm | hm⟩
    · exact ld_glob (X := X.suite a ((a, oe) :: (X.pn ++ ps))) S hg hm r hdb
    · exact ld_blt (X := X.suite a ((a, oe) :: (X.pn ++ ps))) S hg hm.1 hm.2.1 r hm.2.2 hdb
  refine name (look.here ?_)
  cases b with
  | true => exact yes rfl
  | false => exact no rfl
/-- except C: .. -/
theorem hb_plain {x : Str} {c : Value} {b₀ : Stmt} {suite : List Stmt} {np q : Pos} {hds : List ExceptHandler} {w : Ends → WX} {ts : Addr → Value → Option Addr → TS} (hf : X.env.frame = some X.env.locals) (hc : Names X x c)
    (hsu : ∀ (a : Addr) (oe : Obj) (k : Value) (d : Option Addr) (pn : List (Addr × Obj)), Zc k d oe → (∃ vs, oe.data = .fields vs) → PSs (X.suite a ((a, oe) :: pn)) (b₀ :: suite) (ts a k d)) (r : HB X hds w) :
    HB X (.ExceptHandler (some (.Name x np)) none (b₀ :: suite) q :: hds) (fun D k d σ H => ∃ b, PySem.W.exmOne X.K k c = some b ∧ (b = true → ∀ a, H a = none → ts a k d D σ H) ∧ (b = false → w D k d σ H)) := by
  rintro ps D σ H k d a B sI t L ⟨b, hb, h1, h2⟩
  refine hb_test hf hc L hb (fun e => ?_) fun e => r ps D σ H k d a B sI t L (h2 e)
  refine codeAny_handlers_suite (HandSPX.lands_againZ L.fl fun h4 f4 u4 => ?_)
  have L4 : Lnd X ps σ H k d a B sI { t with heap := h4 } := ⟨L.iI, L.kp, L.up.trans u4, f4, L.no, L.os, L.ba⟩
  obtain ⟨oe, z, dd, _, S⟩ := L4.suite hf
  have ok := L.iI.ok
  refine wpAny_mono ((hsu a oe k d (X.pn ++ ps) z dd).run [] _ _ H _ S (h1 e a L.no)) (fun f s6 hsp => ?_) fun _ _ ff => ff.elim
  cases f with
  | ret u => obtain ⟨v, σ6, H6, S6, r6, q6⟩ := hsp; exact ⟨v, σ6, H6, S6.unsuite ok, r6, q6⟩
  | next => obtain ⟨σ6, H6, S6, q6⟩ := hsp; exact ⟨σ6, H6, S6.unsuite ok, q6⟩
  | brk => obtain ⟨σ6, H6, S6, q6⟩ := hsp; exact ⟨σ6, H6, S6.unsuite ok, q6⟩
  | cont => obtain ⟨σ6, H6, S6, q6⟩ := hsp; exact ⟨σ6, H6, S6.unsuite ok, q6⟩
/-- the ends of a suite whose name goes -/
def Ends.drop (i : Nat) (D : Ends) : Ends := { nx := fun σ H => D.nx (σ.set i none) H, rt := D.rt, bk := fun σ H => D.bk (σ.set i none) H, ct := fun σ H => D.ct (σ.set i none) H }
/-- except C as n: .. -/
theorem hb_as {x n : Str} {i : Nat} {c : Value} {b₀ : Stmt} {suite : List Stmt} {np q : Pos} {hds : List ExceptHandler} {w : Ends → WX} {ts : Addr → Value → Option Addr → TS} (hf : X.env.frame = some X.env.locals) (hN : X.N.Nodup) (hi : X.N[i]? = some n) (hl : X.env.kindOf n = some .local) (hc : Names X x c)
    (hsu : ∀ (a : Addr) (oe : Obj) (k : Value) (d : Option Addr) (pn : List (Addr × Obj)), Zc k d oe → (∃ vs, oe.data = .fields vs) → PSs (X.suite a ((a, oe) :: pn)) (b₀ :: suite) (ts a k d)) (r : HB X hds w) :
    HB X (.ExceptHandler (some (.Name x np)) (some n) (b₀ :: suite) q :: hds) (fun D k d σ H => ∃ b, PySem.W.exmOne X.K k c = some b ∧ (b = true → ∀ a, H a = none → ts a k d (Ends.drop i D) (σ.set i (some (.ref a))) H) ∧ (b = false → w D k d σ H)) := by
  rintro ps D σ H k d a B sI t L ⟨b, hb, h1, h2⟩
  refine hb_test hf hc L hb (fun e => ?_) fun e => r ps D σ H k d a B sI t L (h2 e)
  refine codeAny_handlers_suite_as (HandSPX.lands_againZ L.fl fun h4 f4 u4 => ?_)
  have L4 : Lnd X ps σ H k d a B sI { t with heap := h4 } := ⟨L.iI, L.kp, L.up.trans u4, f4, L.no, L.os, L.ba⟩
  obtain ⟨oe, z, dd, _, S⟩ := L4.suite hf
  have ok := L.iI.ok
  refine store_ok (X := X.suite a ((a, oe) :: (X.pn ++ ps))) (v := .ref a) S hN hi (.inl hl) rfl (fun s5 S5 => ?_) (.inr hl)
  refine wpAny_mono ((hsu a oe k d (X.pn ++ ps) z dd).run [] s5 _ H _ S5 (h1 e a L.no)) (fun f s6 hsp => ?_) fun _ _ ff => ff.elim
  cases f with
  | ret u => obtain ⟨v, σ6, H6, S6, r6, q6⟩ := hsp; exact gone_ok (S6.unsuite ok) hN hi hl fun s7 J => ⟨v, _, H6, J, r6, q6⟩
  | next => obtain ⟨σ6, H6, S6, q6⟩ := hsp; exact gone_ok (S6.unsuite ok) hN hi hl fun s7 J => ⟨_, H6, J, q6⟩
  | brk => obtain ⟨σ6, H6, S6, q6⟩ := hsp; exact gone_ok (S6.unsuite ok) hN hi hl fun s7 J => ⟨_, H6, J, q6⟩
  | cont => obtain ⟨σ6, H6, S6, q6⟩ := hsp; exact gone_ok (S6.unsuite ok) hN hi hl fun s7 J => ⟨_, H6, J, q6⟩
/-- try with any clauses -/
theorem ps_tryH {body : List Stmt} {h₀ : ExceptHandler} {hds : List ExceptHandler} {pos : Pos} {tb : WX → TS} {w : Ends → WX} (hs : X.stack = X.env :: X.outer) (hf : X.env.frame = some X.env.locals)
    (hb : ∀ (W : WX) (pn : List (Addr × Obj)) (xe : Value → Shared → Prop), Takes (X.tr pn xe) W → PassesOwn (model X.prog X.w) X.A X.env xe → PSs (X.tr pn xe) body (tb W)) (hh : HB X (h₀ :: hds) w) :
    PS X (.Try body (h₀ :: hds) [] [] pos) (fun D σ H => tb (w D) D σ H) := by
  refine ⟨fun pins s σ H D I h => wpAny_Try_except ?_⟩
  have ok := I.ok
  have fr : X.A.frames = some (X.env :: X.outer) := ok.frames.trans (congrArg some hs)
  have run := (hb (w D) (X.pn ++ pins) (fun e s₁ => wpAny (model X.prog X.w) X.A (noteFrame e X.env) (fun _ s₂ => wpAny (model X.prog X.w) X.A (setFlight e none) (fun _ s₃ =>
    wpAny (model X.prog X.w) X.A (handleBy e X.env (h₀ :: hds)) (SP X pins D) X.xe s₃) X.xe s₂) X.xe s₁) (by
      rintro u s' ⟨a, B, sI, _, σ', H', k, d, rfl, J, kp, up, sky, na, os, ba, hw⟩
      exact Sky.land Zc.steady fr hf (hs ▸ sky) fun h3 f3 u3 => hh pins D σ' H' k d a B sI { s' with heap := h3 } ⟨J.ofTry ok, kp, up.trans u3, f3, na, os, ba⟩ hw) PassesOwn.looking).run [] s σ H D (I.toTry _) h
  refine wpAny_mono run (fun f s1 hsp => ?_) fun _ _ he => he
  cases f with
  | ret u => obtain ⟨v, σ', H', J, r, q⟩ := hsp; exact ⟨v, σ', H', J.ofTry ok, r, q⟩
  | next => obtain ⟨σ', H', J, q⟩ := hsp; exact wpAny_execs_nil ⟨σ', H', J.ofTry ok, q⟩
  | brk => obtain ⟨σ', H', J, q⟩ := hsp; exact ⟨σ', H', J.ofTry ok, q⟩
  | cont => obtain ⟨σ', H', J, q⟩ := hsp; exact ⟨σ', H', J.ofTry ok, q⟩
end
end Nw

set_option Elab.async false
set_option linter.all false
set_option maxRecDepth 100000
set_option maxHeartbeats 4000000
/-! Nw21: except C as n: what a suite reads of the exception. -/
namespace Nw
open PySem PySem.Spec
open PyProof.Rows hiding St
open L2
variable [TheW]
/-- the classes cs have the field f -/
def XfOk (K : Frag) (f : Str) (cs : List Str) : Prop := ∀ k ∈ cs, XfC K (He.ga K k) ∧ PySem.W.findIn K (.ref (He.ga K k)) f = some none
theorem ck_xf {K : Frag} {f : Str} {cs : List Str} (h : ∀ k ∈ cs, (Ck.xf k [f]).ok K = true) : XfOk K f cs := fun k hk => by
  obtain ⟨h1, h2⟩ := He.ba (h k hk)
  exact ⟨xfB_ok h1, He.noat_ok (List.all_eq_true.mp h2 f (by simp))⟩
theorem xf_nil {K : Frag} {f : Str} : XfOk K f [] := fun k hk => nomatch hk
theorem xf_cons {K : Frag} {f k : Str} {cs : List Str} (h : (Ck.xf k [f]).ok K = true) (r : XfOk K f cs) : XfOk K f (k :: cs) := fun x hx => by
  rcases List.mem_cons.mp hx with rfl | hx
  · obtain ⟨h1, h2⟩ := He.ba h
    exact ⟨xfB_ok h1, He.noat_ok (List.all_eq_true.mp h2 f (by simp))⟩
  · exact r x hx
/-- n.f, where slot i has the exception -/
def mXf (a : Addr) (d : Option Addr) (k : Str) (cs : List Str) (f : Str) (i : Nat) : ME := fun δ c => match δ[i]? with
  | some (some (.exo a' d' _ ns ds)) => if a' = a ∧ d' = d ∧ cs.contains k = true then (match lookF f ns ds with
    | some v => .ok v c
    | none => .bad) else .bad
  | _ => .bad
section
variable {X : Cx} {W : WX} {pos p1 : Pos} {n f k : Str} {i : Nat} {a : Addr} {oe : Obj} {d : Option Addr} {pn : List (Addr × Obj)} {cs : List Str}
theorem de_xf (hk : XfOk X.K f cs) (hz : Zc (.ref (He.ga X.K k)) d oe) (hv : ∃ vs, oe.data = .fields vs) (he : DE (X.suite a ((a, oe) :: pn)) W (.Name n p1) (mVar i)) (hb : attributeBase (.Name n p1) f X.env (eval (.Name n p1) X.env) = eval (.Name n p1) X.env := by rfl) :
    DE (X.suite a ((a, oe) :: pn)) W (.Attribute (.Name n p1) f pos) (mXf a d k cs f i) := by
  by_cases hc : k ∈ cs
  · obtain ⟨T, no⟩ := hk k hc
    obtain ⟨te, pe, se⟩ := he.ex
    refine ⟨_, pe_xf T no hz hv pe hb, fun Z R F δ c σ H Q w rs h => ?_⟩
    unfold mXf at h
    split at h
    · rename_i a' d' k' ns ds e
      split at h
      · rename_i hh
        obtain ⟨rfl, rfl, _⟩ := hh
        split at h
        · rename_i v hl
          refine se Z R F δ c σ H _ w rs ?_
          unfold mVar
          rw [e]
          intro R' F' H' p' e' w' u ru
          cases ru with
          | @exo _ dd _ _ vs _ hF z l =>
            obtain ⟨y, hy, ry⟩ := lookF_rel l hl
            exact ⟨rfl, rfl, dd, _, y, rfl, w'.same _ _ hF, hy, h R' F' H' p' e' w' y ry⟩
          | exo0 => unfold lookF at hl; cases hl
        · exact h.elim
      · exact h.elim
    · exact h.elim
  · refine ⟨fun _ _ _ => False, ⟨fun pins s σ H Q I h => h.elim⟩, fun Z R F δ c σ H Q w rs h => ?_⟩
    unfold mXf at h
    split at h
    · rw [if_neg (fun z => hc (by simpa using z.2.2))] at h
      exact h
    · exact h
end
/-- behind a suite its name is gone -/
def dropE (i : Nat) : Fl → Fl
  | .nx δ c => .nx (δ.set i none) c
  | .bk δ c => .bk (δ.set i none) c
  | .ct δ c => .ct (δ.set i none) c
  | .exc _ _ _ _ _ => .bad
  | o => o
abbrev MX := Addr → Option Addr → Str → MS
def asGo (i : Nat) (ms : MX) (k : Str) (ns : List Str) (ds : List D) (δ : En) (c : Cells) : Fl := dropE i (ms 0 none k (δ.set i (some (.exo 0 none k ns ds))) c)
/-! the suite does not look where the error stands -/
def IndE (i : Nat) (m : Addr → Option Addr → Str → ME) : Prop := ∀ (k : Str) (ns : List Str) (ds : List D) (δ : En) (c : Cells) (a : Addr) (x : Option Addr), m a x k (δ.set i (some (.exo a x k ns ds))) c = m 0 none k (δ.set i (some (.exo 0 none k ns ds))) c
def IndT (i : Nat) (m : Addr → Option Addr → Str → MT) : Prop := ∀ (k : Str) (ns : List Str) (ds : List D) (δ : En) (c : Cells) (a : Addr) (x : Option Addr), m a x k (δ.set i (some (.exo a x k ns ds))) c = m 0 none k (δ.set i (some (.exo 0 none k ns ds))) c
def IndA (i : Nat) (m : Addr → Option Addr → Str → MA) : Prop := ∀ (k : Str) (ns : List Str) (ds : List D) (δ : En) (c : Cells) (a : Addr) (x : Option Addr), m a x k (δ.set i (some (.exo a x k ns ds))) c = m 0 none k (δ.set i (some (.exo 0 none k ns ds))) c
def IndS (i : Nat) (m : MX) : Prop := ∀ (k : Str) (ns : List Str) (ds : List D) (δ : En) (c : Cells) (a : Addr) (x : Option Addr), dropE i (m a x k (δ.set i (some (.exo a x k ns ds))) c) = dropE i (m 0 none k (δ.set i (some (.exo 0 none k ns ds))) c)
section
variable {i : Nat}
theorem ind_c {d : D} : IndE i (fun _ _ _ => mC d) := fun _ _ _ _ _ _ _ => rfl
theorem ind_var {j : Nat} (h : i ≠ j) : IndE i (fun _ _ _ => mVar j) := fun k ns ds δ c a x => by
  show mVar j _ c = mVar j _ c
  unfold mVar
  rw [List.getElem?_set_ne h, List.getElem?_set_ne h]
theorem ind_xf {cs : List Str} {f : Str} : IndE i (fun a x k => mXf a x k cs f i) := fun k ns ds δ c a x => by
  show mXf a x k cs f i _ c = mXf 0 none k cs f i _ c
  unfold mXf
  by_cases h : i < δ.length
  · rw [List.getElem?_set_self h, List.getElem?_set_self h]
    simp
  · rw [List.getElem?_eq_none (by rw [List.length_set]; omega), List.getElem?_eq_none (by rw [List.length_set]; omega)]
theorem ind_nil : IndA i (fun _ _ _ => mNil) := fun _ _ _ _ _ _ _ => rfl
theorem ind_cons {m : Addr → Option Addr → Str → ME} {ms : Addr → Option Addr → Str → MA} (h : IndE i m) (h2 : IndA i ms) : IndA i (fun a x k => mCons (m a x k) (ms a x k)) := fun k ns ds δ c a x => by
  show (m a x k _ c).bind _ = (m 0 none k _ c).bind _
  rw [h k ns ds δ c a x]
  congr 1
  funext y c1
  rw [h2 k ns ds δ c1 a x]
theorem ind_tup {ms : Addr → Option Addr → Str → MA} (h : IndA i ms) : IndE i (fun a x k => mTup (ms a x k)) := fun k ns ds δ c a x => by
  show (ms a x k _ c).bind _ = (ms 0 none k _ c).bind _
  rw [h k ns ds δ c a x]
theorem ind_lst {ms : Addr → Option Addr → Str → MA} (h : IndA i ms) : IndE i (fun a x k => mLst (ms a x k)) := fun k ns ds δ c a x => by
  show (ms a x k _ c).bind _ = (ms 0 none k _ c).bind _
  rw [h k ns ds δ c a x]
theorem ind_op {f : O2} {m n : Addr → Option Addr → Str → ME} (h : IndE i m) (h2 : IndE i n) : IndE i (fun a x k => mOp f (m a x k) (n a x k)) := fun k ns ds δ c a x => by
  show (m a x k _ c).bind _ = (m 0 none k _ c).bind _
  rw [h k ns ds δ c a x]
  congr 1
  funext y c1
  rw [h2 k ns ds δ c1 a x]
theorem ind_set {j : Nat} {m : Addr → Option Addr → Str → ME} (h : IndE i m) (hj : i ≠ j) : IndS i (fun a x k => mSet j (m a x k)) := fun k ns ds δ c a x => by
  show dropE i ((m a x k _ c).fl _ _) = dropE i ((m 0 none k _ c).fl _ _)
  rw [h k ns ds δ c a x]
  cases m 0 none k (δ.set i (some (.exo 0 none k ns ds))) c with
  | ok d c1 =>
    show Fl.nx _ _ = Fl.nx _ _
    rw [List.set_comm _ _ hj.symm, List.set_comm _ _ hj.symm, List.set_set, List.set_set]
  | exc => rfl
  | bad => rfl
theorem ind_ret {m : Addr → Option Addr → Str → ME} (h : IndE i m) : IndS i (fun a x k => mRet (m a x k)) := fun k ns ds δ c a x => by
  show dropE i ((m a x k _ c).fl _ _) = dropE i ((m 0 none k _ c).fl _ _)
  rw [h k ns ds δ c a x]
  cases m 0 none k (δ.set i (some (.exo 0 none k ns ds))) c with
  | ok d c1 => rfl
  | exc => rfl
  | bad => rfl
end
def tryGoN : List (List (Str × Bool) × Option Nat × MX) → Str → List Str → List D → MS
  | [], k, ns, ds, δ, c => .exc k ns ds δ c
  | (t, nm, ms) :: r, k, ns, ds, δ, c => match t.lookup k with
    | some true => (match nm with
      | none => noExc (ms 0 none k δ c)
      | some i => asGo i ms k ns ds δ c)
    | some false => tryGoN r k ns ds δ c
    | none => .bad
def mTryN (mb : MS) (hs : List (List (Str × Bool) × Option Nat × MX)) : MS := fun δ c => match mb δ c with
  | .exc k ns ds δ1 c1 => tryGoN hs k ns ds δ1 c1
  | o => o
theorem drop_aft {K : Frag} {Z : Hp} {R : List Addr} {F : Hp} {o : Fl} {E : Ends} {W : WX} {i : Nat} (h : AftS K Z W R F (dropE i o) E) : AftS K Z W0 R F o (Ends.drop i E) := by
  cases o with
  | nx δ c => exact fun R' F' H' σ p e w rs => h R' F' H' (σ.set i none) p e w rs.del
  | bk δ c => exact fun R' F' H' σ p e w rs => h R' F' H' (σ.set i none) p e w rs.del
  | ct δ c => exact fun R' F' H' σ p e w rs => h R' F' H' (σ.set i none) p e w rs.del
  | rt v c => exact h
  | exc => exact h.elim
  | bad => exact h
section
variable {X : Cx} {W : WX} {body : List Stmt} {mb : MS} {pos : Pos}
/-- what the clauses do, class by class -/
def HD (X : Cx) (W : WX) (hds : List ExceptHandler) (l : List (List (Str × Bool) × Option Nat × MX)) : Prop := ∃ w : Ends → WX, HB X hds w ∧ ∀ (Z : Hp) (R : List Addr) (F : Hp) (δ : En) (c : Cells) (σ : St) (H : Hp) (E : Ends) (k : Str) (ns : List Str) (ds : List D) (x : Option Addr), Wd X.K Z R F c H → RelS X.K R F δ σ → XR X.K R F ns ds x →
    AftS X.K Z W R F (tryGoN l k ns ds δ c) E → w E (.ref (He.ga X.K k)) x σ H
theorem hd_nil (hs : X.stack = X.env :: X.outer) (hf : X.env.frame = some X.env.locals) (tk : Takes X W) : HD X W [] [] :=
  ⟨_, hb_nil hs hf tk, fun Z R F δ c σ H E k ns ds x w rs xr h => h R F H σ x (List.prefix_refl _) (Same.refl _) w rs xr⟩
theorem su_of {b : List Stmt} {ms : MX} (hsu : ∀ (a : Addr) (oe : Obj) (k : Str) (d : Option Addr) (pn : List (Addr × Obj)), Zc (.ref (He.ga X.K k)) d oe → (∃ vs, oe.data = .fields vs) → DSs (X.suite a ((a, oe) :: pn)) W0 b (ms a d k)) :
    ∃ ts : Addr → Value → Option Addr → TS, (∀ (a : Addr) (oe : Obj) (k : Value) (d : Option Addr) (pn : List (Addr × Obj)), Zc k d oe → (∃ vs, oe.data = .fields vs) → PSs (X.suite a ((a, oe) :: pn)) b (ts a k d)) ∧
      ∀ a k d Z R F δ c σ H E, Wd X.K Z R F c H → RelS X.K R F δ σ → AftS X.K Z W0 R F (ms a d k δ c) E → ts a (.ref (He.ga X.K k)) d E σ H := by
  refine ⟨fun a v d E σ H => ∃ k, v = .ref (He.ga X.K k) ∧ ∀ oe pn (h1 : Zc (.ref (He.ga X.K k)) d oe) (h2 : ∃ vs, oe.data = .fields vs), Classical.choose (hsu a oe k d pn h1 h2).ex E σ H, ?_, ?_⟩
  · intro a oe v d pn h1 h2
    refine ⟨fun pins s σ H E I z => ?_⟩
    obtain ⟨k, rfl, z⟩ := z
    exact (Classical.choose_spec (hsu a oe k d pn h1 h2).ex).1.run pins s σ H E I (z oe pn h1 h2)
  · intro a k d Z R F δ c σ H E w rs q
    exact ⟨k, rfl, fun oe pn h1 h2 => (Classical.choose_spec (hsu a oe k d pn h1 h2).ex).2 Z R F δ c σ H E w rs q⟩
theorem hd_plain {x : Str} {t : List (Str × Bool)} {ms : MX} {b₀ : Stmt} {suite : List Stmt} {np q : Pos} {hds : List ExceptHandler} {l : List (List (Str × Bool) × Option Nat × MX)} (hf : X.env.frame = some X.env.locals) (hg : Gl X x) (hdb : (x == ("__debug__" : Str)) = false) (hm : X.mg x = some (.ref (He.ga X.K x))) (ht : ExmOk X.K x t)
    (hsu : ∀ (a : Addr) (oe : Obj) (k : Str) (d : Option Addr) (pn : List (Addr × Obj)), Zc (.ref (He.ga X.K k)) d oe → (∃ vs, oe.data = .fields vs) → DSs (X.suite a ((a, oe) :: pn)) W0 (b₀ :: suite) (ms 0 none k)) (r : HD X W hds l) :
    HD X W (.ExceptHandler (some (.Name x np)) none (b₀ :: suite) q :: hds) ((t, none, ms) :: l) := by
  obtain ⟨w, hb, sl⟩ := r
  obtain ⟨ts, p1, s1⟩ := su_of (ms := fun _ _ k => ms 0 none k) hsu
  refine ⟨_, hb_plain hf ⟨hg, hdb, .inl hm⟩ p1 hb, fun Z R F δ c σ H E k ns ds y w rs xr h => ?_⟩
  unfold tryGoN at h
  cases e : t.lookup k with
  | none => rw [e] at h; exact h.elim
  | some b =>
    rw [e] at h
    refine ⟨b, ht k b e, fun hb a na => ?_, fun hb => ?_⟩
    · subst hb
      exact s1 a k y Z R F δ c σ H E w rs (noExc_aft h)
    · subst hb
      exact sl Z R F δ c σ H E k ns ds y w rs xr h
theorem hd_as {x n : Str} {i : Nat} {t : List (Str × Bool)} {ms : MX} {b₀ : Stmt} {suite : List Stmt} {np q : Pos} {hds : List ExceptHandler} {l : List (List (Str × Bool) × Option Nat × MX)} (hf : X.env.frame = some X.env.locals) (hN : X.N.Nodup) (hi : X.N[i]? = some n) (hl : X.env.kindOf n = some .local)
    (hg : Gl X x) (hdb : (x == ("__debug__" : Str)) = false) (hm : X.mg x = some (.ref (He.ga X.K x))) (ht : ExmOk X.K x t)
    (hsu : ∀ (a : Addr) (oe : Obj) (k : Str) (d : Option Addr) (pn : List (Addr × Obj)), Zc (.ref (He.ga X.K k)) d oe → (∃ vs, oe.data = .fields vs) → DSs (X.suite a ((a, oe) :: pn)) W0 (b₀ :: suite) (ms a d k)) (same : IndS i ms) (r : HD X W hds l) :
    HD X W (.ExceptHandler (some (.Name x np)) (some n) (b₀ :: suite) q :: hds) ((t, some i, ms) :: l) := by
  obtain ⟨w, hb, sl⟩ := r
  obtain ⟨ts, p1, s1⟩ := su_of hsu
  refine ⟨_, hb_as hf hN hi hl ⟨hg, hdb, .inl hm⟩ p1 hb, fun Z R F δ c σ H E k ns ds y w rs xr h => ?_⟩
  unfold tryGoN at h
  cases e : t.lookup k with
  | none => rw [e] at h; exact h.elim
  | some b =>
    rw [e] at h
    refine ⟨b, ht k b e, fun hb a na => ?_, fun hb => ?_⟩
    · subst hb
      change AftS X.K Z W R F (asGo i ms k ns ds δ c) E at h
      unfold asGo at h
      have rx : Rel X.K R F (.ref a) (.exo a y k ns ds) := by
        cases xr with
        | none => exact .exo0
        | some h z l => exact .exo h z l
      refine s1 a k y Z R F (δ.set i (some (.exo a y k ns ds))) c (σ.set i (some (.ref a))) H (Ends.drop i E) w (rs.set rx) (drop_aft (W := W) ?_)
      rw [same k ns ds δ c a y]
      exact h
    · subst hb
      exact sl Z R F δ c σ H E k ns ds y w rs xr h
theorem ds_tryN {h₀ : ExceptHandler} {hds : List ExceptHandler} {l : List (List (Str × Bool) × Option Nat × MX)} (hs : X.stack = X.env :: X.outer) (hf : X.env.frame = some X.env.locals)
    (hb : ∀ (W' : WX) (pn : List (Addr × Obj)) (xe : Value → Shared → Prop), Takes (X.tr pn xe) W' → PassesOwn (model X.prog X.w) X.A X.env xe → DSs (X.tr pn xe) W' body mb) (hh : HD X W (h₀ :: hds) l) :
    DS X W (.Try body (h₀ :: hds) [] [] pos) (mTryN mb l) := by
  obtain ⟨tb, ptb, stb⟩ := tr_body hb
  obtain ⟨w, ok, sl⟩ := hh
  refine ⟨_, ps_tryH hs hf ptb ok, fun Z R F δ c σ H E w rs h => stb _ Z R F δ c σ H E w rs ?_⟩
  unfold mTryN at h
  cases e : mb δ c with
  | exc k ns ds δ1 c1 =>
    rw [e] at h
    intro R' F' H' σ' x p1 e1 w1 rs1 xr
    exact sl Z R' F' δ1 c1 σ' H' E k ns ds x w1 rs1 xr (AftS.mono p1 e1 h)
  | nx => rw [e] at h; exact h
  | rt => rw [e] at h; exact h
  | bk => rw [e] at h; exact h
  | ct => rw [e] at h; exact h
  | bad => rw [e] at h; exact h
end
end Nw

set_option Elab.async false
set_option linter.all false
set_option maxRecDepth 100000
set_option maxHeartbeats 4000000
/-! Nw22: a list some times. -/
namespace Nw
open PySem PySem.Spec
open PyProof.Rows hiding St
open L2
variable [TheW]
section
variable {X : Cx}
def mulL : O2 := fun d e c => match lstOwn c d, e with
  | some l, .int k => if -(2 ^ 63) ≤ k ∧ k < 2 ^ 63 ∧ l.length * k.toNat ≤ sizeLine then lstD (List.replicate k.toNat l).flatten c else .bad
  | _, _ => .bad
theorem RelL.rep {K : Frag} {R : List Addr} {F : Hp} {vs : List V} {ds : List D} (r : RelL K R F vs ds) : ∀ n : Nat, RelL K R F (List.replicate n vs).flatten (List.replicate n ds).flatten
  | 0 => .nil
  | n + 1 => by
    rw [List.replicate_succ, List.replicate_succ, List.flatten_cons, List.flatten_cons]
    exact r.append (RelL.rep r n)
theorem os_mulL : OpS X (binaryOp .Mult) mulL := by
  refine ⟨_, op_rep, fun Z W R F c σ H x y d e Q w rx ry q => ?_⟩
  unfold mulL at q
  split at q
  · rename_i l k hl
    split at q
    · rename_i hc
      cases ry
      obtain ⟨a, vs, rfl, ha, rl⟩ := w.own rx hl
      obtain ⟨z, hn⟩ := newL Z W R F σ c H _ _ Q w (rl.rep k.toNat) q
      exact ⟨a, k, vs, rfl, rfl, ha, hc.1, hc.2.1, by rw [rl.length]; exact hc.2.2, hn⟩
    · exact q.elim
  · exact q.elim
end
end Nw

set_option Elab.async false
set_option linter.all false
set_option maxRecDepth 100000
set_option maxHeartbeats 4000000
/-! Nw23: enumerate of lists and tuples. -/
namespace NwE
open PySem
open PySem.Sem (wp)
section
variable {prog : Program} {w : World} {A : Around} {E : Value → Shared → Prop} {s : Shared}
theorem drawsT (hh : A.handled = none) (it t : Addr) (hne : t ≠ it) (xs : Array Value) :
    Draws prog w A it [it, t] xs.size (fun k v => xs[k]? = some v) (fun k h => h.IsTupleIter it t k ∧ h.IsTuple t xs) where
  live := fun _ _ q => by obtain ⟨⟨o, ho, _⟩, _⟩ := q; exact ⟨o, ho⟩
  frame := fun _ _ h' q hk => by
    obtain ⟨⟨o, ho, r⟩, ⟨o2, ho2, r2⟩⟩ := q
    exact ⟨⟨o, hk it (by simp) o ho, r⟩, ⟨o2, hk t (by simp) o2 ho2, r2⟩⟩
  item := fun k s Q E hk q hQ => by
    refine RZ.nextOf_tuple_item q.1 q.2 (x := xs[k]) (by simp [hk]) ?_
    intro h' q' same
    exact hQ _ h' s.toks (by simp [hk]) ⟨q', q.2.extBut same.extBut hne⟩ same
  done := fun s Q E q hE => RZ.nextOf_tuple_end hh q.1 q.2 (by simp) hE
theorem meets_newT (t : Addr) (xs : Array Value) (n : Nat) (dct : Option Addr) (sl : Array (Option Value)) :
    Meets (Builtin.«enumerate.__new__» ⟨[.type "enumerate", .ref t], []⟩) (fun _ R s => s.heap.get? t = some { cls := .type "tuple", dict := dct, data := .seq xs n, slots := sl } ∧
      R (.ok (.ret (.ref (s.heap.push { cls := .type "tuple_iterator", data := .fields #[.ref t, .int 0 0] }).objs.size)))
        { s with heap := (s.heap.push { cls := .type "tuple_iterator", data := .fields #[.ref t, .int 0 0] }).push { cls := .type "enumerate", data := .fields #[.none, .bool false, .ref s.heap.objs.size, rawInt 0, .none, .none] } }) := by
  refine .of_wp fun prog w A R s h => ?_
  obtain ⟨hp, g, d, tk, os⟩ := s
  obtain ⟨ht, h⟩ := h
  have hsub := sub_enumerate
  have hT : Heap.IsTuple (Shared.heap ⟨hp, g, d, tk, os⟩) t xs := ⟨_, ht, rfl, n, rfl⟩
  wp_walk using AutoSeq1.wpAny_loadPart' ht
  refine wpAny_stack_any (fun st => ?_)
  refine wpAny_pure ?_
  split
  · rename_i c _ _ _ _ _
    cases (c == Value.type "enumerate") <;> (wp_walk using AutoSeq1.wpAny_loadPart' ht, wpAny_pyIter_tuple hT) <;> exact ⟨_, rfl, h⟩
  · wp_walk using AutoSeq1.wpAny_loadPart' ht, wpAny_pyIter_tuple hT
    exact ⟨_, rfl, h⟩
theorem call_enumT {t : Addr} {xs : Array Value} {Q : Value → Shared → Prop} (hT : s.heap.IsTuple t xs)
    (h : ∀ h', IsEnum h' (s.heap.objs.size + 1) s.heap.objs.size 0 .none → h'.IsTupleIter s.heap.objs.size t 0 → (∀ b o, s.heap.get? b = some o → h'.get? b = some o) → Q (.ref (s.heap.objs.size + 1)) { s with heap := h' }) :
    wpAny (model prog w) A (call (.type "enumerate") [.ref t]) Q E s := by
  obtain ⟨⟨c, dct, dt, sl⟩, ht, hc, n, hd⟩ := hT
  dsimp only at hc hd
  subst hc hd
  refine callType_new F.called_enumerate (by decide) (F.typeCall_enumerate_1 _) (F.newCall_enumerate_1 _) (fun obj => F.args_object_init_2 obj _) F.entry_enumerate_new (meets_newT t xs n dct sl) ⟨ht, ?_⟩
  have hz : (s.heap.push { cls := .type "tuple_iterator", data := .fields #[.ref t, .int 0 0] }).objs.size = s.heap.objs.size + 1 := Heap.size_push ..
  show _ ∧ _
  rw [hz]
  have e1 := Heap.get?_push_size (s.heap.push { cls := .type "tuple_iterator", data := .fields #[.ref t, .int 0 0] }) (o := { cls := .type "enumerate", data := .fields #[.none, .bool false, .ref s.heap.objs.size, rawInt 0, .none, .none] }) rfl
  rw [hz] at e1
  refine ⟨⟨_, e1, rfl⟩, h _ e1 ?_ ?_⟩
  · exact ⟨_, Heap.get?_push_of_some _ (Heap.get?_push_size _ rfl), rfl, rfl⟩
  · exact fun b o x => Heap.get?_push_of_some _ (Heap.get?_push_of_some _ x)
end
end NwE
namespace Nw
open PySem PySem.Spec
open PyProof.Rows hiding St
open L2
variable [TheW]
/-- the tuple at a, each item in a new pair -/
def Ieu (K : Frag) (a : Addr) : It :=
  ⟨fun i H => ∃ (xs : List V) (x : V), SqT K H a xs ∧ xs[i]? = some x,
   fun i H v H' => ∃ T x, v = .ref T ∧ H T = none ∧ H' = upd H T (.tup [.int (i : Nat), x]) ∧ ∀ xs, SqT K H a xs → xs[i]? = some x,
   fun i H => ∃ xs : List V, SqT K H a xs ∧ xs.length ≤ i⟩
theorem turn_enumT {P : Program} {w : World} {K : Frag} {elts : List Expr} {kk : Nat} {tpos : Pos} (a e it : Addr) :
    Turn P w K (.Tuple elts kk tpos) (Ieu K a) [e, it] e (fun i h => (∃ old, IsEnum h e it ((i : Nat) : Int) old) ∧ h.IsTupleIter it a i ∧ e ≠ it) where
  mem := by simp
  obj := fun i h q b hb => by
    obtain ⟨⟨old, he⟩, ⟨o, ho, hc, hd⟩, _⟩ := q
    rcases (by simpa using hb : b = e ∨ b = it) with rfl | rfl
    · exact ⟨_, he, fun v z => nomatch z⟩
    · exact ⟨o, ho, fun v z => by rw [hd] at z; cases z⟩
  keep := fun i h h' q k => by
    obtain ⟨⟨old, he⟩, hi, hne⟩ := q
    exact ⟨⟨old, k e (by simp) _ he⟩, hi.at (fun o z => k it (by simp) o z), hne⟩
  item := by
    intro X hP hw hK hc i pins s σ H E I hf q hg
    subst hP hw hK
    obtain ⟨⟨old, he⟩, hit, hne⟩ := q
    obtain ⟨xs, x, hq, hx⟩ := hg
    obtain ⟨its, rv, p, hz⟩ := I.tuple hq
    obtain ⟨u, hu, ru⟩ := rv.get hx
    have hel : e < s.heap.objs.size := Heap.lt_size he
    have hil : it < s.heap.objs.size := by obtain ⟨_, z, _⟩ := hit; exact Heap.lt_size z
    have hT : s.heap.IsTuple a its.toArray := p
    have hai : a ≠ it := fun z => by
      obtain ⟨o1, h1, c1, _⟩ := hT
      obtain ⟨o2, h2, c2, _⟩ := hit
      rw [z, h2] at h1
      cases h1
      rw [c2] at c1
      injection c1 with c1
      exact absurd c1 (by decide)
    have hae : e ≠ a := fun z => by
      obtain ⟨o1, h1, c1, _⟩ := hT
      rw [← z, he] at h1
      cases h1
      injection c1 with c1
      exact absurd c1 (by decide)
    have hh : X.A.in1.handled = none := I.ok.hd hc
    refine wpAny_pyNext_enum_itemD (NwE.drawsT hh it a hai its.toArray) he ⟨hit, hT⟩ ?_ hne (by simp [hne, hae]) ?_
    · have := (List.getElem?_eq_some_iff.mp hu).1
      simpa using this
    intro y h' tk hy ho hit' hTu hsz hk
    have hyu : y = u := by
      have e1 : its.toArray[i]? = some u := by simpa using hu
      rw [e1] at hy
      exact (Option.some.inj hy).symm
    subst hyu
    refine ⟨_, rfl, wpAny_letOwnedTupleGo_enum (s := { s with heap := h', toks := tk + 1 }) ho (fun h'' he' sb => ?_)⟩
    have hT2 : h''.get? s.heap.objs.size = some { cls := .type "tuple", data := .seq #[.int i tk, y] } := (sb.2 _ (Nat.ne_of_gt hel)).trans hTu
    have new : ObjOk X.prog X.w (upd H s.heap.objs.size (.tup [.int (i : Nat), x])) h'' s.heap.objs.size (.tup [.int (i : Nat), x]) :=
      ⟨by show 2 ≤ sizeLine; decide, [.int i tk, y], .cons ⟨_, rfl⟩ (.cons ru .nil), ⟨_, hT2, rfl, _, rfl⟩⟩
    have I1 : Inv X pins σ (upd H s.heap.objs.size (.tup [.int (i : Nat), x])) { s with heap := h'', toks := tk + 1 } := by
      refine I.turnedNew (ch := [e, it]) ?_ hf (Nat.le_refl _) new
      intro b ob hb z
      have hbe : b ≠ e := fun z => hb (by simp [z])
      have hbi : b ≠ it := fun z => hb (by simp [z])
      exact (sb.2 b hbe).trans (hk b ob hbe hbi z)
    refine ⟨.ref s.heap.objs.size, _, I1, rfl, ⟨_, x, rfl, I.hok.fresh (Nat.le_refl _), rfl, fun ys hy => by rw [I.tuple_inj hy hq]; exact hx⟩, ⟨⟨y, ?_⟩, hit'.1.at (fun o z => (sb.2 it (Ne.symm hne)).trans z), hne⟩, fun b hb => ?_⟩
    · rw [show ((i + 1 : Nat) : Int) = (i : Int) + 1 by omega]
      exact he'
    · have hb' : b < s.heap.objs.size := by
        rcases (by simpa using hb : b = e ∨ b = it) with rfl | rfl
        · exact hel
        · exact hil
      rw [upd_ne (Nat.ne_of_lt hb')]
      exact (hf b hb).1
  done := by
    intro X hP hw hK hc i pins s σ H E I hf q hg
    subst hP hw hK
    obtain ⟨⟨old, he⟩, hit, hne⟩ := q
    obtain ⟨xs, hq, hx⟩ := hg
    obtain ⟨its, rv, p, hz⟩ := I.tuple hq
    obtain ⟨f0, f1, f2, f3, f4, f5⟩ := hf it (by simp)
    have hl := rv.length
    have hT : s.heap.IsTuple a its.toArray := p
    have hh : X.A.in1.handled = none := I.ok.hd hc
    have hT2 : s.TypeIs (.ref e) "enumerate" := ⟨_, he, rfl⟩
    unfold pyNext
    refine wpAny_bind (wpAny_attempt (wpAny_callSpecial?_slot (name := Str.ofString "__next__") hT2 F.slot_enumerate_next (wpAny_call_entry F.slot_enumerate_next hT2 F.entry_enumerate_next ?_ (F.args_enumerate_next_1 _))))
    refine (show wpAny _ _ (field (.ref e) 2 >>= _) _ _ _ from wpAny_bind (wpAny_field he rfl (x := .ref it) rfl (wpAny_bind (RZ.nextOf_tuple_end hh hit hT (by simp; omega) (fun h' x he' hx' => ?_)))))
    obtain ⟨o, ho, hc'⟩ := hx'
    refine wpAny_bind (wpAny_isInstance (T := "StopIteration") (b := true) ⟨o, ho, hc'⟩ isSubtype_stop (wpAny_pure ?_))
    exact ⟨rfl, I.turned (t' := s.toks) (fun b o hb q => he' b o hb q) f0 f1 f3 f4 f5⟩
  self := fun A i s Q E q h => by
    obtain ⟨⟨_, he⟩, _⟩ := q
    exact wpAny_pyIter_enum he h
def iEnuT (K : Frag) (ta : TA) : TI := fun σ H R => ta σ H fun vs H1 => ∃ a xs, vs = [.ref a] ∧ SqT K H1 a xs ∧ R (Ieu K a) H1
theorem pi_enumT {X : Cx} {e : Expr} {ta : TA} {p pos tpos : Pos} {elts : List Expr} {kk : Nat} (hg : Gl X "enumerate") (hm : X.mg "enumerate" = none) (ha : PA X [e] ta) (hs : starEach [e] X.env = [(false, eval e X.env)] := by rfl) :
    PI X (.Tuple elts kk tpos) (.Call (.Name "enumerate" p) [e] [] pos) (iEnuT X.K ta) := by
  refine ⟨fun pins s σ H R I h => Call_ (ld_blt I hg hm boot_enumerate (PyProof.Rows.callWith_type1 (thn (ha.run pos pins s σ H _ I h) ?_) hs rfl))⟩
  rintro us s1 ⟨vs, H1, I1, r1, a, xs, ex, hq, q⟩
  subst ex
  rw [Vals.ref1 r1]
  obtain ⟨its, rv, p', hz⟩ := I1.tuple hq
  refine NwE.call_enumT (t := a) (xs := its.toArray) p' (fun h' he hit hk => wpAny_pyIter_enum he ?_)
  have I2 : Inv X pins σ H1 { s1 with heap := h' } := I1.kept (t' := s1.toks) hk
  refine ⟨s1.heap.objs.size + 1, [s1.heap.objs.size + 1, s1.heap.objs.size], _, _, H1, rfl, I2, turn_enumT a (s1.heap.objs.size + 1) s1.heap.objs.size, ⟨⟨.none, he⟩, hit, Nat.succ_ne_self _⟩, fun b hb => ?_, q⟩
  have hle : s1.heap.objs.size ≤ b := by
    rcases (by simpa using hb : b = s1.heap.objs.size + 1 ∨ b = s1.heap.objs.size) with rfl | rfl
    · exact Nat.le_succ _
    · exact Nat.le_refl _
  exact I1.fpOk hle (I1.hok.fresh hle)

/-! ### at D level -/
def enumL (ds : List D) : List D := ds.mapIdx fun i d => .tup [.int (i : Nat), d]
def enumSeq (d : D) (c : Cells) : Out Seq := match items c d with
  | some ds => .ok ⟨enumL ds, chkI d ds⟩ c
  | none => .bad
def mEnum (ms : MA) : En → Cells → Out Seq := fun δ c => (ms δ c).bind fun ds c1 => match ds with
  | [d] => enumSeq d c1
  | _ => .bad
theorem enumL_get {ds : List D} {k : Nat} {d : D} (h : (enumL ds)[k]? = some d) : ∃ e, ds[k]? = some e ∧ d = .tup [.int (k : Nat), e] := by
  unfold enumL at h
  rw [List.getElem?_mapIdx] at h
  cases q : ds[k]? with
  | none => rw [q] at h; cases h
  | some e => rw [q] at h; cases h; exact ⟨e, rfl, rfl⟩
theorem enumL_len {ds : List D} : (enumL ds).length = ds.length := by
  unfold enumL
  rw [List.length_mapIdx]
section
variable {K : Frag} {Z : Hp} {R : List Addr} {F : Hp} {a : Addr} {vs : List V} {ds : List D}
theorem pair_new {Z' : Hp} {R' : List Addr} {F' : Hp} {c : Cells} {H : Hp} {T : Addr} {v : V} {d : D} {k : Nat} (w : Wd K Z' R' F' c H) (n : H T = none) (r : Rel K R' F' v d) :
    ∃ F2, Same F' F2 ∧ Wd K Z' R' F2 c (upd H T (.tup [.int (k : Nat), v])) ∧ Rel K R' F2 (.ref T) (.tup [.int (k : Nat), d]) := by
  obtain ⟨w2, s2⟩ := w.frozen n (.tup [.int (k : Nat), v])
  exact ⟨_, s2, w2, .tup (SqT.of upd_same) (.cons (.int _) (.cons (r.mono (List.prefix_refl _) s2) .nil))⟩
theorem its_enumT (h : SqT K F a vs) (l : RelL K R F vs ds) (P : Cells → Bool) : ItS K Z R F (Ieu K a) ⟨enumL ds, P⟩ := by
  intro Z' k R' F' c H zz p e w _
  have q : SqT K H a vs := (h.ext e).ext w.same
  refine ⟨fun d hd => ?_, fun hk => ⟨vs, q, by rw [l.length, ← enumL_len]; exact hk⟩⟩
  obtain ⟨d0, hd0, rfl⟩ := enumL_get hd
  obtain ⟨v, hv, rv⟩ := l.get hd0
  refine ⟨⟨vs, v, q, hv⟩, fun x H' y => ?_⟩
  obtain ⟨T, x', rfl, n, rfl, hx⟩ := y
  have := hx vs q
  rw [hv] at this
  cases this
  exact pair_new w n (rv.mono p e)
theorem its_enumL (h : SqL K F a vs) (l : RelL K R F vs ds) (P : Cells → Bool) : ItS K Z R F (Ite K a) ⟨enumL ds, P⟩ := by
  intro Z' k R' F' c H zz p e w _
  have q : SqL K H a vs := SqL.ext (SqL.ext h e) w.same
  refine ⟨fun d hd => ?_, fun hk => ⟨vs, q, by rw [l.length, ← enumL_len]; exact hk⟩⟩
  obtain ⟨d0, hd0, rfl⟩ := enumL_get hd
  obtain ⟨v, hv, rv⟩ := l.get hd0
  refine ⟨⟨vs, v, q, hv⟩, fun x H' y => ?_⟩
  obtain ⟨T, x', rfl, n, rfl, hx⟩ := y
  have := hx vs q
  rw [hv] at this
  cases this
  exact pair_new w n (rv.mono p e)
theorem its_enumC {i : Nat} (h : R[i]? = some a) : ItS K Z R F (Ite K a) ⟨enumL ds, chkI (.cell i) ds⟩ := by
  intro Z' k R' F' c H zz p e w hc
  obtain ⟨us, q0, l⟩ := w.atList (pre_get p h) (chkI_cell hc)
  have q : SqL K H a us := SqL.of q0
  refine ⟨fun d hd => ?_, fun hk => ⟨us, q, by rw [l.length, ← enumL_len]; exact hk⟩⟩
  obtain ⟨d0, hd0, rfl⟩ := enumL_get hd
  obtain ⟨v, hv, rv⟩ := l.get hd0
  refine ⟨⟨us, v, q, hv⟩, fun x H' y => ?_⟩
  obtain ⟨T, x', rfl, n, rfl, hx⟩ := y
  have := hx us q
  rw [hv] at this
  cases this
  exact pair_new w n rv
end
theorem di_enum {X : Cx} {W : WX} {e : Expr} {ms : MA} {p pos tpos : Pos} {elts : List Expr} {kk : Nat} (hm : X.mg "enumerate" = none) (ha : DA X W [e] ms) (hg : Gl X "enumerate" := by rfl) (hs : starEach [e] X.env = [(false, eval e X.env)] := by rfl) :
    DI X W (.Tuple elts kk tpos) (.Call (.Name "enumerate" p) [e] [] pos) (mEnum ms) := by
  obtain ⟨t, pa, sa⟩ := ha.ex
  have p1 : PI X (.Tuple elts kk tpos) (.Call (.Name "enumerate" p) [e] [] pos) (fun σ H R => iEnum X.K t σ H R ∨ iEnuT X.K t σ H R) := ⟨fun pins s σ H R I h => by
    rcases h with h | h
    · exact (pi_enum hg hm pa hs).run pins s σ H R I h
    · exact (pi_enumT hg hm pa hs).run pins s σ H R I h⟩
  refine ⟨_, p1, fun Z R F δ c σ H Q w rs h => ?_⟩
  have h := Aft.bind h
  cases q : ms δ c with
  | bad => rw [q] at h; exact h.elim
  | exc k ns es c1 =>
    rw [q] at h
    refine .inl (sa Z R F δ c σ H _ w rs ?_)
    rw [q]
    exact h
  | ok ds c1 =>
    rw [q] at h
    by_cases ht : ∃ l, ds = [.tup l]
    · obtain ⟨l, rfl⟩ := ht
      refine .inr (sa Z R F δ c σ H _ w rs ?_)
      rw [q]
      intro R1 F1 H1 p1 e1 w1 vs rv
      obtain ⟨_, _, _, h1⟩ := h R1 F1 H1 p1 e1 w1
      obtain ⟨v, ev, rr⟩ : ∃ v, vs = [v] ∧ Rel X.K R1 F1 v (.tup l) := by
        cases rv with
        | cons r t => cases t; exact ⟨_, rfl, r⟩
      subst ev
      cases rr with
      | tup hq rl => exact ⟨_, _, rfl, hq.ext w1.same, h1.ok w1 _ (its_enumT hq rl _)⟩
    · refine .inl (sa Z R F δ c σ H _ w rs ?_)
      rw [q]
      intro R1 F1 H1 p1 e1 w1 vs rv
      obtain ⟨_, _, _, h1⟩ := h R1 F1 H1 p1 e1 w1
      match ds, ht, rv, h1 with
      | [], _, _, h1 => exact h1.elim
      | _ :: _ :: _, _, _, h1 => exact h1.elim
      | [d], ht, rv, h1 =>
        obtain ⟨v, ev, rr⟩ : ∃ v, vs = [v] ∧ Rel X.K R1 F1 v d := by
          cases rv with
          | cons r t => cases t; exact ⟨_, rfl, r⟩
        subst ev
        have h1 : Aft X.K Z W R1 F1 σ (enumSeq d c1) _ := h1
        cases rr with
        | tup hq l => exact absurd ⟨_, rfl⟩ ht
        | lst hq rl => exact ⟨_, _, rfl, SqL.of (w1.same _ _ hq), h1.ok w1 _ (its_enumL (SqL.of hq) rl _)⟩
        | scr hq rl => exact ⟨_, _, rfl, hq.ext w1.same, h1.ok w1 _ (its_enumL hq rl _)⟩
        | cell hq =>
          unfold enumSeq at h1
          split at h1
          · rename_i l hl
            obtain ⟨us, q2, rl⟩ := w1.atList hq (items_cell hl)
            exact ⟨_, _, rfl, SqL.of q2, h1.ok w1 _ (its_enumC hq)⟩
          · exact h1.elim
        | _ => exact h1.elim
end Nw

set_option Elab.async false
set_option linter.all false
set_option maxRecDepth 100000
set_option maxHeartbeats 4000000
/-! Nw24: dicts of ints and texts; sorted, count, list, min, max. -/
namespace Nw
open PySem PySem.Spec
open PyProof.Rows hiding St
open L2
variable [TheW]

/-! ### tables -/
def dicOf (c : Cells) : D → Option (List Key × List D)
  | .dic ks ds => some (ks, ds)
  | .cell i => match c[i]? with
    | some (.dct ks ds) => some (ks, ds)
    | _ => none
  | _ => none
def keyOf : D → Option Key
  | .int i => some (.inl i)
  | .str x => some (.inr x)
  | _ => none
def valD (k : Key) : List Key → List D → Option D
  | j :: ks, d :: ds => if j = k then some d else valD k ks ds
  | _, _ => none
def hasK (k : Key) (ks : List Key) : Bool := ks.any fun j => decide (j = k)
def putKs (k : Key) (ks : List Key) : List Key := if hasK k ks = true then ks else ks ++ [k]
def setVs {α : Type} (k : Key) (y : α) : List Key → List α → List α
  | j :: ks, d :: ds => (if j = k then y else d) :: setVs k y ks ds
  | _, _ => []
def putVs {α : Type} (k : Key) (y : α) (ks : List Key) (ds : List α) : List α := if hasK k ks = true then setVs k y ks ds else ds ++ [y]
def dropKs (k : Key) (ks : List Key) : List Key := ks.filter fun j => decide (j ≠ k)
def dropVs {α : Type} (k : Key) : List Key → List α → List α
  | j :: ks, d :: ds => if j = k then dropVs k ks ds else d :: dropVs k ks ds
  | _, _ => []
section
variable {K : Frag} {Z : Hp} {R : List Addr} {F : Hp} {c : Cells} {H : Hp} {v : V} {d : D} {ks : List Key} {vs : List V} {ds : List D} {k : Key}
theorem dicOf_cell {i : Nat} (h : dicOf c (.cell i) = some (ks, ds)) : c[i]? = some (.dct ks ds) := by
  simp only [dicOf] at h
  split at h
  · rename_i q
    cases h
    exact q
  · cases h
theorem Wd.atDict {i : Nat} {a : Addr} (w : Wd K Z R F c H) (h : R[i]? = some a) (e : c[i]? = some (.dct ks ds)) : ∃ vs, H a = some (.dK (ks.zip vs)) ∧ ks.length = vs.length ∧ RelL K R F vs ds := by
  obtain ⟨a', o, h1, h2, h3, h4⟩ := w.cel i _ e
  rw [h] at h1
  cases h1
  cases h3 with
  | dct z l => exact ⟨_, h2, z, l⟩
theorem Wd.dict (w : Wd K Z R F c H) (r : Rel K R F v d) (e : dicOf c d = some (ks, ds)) : ∃ a vs, v = .ref a ∧ H a = some (.dK (ks.zip vs)) ∧ ks.length = vs.length ∧ RelL K R F vs ds := by
  cases r with
  | dic h z l => cases e; exact ⟨_, _, rfl, w.same _ _ h, z, l⟩
  | @cell i a h =>
    obtain ⟨vs, q, z, l⟩ := w.atDict h (dicOf_cell e)
    exact ⟨a, vs, rfl, q, z, l⟩
  | _ => cases e
theorem keyOf_rel (r : Rel K R F v d) (h : keyOf d = some k) : v = kV k := by
  cases r with
  | int i => cases h; rfl
  | str x => cases h; rfl
  | _ => cases h
theorem valD_some : ∀ {ks : List Key} {vs : List V} {ds : List D} {d : D}, RelL K R F vs ds → valD k ks ds = some d → ∃ v, valV (ks.zip vs) k = some v ∧ Rel K R F v d
  | [], _, _, _, _, h => by unfold valD at h; cases h
  | _ :: _, _, _, _, .nil, h => by unfold valD at h; cases h
  | j :: ks, v :: vs, e :: ds, d, .cons r t, h => by
    unfold valD at h
    show ∃ u, valV ((j, v) :: ks.zip vs) k = some u ∧ _
    by_cases hj : j = k
    · rw [if_pos hj] at h
      cases h
      exact ⟨v, valV_pos (p := (j, v)) hj, r⟩
    · rw [if_neg hj] at h
      rw [valV_neg (p := (j, v)) hj]
      exact valD_some t h
theorem valV_has : ∀ {ks : List Key} {vs : List V}, ks.length = vs.length → (valV (ks.zip vs) k).isSome = hasK k ks
  | [], [], _ => rfl
  | j :: ks, v :: vs, h => by
    show (valV ((j, v) :: ks.zip vs) k).isSome = (decide (j = k) || hasK k ks)
    by_cases hj : j = k
    · rw [valV_pos (p := (j, v)) hj, decide_eq_true hj]; rfl
    · rw [valV_neg (p := (j, v)) hj, decide_eq_false hj, Bool.false_or]
      exact valV_has (by simpa using h)
theorem valD_none : ∀ {ks : List Key} {ds : List D}, ks.length = ds.length → valD k ks ds = none → hasK k ks = false
  | [], [], _, _ => rfl
  | j :: ks, d :: ds, h, e => by
    unfold valD at e
    show (decide (j = k) || hasK k ks) = false
    by_cases hj : j = k
    · rw [if_pos hj] at e; cases e
    · rw [if_neg hj] at e
      rw [decide_eq_false hj, Bool.false_or]
      exact valD_none (by simpa using h) e
theorem zip_any : ∀ {ks : List Key} {vs : List V}, ks.length = vs.length → ((ks.zip vs).any fun kv => decide (kv.1 = k)) = hasK k ks
  | [], [], _ => rfl
  | j :: ks, v :: vs, h => by
    show (decide (j = k) || _) = (decide (j = k) || _)
    congr 1
    exact zip_any (by simpa using h)
theorem setVs_zip {y : V} : ∀ {ks : List Key} {vs : List V}, ks.length = vs.length → (ks.zip vs).map (fun kv => if kv.1 = k then (kv.1, y) else kv) = ks.zip (setVs k y ks vs) ∧ (setVs k y ks vs).length = ks.length
  | [], [], _ => ⟨rfl, rfl⟩
  | j :: ks, v :: vs, h => by
    obtain ⟨i1, i2⟩ := setVs_zip (y := y) (ks := ks) (vs := vs) (by simpa using h)
    constructor
    · show (if j = k then (j, y) else (j, v)) :: (ks.zip vs).map _ = (j, if j = k then y else v) :: ks.zip _
      rw [i1]
      by_cases hj : j = k
      · rw [if_pos hj, if_pos hj]
      · rw [if_neg hj, if_neg hj]
    · show (setVs k y ks vs).length + 1 = ks.length + 1
      rw [i2]
theorem putK_zip {y : V} (h : ks.length = vs.length) : putK (ks.zip vs) k y = (putKs k ks).zip (putVs k y ks vs) ∧ (putKs k ks).length = (putVs k y ks vs).length := by
  unfold putK putKs putVs
  rw [zip_any h]
  by_cases hk : hasK k ks = true
  · rw [if_pos hk, if_pos hk, if_pos hk]
    obtain ⟨i1, i2⟩ := setVs_zip (k := k) (y := y) h
    exact ⟨i1, i2.symm⟩
  · rw [if_neg hk, if_neg hk, if_neg hk, List.zip_append h]
    exact ⟨rfl, by rw [List.length_append, List.length_append, h]; rfl⟩
theorem setVs_rel {y : V} {e : D} (r : Rel K R F y e) : ∀ {ks : List Key} {vs : List V} {ds : List D}, RelL K R F vs ds → RelL K R F (setVs k y ks vs) (setVs k e ks ds)
  | [], _, _, _ => .nil
  | _ :: _, _, _, .nil => .nil
  | j :: ks, _, _, .cons h t => by
    unfold setVs
    by_cases hj : j = k
    · rw [if_pos hj, if_pos hj]; exact .cons r (setVs_rel r t)
    · rw [if_neg hj, if_neg hj]; exact .cons h (setVs_rel r t)
theorem putVs_rel {y : V} {e : D} (r : Rel K R F y e) (l : RelL K R F vs ds) : RelL K R F (putVs k y ks vs) (putVs k e ks ds) := by
  unfold putVs
  by_cases hk : hasK k ks = true
  · rw [if_pos hk, if_pos hk]; exact setVs_rel r l
  · rw [if_neg hk, if_neg hk]; exact l.append (.cons r .nil)
theorem dropK_zip : ∀ {ks : List Key} {vs : List V}, ks.length = vs.length → dropK (ks.zip vs) k = (dropKs k ks).zip (dropVs k ks vs) ∧ (dropKs k ks).length = (dropVs k ks vs).length
  | [], [], _ => ⟨rfl, rfl⟩
  | j :: ks, v :: vs, h => by
    obtain ⟨i1, i2⟩ := dropK_zip (ks := ks) (vs := vs) (by simpa using h)
    unfold dropK at i1 ⊢
    unfold dropKs at i1 i2 ⊢
    show List.filter _ ((j, v) :: ks.zip vs) = _ ∧ _
    unfold dropVs
    by_cases hj : j = k
    · rw [if_pos hj, List.filter_cons_of_neg (by simpa using hj), List.filter_cons_of_neg (by simpa using hj)]
      exact ⟨i1, i2⟩
    · rw [if_neg hj, List.filter_cons_of_pos (by simpa using hj), List.filter_cons_of_pos (by simpa using hj), i1]
      exact ⟨rfl, by rw [List.length_cons, List.length_cons, i2]⟩
theorem dropVs_rel : ∀ {ks : List Key} {vs : List V} {ds : List D}, RelL K R F vs ds → RelL K R F (dropVs k ks vs) (dropVs k ks ds)
  | [], _, _, _ => .nil
  | _ :: _, _, _, .nil => .nil
  | j :: ks, _, _, .cons h t => by
    unfold dropVs
    by_cases hj : j = k
    · rw [if_pos hj, if_pos hj]; exact dropVs_rel t
    · rw [if_neg hj, if_neg hj]; exact .cons h (dropVs_rel t)
end

/-! ### in, not in -/
section
variable {X : Cx} {W : WX} {pos : Pos}
theorem op_din (hu : X.A.units + 1 < cLine) : OpR X (compareOp .In) (fun y x H Q => ∃ a o, x = .ref a ∧ DGet H a y o ∧ Q (.bl o.isSome) H) := by
  rintro pins s σ H y x v u Q I ry rx ⟨a, o, rfl, g, q⟩
  obtain rfl : u = Value.ref a := rx
  exact d_in hu I g ry fun s3 I3 => ⟨.bl o.isSome, H, I3, rfl, q⟩
theorem op_dnin (hu : X.A.units + 1 < cLine) : OpR X (compareOp .NotIn) (fun y x H Q => ∃ a o, x = .ref a ∧ DGet H a y o ∧ Q (.bl (!o.isSome)) H) := by
  rintro pins s σ H y x v u Q I ry rx ⟨a, o, rfl, g, q⟩
  obtain rfl : u = Value.ref a := rx
  exact d_notIn hu I g ry fun s3 I3 => ⟨.bl (!o.isSome), H, I3, rfl, q⟩
/-- .. of a dict, or else -/
def inX (f : O2) (neg : Bool) : O2 := fun d e c => match dicOf c e with
  | some q => (match keyOf d with
    | some k => .ok (.bl (neg != hasK k q.1)) c
    | none => .bad)
  | none => f d e c
theorem os_inX {f : O2} {k : Nat} (h : OpS X (compareOp .In) f) (hr : Room k X.A) : OpS X (compareOp .In) (inX f false) := by
  obtain ⟨r, p, s⟩ := h
  refine ⟨_, OpR.or p (op_din (by have := hr.units; omega)), fun Z W R F c σ H x y d e Q w rx ry q => ?_⟩
  unfold inX at q
  split at q
  · rename_i z hz
    obtain ⟨ks, ds⟩ := z
    obtain ⟨a, vs, rfl, ha, hl, rl⟩ := w.dict ry hz
    split at q
    · rename_i k hk
      refine .inr ⟨a, _, rfl, by rw [keyOf_rel rx hk]; exact DGet.k ha, ?_⟩
      rw [valV_has hl]
      have q := q.ok w _ (.bl _)
      rw [Bool.false_bne] at q
      exact q
    · exact q.elim
  · exact .inl (s Z W R F c σ H x y d e Q w rx ry q)
theorem os_notInX {f : O2} {k : Nat} (h : OpS X (compareOp .NotIn) f) (hr : Room k X.A) : OpS X (compareOp .NotIn) (inX f true) := by
  obtain ⟨r, p, s⟩ := h
  refine ⟨_, OpR.or p (op_dnin (by have := hr.units; omega)), fun Z W R F c σ H x y d e Q w rx ry q => ?_⟩
  unfold inX at q
  split at q
  · rename_i z hz
    obtain ⟨ks, ds⟩ := z
    obtain ⟨a, vs, rfl, ha, hl, rl⟩ := w.dict ry hz
    split at q
    · rename_i k hk
      refine .inr ⟨a, _, rfl, by rw [keyOf_rel rx hk]; exact DGet.k ha, ?_⟩
      rw [valV_has hl]
      have q := q.ok w _ (.bl _)
      rw [Bool.true_bne] at q
      exact q
    · exact q.elim
  · exact .inl (s Z W R F c σ H x y d e Q w rx ry q)

/-! ### d[k] -/
theorem pe_or {e : Expr} {t u : TE} (h1 : PE X e t) (h2 : PE X e u) : PE X e (fun σ H Q => t σ H Q ∨ u σ H Q) := ⟨fun pins s σ H Q I h => by
  rcases h with h | h
  · exact h1.run pins s σ H Q I h
  · exact h2.run pins s σ H Q I h⟩
theorem ps_or {st : Stmt} {t u : TS} (h1 : PS X st t) (h2 : PS X st u) : PS X st (fun E σ H => t E σ H ∨ u E σ H) := ⟨fun pins s σ H E I h => by
  rcases h with h | h
  · exact h1.run pins s σ H E I h
  · exact h2.run pins s σ H E I h⟩
def ixX : O2 := fun d i c => match dicOf c d with
  | some q => (match keyOf i with
    | some k => (match valD k q.1 q.2 with
      | some v => .ok v c
      | none => .bad)
    | none => .bad)
  | none => ixD d i c
variable {a b o i e : Expr} {ma mb mo mi me : ME}
theorem de_ixX {k : Nat} (hr : Room k X.A) (ha : DE X W a ma) (hb : DE X W b mb) (hs : PlainIx b := by exact fun _ _ => rfl) (hs2 : NoSl b := by exact fun _ _ => rfl) : DE X W (.Subscript a b pos) (mOp ixX ma mb) := by
  obtain ⟨t1, p1, s1⟩ := (de_ix (pos := pos) ha hb hs).ex
  obtain ⟨ta, pa, sa⟩ := ha.ex
  obtain ⟨tb, pb, sb⟩ := hb.ex
  refine ⟨_, pe_or p1 (pe_dget (by have := hr.units; omega) pa pb hs2), fun Z R F δ c σ H Q w rs h => ?_⟩
  have go : Aft X.K Z W R F σ (mOp ixD ma mb δ c) (QV X.K Q) → t1 σ H Q := s1 Z R F δ c σ H Q w rs
  unfold mOp at go h
  cases ea : ma δ c with
  | bad => rw [ea] at h; exact h.elim
  | exc k ns ds c1 => rw [ea] at h go; exact .inl (go h)
  | ok d c1 =>
    rw [ea] at h go
    have h : Aft X.K Z W R F σ ((mb δ c1).bind fun y c2 => ixX d y c2) (QV X.K Q) := h
    have go : Aft X.K Z W R F σ ((mb δ c1).bind fun y c2 => ixD d y c2) (QV X.K Q) → t1 σ H Q := go
    cases eb : mb δ c1 with
    | bad => rw [eb] at h; exact h.elim
    | exc k ns ds c2 => rw [eb] at h go; exact .inl (go h)
    | ok y c2 =>
      rw [eb] at h go
      have h : Aft X.K Z W R F σ (ixX d y c2) (QV X.K Q) := h
      have go : Aft X.K Z W R F σ (ixD d y c2) (QV X.K Q) → t1 σ H Q := go
      unfold ixX at h
      split at h
      · rename_i q hq
        obtain ⟨ks, ds⟩ := q
        refine .inr (sa Z R F δ c σ H _ w rs ?_)
        rw [ea]
        intro R1 F1 H1 p1 e1 w1 x rx
        refine sb Z R1 F1 δ c1 σ H1 _ w1 (rs.mono p1 e1) ?_
        rw [eb]
        intro R2 F2 H2 p2 e2 w2 z rz
        have rx2 := rx.mono p2 e2
        obtain ⟨a, vs, rfl, ha, hl, rl⟩ := w2.dict rx2 hq
        split at h
        · rename_i k hk
          split at h
          · rename_i v hv
            obtain ⟨u, hu, ru⟩ := valD_some rl hv
            refine ⟨a, u, rfl, ?_, (h.mono (p1.trans p2) (e1.trans e2)).ok w2 u ru⟩
            rw [keyOf_rel rz hk, ← hu]
            exact DGet.k ha
          · exact h.elim
        · exact h.elim
      · exact .inl (go h)
/-! d[k] = v -/
def setXGo (d i v : D) (c : Cells) : Option Cells := match d with
  | .cell n => (match c[n]? with
    | some (.dct ks ds) => (match keyOf i with
      | some k => if ks.length < sizeLine then some (c.set n (.dct (putKs k ks) (putVs k v ks ds))) else none
      | none => none)
    | _ => setIGo d i v c)
  | _ => none
def mSetX (mo mi mv : ME) : MS := fun δ c => (mv δ c).fl δ fun v c1 => (mo δ c1).fl δ fun d c2 => (mi δ c2).fl δ fun i c3 => match setXGo d i v c3 with
  | some c4 => .nx δ c4
  | none => .bad
theorem ds_setX {pos' : Pos} {k : Nat} (hr : Room k X.A) (ho : DE X W o mo) (hi : DE X W i mi) (hv : DE X W e me) (hs : swapsWithSole [.Subscript o i pos'] e pos.line X.env = pure false := by rfl) (hw : swappedStores [.Subscript o i pos'] e X.env = pure none := by rfl)
    (h1 : (assignEach [.Subscript o i pos'] X.env).map (·.2) = [assign (.Subscript o i pos') X.env] := by rfl)
    (ha : ∀ v, assign (.Subscript o i pos') X.env v = (do
      let ov ← holding [v] (eval o X.env)
      let iv ← holding [v, ov] (eval i X.env)
      standAt pos'
      holding [v, ov, iv] (setItem ov iv v)
      release [v, ov, iv] []) := by intro _; rfl) (hs2 : swapsWith e (some (.Subscript o i pos')) pos.line X.env = pure false := by rfl) : DS X W (.Assign [.Subscript o i pos'] e pos) (mSetX mo mi me) := by
  obtain ⟨t1, p1, s1⟩ := (ds_setI (pos := pos) ho hi hv hs hw h1 ha).ex
  obtain ⟨ta, pa, sa⟩ := ho.ex
  obtain ⟨tb, pb, sb⟩ := hi.ex
  obtain ⟨tv, pv, sv⟩ := hv.ex
  refine ⟨_, ps_or p1 (ps_dput (by have := hr.units; omega) pa pb pv hs2), fun Z R F δ c σ H E w rs h => ?_⟩
  have go : AftS X.K Z W R F (mSetI mo mi me δ c) E → t1 E σ H := s1 Z R F δ c σ H E w rs
  unfold mSetI at go
  unfold mSetX at h
  cases ev : me δ c with
  | bad => rw [ev] at h; exact h.elim
  | exc k ns ds c1 => rw [ev] at h go; exact .inl (go h)
  | ok v c1 =>
    rw [ev, Out.fl_ok] at h go
    cases eo : mo δ c1 with
    | bad => rw [eo] at h; exact h.elim
    | exc k ns ds c2 => rw [eo] at h go; exact .inl (go h)
    | ok d c2 =>
      rw [eo, Out.fl_ok] at h go
      cases ei : mi δ c2 with
      | bad => rw [ei] at h; exact h.elim
      | exc k ns ds c3 => rw [ei] at h go; exact .inl (go h)
      | ok y c3 =>
        rw [ei, Out.fl_ok] at h go
        cases d with
        | cell n =>
          by_cases hd : ∃ ks ds, c3[n]? = some (.dct ks ds)
          · obtain ⟨ks, ds, hd⟩ := hd
            refine .inr (sv Z R F δ c σ H _ w rs ?_)
            rw [ev]
            intro R1 F1 H1 p1 e1 w1 u ru
            refine sa Z R1 F1 δ c1 σ H1 _ w1 (rs.mono p1 e1) ?_
            rw [eo]
            intro R2 F2 H2 p2 e2 w2 x rx
            refine sb Z R2 F2 δ c2 σ H2 _ w2 ((rs.mono p1 e1).mono p2 e2) ?_
            rw [ei]
            intro R3 F3 H3 p3 e3 w3 z rz
            have h := AftS.mono ((p1.trans p2).trans p3) ((e1.trans e2).trans e3) h
            unfold setXGo at h
            dsimp only at h
            rw [hd] at h
            dsimp only at h
            have rx := rx.mono p3 e3
            cases rx with
            | cell hR =>
              obtain ⟨vs, q, hl, rl⟩ := w3.atDict hR hd
              split at h
              · rename_i c4 hc4
                split at hc4
                · rename_i k hk
                  split at hc4
                  · rename_i hz
                    cases hc4
                    obtain ⟨z1, z2⟩ := putK_zip (k := k) (y := u) hl
                    refine ⟨_, _, rfl, ?_, h R3 F3 _ σ (List.prefix_refl _) (Same.refl _) (w3.write hR (.dct z2 (putVs_rel (ru.mono (p2.trans p3) (e2.trans e3)) rl)) (w3.at0 hR hd)) (rs.mono ((p1.trans p2).trans p3) ((e1.trans e2).trans e3))⟩
                    rw [keyOf_rel rz hk, ← z1]
                    exact DPut.k q (by rw [List.length_zip, ← hl, Nat.min_self]; exact hz)
                  · cases hc4
                · cases hc4
              · exact h.elim
          · have e1 : setXGo (.cell n) y v c3 = setIGo (.cell n) y v c3 := by
              unfold setXGo
              dsimp only
              split
              · rename_i ks ds hq
                exact absurd ⟨ks, ds, hq⟩ hd
              · rfl
            rw [e1] at h
            exact .inl (go h)
        | _ => exact h.elim
end

/-! ### displays -/
section
variable {X : Cx} {W : WX} {pos : Pos}
def newDct (c : Cells) : Out D := .ok (.cell c.length) (c ++ [.dct [] []])
theorem Wd.newDct {K : Frag} {Z : Hp} {R : List Addr} {F : Hp} {c : Cells} {H : Hp} {p : Addr} (w : Wd K Z R F c H) (n : H p = none) : Wd K Z (R ++ [p]) F (c ++ [.dct [] []]) (upd H p (.dK [])) ∧ Rel K (R ++ [p]) F (.ref p) (.cell c.length) := by
  refine ⟨w.alloc n (.dct (ks := []) (vs := []) rfl .nil), .cell ?_⟩
  rw [← w.len, List.getElem?_append_right (Nat.le_refl _), Nat.sub_self]
  rfl
theorem de_dnew : DE X W (.Dict [] [] pos) (fun _ c => newDct c) := by
  refine ⟨_, pe_dnewK, fun Z R F δ c σ H Q w rs h p n => ?_⟩
  obtain ⟨w2, r2⟩ := w.newDct n
  exact h _ _ _ (List.prefix_append _ _) (Same.refl _) w2 _ r2
/-- the pairs, from the left -/
abbrev MP := En → Cells → Out (List Key × List D)
def mpNil : MP := fun _ c => .ok ([], []) c
def mpCons (mk mv : ME) (r : MP) : MP := fun δ c => (mk δ c).bind fun k c1 => match keyOf k with
  | some k => (mv δ c1).bind fun v c2 => (r δ c2).bind fun q c3 => .ok (k :: q.1, v :: q.2) c3
  | none => .bad
def mergeD : List Key → List D → List Key → List D → List Key × List D
  | ks, ds, k :: r, d :: t => mergeD (putKs k ks) (putVs k d ks ds) r t
  | ks, ds, _, _ => (ks, ds)
structure DP (X : Cx) (W : WX) (pos : Pos) (keys : List (Option Expr)) (values : List Expr) (m : MP) : Prop where
  ex : ∃ trs, PPs X pos keys values trs ∧ ∀ Z R F δ c σ H Q, Wd X.K Z R F c H → RelS X.K R F δ σ → Aft X.K Z W R F σ (m δ c) (fun R' F' q _ H' => ∀ ps : List (V × V), (∃ vs, ps = (q.1.map kV).zip vs ∧ q.1.length = vs.length ∧ RelL X.K R' F' vs q.2) → Q ps H') → tPairs trs σ H Q
theorem dp_nil : DP X W pos [] [] mpNil := ⟨_, pps_nil, fun Z R F δ c σ H Q w rs h => h.ok w [] ⟨[], rfl, rfl, .nil⟩⟩
theorem dp_cons {k v : Expr} {ks : List (Option Expr)} {vs : List Expr} {mk mv : ME} {mr : MP} (hk : DE X W k mk) (hv : DE X W v mv) (hr : DP X W pos ks vs mr) : DP X W pos (some k :: ks) (v :: vs) (mpCons mk mv mr) := by
  obtain ⟨tk, pk, sk⟩ := hk.ex
  obtain ⟨tv, pv, sv⟩ := hv.ex
  obtain ⟨tr, pr, sr⟩ := hr.ex
  refine ⟨_, pps_cons pk pv pr, fun Z R F δ c σ H Q w rs h => sk Z R F δ c σ H _ w rs ((Aft.bind h).imp ?_)⟩
  rintro R1 F1 d c1 H1 p1 e1 w1 ⟨_, _, _, h1⟩ x rx
  split at h1
  · rename_i kk hkk
    refine sv Z R1 F1 δ c1 σ H1 _ w1 (rs.mono p1 e1) ((Aft.bind h1).imp ?_)
    rintro R2 F2 d2 c2 H2 p2 e2 w2 ⟨_, _, _, h2⟩ y ry
    refine sr Z R2 F2 δ c2 σ H2 _ w2 ((rs.mono p1 e1).mono p2 e2) ((Aft.bind h2).imp ?_)
    rintro R3 F3 q c3 H3 p3 e3 w3 ⟨_, _, _, h3⟩ ps ⟨us, rfl, hl, rl⟩
    rw [keyOf_rel rx hkk]
    exact h3.ok w3 _ ⟨y :: us, rfl, by rw [List.length_cons, List.length_cons, hl], .cons (ry.mono p3 e3) rl⟩
  · exact h1.elim
theorem merge_zip : ∀ {js ks : List Key} {us vs : List V} {es ds : List D} {K : Frag} {R : List Addr} {F : Hp}, ks.length = vs.length → js.length = us.length → RelL K R F vs ds → RelL K R F us es →
    ∃ vs', mergeK (ks.zip vs) (js.zip us) = (mergeD ks ds js es).1.zip vs' ∧ (mergeD ks ds js es).1.length = vs'.length ∧ RelL K R F vs' (mergeD ks ds js es).2
  | [], ks, [], vs, [], ds, _, _, _, h, _, r, .nil => ⟨vs, rfl, h, r⟩
  | j :: js, ks, u :: us, vs, e :: es, ds, _, _, _, h, h2, r, .cons re t => by
    obtain ⟨z1, z2⟩ := putK_zip (k := j) (y := u) h
    have ih := merge_zip (js := js) (us := us) (es := es) (ks := putKs j ks) (vs := putVs j u ks vs) (ds := putVs j e ks ds) z2 (by simpa using h2) (putVs_rel re r) t
    show ∃ vs', mergeK (putK (ks.zip vs) j u) (js.zip us) = _ ∧ _
    rw [z1]
    exact ih
def mDisp (mp : MP) : ME := fun δ c => (mp δ (c ++ [.dct [] []])).bind fun q c1 => match c1[c.length]? with
  | some (.dct [] []) => if q.1.length ≤ 15 then (let z := mergeD [] [] q.1 q.2; .ok (.cell c.length) (c1.set c.length (.dct z.1 z.2))) else .bad
  | _ => .bad
theorem map_kV_zip : ∀ {ks : List Key} {vs : List V}, (ks.map kV).zip vs = (ks.zip vs).map fun kv => (kV kv.1, kv.2)
  | [], _ => rfl
  | _ :: _, [] => rfl
  | k :: ks, v :: vs => by
    show (kV k, v) :: (ks.map kV).zip vs = (kV k, v) :: (ks.zip vs).map _
    rw [map_kV_zip]
theorem de_disp {keys : List (Option Expr)} {values : List Expr} {mp : MP} (h : DP X W pos keys values mp) (hall : keys.all (·.isSome) = true := by rfl) (hl : keys.length = values.length := by rfl) (h0 : keys ≠ [] := by simp) (h15 : keys.length ≤ 15 := by decide) : DE X W (.Dict keys values pos) (mDisp mp) := by
  obtain ⟨trs, pt, st⟩ := h.ex
  refine ⟨_, pe_disp pt hall hl h0 h15, fun Z R F δ c σ H Q w rs h p n => ?_⟩
  obtain ⟨w2, r2⟩ := w.newDct n
  have pr : R <+: R ++ [p] := List.prefix_append _ _
  refine st Z (R ++ [p]) F δ (c ++ [.dct [] []]) σ _ _ w2 (rs.mono pr (Same.refl _)) ((Aft.bind (Aft.mono pr (Same.refl _) h)).imp ?_)
  rintro R1 F1 q c1 H1 p1 e1 w1 ⟨_, _, _, h1⟩ ps ⟨us, rfl, hlu, rl⟩
  dsimp only at h1
  split at h1
  · rename_i hc
    have r1 := r2.mono p1 e1
    cases r1 with
    | cell hR =>
      obtain ⟨vs, q1, z1, l1⟩ := w1.atDict hR hc
      split at h1
      · rename_i h15'
        refine ⟨by rw [q1]; rfl, q.1.zip us, map_kV_zip, by rw [List.length_zip, ← hlu, Nat.min_self]; exact h15', ?_⟩
        obtain ⟨vs', m1, m2, m3⟩ := merge_zip (K := X.K) (R := R1) (F := F1) (ks := []) (vs := []) (ds := []) (js := q.1) (us := us) (es := q.2) rfl hlu .nil rl
        have e0 : mergeK [] (q.1.zip us) = (mergeD [] [] q.1 q.2).1.zip vs' := m1
        rw [e0]
        exact h1 _ _ _ (List.prefix_refl _) (Same.refl _) (w1.write hR (.dct m2 m3) (w1.at0 hR hc)) _ (.cell hR)
      · exact h1.elim
  · exact h1.elim
end
end Nw

set_option Elab.async false
set_option linter.all false
set_option maxRecDepth 100000
set_option maxHeartbeats 4000000
/-! Nw25: sorted, count, list, min, max, a list some times as a cell. -/
namespace Nw
open PySem PySem.Spec
open PyProof.Rows hiding St
open L2
variable [TheW]

/-! ### the order of texts -/
def ltS (x y : Str) : Bool := ltCps x.cps.toList y.cps.toList
def leS (x y : Str) : Bool := !ltS y x
theorem ltS_lt {x y : Str} : ltS x y = true ↔ x.cps.toList < y.cps.toList := by
  unfold ltS
  rw [ltCps_eq]
  exact decide_eq_true_iff
theorem leS_le {x y : Str} : leS x y = true ↔ x.cps.toList ≤ y.cps.toList := by
  unfold leS
  rw [Bool.not_eq_true', ← Bool.not_eq_true, ltS_lt]
  exact List.not_lt
theorem leS_total (x y : Str) : leS x y = true ∨ leS y x = true := by
  rw [leS_le, leS_le]
  exact List.le_total _ _
theorem leS_trans {x y z : Str} (h1 : leS x y = true) (h2 : leS y z = true) : leS x z = true := by
  rw [leS_le] at h1 h2 ⊢
  exact List.le_trans h1 h2
theorem str_ext {x y : Str} (h : x.cps.toList = y.cps.toList) : x = y := by
  obtain ⟨a⟩ := x
  obtain ⟨b⟩ := y
  have : a = b := Array.toList_inj.mp h
  rw [this]
theorem leS_anti {x y : Str} (h1 : leS x y = true) (h2 : leS y x = true) : x = y := by
  rw [leS_le] at h1 h2
  exact str_ext (List.le_antisymm h1 h2)
def insS (x : Str) : List Str → List Str
  | [] => [x]
  | y :: r => if leS x y = true then x :: y :: r else y :: insS x r
def sortS : List Str → List Str
  | [] => []
  | x :: r => insS x (sortS r)
theorem insS_perm (x : Str) : ∀ l : List Str, (insS x l).Perm (x :: l)
  | [] => List.Perm.refl _
  | y :: r => by
    unfold insS
    split
    · exact List.Perm.refl _
    · exact ((insS_perm x r).cons y).trans (List.Perm.swap x y r)
theorem sortS_perm : ∀ l : List Str, (sortS l).Perm l
  | [] => List.Perm.refl _
  | x :: r => (insS_perm x (sortS r)).trans ((sortS_perm r).cons x)
theorem insS_sorted (x : Str) : ∀ l : List Str, l.Pairwise (fun a b => leS a b = true) → (insS x l).Pairwise (fun a b => leS a b = true)
  | [], _ => by unfold insS; simp
  | y :: r, h => by
    rw [List.pairwise_cons] at h
    unfold insS
    split
    · rename_i hx
      refine List.pairwise_cons.mpr ⟨fun z hz => ?_, List.pairwise_cons.mpr h⟩
      rcases List.mem_cons.mp hz with rfl | hz
      · exact hx
      · exact leS_trans hx (h.1 z hz)
    · rename_i hx
      have hyx : leS y x = true := (leS_total x y).resolve_left hx
      refine List.pairwise_cons.mpr ⟨fun z hz => ?_, insS_sorted x r h.2⟩
      rcases List.mem_cons.mp ((insS_perm x r).mem_iff.mp hz) with rfl | hz
      · exact hyx
      · exact h.1 z hz
theorem sortS_sorted : ∀ l : List Str, (sortS l).Pairwise (fun a b => leS a b = true)
  | [] => List.Pairwise.nil
  | x :: r => insS_sorted x _ (sortS_sorted r)
theorem rising_pair : ∀ (r : List Str) (x : Str), risingS x r = true → (x :: r).Pairwise (fun a b => leS a b = true)
  | [], x, _ => by simp
  | y :: r, x, h => by
    unfold risingS at h
    obtain ⟨h1, h2⟩ := Bool.and_eq_true_iff.mp h
    have ih := rising_pair r y h2
    refine List.pairwise_cons.mpr ⟨fun z hz => ?_, ih⟩
    rcases List.mem_cons.mp hz with rfl | hz
    · exact h1
    · exact leS_trans h1 ((List.pairwise_cons.mp ih).1 z hz)
theorem sortedS_pair {l : List Str} (h : sortedS l = true) : l.Pairwise (fun a b => leS a b = true) := by
  cases l with
  | nil => exact List.Pairwise.nil
  | cons x r => exact rising_pair r x h
theorem sorted_one : ∀ {l m : List Str}, l.Pairwise (fun a b => leS a b = true) → m.Pairwise (fun a b => leS a b = true) → l.Perm m → l = m
  | [], m, _, _, p => by rw [List.nil_perm.mp p]
  | x :: l, [], _, _, p => by cases (List.perm_nil.mp p)
  | x :: l, y :: m, h1, h2, p => by
    rw [List.pairwise_cons] at h1 h2
    have hx : x ∈ y :: m := p.mem_iff.mp List.mem_cons_self
    have hy : y ∈ x :: l := p.mem_iff.mpr List.mem_cons_self
    have e : x = y := by
      rcases List.mem_cons.mp hx with e | hx
      · exact e
      · rcases List.mem_cons.mp hy with e | hy
        · exact e.symm
        · exact leS_anti (h1.1 y hy) (h2.1 x hx)
    subst e
    rw [sorted_one h1.2 h2.2 ((List.perm_cons x).mp p)]
theorem sortS_one {l m : List Str} (h : sortedS m = true) (p : m.Perm l) : m = sortS l := sorted_one (sortedS_pair h) (sortS_sorted l) (p.trans (sortS_perm l).symm)

/-! ### the order of ints -/
def insI (x : Int) : List Int → List Int
  | [] => [x]
  | y :: r => if x ≤ y then x :: y :: r else y :: insI x r
def sortI : List Int → List Int
  | [] => []
  | x :: r => insI x (sortI r)
theorem insI_perm (x : Int) : ∀ l : List Int, (insI x l).Perm (x :: l)
  | [] => List.Perm.refl _
  | y :: r => by
    unfold insI
    split
    · exact List.Perm.refl _
    · exact ((insI_perm x r).cons y).trans (List.Perm.swap x y r)
theorem sortI_perm : ∀ l : List Int, (sortI l).Perm l
  | [] => List.Perm.refl _
  | x :: r => (insI_perm x (sortI r)).trans ((sortI_perm r).cons x)
theorem insI_sorted (x : Int) : ∀ l : List Int, l.Pairwise (· ≤ ·) → (insI x l).Pairwise (· ≤ ·)
  | [], _ => by unfold insI; simp
  | y :: r, h => by
    rw [List.pairwise_cons] at h
    unfold insI
    split
    · rename_i hx
      refine List.pairwise_cons.mpr ⟨fun z hz => ?_, List.pairwise_cons.mpr h⟩
      rcases List.mem_cons.mp hz with rfl | hz
      · exact hx
      · exact Int.le_trans hx (h.1 z hz)
    · rename_i hx
      refine List.pairwise_cons.mpr ⟨fun z hz => ?_, insI_sorted x r h.2⟩
      rcases List.mem_cons.mp ((insI_perm x r).mem_iff.mp hz) with rfl | hz
      · omega
      · exact h.1 z hz
theorem sortI_sorted : ∀ l : List Int, (sortI l).Pairwise (· ≤ ·)
  | [] => List.Pairwise.nil
  | x :: r => insI_sorted x _ (sortI_sorted r)
theorem sortedI_one : ∀ {l m : List Int}, l.Pairwise (· ≤ ·) → m.Pairwise (· ≤ ·) → l.Perm m → l = m
  | [], m, _, _, p => by rw [List.nil_perm.mp p]
  | x :: l, [], _, _, p => by cases (List.perm_nil.mp p)
  | x :: l, y :: m, h1, h2, p => by
    rw [List.pairwise_cons] at h1 h2
    have hx : x ∈ y :: m := p.mem_iff.mp List.mem_cons_self
    have hy : y ∈ x :: l := p.mem_iff.mpr List.mem_cons_self
    have e : x = y := by
      rcases List.mem_cons.mp hx with e | hx
      · exact e
      · rcases List.mem_cons.mp hy with e | hy
        · exact e.symm
        · exact Int.le_antisymm (h1.1 y hy) (h2.1 x hx)
    subst e
    rw [sortedI_one h1.2 h2.2 ((List.perm_cons x).mp p)]
def allInt : List D → Option (List Int)
  | [] => some []
  | .int b :: r => (allInt r).map (b :: ·)
  | _ :: _ => none
theorem allInt_rel {K : Frag} {R : List Addr} {F : Hp} : ∀ {vs : List V} {ds : List D} {bs : List Int}, RelL K R F vs ds → allInt ds = some bs → vs = bs.map V.int
  | _, _, _, .nil, h => by cases h; rfl
  | _, _, bs, .cons (d := .int b) (ds := l) r t, h => by
    cases r
    have h : (allInt l).map (b :: ·) = some bs := h
    cases q : allInt l with
    | none => rw [q] at h; cases h
    | some cs =>
      rw [q] at h
      cases h
      rw [List.map_cons, allInt_rel t q]
theorem relL_ints {K : Frag} {R : List Addr} {F : Hp} : ∀ ys : List Int, RelL K R F (ys.map V.int) (ys.map D.int)
  | [] => .nil
  | y :: r => .cons (.int y) (relL_ints r)
section
variable {X : Cx} {W : WX}
/-- sorted(a list of texts), of ints (below 64) -/
def sortedD (new : List D → Cells → Out D) (ds : List D) (c : Cells) : Out D := match ds with
  | [d] => match lstOf c d with
    | some l => (match allStr l with
      | some xs => if xs.length < 64 then new ((sortS xs).map D.str) c else .bad
      | none => match allInt l with
        | some ns => if ns.length < 64 then new ((sortI ns).map D.int) c else .bad
        | none => .bad)
    | none => .bad
  | _ => .bad
theorem cs_sorted {new : List D → Cells → Out D} (hn : NewL X new) : CallS X (.builtin "sorted") (sortedD new) := by
  refine ⟨_, CallR.or cr_sortedS cr_sorted, fun Z W R F c σ H vs ds Q w r h => ?_⟩
  unfold sortedD at h
  split at h
  · obtain ⟨v, e1, rr⟩ : ∃ v, vs = [v] ∧ Rel X.K R F v _ := by
      cases r with
      | cons r t => cases t; exact ⟨_, rfl, r⟩
    subst e1
    split at h
    · rename_i l hl
      obtain ⟨a, us, rfl, q1, rl⟩ := w.list rr hl
      split at h
      · rename_i xs hx
        have e2 := allStr_rel rl hx
        subst e2
        split at h
        · rename_i h64
          refine .inl ⟨a, xs, rfl, q1, h64, fun ys p hp hs n => ?_⟩
          rw [sortS_one hs hp]
          exact (hn Z W R F σ c H _ _ Q w (relL_strs _) h).2 p n
        · exact h.elim
      · split at h
        · rename_i ns hx
          have e2 := allInt_rel rl hx
          subst e2
          split at h
          · rename_i h64
            refine .inr ⟨a, ns, rfl, q1, h64, fun ys p hp hs n => ?_⟩
            rw [sortedI_one hs (sortI_sorted ns) (hp.trans (sortI_perm ns).symm)]
            exact (hn Z W R F σ c H _ _ Q w (relL_ints _) h).2 p n
          · exact h.elim
        · exact h.elim
    · exact h.elim
  · exact h.elim
/-- list(a list, a tuple) -/
def listD (new : List D → Cells → Out D) (ds : List D) (c : Cells) : Out D := match ds with
  | [d] => match items c d with
    | some l => new l c
    | none => .bad
  | _ => .bad
theorem cs_list {new : List D → Cells → Out D} (hn : NewL X new) : CallS X (.type "list") (listD new) := by
  refine ⟨_, call_list_of, fun Z W R F c σ H vs ds Q w r h => ?_⟩
  unfold listD at h
  split at h
  · obtain ⟨v, e1, rr⟩ : ∃ v, vs = [v] ∧ Rel X.K R F v _ := by
      cases r with
      | cons r t => cases t; exact ⟨_, rfl, r⟩
    subst e1
    split at h
    · rename_i l hl
      obtain ⟨a, us, rfl, rl, hq⟩ := w.seq rr hl
      exact ⟨a, us, rfl, hq, (hn Z W R F σ c H _ _ Q w rl h).2⟩
    · exact h.elim
  · exact h.elim
def minD (ds : List D) (c : Cells) : Out D := match ds with
  | [.int i, .int j] => .ok (.int (if j < i then j else i)) c
  | _ => .bad
def maxD (ds : List D) (c : Cells) : Out D := match ds with
  | [.int i, .int j] => .ok (.int (if j > i then j else i)) c
  | _ => .bad
theorem cs_min (hc : X.calm = true) : CallS X (.builtin "min") minD := by
  refine ⟨_, call_min2 hc, fun Z W R F c σ H vs ds Q w r h => ?_⟩
  unfold minD at h
  split at h
  · cases r with
    | cons r t => cases t with
      | cons r2 t => cases t; cases r; cases r2; exact ⟨_, _, rfl, h.ok w _ (.int _)⟩
  · exact h.elim
theorem cs_max (hc : X.calm = true) : CallS X (.builtin "max") maxD := by
  refine ⟨_, call_max2 hc, fun Z W R F c σ H vs ds Q w r h => ?_⟩
  unfold maxD at h
  split at h
  · cases r with
    | cons r t => cases t with
      | cons r2 t => cases t; cases r; cases r2; exact ⟨_, _, rfl, h.ok w _ (.int _)⟩
  · exact h.elim
/-- a list some times, new as told -/
def mulN (new : List D → Cells → Out D) : O2 := fun d e c => match lstOwn c d, e with
  | some l, .int k => if -(2 ^ 63) ≤ k ∧ k < 2 ^ 63 ∧ l.length * k.toNat ≤ sizeLine then new (List.replicate k.toNat l).flatten c else .bad
  | _, _ => .bad
theorem os_mulN {new : List D → Cells → Out D} (hnw : NewL X new) : OpS X (binaryOp .Mult) (mulN new) := by
  refine ⟨_, op_rep, fun Z W R F c σ H x y d e Q w rx ry q => ?_⟩
  unfold mulN at q
  split at q
  · rename_i l k hl
    split at q
    · rename_i hc
      cases ry
      obtain ⟨a, vs, rfl, ha, rl⟩ := w.own rx hl
      obtain ⟨z, hn⟩ := hnw Z W R F σ c H _ _ Q w (rl.rep k.toNat) q
      exact ⟨a, k, vs, rfl, rfl, ha, hc.1, hc.2.1, by rw [rl.length]; exact hc.2.2, hn⟩
    · exact q.elim
  · exact q.elim
end

/-! ### list.count of texts -/
def eqS (x : Str) (v : Value) : Bool := match v with
  | .str y _ => y.cps.toList == x.cps.toList
  | _ => false
def rCntS (K : Frag) : V → List V → Hp → VK → Prop := fun x xs H Q => ∃ (p : Addr) (ss : List Str) (z : Str), x = .ref p ∧ xs = [.str z] ∧ SqL K H p (ss.map V.str) ∧ Q (.int (ss.count z : Nat)) H
theorem eqS_at {A : Around} {s : Shared} {z : Str} {t : Tok} : ∀ {ss : List Str} {us : List Value}, Vals (ss.map V.str) us → ∀ y ∈ us, SeqAt.EqAt A s y (.str z t) (eqS z y)
  | [], _, h => fun y hy => by cases h; cases hy
  | x :: r, _, .cons h t' => fun y hy => by
    obtain ⟨tx, rfl⟩ := h
    rcases List.mem_cons.mp hy with rfl | hy
    · exact (SeqRoads2.EqGives.str x z tx t).at _ _
    · exact eqS_at t' y hy
theorem eqS_count {z : Str} : ∀ {ss : List Str} {us : List Value}, Vals (ss.map V.str) us → us.countP (eqS z) = ss.count z
  | [], _, h => by cases h; rfl
  | x :: r, _, .cons h t => by
    obtain ⟨tx, rfl⟩ := h
    rw [List.countP_cons, List.count_cons, eqS_count t]
    congr 1
    have : eqS z (.str x tx) = (x == z) := by
      show (x.cps.toList == z.cps.toList) = (x == z)
      by_cases e : x = z
      · subst e; simp
      · rw [beq_eq_false_iff_ne.mpr e]
        exact beq_eq_false_iff_ne.mpr fun h => e (str_ext h)
    rw [this]
theorem mt_countS {X : Cx} : MtR X "list.count" (rCntS X.K) := by
  rintro pins s σ H x xs v us Q I rx rxs ⟨p, ss, z, rfl, rfl, hs, q⟩
  cases rx
  obtain ⟨u, rfl, t, rfl⟩ := rxs.one
  obtain ⟨its, rv, ⟨⟨cls, dd, data, sl⟩, n, ho, hc, hdn, hd⟩, hlen⟩ := I.list hs
  dsimp only at hc hd
  subst hc hd
  refine call_meets PySem.F.slot_list_count ⟨_, ho, rfl⟩ PySem.F.entry_list_count (PySem.F.args_list_count_2 _ _) (SeqAt.list_countAt p its.toArray n dd sl (.str z t) (eqS z)) ⟨ho, fun y hy => eqS_at rv y (by simpa using hy), ?_⟩
  refine ⟨.int (ss.count z : Nat), H, I.tok _, ⟨s.toks, ?_⟩, q⟩
  rw [show its.toArray.toList.countP (eqS z) = ss.count z from eqS_count rv]
def countD (d : D) (ds : List D) (c : Cells) : Out D := match ds with
  | [.str z] => (match lstOf c d with
    | some l => (match allStr l with
      | some ss => .ok (.int (ss.count z : Nat)) c
      | none => .bad)
    | none => .bad)
  | [.int z] => (match lstOf c d with
    | some l => (match allInt l with
      | some ss => .ok (.int (ss.count z : Nat)) c
      | none => .bad)
    | none => .bad)
  | _ => .bad
theorem ms_count {X : Cx} : MtS X "list.count" countD := by
  refine ⟨_, MtR.or mt_countS mt_lcount, fun Z W R F c σ H x d vs ds Q w rx r h => ?_⟩
  unfold countD at h
  split at h
  · obtain ⟨v, e1, rr⟩ : ∃ v, vs = [v] ∧ Rel X.K R F v (.str _) := by
      cases r with
      | cons r t => cases t; exact ⟨_, rfl, r⟩
    subst e1
    cases rr
    split at h
    · rename_i l hl
      obtain ⟨a, us, rfl, q1, rl⟩ := w.list rx hl
      split at h
      · rename_i ss hx
        have e2 := allStr_rel rl hx
        subst e2
        exact .inl ⟨a, ss, _, rfl, rfl, q1, h.ok w _ (.int _)⟩
      · exact h.elim
    · exact h.elim
  · obtain ⟨v, e1, rr⟩ : ∃ v, vs = [v] ∧ Rel X.K R F v (.int _) := by
      cases r with
      | cons r t => cases t; exact ⟨_, rfl, r⟩
    subst e1
    cases rr
    split at h
    · rename_i l hl
      obtain ⟨a, us, rfl, q1, rl⟩ := w.list rx hl
      split at h
      · rename_i ss hx
        have e2 := allInt_rel rl hx
        subst e2
        exact .inr ⟨a, ss, _, rfl, rfl, q1, h.ok w _ (.int _)⟩
      · exact h.elim
    · exact h.elim
  · exact h.elim
end Nw

set_option Elab.async false
set_option linter.all false
set_option maxRecDepth 100000
set_option maxHeartbeats 4000000
/-! Nw26: a block: what it makes is forgotten at its end. -/
namespace Nw
open PySem PySem.Spec
open PyProof.Rows hiding St
open L2
variable [TheW]
def onlyE (keep : List Nat) (δ : En) : En := δ.mapIdx fun i x => if keep.contains i = true then x else none
def keepD (n : Nat) (x : Option D) : Option D := match x with
  | some d => if nc n d = true then some d else none
  | none => none
def keepE (n : Nat) (keep : List Nat) (δ : En) : En := δ.mapIdx fun i x => if keep.contains i = true then keepD n x else none
/-- ki: the names that the block reads, ko: those that are known behind it -/
def mScope (ki ko : List Nat) (m : MS) : MS := fun δ c => match m (onlyE ki δ) c with
  | .nx δ1 c1 => if (c1.take c.length).all (ncC c.length) = true ∨ c1.take c.length = c then .nx (keepE c.length ko δ1) (c1.take c.length) else .bad
  | .bk δ1 c1 => if (c1.take c.length).all (ncC c.length) = true ∨ c1.take c.length = c then .bk (keepE c.length ko δ1) (c1.take c.length) else .bad
  | .ct δ1 c1 => if (c1.take c.length).all (ncC c.length) = true ∨ c1.take c.length = c then .ct (keepE c.length ko δ1) (c1.take c.length) else .bad
  | .rt d c1 => if (c1.take c.length).all (ncC c.length) = true ∨ c1.take c.length = c then (match frz c1 c.length 30 d with
    | some d' => .rt d' (c1.take c.length)
    | none => .bad) else .bad
  | o => o
section
variable {K : Frag} {R : List Addr} {F : Hp} {δ : En} {σ : St}
theorem RelS.only (keep : List Nat) (h : RelS K R F δ σ) : RelS K R F (onlyE keep δ) σ := by
  unfold onlyE
  refine ⟨by rw [List.length_mapIdx]; exact h.1, fun i d q => ?_⟩
  rw [List.getElem?_mapIdx] at q
  cases e : δ[i]? with
  | none => rw [e] at q; cases q
  | some x =>
    rw [e] at q
    have q : (if keep.contains i = true then x else none) = some d := Option.some.inj q
    split at q
    · subst q; exact h.2 i d e
    · cases q
theorem RelS.keep {n : Nat} {F' : Hp} (keep : List Nat) (h : RelS K R F δ σ) (s : Same F F') : RelS K (R.take n) F' (keepE n keep δ) σ := by
  unfold keepE
  refine ⟨by rw [List.length_mapIdx]; exact h.1, fun i d q => ?_⟩
  rw [List.getElem?_mapIdx] at q
  cases e : δ[i]? with
  | none => rw [e] at q; cases q
  | some x =>
    rw [e] at q
    have q : (if keep.contains i = true then keepD n x else none) = some d := Option.some.inj q
    split at q
    · cases x with
      | none => cases q
      | some d0 =>
        unfold keepD at q
        dsimp only at q
        split at q
        · rename_i hn
          cases q
          obtain ⟨v, h1, h2⟩ := h.2 i d e
          exact ⟨v, h1, (h2.cut hn).mono (List.prefix_refl _) s⟩
        · cases q
    · cases q
end
theorem dss_scope {X : Cx} {W : WX} {st : List Stmt} {m : MS} (ki ko : List Nat) (h : DSs X W st m) : DSs X W st (mScope ki ko m) := by
  obtain ⟨t, p, s⟩ := h.ex
  refine ⟨t, p, fun Z R F δ c σ H E w rs h => s Z R F (onlyE ki δ) c σ H E w (rs.only ki) ?_⟩
  unfold mScope at h
  cases e : m (onlyE ki δ) c with
  | bad => rw [e] at h; exact h
  | exc k ns ds δ1 c1 => rw [e] at h; exact h
  | nx δ1 c1 =>
    rw [e] at h
    dsimp only at h
    split at h
    · rename_i hc
      intro R' F' H' σ' p' e' w' rs'
      obtain ⟨F2, sF, hF, w2, eR⟩ := w.drop p' e' w' hc
      exact h _ F2 H' σ' (by rw [eR]; exact List.prefix_refl _) (e'.trans sF) w2 (rs'.keep ko sF)
    · exact h.elim
  | bk δ1 c1 =>
    rw [e] at h
    dsimp only at h
    split at h
    · rename_i hc
      intro R' F' H' σ' p' e' w' rs'
      obtain ⟨F2, sF, hF, w2, eR⟩ := w.drop p' e' w' hc
      exact h _ F2 H' σ' (by rw [eR]; exact List.prefix_refl _) (e'.trans sF) w2 (rs'.keep ko sF)
    · exact h.elim
  | ct δ1 c1 =>
    rw [e] at h
    dsimp only at h
    split at h
    · rename_i hc
      intro R' F' H' σ' p' e' w' rs'
      obtain ⟨F2, sF, hF, w2, eR⟩ := w.drop p' e' w' hc
      exact h _ F2 H' σ' (by rw [eR]; exact List.prefix_refl _) (e'.trans sF) w2 (rs'.keep ko sF)
    · exact h.elim
  | rt d c1 =>
    rw [e] at h
    dsimp only at h
    split at h
    · rename_i hc
      split at h
      · rename_i d' hz
        intro R' F' H' v p' e' w' rv
        obtain ⟨F2, sF, hF, w2, eR⟩ := w.drop p' e' w' hc
        exact h _ F2 H' v (by rw [eR]; exact List.prefix_refl _) (e'.trans sF) w2 (frz_rel w' sF hF 30 v d d' rv hz)
      · exact h.elim
    · exact h.elim
theorem ds_scope {X : Cx} {W : WX} {st : Stmt} {m : MS} (ki ko : List Nat) (h : DS X W st m) : DS X W st (mScope ki ko m) := by
  obtain ⟨t, p, s⟩ := h.ex
  obtain ⟨t2, p2, s2⟩ := (dss_scope ki ko (dss_one h)).ex
  refine ⟨t, p, fun Z R F δ c σ H E w rs h => s Z R F (onlyE ki δ) c σ H E w (rs.only ki) ?_⟩
  unfold mScope at h
  cases e : m (onlyE ki δ) c with
  | bad => rw [e] at h; exact h
  | exc k ns ds δ1 c1 => rw [e] at h; exact h
  | nx δ1 c1 =>
    rw [e] at h
    dsimp only at h
    split at h
    · rename_i hc
      intro R' F' H' σ' p' e' w' rs'
      obtain ⟨F2, sF, hF, w2, eR⟩ := w.drop p' e' w' hc
      exact h _ F2 H' σ' (by rw [eR]; exact List.prefix_refl _) (e'.trans sF) w2 (rs'.keep ko sF)
    · exact h.elim
  | bk δ1 c1 =>
    rw [e] at h
    dsimp only at h
    split at h
    · rename_i hc
      intro R' F' H' σ' p' e' w' rs'
      obtain ⟨F2, sF, hF, w2, eR⟩ := w.drop p' e' w' hc
      exact h _ F2 H' σ' (by rw [eR]; exact List.prefix_refl _) (e'.trans sF) w2 (rs'.keep ko sF)
    · exact h.elim
  | ct δ1 c1 =>
    rw [e] at h
    dsimp only at h
    split at h
    · rename_i hc
      intro R' F' H' σ' p' e' w' rs'
      obtain ⟨F2, sF, hF, w2, eR⟩ := w.drop p' e' w' hc
      exact h _ F2 H' σ' (by rw [eR]; exact List.prefix_refl _) (e'.trans sF) w2 (rs'.keep ko sF)
    · exact h.elim
  | rt d c1 =>
    rw [e] at h
    dsimp only at h
    split at h
    · rename_i hc
      split at h
      · rename_i d' hz
        intro R' F' H' v p' e' w' rv
        obtain ⟨F2, sF, hF, w2, eR⟩ := w.drop p' e' w' hc
        exact h _ F2 H' v (by rw [eR]; exact List.prefix_refl _) (e'.trans sF) w2 (frz_rel w' sF hF 30 v d d' rv hz)
      · exact h.elim
    · exact h.elim
end Nw

set_option Elab.async false
set_option linter.all false
set_option maxRecDepth 100000
set_option maxHeartbeats 4000000
/-! Nw27: plain steps through blocks. -/
namespace Nw
open PySem PySem.Spec
open PyProof.Rows hiding St
open L2
theorem mSeq_assoc {a b c : MS} : mSeq (mSeq a b) c = mSeq a (mSeq b c) := by
  funext δ d
  unfold mSeq
  cases a δ d <;> rfl
theorem seq_nx {a b : MS} {δ δ' : En} {c c' : Cells} (h : a δ c = .nx δ' c') : mSeq a b δ c = b δ' c' := by
  unfold mSeq
  rw [h]
theorem only_only {ki : List Nat} {δ : En} : onlyE ki (onlyE ki δ) = onlyE ki δ := by
  unfold onlyE
  rw [List.mapIdx_mapIdx]
  congr 1
  funext i x
  simp only [Function.comp]
  split <;> rfl
theorem scope_only {ki ko : List Nat} {m : MS} {δ : En} {c : Cells} : mScope ki ko m (onlyE ki δ) c = mScope ki ko m δ c := by
  unfold mScope
  rw [only_only]
theorem scope_nx {ki ko : List Nat} {m : MS} {δ δ1 δ2 : En} {c c1 : Cells} (h : m (onlyE ki δ) c = .nx δ1 c1) (hl : c1.length = c.length) (hc : c1.all (ncC c.length) = true) (hk : keepE c.length ko δ1 = δ2) : mScope ki ko m δ c = .nx δ2 c1 := by
  unfold mScope
  rw [h]
  dsimp only
  have e : c1.take c.length = c1 := by rw [← hl, List.take_length]
  rw [e, if_pos (Or.inl hc), hk]
/-- a block that makes cells -/
theorem scope_nx' {ki ko : List Nat} {m : MS} {δ δ1 δ2 : En} {c c1 : Cells} (h : m (onlyE ki δ) c = .nx δ1 c1) (hc : (c1.take c.length).all (ncC c.length) = true) (hk : keepE c.length ko δ1 = δ2) : mScope ki ko m δ c = .nx δ2 (c1.take c.length) := by
  unfold mScope
  rw [h]
  dsimp only
  rw [if_pos (Or.inl hc), hk]
def obs (ki : List Nat) (o : Fl) : Option (En × Cells) := match o with
  | .nx δ c => some (onlyE ki δ, c)
  | _ => none
theorem obs_nx {ki : List Nat} {o : Fl} {δ : En} {c : Cells} (h : obs ki o = some (δ, c)) : ∃ δ', o = .nx δ' c ∧ onlyE ki δ' = δ := by
  unfold obs at h
  split at h
  · cases h; exact ⟨_, rfl, rfl⟩
  · cases h
/-- a group, then a block that reads the names ki alone -/
theorem grp_then {ki ko : List Nat} {g m : MS} {δ δ1 : En} {c c1 : Cells} (h : obs ki (g δ c) = some (δ1, c1)) : mSeq g (mScope ki ko m) δ c = mScope ki ko m δ1 c1 := by
  obtain ⟨δ', e, h2⟩ := obs_nx h
  rw [seq_nx e, ← h2, scope_only]
theorem map_all {α β : Type} {l : List α} {f g : α → β} (h : l.map f = l.map g) : ∀ x ∈ l, f x = g x := by
  induction l with
  | nil => intro x hx; cases hx
  | cons a r ih =>
    rw [List.map_cons, List.map_cons] at h
    injection h with h1 h2
    intro x hx
    rcases List.mem_cons.mp hx with rfl | hx
    · exact h1
    · exact ih h2 x hx
theorem ncL_ints : ∀ (n : Nat) (l : List Int), ncL n (l.map D.int) = true
  | _, [] => by unfold ncL; rfl
  | n, i :: r => by rw [List.map_cons]; unfold ncL; rw [ncL_ints n r]; unfold nc; rfl
theorem nc_scr (n : Nat) (l : List Int) : nc n (.scr (l.map D.int)) = true := by unfold nc; exact ncL_ints n l
theorem ints_in (ns : List Int) (k : Nat) : (D.int <$> ns) = ns.map D.int := rfl
/-- the outer loop of a law: each turn leaves things as they were -/
theorem loop_same {chk : Cells → Bool} {g : MG} {mb : MS} {δ0 : En} {c0 : Cells} (hc : chk c0 = true) : ∀ {l : List D}, (∀ d ∈ l, ∃ δ1, g d δ0 = some δ1 ∧ (mb δ1 c0 = .nx δ0 c0 ∨ mb δ1 c0 = .ct δ0 c0)) → loopGo chk g mb l δ0 c0 = .nx δ0 c0
  | [], _ => by
    unfold loopGo
    rw [if_pos hc]
  | d :: r, h => by
    obtain ⟨δ1, h1, h2⟩ := h d List.mem_cons_self
    unfold loopGo
    rw [if_pos hc, h1]
    dsimp only
    rcases h2 with h2 | h2 <;> rw [h2] <;> exact loop_same hc fun d hd => h d (List.mem_cons_of_mem _ hd)
/-- (script + [0])[:k] -/
theorem cut_ints {ns : List Int} {hi : Option Int} : ∀ d ∈ cutD (ns.map D.int ++ [D.int 0]) none hi, ∃ n, d = .int n := by
  intro d hd
  have := List.mem_of_mem_drop (List.mem_of_mem_take hd)
  rcases List.mem_append.mp this with h | h
  · obtain ⟨n, _, rfl⟩ := List.mem_map.mp h
    exact ⟨n, rfl⟩
  · rw [List.mem_singleton] at h
    exact ⟨0, h⟩
theorem sl_script {ns : List Int} {δ : En} {c : Cells} {k : Int} (hn : ns.length ≤ 63) (h0 : δ[0]? = some (some (.scr (ns.map D.int)))) :
    (mSl lstD (mOp addD (mVar 0) (mLst (mCons (mC (.int 0)) mNil))) (fun _ c => .ok none c) (fun δ c => ((mC (.int k)) δ c).bind asI)) δ c = .ok (.lst (cutD (ns.map D.int ++ [D.int 0]) none (some k))) c := by
  have z1 : (1 : Nat) ≤ sizeLine := by decide
  have hz : ns.length + 1 ≤ sizeLine := Nat.le_trans (by omega : ns.length + 1 ≤ 64) (by decide)
  have hll : (cutD (ns.map D.int ++ [D.int 0]) none (some k)).length ≤ sizeLine := by
    refine Nat.le_trans ?_ hz
    unfold cutD
    refine Nat.le_trans (List.length_take_le' _ _) ?_
    rw [List.length_drop]
    simp
  simp [mSl, mOp, addD, addG, lstOf, mVar, h0, mLst, lstD, mCons, mC, mNil, Out.bind, asI, z1, hz, slG, hll]
/-- for x in (script + [0])[:k]: .. ; return True -/
theorem law_for {body : MS} {k : Int} {r : Nat} (hb : ∀ (scr : D) (n : Int), (∀ j, nc j scr = true) → ∃ o, body (some scr :: some (.int n) :: List.replicate r none) [] = o ∧ (o = .nx (some scr :: none :: List.replicate r none) [] ∨ o = .ct (some scr :: none :: List.replicate r none) [])) :
    LawOk (mkFn 1 (r + 2) (mSeq (mFor (fun δ c => ((mSl lstD (mOp addD (mVar 0) (mLst (mCons (mC (.int 0)) mNil))) (fun _ c => .ok none c) (fun δ c => ((mC (.int k)) δ c).bind asI)) δ c).bind seqAny) (gN 1) body) (mRet (mC (.bl true))))) 63 := by
  intro ns hn
  refine ⟨[], ?_⟩
  unfold mkFn
  rw [if_pos (by simp)]
  have e0 : [D.scr (ns.map D.int)].map some ++ List.replicate (r + 2 - 1) none = some (D.scr (ns.map D.int)) :: none :: List.replicate r none := by
    rw [show r + 2 - 1 = r + 1 by omega, List.replicate_succ]
    rfl
  rw [e0]
  rw [seq_nx (δ' := some (D.scr (ns.map D.int)) :: none :: List.replicate r none) (c' := [])]
  · rfl
  · unfold mFor
    dsimp only
    rw [sl_script hn rfl]
    refine loop_same (c0 := []) rfl fun d hd => ?_
    obtain ⟨n, rfl⟩ := cut_ints d hd
    obtain ⟨o, e, h⟩ := hb (.scr (ns.map D.int)) n (fun j => nc_scr j ns)
    refine ⟨_, rfl, ?_⟩
    rcases h with rfl | rfl
    · exact .inl e
    · exact .inr e
end Nw

set_option Elab.async false
set_option linter.all false
set_option maxRecDepth 100000
set_option maxHeartbeats 4000000
/-! Nw28: the head's questions, asked in parts. -/
namespace Nw
open PySem PySem.Spec
open PyProof.Rows hiding St
open L2
def KS (s : PySem.W.SharedT) : Frag := He.frG (HandSHeadRun.getT s) (He.asD (HandSHeadRun.getT s) 5)
def askF (l : List He.Fa) (s : PySem.W.SharedT) : Bool := l.all fun f => f.ok (KS s)
def askC (l : List Ck) (s : PySem.W.SharedT) : Bool := l.all fun f => f.ok (KS s)
def askD (l : List He.DefD) (s : PySem.W.SharedT) : He.AlD := (l.all fun d => d.ok (KS s), l.map fun d => He.fnW (KS s) d.at_)
theorem map_of {α β : Type} {E : Option α} {f : α → β} {b : β} (h : E.map f = some b) : ∃ s, E = some s ∧ f s = b := by
  cases E with
  | none => cases h
  | some s => cases h; exact ⟨s, rfl, rfl⟩
theorem all_flat {α : Type} {p : α → Bool} : ∀ {l : List (List α)}, (∀ x ∈ l, x.all p = true) → l.flatten.all p = true
  | [], _ => rfl
  | a :: r, h => by
    rw [List.flatten_cons, List.all_append, h a List.mem_cons_self, all_flat fun x hx => h x (List.mem_cons_of_mem _ hx)]
    rfl
theorem map_flat {α β : Type} {f g : α → β} : ∀ {l : List (List α)}, (∀ x ∈ l, x.map f = x.map g) → l.flatten.map f = l.flatten.map g
  | [], _ => rfl
  | a :: r, h => by
    rw [List.flatten_cons, List.map_append, List.map_append, h a List.mem_cons_self, map_flat fun x hx => h x (List.mem_cons_of_mem _ hx)]
theorem run_join {γ : Type} {E : Option PySem.W.SharedT} {A : PySem.W.SharedT → Bool} {B : PySem.W.SharedT → γ} {good : γ} {fas : List (List He.Fa)} {cks : List (List Ck)} {fns : List (List He.DefD)}
    (h0 : E.map (fun s => (A s, B s)) = some (true, good)) (h1 : ∀ l ∈ fas, E.map (askF l) = some true) (h2 : ∀ l ∈ cks, E.map (askC l) = some true) (h3 : ∀ l ∈ fns, E.map (askD l) = some (He.valD l)) :
    E.map (fun s => (A s, B s, obsNG 5 fas.flatten cks.flatten fns.flatten (HandSHeadRun.getT s))) = some (true, good, He.valD fns.flatten) := by
  obtain ⟨s, rfl, e0⟩ := map_of h0
  have k1 : (fas.flatten.all fun f => f.ok (KS s)) = true := all_flat fun l hl => Option.some.inj (h1 l hl)
  have k2 : (cks.flatten.all fun f => f.ok (KS s)) = true := all_flat fun l hl => Option.some.inj (h2 l hl)
  have k3 : (fns.flatten.all fun f => f.ok (KS s)) = true := all_flat fun l hl => congrArg Prod.fst (Option.some.inj (h3 l hl))
  have k4 : fns.flatten.map (fun d => He.fnW (KS s) d.at_) = fns.flatten.map He.DefD.val := map_flat fun l hl => congrArg Prod.snd (Option.some.inj (h3 l hl))
  have e1 : obsNG 5 fas.flatten cks.flatten fns.flatten (HandSHeadRun.getT s) = He.valD fns.flatten := by
    show ((((fas.flatten.all fun f => f.ok (KS s)) && (cks.flatten.all fun f => f.ok (KS s))) && fns.flatten.all fun d => d.ok (KS s)), fns.flatten.map fun d => He.fnW (KS s) d.at_) = _
    rw [k1, k2, k3, k4]
    rfl
  rw [Option.map_some, e1]
  injection e0 with a b
  rw [a, b]
theorem each_nil {α : Type} {P : α → Prop} : ∀ l ∈ ([] : List α), P l := fun l hl => by cases hl
theorem each_cons {α : Type} {P : α → Prop} {a : α} {r : List α} (h : P a) (t : ∀ l ∈ r, P l) : ∀ l ∈ a :: r, P l := fun l hl => by
  rcases List.mem_cons.mp hl with rfl | hl
  · exact h
  · exact t l hl
end Nw

set_option Elab.async false
set_option linter.all false
set_option maxRecDepth 100000
set_option maxHeartbeats 4000000
/-! Nw29: a call by a local name; list(range(..)). -/
namespace Nw
open PySem PySem.Spec
open PyProof.Rows hiding St
open L2
variable [TheW]
section
variable {X : Cx} {W : WX} {k i : Nat} {x : Str} {p pos : Pos} {e : Expr} {es : List Expr} {ma : MA}
inductive DispF (X : Cx) (k : Nat) : List (Str × MF) → Prop where
  | nil : DispF X k []
  | cons {y : Str} {m : MF} {j : Nat} {r : List (Str × MF)} (h : DefOk X.prog X.w X.K X.mg X.base j y m) (hj : j ≤ k) (t : DispF X k r) : DispF X k ((y, m) :: r)
theorem DispF.look : ∀ {ds : List (Str × MF)} {y : Str} {m : MF}, DispF X k ds → ds.lookup y = some m → DefOk X.prog X.w X.K X.mg X.base k y m
  | _, y, m, .nil, e => by cases e
  | _, y, m, .cons (y := c0) h hj t, e => by
    rw [List.lookup_cons] at e
    by_cases q : (y == c0) = true
    · rw [q] at e
      cases e
      rw [eq_of_beq q]
      obtain ⟨fd, ps, G, hb⟩ := h.ex
      exact ⟨h.g, h.kp, fd, ps, G.mono hj, hb⟩
    · rw [Bool.not_eq_true] at q
      rw [q] at e
      exact t.look e
def mCallV (i : Nat) (tbl : List (Str × MF)) (ma : MA) : ME := fun δ c => match δ[i]? with
  | some (some (.gl y)) => (match tbl.lookup y with
    | some m => (ma δ c).bind fun ds c1 => m ds c1
    | none => .bad)
  | _ => .bad
theorem de_callV {ds : List (Str × MF)} (hd : DispF X k ds) (hr : Room k X.A) (tk : Takes X W) (hN : X.N[i]? = some x) (hv : Vis X.env.scope x) (ha : DA X W (e :: es) ma) (hdb : (x == ("__debug__" : Str)) = false := by decide) (hcd : (x == ("__classdict__" : Str)) = false := by decide)
    (he : starEach (e :: es) X.env = (false, eval e X.env) :: starEach es X.env := by rfl) (hpl : (backTo pos (starEach es X.env)).any (·.1) = false := by rfl) : DE X W (.Call (.Name x p) (e :: es) [] pos) (mCallV i ds ma) := by
  obtain ⟨t, pa, sa⟩ := ha.ex
  let ι := { q : Str × MF // ds.lookup q.1 = some q.2 }
  refine ⟨fun σ H Q => ∃ q : ι, σ[i]? = some (some (.ref (He.ga X.K q.1.1))) ∧ t σ H fun vs H1 => spOf X.K q.1.2 vs H1 Q (WE W σ), ⟨fun pins s σ H Q I h => ?_⟩, fun Z R F δ c σ H Q w rs h => ?_⟩
  · obtain ⟨q, hs, ht⟩ := h
    have G := hd.look q.2
    obtain ⟨fd, ps, G', hb⟩ := G.ex
    refine wpAny_Call_Name_kw (thn ((pe_var (pos := p) hN hv hdb hcd).run pins s σ H (fun v H1 => v = .ref (He.ga X.K q.1.1) ∧ H1 = H) I ⟨_, hs, rfl, rfl⟩) ?_)
    rintro u s1 ⟨v, H1, I1, r1, rfl, rfl⟩
    cases r1
    refine PySem.W.callWith_K (h₀ := X.base) I.ok.mod.kin G.kp (thn (pa.run pos pins s1 σ _ _ I1 ht) ?_) he hpl
    rintro us s2 ⟨vs, H2, I2, r, q2⟩
    exact ⟨I2.kIn, run_fnS (E := WE W) G' hr hb (passAt tk σ) I2 r q2⟩
  · unfold mCallV at h
    split at h
    · rename_i y hy
      split at h
      · rename_i m hm
        obtain ⟨v, h1, r⟩ := rs.2 i _ hy
        cases r
        refine ⟨⟨(y, m), hm⟩, h1, sa Z R F δ c σ H _ w rs ((Aft.bind h).imp ?_)⟩
        rintro R1 F1 ds c1 H1 p1 e1 w1 ⟨_, _, _, h1⟩ vs rv
        exact sp_of w1 rv h1
      · exact h.elim
    · exact h.elim
/-! list(range(a, b)) -/
def rgD (i j : Int) : List D := (List.range (j - i).toNat).map fun n => D.int (i + (n : Nat))
theorem rg_rel {K : Frag} {R : List Addr} {F : Hp} (i j : Int) : RelL K R F (rgV i j) (rgD i j) := by
  unfold rgV rgD
  generalize List.range (j - i).toNat = l
  induction l with
  | nil => exact .nil
  | cons a r ih => exact .cons (.int _) ih
instance : ∀ i j, Decidable (RgOk i j) := fun i j => by unfold RgOk; infer_instance
def rgL (new : List D → Cells → Out D) (i j : Int) (c : Cells) : Out D := if RgOk i j then new (rgD i j) c else .bad
def mRg1 (new : List D → Cells → Out D) (m : ME) : ME := fun δ c => (m δ c).bind fun d c1 => match d with
  | .int j => rgL new 0 j c1
  | _ => .bad
def mRg2 (new : List D → Cells → Out D) (m n : ME) : ME := fun δ c => (m δ c).bind fun d c1 => (n δ c1).bind fun e c2 => match d, e with
  | .int i, .int j => rgL new i j c2
  | _, _ => .bad
theorem rg_read {new : List D → Cells → Out D} (hn : NewL X new) {Z : Hp} {R : List Addr} {F : Hp} {c : Cells} {σ : St} {H : Hp} {i j : Int} {Q : VK} (w : Wd X.K Z R F c H) (h : Aft X.K Z W R F σ (rgL new i j c) (QV X.K Q)) :
    RgOk i j ∧ ∀ q, H q = none → Q (.ref q) (upd H q (.lst (rgV i j))) := by
  unfold rgL at h
  split at h
  · rename_i hk
    exact ⟨hk, (hn Z W R F σ c H _ _ Q w (rg_rel i j) h).2⟩
  · exact h.elim
variable {a b : Expr} {m n : ME} {p2 pos2 : Pos}
theorem de_listRg1 {new : List D → Cells → Out D} (hn : NewL X new) (hc : X.calm = true) (hm : X.mg "list" = none) (hm2 : X.mg "range" = none) (ha : DE X W a m) (hg : Gl X "list" := by rfl) (hg2 : Gl X "range" := by rfl) (na : starEach [a] X.env = (false, eval a X.env) :: starEach [] X.env := by rfl)
    (na2 : starEach [.Call (.Name "range" p2) [a] [] pos2] X.env = (false, eval (.Call (.Name "range" p2) [a] [] pos2) X.env) :: starEach [] X.env := by rfl) : DE X W (.Call (.Name "list" p) [.Call (.Name "range" p2) [a] [] pos2] [] pos) (mRg1 new m) := by
  obtain ⟨t, pa, sa⟩ := ha.ex
  refine ⟨_, pe_listRg hc hg hm (prg_1 hg2 hm2 pa na) na2, fun Z R F δ c σ H Q w rs h => sa Z R F δ c σ H _ w rs ((Aft.bind h).imp ?_)⟩
  rintro R1 F1 d c1 H1 p1 e1 w1 ⟨_, _, _, h1⟩ v rv
  cases rv with
  | int j => exact ⟨j, rfl, rg_read hn w1 h1⟩
  | _ => exact h1.elim
theorem de_listRg2 {new : List D → Cells → Out D} (hn : NewL X new) (hc : X.calm = true) (hm : X.mg "list" = none) (hm2 : X.mg "range" = none) (ha : DE X W a m) (hb : DE X W b n) (hg : Gl X "list" := by rfl) (hg2 : Gl X "range" := by rfl) (na : starEach [a, b] X.env = (false, eval a X.env) :: starEach [b] X.env := by rfl)
    (nb : starEach [b] X.env = (false, eval b X.env) :: starEach [] X.env := by rfl) (hpl : (backTo pos2 (starEach [b] X.env)).any (·.1) = false := by rfl)
    (na2 : starEach [.Call (.Name "range" p2) [a, b] [] pos2] X.env = (false, eval (.Call (.Name "range" p2) [a, b] [] pos2) X.env) :: starEach [] X.env := by rfl) : DE X W (.Call (.Name "list" p) [.Call (.Name "range" p2) [a, b] [] pos2] [] pos) (mRg2 new m n) := by
  obtain ⟨t, pa, sa⟩ := ha.ex
  obtain ⟨u, pb, sb⟩ := hb.ex
  refine ⟨_, pe_listRg hc hg hm (prg_2 hg2 hm2 pa pb na nb hpl) na2, fun Z R F δ c σ H Q w rs h => sa Z R F δ c σ H _ w rs ((Aft.bind h).imp ?_)⟩
  rintro R1 F1 d c1 H1 p1 e1 w1 ⟨_, _, _, h1⟩ v rv
  refine sb Z R1 F1 δ c1 σ H1 _ w1 (rs.mono p1 e1) ((Aft.bind h1).imp ?_)
  rintro R2 F2 e c2 H2 p2 e2 w2 ⟨_, _, _, h2⟩ y ry
  cases rv with
  | int i =>
    cases ry with
    | int j => exact ⟨i, j, rfl, rfl, rg_read hn w2 h2⟩
    | _ => exact h2.elim
  | _ => exact h2.elim
end
end Nw

set_option Elab.async false
set_option linter.all false
set_option maxRecDepth 100000
set_option maxHeartbeats 4000000
/-! Nw30: comprehensions and loops over typed lists, plainly. -/
namespace Nw
open PySem PySem.Spec
open PyProof.Rows hiding St
open L2
theorem lc_typed {α : Type} {chk : Cells → Bool} {g : MG} {mt : MT} {me : ME} {δ : En} {c : Cells} {enc dec : α → D} {p : α → Bool} (hc : chk c = true) : ∀ {l : List α} {acc : List D}, (∀ a ∈ l, ∃ δ1, g (enc a) δ = some δ1 ∧ mt δ1 c = .ok (p a) c ∧ (p a = true → me δ1 c = .ok (dec a) c)) → acc.length + l.length ≤ sizeLine →
    lcGo chk g mt me δ (l.map enc) acc c = .ok (acc ++ (l.filter p).map dec) c
  | [], acc, _, _ => by
    rw [List.map_nil]
    unfold lcGo
    rw [if_pos hc, List.filter_nil, List.map_nil, List.append_nil]
  | a :: r, acc, h, hz => by
    obtain ⟨δ1, h1, h2, h3⟩ := h a List.mem_cons_self
    rw [List.length_cons] at hz
    rw [List.map_cons]
    unfold lcGo
    rw [if_pos hc, h1]
    dsimp only
    rw [h2]
    cases hp : p a with
    | true =>
      dsimp only
      rw [h3 hp]
      dsimp only
      rw [if_pos (by omega), lc_typed hc (fun x hx => h x (List.mem_cons_of_mem _ hx)) (by rw [List.length_append, List.length_singleton]; omega), List.filter_cons_of_pos hp, List.map_cons, List.append_assoc]
      rfl
    | false =>
      dsimp only
      rw [lc_typed hc (fun x hx => h x (List.mem_cons_of_mem _ hx)) (by omega), List.filter_cons_of_neg (by rw [hp]; decide)]
theorem lc_map {α : Type} {chk : Cells → Bool} {g : MG} {me : ME} {δ : En} {c : Cells} {enc dec : α → D} {l : List α} (hc : chk c = true) (h : ∀ a ∈ l, ∃ δ1, g (enc a) δ = some δ1 ∧ me δ1 c = .ok (dec a) c) (hz : l.length ≤ sizeLine) :
    lcGo chk g (fun _ c => .ok true c) me δ (l.map enc) [] c = .ok (l.map dec) c := by
  rw [lc_typed (p := fun _ => true) (dec := dec) hc (fun a ha => by
    obtain ⟨δ1, h1, h2⟩ := h a ha
    exact ⟨δ1, h1, rfl, fun _ => h2⟩) (by simpa using hz)]
  rw [List.nil_append, List.filter_eq_self.mpr fun _ _ => rfl]
theorem enum_map {α : Type} {enc : α → D} {l : List α} : enumL (l.map enc) = l.zipIdx.map fun p => .tup [.int (p.2 : Nat), enc p.1] := by
  unfold enumL
  apply List.ext_getElem?
  intro i
  rw [List.getElem?_mapIdx, List.getElem?_map, List.getElem?_map, List.getElem?_zipIdx]
  cases l[i]? with
  | none => rfl
  | some a => simp
/-- a loop whose every turn goes on, over a typed list -/
theorem loop_typed {α : Type} {chk : Cells → Bool} {g : MG} {mb : MS} {enc : α → D} (I : List α → En → Cells → Prop) : ∀ {l : List α} {δ : En} {c : Cells}, I l δ c → (∀ l δ c, I l δ c → chk c = true) →
    (∀ a r δ c, I (a :: r) δ c → ∃ δ1 δ2 c2, g (enc a) δ = some δ1 ∧ (mb δ1 c = .nx δ2 c2 ∨ mb δ1 c = .ct δ2 c2) ∧ I r δ2 c2) → ∃ δ' c', loopGo chk g mb (l.map enc) δ c = .nx δ' c' ∧ I [] δ' c'
  | [], δ, c, h, hc, _ => ⟨δ, c, by rw [List.map_nil]; unfold loopGo; rw [if_pos (hc _ _ _ h)], h⟩
  | a :: r, δ, c, h, hc, st => by
    obtain ⟨δ1, δ2, c2, h1, h2, h3⟩ := st a r δ c h
    obtain ⟨δ', c', k1, k2⟩ := loop_typed I h3 hc st
    refine ⟨δ', c', ?_, k2⟩
    rw [List.map_cons]
    unfold loopGo
    rw [if_pos (hc _ _ _ h), h1]
    dsimp only
    rcases h2 with h2 | h2 <;> rw [h2] <;> exact k1
theorem ixD_lst {l : List D} {i : Nat} {d : D} {c : Cells} (h : l[i]? = some d) : ixD (.lst l) (.int (i : Nat)) c = .ok d c := by
  unfold ixD
  dsimp only [items]
  rw [atI_nat h]
theorem ixD_tup {l : List D} {i : Nat} {d : D} {c : Cells} (h : l[i]? = some d) : ixD (.tup l) (.int (i : Nat)) c = .ok d c := by
  unfold ixD
  dsimp only [items]
  rw [atI_nat h]
theorem ixD_cell {l : List D} {i j : Nat} {d : D} {c : Cells} (hc : c[j]? = some (.lst l)) (h : l[i]? = some d) : ixD (.cell j) (.int (i : Nat)) c = .ok d c := by
  unfold ixD
  dsimp only [items]
  rw [hc]
  dsimp only
  rw [atI_nat h]
theorem ixX_of {d i : D} {c : Cells} (h : dicOf c d = none) : ixX d i c = ixD d i c := by
  unfold ixX
  rw [h]
/-! ### entries sorted by their names -/
def nodeOf {α : Type} [Inhabited α] (es : List (Str × α)) (n : Str) : α := ((es.filter fun e => e.1 == n).head?.map (·.2)).getD default
def sortE {α : Type} [Inhabited α] (es : List (Str × α)) : List (Str × α) := (sortS (es.map (·.1))).map fun n => (n, nodeOf es n)
section
variable {α : Type} [Inhabited α]
theorem filter_one : ∀ {es : List (Str × α)} {e : Str × α}, (es.map (·.1)).Nodup → e ∈ es → (es.filter fun x => x.1 == e.1) = [e]
  | [], _, _, h => by cases h
  | a :: r, e, hn, h => by
    rw [List.map_cons, List.nodup_cons] at hn
    rcases List.mem_cons.mp h with rfl | h
    · rw [List.filter_cons_of_pos (by simp)]
      congr 1
      rw [List.filter_eq_nil_iff]
      intro x hx hxe
      exact hn.1 (List.mem_map.mpr ⟨x, hx, by simpa using hxe⟩)
    · have hne : ¬ (a.1 == e.1) = true := fun z => hn.1 (by rw [eq_of_beq z]; exact List.mem_map.mpr ⟨e, h, rfl⟩)
      rw [List.filter_cons, if_neg hne]
      exact filter_one hn.2 h
theorem nodeOf_mem {es : List (Str × α)} {e : Str × α} (hn : (es.map (·.1)).Nodup) (h : e ∈ es) : nodeOf es e.1 = e.2 := by
  unfold nodeOf
  rw [filter_one hn h]
  rfl
theorem sortE_perm {es : List (Str × α)} (hn : (es.map (·.1)).Nodup) : (sortE es).Perm es := by
  unfold sortE
  have h1 : ((sortS (es.map (·.1))).map fun n => (n, nodeOf es n)).Perm ((es.map (·.1)).map fun n => (n, nodeOf es n)) := (sortS_perm _).map _
  refine h1.trans ?_
  rw [List.map_map]
  have : es.map ((fun n => (n, nodeOf es n)) ∘ (·.1)) = es := by
    conv => rhs; rw [← List.map_id es]
    refine List.map_congr_left fun e he => ?_
    show (e.1, nodeOf es e.1) = e
    rw [nodeOf_mem hn he]
  rw [this]
theorem sortE_names {es : List (Str × α)} : (sortE es).map (·.1) = sortS (es.map (·.1)) := by
  unfold sortE
  rw [List.map_map]
  exact List.map_id _
theorem sortE_len {es : List (Str × α)} : (sortE es).length = es.length := by
  unfold sortE
  rw [List.length_map, (sortS_perm _).length_eq, List.length_map]
end
end Nw

set_option Elab.async false
set_option linter.all false
set_option maxRecDepth 100000
set_option maxHeartbeats 4000000
/-! Nw31: the head's questions over the few objects that they need. -/
namespace Nw
open PySem PySem.Spec
open PyProof.Rows hiding St
open L2
def isC (g : Addr → Option Obj) (a : Addr) : Bool := match g a with
  | some o => (match o.data with
    | .cls _ => true
    | _ => false)
  | none => false
def isFn (g : Addr → Option Obj) (a : Addr) : Bool := match g a with
  | some o => (match o.data with
    | .func _ => true
    | _ => false)
  | none => false
def refsA (g : Addr → Option Obj) (l : List Addr) : List Addr := l.flatMap fun a => match g a with
  | some o => He.refsD o
  | none => []
def asS2 (g : Addr → Option Obj) (a1 cs ns : List Addr) : List Addr :=
  (fun fs : List Addr => mainGlobals :: (cs ++ (ns ++ (fs ++ refsA g fs)))) (a1.filter (isFn g) ++ (refsA g ns).filter (isFn g))
def asS1 (g : Addr → Option Obj) (a1 cs : List Addr) : List Addr := asS2 g a1 cs (refsA g cs)
def asS (g : Addr → Option Obj) (extra : List Addr) : List Addr := (fun a1 : List Addr => asS1 g a1 (a1.filter (isC g))) (refsA g (mainGlobals :: extra))
def obsSG (fa : List He.Fa) (ck : List Ck) (fn : List He.DefD) (g : Addr → Option Obj) : He.AlD := obsN fa ck fn (He.frG g (asS g []))
def hookS (fa : List He.Fa) (ck : List Ck) (fn : List He.DefD) : PySem.W.Hook where
  α := He.AlD
  obs := fun s => obsSG fa ck fn s.heap.get?
  val := fun _ => He.valD fn
  says := fun _ h => ∃ K : Frag, K.In h ∧ SaysN fa ck fn K
  of := fun _ _ e => ⟨_, He.frG_in, e⟩
  keeps := fun _ _ _ ⟨K, hK, c⟩ k => ⟨K, PySem.W.Frag.In.keeps hK k, c⟩
theorem obsSG_eq {fa : List He.Fa} {ck : List Ck} {fn : List He.DefD} {g : Addr → Option Obj} {s : Shared} (h : ∀ a, g a = s.heap.get? a) : obsSG fa ck fn g = (hookS fa ck fn).obs s := by
  have e : g = s.heap.get? := funext h
  rw [e] <;> rfl
def KT (s : PySem.W.SharedT) : Frag := He.frG (HandSHeadRun.getT s) (asS (HandSHeadRun.getT s) [])
def asqF (l : List He.Fa) (s : PySem.W.SharedT) : Bool := l.all fun f => f.ok (KT s)
def asqC (l : List Ck) (s : PySem.W.SharedT) : Bool := l.all fun f => f.ok (KT s)
def asqD (l : List He.DefD) (s : PySem.W.SharedT) : He.AlD := (l.all fun d => d.ok (KT s), l.map fun d => He.fnW (KT s) d.at_)
theorem run_joinS {γ : Type} {E : Option PySem.W.SharedT} {A : PySem.W.SharedT → Bool} {B : PySem.W.SharedT → γ} {good : γ} {fas : List (List He.Fa)} {cks : List (List Ck)} {fns : List (List He.DefD)}
    (h0 : E.map (fun s => (A s, B s)) = some (true, good)) (h1 : ∀ l ∈ fas, E.map (asqF l) = some true) (h2 : ∀ l ∈ cks, E.map (asqC l) = some true) (h3 : ∀ l ∈ fns, E.map (asqD l) = some (He.valD l)) :
    E.map (fun s => (A s, B s, obsSG fas.flatten cks.flatten fns.flatten (HandSHeadRun.getT s))) = some (true, good, He.valD fns.flatten) := by
  obtain ⟨s, rfl, e0⟩ := map_of h0
  have k1 : (fas.flatten.all fun f => f.ok (KT s)) = true := all_flat fun l hl => Option.some.inj (h1 l hl)
  have k2 : (cks.flatten.all fun f => f.ok (KT s)) = true := all_flat fun l hl => Option.some.inj (h2 l hl)
  have k3 : (fns.flatten.all fun f => f.ok (KT s)) = true := all_flat fun l hl => congrArg Prod.fst (Option.some.inj (h3 l hl))
  have k4 : fns.flatten.map (fun d => He.fnW (KT s) d.at_) = fns.flatten.map He.DefD.val := map_flat fun l hl => congrArg Prod.snd (Option.some.inj (h3 l hl))
  have e1 : obsSG fas.flatten cks.flatten fns.flatten (HandSHeadRun.getT s) = He.valD fns.flatten := by
    show ((((fas.flatten.all fun f => f.ok (KT s)) && (cks.flatten.all fun f => f.ok (KT s))) && fns.flatten.all fun d => d.ok (KT s)), fns.flatten.map fun d => He.fnW (KT s) d.at_) = _
    rw [k1, k2, k3, k4]
    rfl
  rw [Option.map_some, e1]
  injection e0 with a b
  rw [a, b]
end Nw

set_option Elab.async false
set_option linter.all false
set_option maxRecDepth 100000
set_option maxHeartbeats 4000000
/-! Nw32: str of a number. -/
namespace Nw
open PySem PySem.Spec
open PyProof.Rows hiding St
open L2
section
variable {X : Cx}
def strD (ds : List D) (c : Cells) : Out D := match ds with
  | [.int i] => if i.natAbs.log2 < 1920 then .ok (.str (Str.ofString (toString i))) c else .bad
  | _ => .bad
theorem cs_str : CallS X (.type "str") strD := by
  refine ⟨_, call_str_int, fun Z W R F c σ H vs ds Q w r h => ?_⟩
  unfold strD at h
  split at h
  · cases r with
    | cons r t =>
      cases t
      cases r
      split at h
      · rename_i hz
        exact ⟨_, rfl, hz, h.ok w _ (.str _)⟩
      · exact h.elim
  · exact h.elim
end
end Nw

set_option Elab.async false
set_option linter.all false
set_option maxRecDepth 100000
set_option maxHeartbeats 4000000
/-! Nw33: sorted of pairs of an int and a text. -/
namespace Nw
open PySem PySem.Spec
open PyProof.Rows hiding St
open L2
variable [TheW]

/-! ### the order -/
def ltQ (p q : Int × Str) : Bool := if p.1 = q.1 then ltS p.2 q.2 else decide (p.1 < q.1)
def leQ (p q : Int × Str) : Bool := !ltQ q p
theorem ltS_leS {x y : Str} : ltS x y = false ↔ leS y x = true := by
  unfold leS
  cases ltS x y <;> simp
theorem leQ_iff {p q : Int × Str} : leQ p q = true ↔ p.1 < q.1 ∨ (p.1 = q.1 ∧ leS p.2 q.2 = true) := by
  unfold leQ ltQ
  by_cases e : q.1 = p.1
  · rw [if_pos e, Bool.not_eq_true', ltS_leS]
    constructor
    · exact fun h => .inr ⟨e.symm, h⟩
    · rintro (h | h)
      · omega
      · exact h.2
  · rw [if_neg e, Bool.not_eq_true', decide_eq_false_iff_not]
    constructor
    · exact fun h => .inl (by omega)
    · rintro (h | h)
      · omega
      · exact absurd h.1.symm e
theorem leQ_total (p q : Int × Str) : leQ p q = true ∨ leQ q p = true := by
  rw [leQ_iff, leQ_iff]
  rcases Int.lt_trichotomy p.1 q.1 with h | h | h
  · exact .inl (.inl h)
  · rcases leS_total p.2 q.2 with k | k
    · exact .inl (.inr ⟨h, k⟩)
    · exact .inr (.inr ⟨h.symm, k⟩)
  · exact .inr (.inl h)
theorem leQ_trans {p q r : Int × Str} (h1 : leQ p q = true) (h2 : leQ q r = true) : leQ p r = true := by
  rw [leQ_iff] at h1 h2 ⊢
  rcases h1 with h1 | ⟨h1, k1⟩
  · rcases h2 with h2 | ⟨h2, k2⟩
    · exact .inl (by omega)
    · exact .inl (by omega)
  · rcases h2 with h2 | ⟨h2, k2⟩
    · exact .inl (by omega)
    · exact .inr ⟨by omega, leS_trans k1 k2⟩
theorem leQ_anti {p q : Int × Str} (h1 : leQ p q = true) (h2 : leQ q p = true) : p = q := by
  rw [leQ_iff] at h1 h2
  obtain ⟨a, b⟩ := p
  obtain ⟨c, d⟩ := q
  dsimp only at h1 h2
  rcases h1 with h1 | ⟨h1, k1⟩
  · omega
  · rcases h2 with h2 | ⟨h2, k2⟩
    · omega
    · rw [h1, leS_anti k1 k2]
theorem swoQ {α : Type} (k : α → Int × Str) : SrtO.Swo fun v u => ltQ (k v) (k u) := by
  have key : ∀ p q : Int × Str, ltQ p q = false ↔ leQ q p = true := fun p q => by
    unfold leQ
    cases ltQ p q <;> simp
  refine ⟨fun x y h => ?_, fun x y z h1 h2 => ?_⟩
  · show ltQ (k y) (k x) = false
    have h : ltQ (k x) (k y) = true := h
    rw [key]
    rcases leQ_total (k x) (k y) with e | e
    · exact e
    · rw [← key, h] at e
      cases e
  · have h1 : ltQ (k y) (k x) = false := h1
    have h2 : ltQ (k z) (k y) = false := h2
    show ltQ (k z) (k x) = false
    rw [key] at h1 h2 ⊢
    exact leQ_trans h1 h2
def insQ (x : Int × Str) : List (Int × Str) → List (Int × Str)
  | [] => [x]
  | y :: r => if leQ x y = true then x :: y :: r else y :: insQ x r
def sortQ : List (Int × Str) → List (Int × Str)
  | [] => []
  | x :: r => insQ x (sortQ r)
theorem insQ_perm (x : Int × Str) : ∀ l : List (Int × Str), (insQ x l).Perm (x :: l)
  | [] => List.Perm.refl _
  | y :: r => by
    unfold insQ
    split
    · exact List.Perm.refl _
    · exact ((insQ_perm x r).cons y).trans (List.Perm.swap x y r)
theorem sortQ_perm : ∀ l : List (Int × Str), (sortQ l).Perm l
  | [] => List.Perm.refl _
  | x :: r => (insQ_perm x (sortQ r)).trans ((sortQ_perm r).cons x)
theorem insQ_sorted (x : Int × Str) : ∀ l : List (Int × Str), l.Pairwise (fun a b => leQ a b = true) → (insQ x l).Pairwise (fun a b => leQ a b = true)
  | [], _ => by unfold insQ; simp
  | y :: r, h => by
    rw [List.pairwise_cons] at h
    unfold insQ
    split
    · rename_i hx
      refine List.pairwise_cons.mpr ⟨fun z hz => ?_, List.pairwise_cons.mpr h⟩
      rcases List.mem_cons.mp hz with rfl | hz
      · exact hx
      · exact leQ_trans hx (h.1 z hz)
    · rename_i hx
      refine List.pairwise_cons.mpr ⟨fun z hz => ?_, insQ_sorted x r h.2⟩
      rcases List.mem_cons.mp ((insQ_perm x r).mem_iff.mp hz) with rfl | hz
      · rcases leQ_total z y with e | e
        · exact absurd e hx
        · exact e
      · exact h.1 z hz
theorem sortQ_sorted : ∀ l : List (Int × Str), (sortQ l).Pairwise (fun a b => leQ a b = true)
  | [] => List.Pairwise.nil
  | x :: r => insQ_sorted x _ (sortQ_sorted r)
theorem sortedQ_one : ∀ {l m : List (Int × Str)}, l.Pairwise (fun a b => leQ a b = true) → m.Pairwise (fun a b => leQ a b = true) → l.Perm m → l = m
  | [], m, _, _, p => by rw [List.nil_perm.mp p]
  | x :: l, [], _, _, p => by cases (List.perm_nil.mp p)
  | x :: l, y :: m, h1, h2, p => by
    rw [List.pairwise_cons] at h1 h2
    have hx : x ∈ y :: m := p.mem_iff.mp List.mem_cons_self
    have hy : y ∈ x :: l := p.mem_iff.mpr List.mem_cons_self
    have e : x = y := by
      rcases List.mem_cons.mp hx with e | hx
      · exact e
      · rcases List.mem_cons.mp hy with e | hy
        · exact e.symm
        · exact leQ_anti (h1.1 y hy) (h2.1 x hx)
    subst e
    rw [sortedQ_one h1.2 h2.2 ((List.perm_cons x).mp p)]
theorem sortQ_one {l m : List (Int × Str)} (h : m.Pairwise (fun a b => leQ a b = true)) (p : m.Perm l) : m = sortQ l := sortedQ_one h (sortQ_sorted l) (p.trans (sortQ_perm l).symm)
end Nw

/-! ### in the model -/
namespace SrtQ
open PySem PySem.Spec PyProof.Rows SrtO Nw
section
variable {prog : Program} {w : World} {A : Around} {s : Shared} {E : Value → Shared → Prop}
def IsPairQ (h : Heap) (v : Value) (x : Int) (y : Str) : Prop := ∃ a o t u n, v = .ref a ∧ h.get? a = some o ∧ o.cls = .type "tuple" ∧ o.data = .seq #[.int x t, .str y u] n
theorem IsPairQ.keeps {h h' : Heap} {v : Value} {x : Int} {y : Str} (p : IsPairQ h v x y) (k : ∀ b o, h.get? b = some o → o.cls = .type "tuple" → h'.get? b = some o) : IsPairQ h' v x y := by
  obtain ⟨a, o, t, u, n, e, ho, hc, hd⟩ := p
  exact ⟨a, o, t, u, n, e, k _ _ ho hc, hc, hd⟩
theorem firsts_of {h : Heap} : ∀ {vs : List Value}, (∀ v ∈ vs, ∃ x y, IsPairQ h v x y) → ∃ fs : List Value, PySem.W.KatTups h vs fs ∧ fs.length = vs.length ∧ ∀ f ∈ fs, ∃ x t, f = Value.int x t
  | [], _ => ⟨[], PySem.W.KatTups.nil, rfl, fun _ hm => by simp at hm⟩
  | v :: vs, hp => by
    obtain ⟨fs, h1, h2, h3⟩ := firsts_of (vs := vs) fun v' hm => hp v' (List.mem_cons_of_mem _ hm)
    obtain ⟨x, y, a, o, t, u, n, e, ho, hc, hd⟩ := hp v (List.mem_cons_self ..)
    subst e
    refine ⟨.int x t :: fs, PySem.W.KatTups.cons ho hc hd rfl h1, by rw [List.length_cons, List.length_cons, h2], fun f hm => ?_⟩
    rcases List.mem_cons.mp hm with rfl | hm
    · exact ⟨x, t, rfl⟩
    · exact h3 f hm
theorem pair_cmpQ {vs : List Value} {k : Value → Int × Str} (hp : ∀ v ∈ vs, IsPairQ s.heap v (k v).1 (k v).2) : Cmp prog w A s (tuples' true) (fun p => p.1 ∈ vs) (lt2 fun v u => ltQ (k v) (k u)) := by
  intro p q hm hm'
  have h1 := hp _ hm
  have h2 := hp _ hm'
  show wpAny (model prog w) A (keyLt' (tuples' true) p.1 q.1) (fun r s' => s' = s ∧ r = ltQ (k p.1) (k q.1)) (fun _ _ => False) s
  unfold ltQ
  generalize (k p.1).1 = x at h1 ⊢
  generalize (k p.1).2 = y at h1 ⊢
  generalize (k q.1).1 = x' at h2 ⊢
  generalize (k q.1).2 = y' at h2 ⊢
  obtain ⟨a, o, t, u, n, e, ho, hc, hd⟩ := h1
  obtain ⟨a', o', t', u', n', e', ho', hc', hd'⟩ := h2
  rw [e, e']
  refine PySem.W.kat_lt ho hd ho' hd' ?_
  show PySem.W.KatLex prog w A true (decide (2 < 2)) _ [(.int x t, .int x' t'), (.str y u, .str y' u')] 0 s
  refine PySem.W.kat_cons (SeqAt.EqAt.int_int x t x' t' prog w _ _ ?_)
  refine PySem.W.kat_go (fun e1 => ?_) (fun e1 => ?_)
  · have ex : x = x' := by simpa using e1
    refine PySem.W.kat_yes (PySem.W.kat_cons (SeqAt.EqAt.str_str y u y' u' prog w _ _ ?_))
    refine PySem.W.kat_go (fun e2 => ?_) (fun e2 => ?_)
    · have ey : y = y' := by simpa using e2
      have e3 : (if x = x' then ltS y y' else decide (x < x')) = false := by
        rw [if_pos ex, ey, ltS_leS]
        exact (leS_total y' y').elim id id
      exact PySem.W.kat_yes (PySem.W.kat_nil ⟨rfl, e3.symm⟩)
    · have e3 : (if x = x' then ltS y y' else decide (x < x')) = decide (y.cps.toList < y'.cps.toList) := by
        rw [if_pos ex]
        exact ltCps_eq _ _
      refine PySem.W.kat_no (PySem.W.kat_one _ _ (PyProof.Rows.lt_str ?_))
      exact (show s = s ∧ decide (y.cps.toList < y'.cps.toList) = (if x = x' then ltS y y' else decide (x < x')) from ⟨rfl, e3.symm⟩)
  · have ex : ¬ x = x' := by simpa using e1
    have e3 : (if x = x' then ltS y y' else decide (x < x')) = decide (x < x') := if_neg ex
    exact PySem.W.kat_no (oneLt_int ⟨rfl, e3.symm⟩)
theorem pairs_sortableQ {a : Addr} {vs : List Value} {k : Value → Int × Str} (h0 : 0 < vs.length) (hp : ∀ v ∈ vs, IsPairQ s.heap v (k v).1 (k v).2) (ha : ∀ o, s.heap.get? a = some o → o.cls ≠ .type "tuple") : SortableO prog w A s a vs fun v u => ltQ (k v) (k u) := by
  intro h' keep
  have hp' : ∀ v ∈ vs, IsPairQ h' v (k v).1 (k v).2 := fun v hm => (hp v hm).keeps fun b o e c => keep b o (fun z => by subst z; exact ha o e c) e
  obtain ⟨fs, h1, h2, h3⟩ := firsts_of fun v hm => ⟨_, _, hp' v hm⟩
  refine ⟨tuples' true, fun Q E hq => ?_, pair_cmpQ hp'⟩
  refine PySem.W.kat_kind (T := .type "int") h1 (by omega) (fun f hm => ?_) (by rfl) ?_
  · obtain ⟨x, t, rfl⟩ := h3 f hm
    exact PySem.W.Looks.now
  · have e : (Value.type "int" != Value.type "tuple") = true := by first | decide +kernel | rfl | decide
    rw [e]
    exact hq
theorem sorted_pairsQ {l : Addr} {vs : List Value} {k : Value → Int × Str} {Q : Value → Shared → Prop} (hl : s.heap.IsList l vs.toArray) (hz : vs.length ≤ sizeLine) (hp : ∀ v ∈ vs, IsPairQ s.heap v (k v).1 (k v).2)
    (h : ∀ (h' : Heap) (d : Addr) (out : List Value), Srtd (fun v u => ltQ (k v) (k u)) out → Stb (fun v u => ltQ (k v) (k u)) out vs → (∀ b o, s.heap.get? b = some o → h'.get? b = some o) → s.heap.objs.size ≤ d → (∃ n, h'.get? d = some (seqObj "list" out.toArray n)) → Q (.ref d) { s with heap := h' }) :
    wpAny (model prog w) A (call (.builtin "sorted") [.ref l]) Q E s := by
  refine sorted_ord (swoQ k) hl hz (fun h2 h₁ a ha kk => ?_) fun out hs hb => ?_
  · refine pairs_sortableQ (s := { s with heap := h₁ }) (by omega) (fun v hm => (hp v hm).keeps fun b o e _ => (kk b o e).2) fun o e => ?_
    have e' : some o = some (seqObj "list" vs.toArray 0) := e.symm.trans ha
    cases e'
    intro c
    exact absurd (Value.type.inj c) (by decide)
  · exact h _ _ out hs hb (fun b o e => sortedAll_old e) (Nat.le_succ _) (sortedAll_at s.heap vs out.toArray)
end
end SrtQ

/-! ### as a rule -/
namespace Nw
open PySem PySem.Spec
open PyProof.Rows hiding St
open L2
variable [TheW]
def rSortedQ (K : PySem.W.Frag) : List V → Hp → VK → Prop := fun vs H Q => ∃ (a : Addr) (zs : List (V × (Int × Str))), vs = [V.ref a] ∧ SqL K H a (zs.map (·.1)) ∧ (∀ z ∈ zs, ∃ t, z.1 = V.ref t ∧ SqT K H t [.int z.2.1, .str z.2.2]) ∧
  ∀ (zs' : List (V × (Int × Str))) p, (zs'.map (·.2)).Pairwise (fun a b => leQ a b = true) → zs'.Perm zs → H p = none → Q (.ref p) (upd H p (.lst (zs'.map (·.1))))
section
variable {X : Cx}
open Classical in
theorem cr_sortedQ : CallR X (.builtin "sorted") (rSortedQ X.K) := by
  intro pins s σ H vs us Q I r h
  obtain ⟨a, zs, rfl, hs, hx, q⟩ := h
  obtain ⟨its, rv, hl, hz⟩ := I.list hs
  obtain ⟨u, rfl, ru⟩ := vals1 r
  obtain rfl : u = Value.ref a := ru
  obtain ⟨k, hk⟩ : ∃ k : V → Int × Str, ∀ z ∈ zs, k z.1 = z.2 := by
    refine ⟨fun x => if h : ∃ p, (x, p) ∈ zs then Classical.choose h else (0, ("" : Str)), fun z hzz => ?_⟩
    have h : ∃ p, (z.1, p) ∈ zs := ⟨z.2, hzz⟩
    dsimp only
    rw [dif_pos h]
    have hc := Classical.choose_spec h
    obtain ⟨t, e, ht⟩ := hx z hzz
    obtain ⟨t', e', ht'⟩ := hx _ hc
    dsimp only at e' ht'
    rw [e] at e'
    cases e'
    have := I.tuple_inj ht ht'
    simp only [List.cons.injEq, V.int.injEq, V.str.injEq, and_true] at this
    exact Prod.ext this.1.symm this.2.symm
  have hxs : ∀ x ∈ zs.map (·.1), ∃ t, x = V.ref t ∧ SqT X.K H t [.int (k x).1, .str (k x).2] := fun x hm => by
    obtain ⟨z, hzm, rfl⟩ := List.mem_map.mp hm
    rw [hk z hzm]
    exact hx z hzm
  have ez : zs = (zs.map (·.1)).map fun x => (x, k x) := by
    rw [List.map_map]
    conv => lhs; rw [← List.map_id zs]
    refine List.map_congr_left fun z hzm => ?_
    show z = (z.1, k z.1)
    rw [hk z hzm]
  obtain ⟨e1, e2⟩ := refs_back rv fun x m => by
    obtain ⟨t, e, _⟩ := hxs x m
    exact ⟨t, e⟩
  refine SrtQ.sorted_pairsQ (k := fun u => k (backV u)) hl.isList (by rw [← rv.length]; exact hz) (fun v hv => ?_) fun h' d out h1 h2 kp hd hn => ?_
  · obtain ⟨t, rfl⟩ := e2 v hv
    have hm : V.ref t ∈ zs.map (·.1) := by rw [e1]; exact List.mem_map.mpr ⟨_, hv, rfl⟩
    obtain ⟨t', e, ht⟩ := hxs _ hm
    cases e
    obtain ⟨its2, r2, ⟨o, ho, hc, n, hd⟩, _⟩ := I.tuple ht
    obtain ⟨u1, u2, rfl, ri, rj⟩ := vals2 r2
    obtain ⟨t1, rfl⟩ := ri
    obtain ⟨t2, rfl⟩ := rj
    exact ⟨t, o, t1, t2, n, rfl, ho, hc, hd⟩
  · have h3 : ∀ u ∈ out, ∃ a, u = Value.ref a := fun u hu => e2 u (h2.perm.mem_iff.mp hu)
    obtain ⟨n, hn⟩ := hn
    have hb : (out.map backV).Perm (zs.map (·.1)) := by
      rw [e1]
      exact h2.perm.map _
    have hb2 : ((out.map backV).map fun x => (x, k x)).Perm zs := by
      conv => rhs; rw [ez]
      exact hb.map _
    have em : ((out.map backV).map fun x => (x, k x)).map (·.1) = out.map backV := by
      rw [List.map_map]
      conv => rhs; rw [← List.map_id (out.map backV)]
      rfl
    have fin := q ((out.map backV).map fun x => (x, k x)) d (by
      rw [List.map_map, List.map_map]
      refine List.pairwise_map.mpr (h1.imp fun {u v} hh => ?_)
      show leQ (k (backV u)) (k (backV v)) = true
      unfold leQ
      have hh : ltQ (k (backV v)) (k (backV u)) = false := hh
      rw [hh]
      rfl) hb2 (I.hok.fresh hd)
    rw [em] at fin
    refine ⟨.ref d, upd H d (.lst (out.map backV)), I.laid (t' := s.toks) kp hd ⟨?_, out, n, vals_back h3, hn⟩, rfl, fin⟩
    rw [hb.length_eq]
    exact hz
end
def pairQ (p : Int × Str) : D := .tup [.int p.1, .str p.2]
def allPair : List D → Option (List (Int × Str))
  | [] => some []
  | .tup [.int i, .str x] :: r => (allPair r).map ((i, x) :: ·)
  | _ :: _ => none
theorem allPair_map : ∀ ps : List (Int × Str), allPair (ps.map pairQ) = some ps
  | [] => rfl
  | (i, x) :: r => by
    show (allPair (r.map pairQ)).map ((i, x) :: ·) = _
    rw [allPair_map r]
    rfl
theorem pair_rel {K : Frag} {R : List Addr} {F : Hp} : ∀ {vs : List V} {ds : List D} {ps : List (Int × Str)}, RelL K R F vs ds → allPair ds = some ps → ∃ zs : List (V × (Int × Str)), zs.map (·.1) = vs ∧ zs.map (·.2) = ps ∧ ∀ z ∈ zs, Rel K R F z.1 (pairQ z.2) ∧ ∃ t, z.1 = V.ref t ∧ SqT K F t [.int z.2.1, .str z.2.2]
  | _, _, _, .nil, h => by cases h; exact ⟨[], rfl, rfl, fun _ h => by cases h⟩
  | _, _, ps, .cons (v := v) (d := .tup [.int i, .str x]) (ds := l) r t, h => by
    have h : (allPair l).map ((i, x) :: ·) = some ps := h
    cases q : allPair l with
    | none => rw [q] at h; cases h
    | some cs =>
      rw [q] at h
      cases h
      obtain ⟨zs, h1, h2, h3⟩ := pair_rel t q
      refine ⟨(v, (i, x)) :: zs, by rw [List.map_cons, h1], by rw [List.map_cons, h2], fun z hz => ?_⟩
      rcases List.mem_cons.mp hz with rfl | hz
      · refine ⟨r, ?_⟩
        cases r with
        | tup ht l =>
          cases l with
          | cons r1 l1 =>
            cases l1 with
            | cons r2 l2 =>
              cases l2
              cases r1
              cases r2
              exact ⟨_, rfl, ht⟩
      · exact h3 z hz
theorem relL_pairs {K : Frag} {R : List Addr} {F : Hp} : ∀ {zs : List (V × (Int × Str))}, (∀ z ∈ zs, Rel K R F z.1 (pairQ z.2)) → RelL K R F (zs.map (·.1)) ((zs.map (·.2)).map pairQ)
  | [], _ => .nil
  | z :: r, h => .cons (h z List.mem_cons_self) (relL_pairs fun y hy => h y (List.mem_cons_of_mem _ hy))
section
variable {X : Cx} {W : WX}
/-- sorted(a list of pairs of an int and a text) -/
def sortedQD (new : List D → Cells → Out D) (ds : List D) (c : Cells) : Out D := match ds with
  | [d] => match lstOf c d with
    | some l => (match allPair l with
      | some ps => new ((sortQ ps).map pairQ) c
      | none => .bad)
    | none => .bad
  | _ => .bad
theorem cs_sortedQ {new : List D → Cells → Out D} (hn : NewL X new) : CallS X (.builtin "sorted") (sortedQD new) := by
  refine ⟨_, cr_sortedQ, fun Z W R F c σ H vs ds Q w r h => ?_⟩
  unfold sortedQD at h
  split at h
  · obtain ⟨v, e1, rr⟩ : ∃ v, vs = [v] ∧ Rel X.K R F v _ := by
      cases r with
      | cons r t => cases t; exact ⟨_, rfl, r⟩
    subst e1
    split at h
    · rename_i l hl
      obtain ⟨a, us, rfl, q1, rl⟩ := w.list rr hl
      split at h
      · rename_i ps hx
        obtain ⟨zs, z1, z2, z3⟩ := pair_rel rl hx
        subst z1
        refine ⟨a, zs, rfl, q1, fun z hz => ?_, fun zs' p hs hp n => ?_⟩
        · obtain ⟨_, t, e, ht⟩ := z3 z hz
          exact ⟨t, e, ht.ext w.same⟩
        · have e2 : zs'.map (·.2) = sortQ ps := sortQ_one hs (by rw [← z2]; exact hp.map _)
          rw [← e2] at h
          exact (hn Z W R F σ c H _ _ Q w (relL_pairs fun z hz => (z3 z (hp.mem_iff.mp hz)).1) h).2 p n
      · exact h.elim
    · exact h.elim
  · exact h.elim
end
section
variable {i : Nat}
theorem ind_and {m n : Addr → Option Addr → Str → ME} (h : IndE i m) (h2 : IndE i n) : IndE i (fun a x k => mAnd (m a x k) (n a x k)) := fun k ns ds δ c a x => by
  show ((m a x k _ c).bind asB).bind _ = ((m 0 none k _ c).bind asB).bind _
  rw [h k ns ds δ c a x]
  congr 1
  funext b c1
  rw [h2 k ns ds δ c1 a x]
theorem ind_isi {ts : List Ty} {f : Ty → Bool} {m : Addr → Option Addr → Str → ME} (h : IndE i m) : IndE i (fun a x k => mIsi ts f (m a x k)) := fun k ns ds δ c a x => by
  show (m a x k _ c).bind _ = (m 0 none k _ c).bind _
  rw [h k ns ds δ c a x]
end
/-! == of plain data where an error is handled -/
section
variable {X : Cx}
theorem os_eqH {k : Nat} {A : Around} (hr : Room k A) (hA : X.A.units = A.units) : OpS X (compareOp .Eq) (eqO eqP) := by
  have hu : X.A.units + 64 < cLine := by rw [hA]; exact hr.units
  refine ⟨fun x y H Q => ∃ (Z : Hp) (R : List Addr) (F : Hp) (c : Cells) (d e : D) (Q' : Bool → Hp → Prop), Wd X.K Z R F c H ∧ Rel X.K R F x d ∧ Rel X.K R F y e ∧ Aft X.K Z W0 R F [] (eqP d e c) (QB Q') ∧ ∀ b H', Q' b H' → Q (.bl b) H', ?_, ?_⟩
  · rintro pins s σ H x y u v Q I ru rv ⟨Z, R, F, c, d, e, Q', w, rx, ry, q, hQ⟩
    show wpAny (model X.prog X.w) X.A (richCompare .Eq u v) (EP X pins σ Q) X.xe s
    have main : wpAny (model X.prog X.w) X.A (richCompare .Eq u v) (fun r s' => ∃ b H', r = .bool b ∧ Inv X pins σ H' s' ∧ Q' b H') X.xe s := by
      unfold eqP at q
      split at q
      · rename_i p p' h1 h2
        split at q
        · rename_i hs
          obtain ⟨as, k1⟩ := Dp.reads I p x u (dp_of w 60 x d p rx h1) ru
          obtain ⟨bs, k2⟩ := Dp.reads I p' y v (dp_of w 60 y e p' ry h2) rv
          exact SeqAt.compareEq_shaped k1 k2 hs.1 hs.2 hu ⟨_, H, rfl, I, q.ok w⟩
        · exact q.elim
      · exact q.elim
    refine wpAny_mono main (fun r s' z => ?_) fun _ _ z => z
    obtain ⟨b, H', rfl, I', q2⟩ := z
    exact ⟨.bl b, H', I', rfl, hQ b H' q2⟩
  · intro Z W R F c σ H x y d e Q w rx ry q
    refine ⟨Z, R, F, c, d, e, fun b H' => Q (.bl b) H', w, rx, ry, ?_, fun _ _ z => z⟩
    unfold eqO at q
    cases o : eqP d e c with
    | ok b c1 => rw [o] at q; exact fun R' F' H' p ef w' => q R' F' H' p ef w' _ (.bl b)
    | exc => rw [o] at q; exact q.elim
    | bad => rw [o] at q; exact q.elim
end
end Nw

set_option Elab.async false
set_option linter.all false
set_option maxRecDepth 100000
set_option maxHeartbeats 4000000
/-! Nw34: list.index of flat items, list.remove of plain data. -/
namespace Nw
open PySem PySem.Spec
open PyProof.Rows hiding St
open L2
variable [TheW]
section
variable {X : Cx}
def indexD (d : D) (ds : List D) (c : Cells) : Out D := match ds with
  | [y] => (match lstOf c d with
    | some l => if flatD y = true ∧ l.all flatD = true then (match l.findIdx? (fun e => eqFl e y) with
      | some j => .ok (.int (j : Nat)) c
      | none => .bad) else .bad
    | none => .bad)
  | _ => .bad
theorem ms_index : MtS X "list.index" indexD := by
  refine ⟨_, mt_index, fun Z W R F c σ H x d vs ds Q w rx rv h => ?_⟩
  unfold indexD at h
  split at h
  · rename_i y
    obtain ⟨u, e1, ru⟩ : ∃ u, vs = [u] ∧ Rel X.K R F u y := by
      cases rv with
      | cons r t => cases t; exact ⟨_, rfl, r⟩
    subst e1
    split at h
    · rename_i l hl
      obtain ⟨a, us, rfl, q1, rl⟩ := w.list rx hl
      split at h
      · rename_i hf
        split at h
        · rename_i j hj
          obtain ⟨h1, h2, h3⟩ := List.findIdx?_eq_some_iff_getElem.mp hj
          obtain ⟨z, hz, rz⟩ := rl.get (List.getElem?_eq_getElem h1)
          refine ⟨a, us, u, j, z, rfl, rfl, q1, by rw [flat_rel ru]; exact hf.1, by rw [allFlat_rel rl]; exact hf.2, hz, by rw [eqFl_rel rz ru]; exact h2, fun m z' hm hz' => ?_, h.ok w _ (.int _)⟩
          have hml : m < l.length := by omega
          obtain ⟨z2, hz2, rz2⟩ := rl.get (List.getElem?_eq_getElem hml)
          rw [hz'] at hz2
          cases hz2
          rw [eqFl_rel rz2 ru]
          exact Bool.eq_false_iff.mpr (h3 m hm)
        · exact h.elim
      · exact h.elim
    · exact h.elim
  · exact h.elim
/-- o.remove(y), plain data -/
def rRemove (K : PySem.W.Frag) : V → List V → Hp → VK → Prop := fun x vs H Q => ∃ (l : Addr) (xs : List V) (y : V) (p : PyData) (ps : List PyData) (j : Nat), x = .ref l ∧ vs = [y] ∧ H l = some (.lst xs) ∧ Dp K H y p ∧ p.depth ≤ 64 ∧ ps.length = xs.length ∧
  (∀ (m : Nat) v q, xs[m]? = some v → ps[m]? = some q → Dp K H v q ∧ PySem.W.alike q p = true) ∧ (∃ q, ps[j]? = some q ∧ PyData.eqv q p = true) ∧ (∀ (m : Nat) q, m < j → ps[m]? = some q → PyData.eqv q p = false) ∧ Q .non (upd H l (.lst (xs.eraseIdx j)))
open Classical in
theorem mt_remove {k : Nat} (hr : Room k X.A) : MtR X "list.remove" (rRemove X.K) := by
  intro pins s σ H x vs v us Q I rx rv h
  obtain ⟨l, xs, y, p, ps, j, rfl, rfl, hH, hy, hdp, hlen, hps, ⟨qj, hqj, hj⟩, hno, q⟩ := h
  cases rx
  obtain ⟨u, rfl, ru⟩ := rv.one
  obtain ⟨z, its, n, r, hl, e⟩ := I.lstM hH
  obtain ⟨bs, kb⟩ := Dp.reads I p y u hy ru
  have rd : ∀ m : Nat, m < its.length → ∃ v w q as, xs[m]? = some v ∧ its[m]? = some w ∧ ps[m]? = some q ∧ Reads s.heap w q as ∧ PySem.W.alike q p = true := fun m hm => by
    have h1 : m < xs.length := by omega
    obtain ⟨w, hw, rw'⟩ := r.get (List.getElem?_eq_getElem h1)
    have h2 : ps[m]? = some ps[m] := List.getElem?_eq_getElem (by omega)
    obtain ⟨d, a⟩ := hps m _ _ (List.getElem?_eq_getElem h1) h2
    obtain ⟨as, ka⟩ := Dp.reads I _ _ w d rw'
    exact ⟨_, w, _, as, List.getElem?_eq_getElem h1, hw, h2, ka, a⟩
  obtain ⟨f, hf⟩ : ∃ f : Value → Bool, ∀ w q as, Reads s.heap w q as → f w = PyData.eqv q p := by
    refine ⟨fun w => if h : ∃ q as, Reads s.heap w q as then PyData.eqv (Classical.choose h) p else false, fun w q as hw => ?_⟩
    have h : ∃ q as, Reads s.heap w q as := ⟨q, as, hw⟩
    dsimp only
    rw [dif_pos h]
    obtain ⟨as', hc⟩ := Classical.choose_spec h
    rw [(Reads.unique hc q as hw).1]
  have at_ : ∀ (m : Nat) (hm : m < its.toArray.size) q, ps[m]? = some q → f its.toArray[m] = PyData.eqv q p := fun m hm q hq => by
    have hm2 : m < its.length := by simpa using hm
    obtain ⟨v, w, q', as, _, hw, hq', hrd, _⟩ := rd m hm2
    rw [hq] at hq'
    cases hq'
    have : its.toArray[m] = w := by
      have := List.getElem?_eq_getElem hm2
      rw [hw] at this
      cases this
      rfl
    rw [this]
    exact hf w q as hrd
  have hjl : j < its.length := by
    have := (List.getElem?_eq_some_iff.mp hqj).1
    omega
  have hjs : j < its.toArray.size := by simpa using hjl
  refine call_meets PySem.F.slot_list_remove ⟨_, e, rfl⟩ PySem.F.entry_list_remove (PySem.F.args_list_remove_2 _ _)
    (SeqAt.list_removeAt l its.toArray n none #[] u f j hjs (by rw [at_ j hjs qj hqj]; exact hj) (fun m hm hmj => ?_) (by rw [List.size_toArray]; omega)) ⟨e, fun w hw => ?_, ?_⟩
  · have hm2 : m < its.length := by simpa using hm
    have h2 : ps[m]? = some ps[m] := List.getElem?_eq_getElem (by omega)
    rw [at_ m hm _ h2]
    exact hno m _ hmj h2
  · obtain ⟨m, hm, hmw⟩ := Array.getElem_of_mem hw
    have hm2 : m < its.length := by simpa using hm
    obtain ⟨v, w', q', as, _, hw', hq', hrd, al⟩ := rd m hm2
    have : w = w' := by
      have := List.getElem?_eq_getElem hm2
      rw [hw'] at this
      cases this
      rw [← hmw]
      rfl
    subst this
    rw [hf w q' as hrd]
    exact PySem.W.eqAt_alike q' p _ _ _ _ _ _ hrd kb al (by
      have := hr.un
      show X.A.units + 1 + min q'.depth p.depth < cLine
      omega)
  · refine ⟨.non, _, I.lset (its' := its.eraseIdx j) hH e ?_ (r.eraseIdx j) ?_, rfl, q⟩
    · show its.toArray.eraseIdxIfInBounds j = (its.eraseIdx j).toArray
      rw [List.eraseIdxIfInBounds_toArray]
    · have := List.length_eraseIdx_le xs j
      omega
theorem mapM_get {f : D → Option PyData} : ∀ {l : List D} {ps : List PyData}, l.mapM f = some ps → ps.length = l.length ∧ ∀ (m : Nat) d, l[m]? = some d → ∃ q, ps[m]? = some q ∧ f d = some q
  | [], ps, h => by
    cases h
    exact ⟨rfl, fun m d h => by cases h⟩
  | x :: r, ps, h => by
    rw [List.mapM_cons] at h
    cases hx : f x with
    | none => rw [hx] at h; cases h
    | some q =>
      rw [hx] at h
      cases hr : r.mapM f with
      | none => rw [hr] at h; cases h
      | some qs =>
        rw [hr] at h
        cases h
        obtain ⟨h1, h2⟩ := mapM_get hr
        refine ⟨by rw [List.length_cons, List.length_cons, h1], fun m d hd => ?_⟩
        cases m with
        | zero =>
          cases hd
          exact ⟨q, rfl, hx⟩
        | succ m => exact h2 m d hd
def removeD (d : D) (ds : List D) (c : Cells) : Out D := match d, ds with
  | .cell i, [y] => (match c[i]? with
    | some (.lst l) => (match pyD c 60 y, l.mapM (pyD c 60) with
      | some p, some ps => if p.depth ≤ 64 ∧ ps.all (fun q => PySem.W.alike q p) = true then (match ps.findIdx? (fun q => PyData.eqv q p) with
        | some j => .ok .non (c.set i (.lst (l.eraseIdx j)))
        | none => .bad) else .bad
      | _, _ => .bad)
    | _ => .bad)
  | _, _ => .bad
theorem ms_remove {k : Nat} (hr : Room k X.A) : MtS X "list.remove" removeD := by
  refine ⟨_, mt_remove hr, fun Z W R F c σ H x d vs ds Q w rx rv h => ?_⟩
  unfold removeD at h
  split at h
  · rename_i i y
    obtain ⟨u, e1, ru⟩ : ∃ u, vs = [u] ∧ Rel X.K R F u y := by
      cases rv with
      | cons r t => cases t; exact ⟨_, rfl, r⟩
    subst e1
    cases rx with
    | cell hR =>
      split at h
      · rename_i l hl
        split at h
        · rename_i p ps hp hps
          split at h
          · rename_i hc
            split at h
            · rename_i j hj
              obtain ⟨us, q, rl⟩ := w.atList hR hl
              obtain ⟨h1, h2, h3⟩ := List.findIdx?_eq_some_iff_getElem.mp hj
              obtain ⟨m1, m2⟩ := mapM_get hps
              refine ⟨_, us, u, p, ps, j, rfl, rfl, q, dp_of w 60 u y p ru hp, hc.1, by rw [m1, rl.length], fun m v pq hv hq => ?_, ⟨ps[j], List.getElem?_eq_getElem h1, h2⟩, fun m pq hm hq => ?_, h _ _ _ (List.prefix_refl _) (Same.refl _) (w.write hR (.lst (rl.eraseIdx j)) (w.at0 hR hl)) _ .non⟩
              · have hml : m < l.length := by
                  have := (List.getElem?_eq_some_iff.mp hq).1
                  omega
                obtain ⟨v2, hv2, rv2⟩ := rl.get (List.getElem?_eq_getElem hml)
                rw [hv] at hv2
                cases hv2
                obtain ⟨q2, hq2, hf⟩ := m2 m _ (List.getElem?_eq_getElem hml)
                rw [hq] at hq2
                cases hq2
                exact ⟨dp_of w 60 v _ pq rv2 hf, List.all_eq_true.mp hc.2 pq (List.mem_of_getElem? hq)⟩
              · have hml : m < ps.length := (List.getElem?_eq_some_iff.mp hq).1
                have e2 : ps[m] = pq := (List.getElem?_eq_some_iff.mp hq).2
                rw [← e2]
                exact Bool.eq_false_iff.mpr (h3 m hm)
            · exact h.elim
          · exact h.elim
        · exact h.elim
      · exact h.elim
  · exact h.elim
end
end Nw

set_option Elab.async false
set_option linter.all false
set_option maxRecDepth 100000
set_option maxHeartbeats 4000000
/-! Nw35: zip of two tuples, d.get(k, x). -/
namespace Nw
open PySem PySem.Spec
open PyProof.Rows hiding St
open L2
variable [TheW]
/-! ### d.get(k, x) -/
def mGet (mo mk mx : ME) : ME := fun δ c => (mo δ c).bind fun d c1 => match dicOf c1 d with
  | some _ => (mk δ c1).bind fun y c2 => (mx δ c2).bind fun z c3 => (match dicOf c3 d with
    | some q => (match keyOf y with
      | some k => .ok ((valD k q.1 q.2).getD z) c3
      | none => .bad)
    | none => .bad)
  | none => .bad
theorem valV_none {k : Key} : ∀ {ks : List Key} {vs : List V}, ks.length = vs.length → hasK k ks = false → valV (ks.zip vs) k = none := fun {ks} {vs} h q => by
  have := valV_has (k := k) h
  rw [q] at this
  cases e : valV (ks.zip vs) k with
  | none => rfl
  | some v => rw [e] at this; cases this
section
variable {X : Cx} {W : WX} {o e f : Expr} {apos cpos : Pos} {mo me mf : ME}
theorem de_get {k : Nat} (hr : Room k X.A) (ho : DE X W o mo) (he : DE X W e me) (hf : DE X W f mf) (m : M2 X o "get" apos e f cpos := by exact ⟨rfl, rfl, rfl, rfl⟩) : DE X W (.Call (.Attribute o "get" apos) [e, f] [] cpos) (mGet mo me mf) := by
  obtain ⟨t1, p1, s1⟩ := ho.ex
  obtain ⟨t2, p2, s2⟩ := he.ex
  obtain ⟨t3, p3, s3⟩ := hf.ex
  refine ⟨_, pe_dget2 (by have := hr.units; omega) p1 p2 p3 m, fun Z R F δ c σ H Q w rs h => ?_⟩
  unfold mGet at h
  refine s1 Z R F δ c σ H _ w rs ((Aft.bind h).imp ?_)
  rintro R1 F1 d c1 H1 q1 e1 w1 ⟨_, _, _, h1⟩ x rx
  split at h1
  · rename_i q hq
    obtain ⟨ks, ds⟩ := q
    obtain ⟨a, vs, rfl, ha, hl, rl⟩ := w1.dict rx hq
    refine ⟨a, rfl, .inl ⟨_, .inl ha⟩, ?_⟩
    refine s2 Z R1 F1 δ c1 σ H1 _ w1 (rs.mono q1 e1) ((Aft.bind h1).imp ?_)
    rintro R2 F2 y c2 H2 q2 e2 w2 ⟨_, _, _, h2⟩ u ru
    refine s3 Z R2 F2 δ c2 σ H2 _ w2 ((rs.mono q1 e1).mono q2 e2) ((Aft.bind h2).imp ?_)
    rintro R3 F3 z c3 H3 q3 e3 w3 ⟨_, _, _, h3⟩ v rv
    split at h3
    · rename_i q' hq'
      obtain ⟨ks', ds'⟩ := q'
      obtain ⟨a', vs', ea, ha', hl', rl'⟩ := w3.dict ((rx.mono q2 e2).mono q3 e3) hq'
      cases ea
      split at h3
      · rename_i k hk
        have ek : u = kV k := keyOf_rel (ru.mono q3 e3) hk
        cases hv : valD k ks' ds' with
        | some w' =>
          obtain ⟨b, hb, rb⟩ := valD_some rl' hv
          refine ⟨some b, ?_, h3.ok w3 b (by show Rel X.K R3 F3 b ((valD k ks' ds').getD z); rw [hv]; exact rb)⟩
          rw [ek, ← hb]
          exact DGet.k ha'
        | none =>
          refine ⟨none, ?_, h3.ok w3 v (by show Rel X.K R3 F3 v ((valD k ks' ds').getD z); rw [hv]; exact rv)⟩
          rw [ek, ← valV_none hl' (valD_none (by rw [hl', rl'.length]) hv)]
          exact DGet.k ha'
      · exact h3.elim
    · exact h3.elim
  · exact h1.elim
end
/-! ### zip of two tuples -/
def zipL (l m : List D) : List D := List.zipWith (fun a b => .tup [a, b]) l m
def zipSeq (ds : List D) (c : Cells) : Out Seq := match ds with
  | [.tup l, .tup m] => .ok ⟨zipL l m, fun _ => true⟩ c
  | _ => .bad
def mZip (ms : MA) : En → Cells → Out Seq := fun δ c => (ms δ c).bind zipSeq
theorem zipL_get : ∀ {l m : List D} {k : Nat} {d : D}, (zipL l m)[k]? = some d → ∃ a b, l[k]? = some a ∧ m[k]? = some b ∧ d = .tup [a, b]
  | [], _, k, d, h => by simp [zipL] at h
  | _ :: _, [], k, d, h => by simp [zipL] at h
  | a :: l, b :: m, 0, d, h => by simp [zipL] at h; exact ⟨a, b, rfl, rfl, h.symm⟩
  | a :: l, b :: m, k + 1, d, h => by
    obtain ⟨x, y, h1, h2, h3⟩ := zipL_get (l := l) (m := m) (k := k) (by simpa [zipL] using h)
    exact ⟨x, y, by simpa using h1, by simpa using h2, h3⟩
theorem zipL_len {l m : List D} : (zipL l m).length = min l.length m.length := by
  unfold zipL
  rw [List.length_zipWith]
section
variable {K : Frag} {Z : Hp} {R : List Addr} {F : Hp} {a b : Addr} {vs us : List V} {ds es : List D}
theorem its_zipT (h : SqT K F a vs) (l : RelL K R F vs ds) (h2 : SqT K F b us) (l2 : RelL K R F us es) (P : Cells → Bool) : ItS K Z R F (RZ.ItzT K a b) ⟨zipL ds es, P⟩ := by
  intro Z' k R' F' c H zz p e w _
  have q : SqT K H a vs := (h.ext e).ext w.same
  have q2 : SqT K H b us := (h2.ext e).ext w.same
  refine ⟨fun d hd => ?_, fun hk => ⟨vs, us, q, q2, by
    have hk : (zipL ds es).length ≤ k := hk
    rw [zipL_len, ← l.length, ← l2.length] at hk
    omega⟩⟩
  obtain ⟨d0, e0, hd0, he0, rfl⟩ := zipL_get hd
  obtain ⟨v, hv, rv⟩ := l.get hd0
  obtain ⟨u, hu, ru⟩ := l2.get he0
  refine ⟨⟨vs, us, v, u, q, q2, hv, hu⟩, fun x H' y => ?_⟩
  obtain ⟨T, x', y', rfl, n, rfl, hx, hy⟩ := y
  have g1 := hx vs q
  have g2 := hy us q2
  rw [hv] at g1
  rw [hu] at g2
  cases g1
  cases g2
  obtain ⟨w2, s2⟩ := w.frozen n (.tup [v, u])
  exact ⟨_, s2, w2, .tup (SqT.of upd_same) (.cons ((rv.mono p e).mono (List.prefix_refl _) s2) (.cons ((ru.mono p e).mono (List.prefix_refl _) s2) .nil))⟩
end
theorem di_zip {X : Cx} {W : WX} {e e2 : Expr} {ms : MA} {p pos tpos : Pos} {elts : List Expr} {kk : Nat} (hm : X.mg "zip" = none) (ha : DA X W [e, e2] ms) (hg : Gl X "zip" := by rfl)
    (hs : starEach [e, e2] X.env = (false, eval e X.env) :: starEach [e2] X.env := by rfl) (hpl : (backTo pos (starEach [e2] X.env)).any (·.1) = false := by rfl) :
    DI X W (.Tuple elts kk tpos) (.Call (.Name "zip" p) [e, e2] [] pos) (mZip ms) := by
  obtain ⟨t, pa, sa⟩ := ha.ex
  refine ⟨_, RZ.pi_zipA hg hm pa hs hpl, fun Z R F δ c σ H Q w rs h => ?_⟩
  unfold mZip at h
  refine sa Z R F δ c σ H _ w rs ((Aft.bind h).imp ?_)
  rintro R1 F1 ds c1 H1 q1 e1 w1 ⟨_, _, _, h1⟩ vs rv
  unfold zipSeq at h1
  split at h1
  · rename_i l m
    obtain ⟨d, d', e', r1, r2⟩ : ∃ v u, vs = [v, u] ∧ Rel X.K R1 F1 v (.tup l) ∧ Rel X.K R1 F1 u (.tup m) := by
      cases rv with
      | cons r t =>
        cases t with
        | cons r2 t2 => cases t2; exact ⟨_, _, rfl, r, r2⟩
    subst e'
    cases r1 with
    | tup hq rl =>
      cases r2 with
      | tup hq' rl' => exact ⟨_, _, _, _, rfl, .inr ⟨hq.ext w1.same, hq'.ext w1.same, h1.ok w1 _ (its_zipT hq rl hq' rl' _)⟩⟩
  · exact h1.elim
end Nw

set_option Elab.async false
set_option linter.all false
set_option maxRecDepth 100000
set_option maxHeartbeats 4000000
/-! Nw38: the head in four runs. -/
namespace Nw
open PySem PySem.Spec
open PyProof.Rows hiding St
open L2
theorem run_join4 {γ : Type} {E : Option PySem.W.SharedT} {A : PySem.W.SharedT → Bool} {B : PySem.W.SharedT → γ} {good : γ} {fa : List He.Fa} {ck : List Ck} {fn : List He.DefD}
    (h0 : E.map (fun s => (A s, B s)) = some (true, good)) (h1 : E.map (asqF fa) = some true) (h2 : E.map (asqC ck) = some true) (h3 : E.map (asqD fn) = some (He.valD fn)) :
    E.map (fun s => (A s, B s, obsSG fa ck fn (HandSHeadRun.getT s))) = some (true, good, He.valD fn) := by
  obtain ⟨s, rfl, e0⟩ := map_of h0
  have k1 : (fa.all fun f => f.ok (KT s)) = true := Option.some.inj h1
  have k2 : (ck.all fun f => f.ok (KT s)) = true := Option.some.inj h2
  have k3 : (fn.all fun f => f.ok (KT s)) = true := congrArg Prod.fst (Option.some.inj h3)
  have k4 : fn.map (fun d => He.fnW (KT s) d.at_) = fn.map He.DefD.val := congrArg Prod.snd (Option.some.inj h3)
  have e1 : obsSG fa ck fn (HandSHeadRun.getT s) = He.valD fn := by
    show ((((fa.all fun f => f.ok (KT s)) && (ck.all fun f => f.ok (KT s))) && fn.all fun d => d.ok (KT s)), fn.map fun d => He.fnW (KT s) d.at_) = _
    rw [k1, k2, k3, k4]
    rfl
  rw [Option.map_some, e1]
  injection e0 with a b
  rw [a, b]
end Nw

set_option Elab.async false
set_option linter.all false
set_option maxRecDepth 100000
set_option maxHeartbeats 4000000
/-! Nw39: f-strings, the first and the rest of a list, the number with a text. -/
namespace Nw
open PySem PySem.Spec
open PyProof.Rows hiding St
open L2
variable [TheW]
section
variable {X : Cx} {W : WX} {pos : Pos}
/-! ### {x} and f'..' -/
def fmtGo (d : D) (c : Cells) : Out D := match d with
  | .str y => if y.length ≤ sizeLine then .ok (.str y) c else .bad
  | .int i => if i.natAbs.log2 < 1920 then .ok (.str (Str.ofString (toString i))) c else .bad
  | _ => .bad
def mFmt (m : ME) : ME := fun δ c => (m δ c).bind fmtGo
theorem de_fmt {e : Expr} {m : ME} (he : DE X W e m) : DE X W (.FormattedValue e (-1) none pos) (mFmt m) := by
  obtain ⟨t, p, s⟩ := he.ex
  refine ⟨_, pe_fmt p, fun Z R F δ c σ H Q w rs h => s Z R F δ c σ H _ w rs ((Aft.bind h).imp ?_)⟩
  rintro R1 F1 d c1 H1 p1 e1 w1 ⟨_, _, _, h1⟩ v rv
  unfold fmtGo at h1
  split at h1
  · cases rv
    split at h1
    · rename_i hz
      exact .inl ⟨_, rfl, hz, h1.ok w1 _ (.str _)⟩
    · exact h1.elim
  · cases rv
    split at h1
    · rename_i hz
      exact .inr ⟨_, rfl, hz, h1.ok w1 _ (.str _)⟩
    · exact h1.elim
  · exact h1.elim
def joinGo : List ME → Str → En → Cells → Out D
  | [], acc, _, c => .ok (.str acc) c
  | m :: ms, acc, δ, c => (m δ c).bind fun d c1 => match d with
    | .str y => if (acc ++ y).length ≤ sizeLine then joinGo ms (acc ++ y) δ c1 else .bad
    | _ => .bad
def mJoin (ms : List ME) : ME := joinGo ms Str.empty
inductive DJ (X : Cx) (W : WX) : List Expr → List ME → Prop where
  | nil : DJ X W [] []
  | cons {e : Expr} {m : ME} {es : List Expr} {ms : List ME} (h : DE X W e m) (r : DJ X W es ms) : DJ X W (e :: es) (m :: ms)
theorem dj_read {es : List Expr} {ms : List ME} (h : DJ X W es ms) : ∃ ts, PJ X es ts ∧ ∀ (Z : Hp) (R : List Addr) (F : Hp) (δ : En) (c : Cells) (σ : St) (H : Hp) (Q : VK) (acc : Str), Wd X.K Z R F c H → RelS X.K R F δ σ → Aft X.K Z W R F σ (joinGo ms acc δ c) (QV X.K Q) → tJs ts acc σ H fun out H1 => Q (.str out) H1 := by
  induction h with
  | nil => exact ⟨[], .nil, fun Z R F δ c σ H Q acc w rs h => h.ok w _ (.str _)⟩
  | @cons e m es ms he r ih =>
    obtain ⟨t, p, s⟩ := he.ex
    obtain ⟨ts, ps, ss⟩ := ih
    refine ⟨t :: ts, .cons p ps, fun Z R F δ c σ H Q acc w rs h => s Z R F δ c σ H _ w rs ((Aft.bind h).imp ?_)⟩
    rintro R1 F1 d c1 H1 p1 e1 w1 ⟨_, _, _, h1⟩ v rv
    split at h1
    · cases rv
      split at h1
      · rename_i hz
        exact ⟨_, rfl, hz, ss Z R1 F1 δ c1 σ H1 Q _ w1 (rs.mono p1 e1) h1⟩
      · exact h1.elim
    · exact h1.elim
theorem de_joined {v1 v2 : Expr} {rest : List Expr} {ms : List ME} (h : DJ X W (v1 :: v2 :: rest) ms) : DE X W (.JoinedStr (v1 :: v2 :: rest) pos) (mJoin ms) := by
  obtain ⟨ts, p, s⟩ := dj_read h
  exact ⟨_, pe_joined p, fun Z R F δ c σ H Q w rs h => s Z R F δ c σ H Q _ w rs h⟩
/-! ### the number with a text -/
def intTD (ds : List D) (c : Cells) : Out D := match ds with
  | [.int i] => .ok (.int i) c
  | [.bl k] => .ok (.int (if k then 1 else 0)) c
  | [.str a] => (match PySem.intText? a with
    | some n => if a.length ≤ 640 then .ok (.int n) c else .bad
    | none => .bad)
  | _ => .bad
theorem cs_intT : CallS X (.type "int") intTD := by
  refine ⟨_, CallR.or call_int1 call_int_str, fun Z W R F c σ H vs ds Q w r h => ?_⟩
  unfold intTD at h
  split at h
  · cases r with
    | cons r t =>
      cases t
      cases r
      exact .inl (.inl ⟨_, rfl, h.ok w _ (.int _)⟩)
  · cases r with
    | cons r t =>
      cases t
      cases r
      exact .inl (.inr ⟨_, rfl, h.ok w _ (.int _)⟩)
  · cases r with
    | cons r t =>
      cases t
      cases r
      split at h
      · rename_i n hn
        split at h
        · rename_i hz
          exact .inr ⟨_, _, rfl, hn, hz, h.ok w _ (.int _)⟩
        · exact h.elim
      · exact h.elim
  · exact h.elim
end
/-! ### a, *b = a list -/
section
variable {prog : Program} {w : World} {A : Around} {E : Value → Shared → Prop} {s : Shared}
open PySem.W in
theorem starG {l : Addr} {items : Array Value} {n i : Nat} {Q : List Value → Shared → Prop} (hl : s.heap.IsList l items) (hh : A.handled = none) (hi : i < n) (hn : n ≤ items.size + 1) (hz : items.size ≤ sizeLine)
    (h : ∀ (h' : Heap) tk, (∀ b o, s.heap.get? b = some o → h'.get? b = some o) → Q (items.toList.take i ++ [.ref h'.objs.size] ++ (items.toList.drop i).drop (items.size + 1 - n)) { s with heap := h'.push { cls := .type "list", data := .seq ((items.toList.drop i).take (items.size + 1 - n)).toArray }, toks := tk }) : wpAny (model prog w) A (unpackItems (.ref l) n (some i)) Q E s := by
  have hlt : l ≠ s.heap.objs.size := by obtain ⟨o, ho, _⟩ := hl; exact Nat.ne_of_lt (Heap.lt_size ho)
  have hll : l < s.heap.objs.size := by obtain ⟨o, ho, _⟩ := hl; exact Heap.lt_size ho
  unfold unpackItems
  refine wpAny_bind ?_
  unfold notIterableAtAll
  refine wpAny_bind (wpAny_specialOf hl.typeIs slot_list_iter.lookup ?_)
  refine wpAny_pure ?_
  simp only [Bool.false_eq_true, if_false]
  refine wpAny_bind (wpAny_holding (wpAny_pyIter_list hl ?_))
  refine wpAny_bind (wpAny_holding (kun_draw hlt i 0 _ _ ⟨_, Heap.get?_push_size _ rfl, rfl, rfl⟩ (hl.push _) (by omega) fun h₁ hit₁ hs₁ => ?_))
  have hl₁ : h₁.IsList l items := (hl.push _).extBut hs₁.extBut hlt
  rw [Nat.zero_add] at hit₁
  have hit₁' := hit₁
  obtain ⟨oi, hoi, _⟩ := hit₁'
  have hl₁' := hl₁
  obtain ⟨ol, hol, _⟩ := hl₁'
  rw [List.drop_zero]
  have hfl : (items.toList.take i).length = i := by rw [List.length_take, Array.length_toList]; omega
  rw [if_neg (show ¬ ((items.toList.take i).length < i) by rw [hfl]; omega)]
  refine wpAny_bind (wpAny_holding (kun_collect (s := { s with heap := h₁ }) (T := "list_iterator") (.inr (.inr (.inl rfl))) (Walks.list (A := A.in1) hh s.heap.objs.size l hlt items) (fun j u st => st.1.typeIs) (k := i) (by omega) ⟨hit₁, hl₁⟩ (Heap.lt_size hoi) (Heap.lt_size hol) (fun h₂ tk hk => ?_) hz))
  have hrl : (items.toList.drop i).length = items.size - i := by rw [List.length_drop, Array.length_toList]
  have hmid : (items.toList.drop i).length - (n - 1 - i) = items.size + 1 - n := by rw [hrl]; omega
  show wpAny _ _ (if (items.toList.drop i).length < n - 1 - i then _ else _) _ _ _
  rw [if_neg (by rw [hrl]; omega)]
  show wpAny _ _ (newList ((items.toList.drop i).take ((items.toList.drop i).length - (n - 1 - i))) >>= fun d => pure (items.toList.take i ++ [d] ++ (items.toList.drop i).drop ((items.toList.drop i).length - (n - 1 - i)))) _ _ _
  rw [hmid]
  refine wpAny_bind (wpAny_newList ?_ (by rw [List.length_take, hrl]; omega))
  refine wpAny_pure (h h₂ tk fun b o e => ?_)
  have hb : b ≠ s.heap.objs.size := Nat.ne_of_lt (Heap.lt_size e)
  exact hk b o hb (hs₁.extBut b o hb (Heap.get?_push_of_some _ e))
end
section
variable {X : Cx} {W : WX} {pos : Pos}
def gStar (K : PySem.W.Frag) (g : TGs) : TG := fun v σ H Q => ∃ l x r, v = .ref l ∧ SqL K H l (x :: r) ∧ ∀ p, H p = none → g [x, .ref p] σ (upd H p (.lst r)) Q
theorem pg_star {a b : Expr} {ps : Pos} {k : Nat} {g : TGs} (hc : X.calm = true) (h : PGs X [a, b] g)
    (hn : (assignEach [a, .Starred b ps] X.env).length = 2 := by rfl) (hst : (assignEach [a, .Starred b ps] X.env).findIdx? (·.1) = some 1 := by rfl)
    (hs : (assignEach [a, .Starred b ps] X.env).map (·.2) = (assignEach [a, b] X.env).map (·.2) := by rfl) : PG X (.Tuple [a, .Starred b ps] k pos) (gStar X.K g) := by
  refine ⟨fun pins s σ H v u Q I r hw => ?_⟩
  obtain ⟨l, x, xs, e1, hq, hw⟩ := hw
  subst e1
  cases r
  obtain ⟨its, rv, hp, hz⟩ := I.list hq
  have hl : s.heap.IsList l its.toArray := by
    obtain ⟨o, n, e, c, _, d⟩ := hp
    exact ⟨o, e, c, n, d⟩
  cases rv with
  | @cons _ u0 _ us r0 rr =>
    have hlen : us.length = xs.length := rr.length.symm
    rw [assign_Tuple]
    refine wpAny_bind (wpAny_standAt ?_)
    unfold unpack
    rw [hn, hst, hs]
    refine wpAny_bind (wpAny_holding (starG hl (I.ok.hd hc) (by decide) (by simp) (by simpa [hlen] using hz) fun h' tk hk => ?_))
    have e1 : ((u0 :: us).toArray.toList.take 1 ++ [Value.ref h'.objs.size] ++ ((u0 :: us).toArray.toList.drop 1).drop ((u0 :: us).toArray.size + 1 - 2)) = [u0, .ref h'.objs.size] := by simp
    have e2 : (((u0 :: us).toArray.toList.drop 1).take ((u0 :: us).toArray.size + 1 - 2)) = us := by simp
    rw [e1, e2]
    have I1 : Inv X pins σ H { s with heap := h', toks := tk } := I.kept (t' := tk) hk
    have hf : H h'.objs.size = none := I1.hok.fresh (Nat.le_refl _)
    have I2 := I1.laid (t' := tk) (o := .lst xs) (fun b u e => Heap.get?_push_of_some { cls := .type "list", data := .seq us.toArray } e) (Nat.le_refl _) ⟨by simp at hz; omega, us, 0, rr, Heap.get?_push_size _ rfl⟩
    exact h.run pins _ σ _ [x, .ref h'.objs.size] [u0, .ref h'.objs.size] Q I2 (.cons r0 (.cons rfl .nil)) (hw _ hf)
def mStar (gs : MGs) (m : ME) : MS := fun δ c => (m δ c).fl δ fun d c1 => match lstOf c1 d with
  | some (x :: r) => (lstD r c1).fl δ fun l c2 => (match gs [x, l] δ with
    | some δ' => .nx δ' c2
    | none => .bad)
  | _ => .bad
theorem ds_star {a b e : Expr} {ps p2 : Pos} {k : Nat} {gs : MGs} {m : ME} {sl : List Nat} (hc : X.calm = true) (he : DE X W e m) (hg : DGs X [a, b] sl gs)
    (hs : swapsWithSole [.Tuple [a, .Starred b ps] k p2] e pos.line X.env = pure false := by rfl) (hw : swappedStores [.Tuple [a, .Starred b ps] k p2] e X.env = pure none := by rfl)
    (h1 : (assignEach [.Tuple [a, .Starred b ps] k p2] X.env).map (·.2) = [assign (.Tuple [a, .Starred b ps] k p2) X.env] := by rfl)
    (hn : (assignEach [a, .Starred b ps] X.env).length = 2 := by rfl) (hst : (assignEach [a, .Starred b ps] X.env).findIdx? (·.1) = some 1 := by rfl)
    (h2 : (assignEach [a, .Starred b ps] X.env).map (·.2) = (assignEach [a, b] X.env).map (·.2) := by rfl) : DS X W (.Assign [.Tuple [a, .Starred b ps] k p2] e pos) (mStar gs m) := by
  obtain ⟨t, p, s⟩ := he.ex
  obtain ⟨u, q, s2⟩ := hg.ex
  refine ⟨_, ps_asg p (pg_star hc q hn hst h2) hs hw h1, fun Z R F δ c σ H E w rs h => s Z R F δ c σ H _ w rs ((AftS.fl rs h).imp ?_)⟩
  rintro R1 F1 d c1 H1 p1 e1 w1 ⟨_, _, _, h1⟩ v rv
  split at h1
  · rename_i x r hl
    obtain ⟨l, vs, rfl, q1, r1⟩ := w1.list rv hl
    cases r1 with
    | @cons v0 _ vr _ r0 rr =>
      unfold lstD at h1
      split at h1
      · rename_i hz
        have h1 : AftS X.K Z W R1 F1 (match gs [x, .lst r] δ with
          | some δ' => .nx δ' c1
          | none => .bad) E := h1
        cases eg : gs [x, .lst r] δ with
        | none => rw [eg] at h1; exact h1.elim
        | some δ' =>
          rw [eg] at h1
          refine ⟨l, v0, vr, rfl, q1, fun p n => ?_⟩
          obtain ⟨w2, s3⟩ := w1.frozen n (.lst vr)
          have rx : RelL X.K R1 (upd F1 p (.lst vr)) [v0, .ref p] [x, .lst r] := .cons (r0.mono (List.prefix_refl _) s3) (.cons (.lst upd_same (rr.mono (List.prefix_refl _) s3)) .nil)
          exact s2 Z R1 _ δ c1 σ _ _ _ δ' _ w2 ((rs.mono p1 e1).mono (List.prefix_refl _) s3) rx eg fun σ' rs' _ => h1 R1 _ _ σ' (List.prefix_refl _) s3 w2 rs'
      · exact h1.elim
  · exact h1.elim
end
/-! ### str of a number or a text -/
section
variable {X : Cx}
def strXD (ds : List D) (c : Cells) : Out D := match ds with
  | [.int i] => if i.natAbs.log2 < 1920 then .ok (.str (Str.ofString (toString i))) c else .bad
  | [.str a] => .ok (.str a) c
  | _ => .bad
theorem cs_strX : CallS X (.type "str") strXD := by
  refine ⟨_, CallR.or call_str_int SkE.call_str_str, fun Z W R F c σ H vs ds Q w r h => ?_⟩
  unfold strXD at h
  split at h
  · cases r with
    | cons r t =>
      cases t
      cases r
      split at h
      · rename_i hz
        exact .inl ⟨_, rfl, hz, h.ok w _ (.str _)⟩
      · exact h.elim
  · cases r with
    | cons r t =>
      cases t
      cases r
      exact .inr ⟨_, rfl, h.ok w _ (.str _)⟩
  · exact h.elim
end
/-! ### C() where no class of the program says __init__ -/
structure MkO (K : Frag) (C : Addr) : Prop where
  makes : PySem.W.makesIn K C = true
  init : PySem.W.findIn K (.ref C) "__init__" = some (some (.builtin "object.__init__"))
  kp : PySem.W.keepIn K (.ref C) = true
theorem ck_mko {K : Frag} {x : Str} (c : (Ck.mko x).ok K = true) : MkO K (He.ga K x) := by
  obtain ⟨h1, h2⟩ := He.ba c
  obtain ⟨h2, h3⟩ := He.ba h2
  exact ⟨h1, He.eqO_ok h2, h3⟩
section
variable {X : Cx} {W : WX} {pos p : Pos} {x : Str} {C : Addr}
open PySem.W in
theorem mkO_run {pins : List (Addr × Obj)} {σ : St} {H : Hp} {s : Shared} {Q : VK} (M : MkO X.K C) (I : Inv X pins σ H s)
    (h : ∀ y dy, H y = none → H dy = none → dy ≠ y → Q (.ref y) (upd (upd H dy (.own y)) y (.ins C dy []))) :
    wpAny (model X.prog X.w) X.A (call (.ref C) []) (EP X pins σ Q) X.xe s := by
  have n0 := I.hok.fresh (Nat.le_refl s.heap.objs.size)
  have n1 := I.hok.fresh (Nat.le_succ s.heap.objs.size)
  have J := Inv.made (C := C) I
  have hq := h _ _ n1 n0 (Nat.ne_of_lt (Nat.lt_succ_self _))
  have X0 := I.kIn
  obtain ⟨hh, g, d, t, os⟩ := s
  have Y := makes_of (M := model X.prog X.w) X0 M.makes
  have e2 : ((hh.push emptyDict).push (instObj C hh.objs.size)).get? (hh.objs.size + 1) = some (instObj C hh.objs.size) := by
    have := Heap.get?_push_size (hh.push emptyDict) (o := instObj C hh.objs.size) rfl
    rwa [Heap.size_push] at this
  have t1 : Looks (model X.prog X.w) ((hh.push emptyDict).push (instObj C hh.objs.size)) (typeOf (.ref (hh.objs.size + 1))) (.ref C) := (Looks.ld e2).andThen .now
  have t2 : Looks (model X.prog X.w) ((hh.push emptyDict).push (instObj C hh.objs.size)) (isInstance (.ref (hh.objs.size + 1)) (.type "object")) true := t1.andThen (Y.top.keeps fun b o e => Heap.get?_push_of_some _ (Heap.get?_push_of_some _ e))
  refine wpAny_call (make_map0 X0 M.makes M.init (fun self => Looks.of_pure (oi_bind self)) ?_)
  refine codeAny_call_builtin oi_plain entry_oi (@check_slot (model X.prog X.w) _ _ _ "object.__init__" "object" "__init__" (.ref (hh.objs.size + 1)) [] [] _ oi_kind oi_split t2 (oi_args (.ref (hh.objs.size + 1))) ?_)
  rw [oi_run]
  exact wpAny_pure (And.intro rfl ⟨.ref (hh.objs.size + 1), _, J, rfl, hq⟩)
theorem pe_makeO (M : MkO X.K C) (hg : Gl X x) (hm : X.mg x = some (.ref C)) (hdb : (x == ("__debug__" : Str)) = false) :
    PE X (.Call (.Name x p) [] [] pos) (fun σ H Q => ∀ y dy, H y = none → H dy = none → dy ≠ y → Q (.ref y) (upd (upd H dy (.own y)) y (.ins C dy []))) :=
  ⟨fun pins s σ H Q I z => wpAny_Call_Name_kw (ld_glob I hg hm (PySem.W.callWith_K0 I.kIn M.kp (mkO_run M I z)) hdb)⟩
def mNone : MF := fun _ c => .ok .non c
theorem de_makeO (M : MkO X.K (He.ga X.K x)) (hm : X.mg x = some (.ref (He.ga X.K x))) (hg : Gl X x := by rfl) (hdb : (x == ("__debug__" : Str)) = false := by decide) : DE X W (.Call (.Name x p) [] [] pos) (mMake x mNone mNil) := by
  refine ⟨_, pe_makeO M hg hm hdb, fun Z R F δ c σ H Q w rs h y dy hy hdy ne => ?_⟩
  obtain ⟨Z1, R1, F1, c1, ds, w1, r1, a1⟩ := make_sp (vs := []) (ds := []) (m := mNone) w .nil h y dy hy hdy ne
  exact ((a1.ok w1) _ .non).2
end
end Nw

set_option Elab.async false
set_option linter.all false
set_option maxRecDepth 100000
set_option maxHeartbeats 4000000
/-! Nw40: how many texts a list has, each counted once: len(set(texts)). -/
namespace Nw
open PySem PySem.Spec
open PyProof.Rows hiding St
open L2
variable [TheW]
/-- the texts met, each once -/
def metS : List Str → List Str → List Str
  | acc, [] => acc
  | acc, x :: r => metS (if acc.any (· == x) = true then acc else acc ++ [x]) r
theorem metS_snoc (x : Str) : ∀ (l acc : List Str), metS acc (l ++ [x]) = if (metS acc l).any (· == x) = true then metS acc l else metS acc l ++ [x]
  | [], acc => rfl
  | y :: l, acc => by
    rw [List.cons_append]
    show metS (if acc.any (· == y) = true then acc else acc ++ [y]) (l ++ [x]) = _
    rw [metS_snoc x l]
    rfl
theorem metS_len : ∀ (l acc : List Str), (metS acc l).length ≤ acc.length + l.length
  | [], acc => Nat.le_refl _
  | y :: l, acc => by
    have := metS_len l (if acc.any (· == y) = true then acc else acc ++ [y])
    show (metS (if acc.any (· == y) = true then acc else acc ++ [y]) l).length ≤ _
    rw [List.length_cons]
    split at this <;> rename_i h
    · rw [if_pos h]
      omega
    · rw [if_neg h]
      rw [List.length_append, List.length_singleton] at this
      omega
section
variable {prog : Program} {w : World} {A : Around} {R : Result → Shared → Prop} {I : Addr} {fp wr : List Addr} {G : Array GenState → Array GenState → Prop} {n : Nat} {P : Nat → Value → Prop} {St : Nat → Shared → Prop}
theorem set_texts_loop (W : WalksS prog w A.in1 I fp wr G n P St) (S : Addr) (hSf : S ∉ fp) (xs : List Str) (hsz : xs.length = n) (hb : n + 1 < scanBound)
    (hval : ∀ i v, P i v → ∃ t, v = .str (xs.getD i Str.empty) t) :
    ∀ (k i : Nat) (s : Shared), n - i = k → i ≤ n → St i s →
      s.heap.SetOf (PySem.strKind prog w) S (fun k' => (metS [] (xs.take i)).any (· == k')) (metS [] (xs.take i)).length →
      (∀ s', Moved (S :: wr) G s s' → s'.heap.SetOf (PySem.strKind prog w) S (fun k' => (metS [] xs).any (· == k')) (metS [] xs).length → R (.ok (.ret .none)) s') →
      codeAny (model prog w) A (.builtin "set.update.loop" ⟨[.ref S, .ref I], []⟩) R s := by
  have hSw : S ∉ wr := fun h => hSf (W.sub _ h)
  have hsub : ∀ b ∈ wr, b ∈ S :: wr := fun b hb => List.mem_cons_of_mem _ hb
  intro k
  induction k with
  | zero =>
    intro i s hk hi hst hS hR
    have hin : i = n := by omega
    subst hin
    rw [List.take_of_length_le (by omega)] at hS
    refine codeAny_builtin PyProof.Rows.F.entry_set_update_loop ?_
    rw [Around.under_plainId PyProof.Rows.F.plain_set_update_loop _]
    show wpAny _ A.in1 (pyNext (.ref I) >>= _) _ _ s
    refine wpAny_bind (W.done s _ _ hst fun s' hm => ?_)
    show wpAny _ A.in1 (ret Value.none) _ _ s'
    exact wpAny_pure (hR s' (hm.mono hsub) (by
      obtain ⟨o, es, ep, t, ho, rest⟩ := hS
      exact ⟨o, es, ep, t, hm.heap S _ hSw ho, rest⟩))
  | succ k ih =>
    intro i s hk hi hst hS hR
    have hlt : i < n := by omega
    have hx : xs.getD i Str.empty = xs[i] := by rw [List.getD_eq_getElem?_getD, List.getElem?_eq_getElem (by omega)]; rfl
    have ht : xs.take (i + 1) = xs.take i ++ [xs.getD i Str.empty] := by rw [hx, List.take_append_getElem]
    have hml : (metS [] (xs.take i)).length ≤ i := by
      have h1 := metS_len (xs.take i) []
      have h2 := List.length_take_le i xs
      rw [List.length_nil] at h1
      omega
    refine codeAny_builtin PyProof.Rows.F.entry_set_update_loop ?_
    rw [Around.under_plainId PyProof.Rows.F.plain_set_update_loop _]
    show wpAny _ A.in1 (pyNext (.ref I) >>= _) _ _ s
    refine wpAny_bind (W.item i s _ _ hlt hst fun v s' hP hst' hm => ?_)
    obtain ⟨t, rfl⟩ := hval i v hP
    have hS' : s'.heap.SetOf (PySem.strKind prog w) S (fun k' => (metS [] (xs.take i)).any (· == k')) (metS [] (xs.take i)).length := by
      obtain ⟨o, es, ep, tb, ho, rest⟩ := hS
      exact ⟨o, es, ep, tb, hm.heap S _ hSw ho, rest⟩
    show wpAny _ A.in1 (holding [Value.str (xs.getD i Str.empty) t] (setAdd S (.str (xs.getD i Str.empty) t)) >>= _) _ _ s'
    refine wpAny_bind (wpAny_holding ?_)
    unfold setAdd
    refine wpAny_holding ?_
    refine wpAny_bind ((PySem.strKind prog w).pyHash (k := xs.getD i Str.empty) (strKind_is _ _ _ _) ?_)
    refine wpAny_setAddHashed_of (knd := PySem.strKind prog w) (s := { s' with toks := s'.toks + 1 }) (strKind_is _ _ _ _) rfl hS' (by omega) fun h' hsb hS2 => ?_
    have hSi : h'.SetOf (PySem.strKind prog w) S (fun k' => (metS [] (xs.take (i + 1))).any (· == k')) (metS [] (xs.take (i + 1))).length := by
      rw [ht, metS_snoc]
      obtain ⟨M, hM⟩ : ∃ M, M = metS [] (xs.take i) := ⟨_, rfl⟩
      obtain ⟨x, hxx⟩ : ∃ x, x = xs.getD i Str.empty := ⟨_, rfl⟩
      rw [← hM, ← hxx] at hS2 ⊢
      by_cases hh : M.any (· == x) = true
      · rw [if_pos hh]
        refine SetOf_congr hS2 (fun k' => ?_) (by rw [if_pos hh])
        show (M.any (· == k') || decide (k' = x)) = M.any (· == k')
        by_cases e : k' = x
        · subst e
          rw [hh, Bool.true_or]
        · rw [decide_eq_false e, Bool.or_false]
      · rw [if_neg hh]
        refine SetOf_congr hS2 (fun k' => ?_) (by rw [if_neg hh, List.length_append, List.length_singleton])
        show (M.any (· == k') || decide (k' = x)) = (M ++ [x]).any (· == k')
        rw [List.any_append]
        congr 1
        rw [List.any_cons, List.any_nil, Bool.or_false]
        by_cases e : k' = x
        · subst e
          rw [beq_self_eq_true]
          exact decide_eq_true rfl
        · rw [decide_eq_false e]
          exact (beq_eq_false_iff_ne.mpr fun z => e z.symm).symm
    refine wpAny_pure ⟨plainId_quiet PyProof.Rows.F.plain_set_update_loop _, ih (i + 1) _ (by omega) hlt (W.frame _ s' _ _ hst' (Nat.le_succ _) fun b hb o e => ?_) hSi fun s'' hm'' hS'' => ?_⟩
    · rw [hsb.2 b (fun h : b = S => hSf (by rw [← h]; exact hb))]; exact e
    · refine hR s'' (Moved.trans W.gtrans ((hm.mono hsub).then_heap (Nat.le_succ _) fun b o hb e => ?_) hm'') hS''
      rw [hsb.2 b (fun h : b = S => hb (by rw [h]; exact List.mem_cons_self))]; exact e
end
section
variable {prog : Program} {w : World} {A : Around} {E : Value → Shared → Prop} {s : Shared}
set_option maxHeartbeats 8000000 in
/-- set(texts), texts a list -/
theorem call_set_texts {l : Addr} {items : Array Value} {xs : List Str} {Q : Value → Shared → Prop}
    (hh : A.handled = none) (hl : s.heap.IsList l items) (hi : PyProof.Rows.StrsAre items.toList xs) (hn : xs.length + 1 < scanBound)
    (h : ∀ (h' : Heap) (tk : Nat), h'.SetOf (PySem.strKind prog w) s.heap.objs.size (fun k' => (metS [] xs).any (· == k')) (metS [] xs).length →
      (∀ b o, b < s.heap.objs.size → s.heap.get? b = some o → h'.get? b = some o) → Q (.ref s.heap.objs.size) { s with heap := h', toks := tk }) :
    wpAny (model prog w) A (call (.type "set") [.ref l]) Q E s := by
  obtain ⟨c, tl, hmro⟩ := PySem.F.called_set.mro
  have hmade := PySem.F.called_set.made
  have hsub := PySem.F.called_set.sub
  refine wpAny_call (codeAny_of_tree ?_)
  show wpAny _ _ (callAny (.type "set") _) _ _ _
  refine wpAny_pure ⟨Code.quiet_builtin _ (by decide +kernel), codeAny_builtin PySem.F.entry_type_call ?_⟩
  rw [Around.under_plain (weight_type_call_type "set" [.ref l] []) rfl]
  have h1 := PySem.F.called_set.notType
  have h2 := PySem.F.called_set.canCreate
  have hct := PySem.F.typeCall_set_1 (.ref l)
  repeat (any_goals (first | assumption | wp_step))
  refine codeAny_mono (code_set_new_1 (.ref l) (E := E) (Q₁ := fun obj s₁ => ∃ led : Bool, obj = .ref s.heap.objs.size ∧ s₁ = { s with heap := s.heap.push { cls := .type "set", dict := none, data := .set #[] 0 (.fresh 0 0 led) } }) fun led => ⟨led, rfl, rfl⟩) fun r s₁ hr => ?_
  cases r with
  | error e => exact hr
  | ok fl =>
    cases fl with
    | ret obj =>
      obtain ⟨led, rfl, rfl⟩ := hr
      have hS : (s.heap.push { cls := .type "set", dict := none, data := .set #[] 0 (.fresh 0 0 led) }).get? s.heap.objs.size = some { cls := .type "set", dict := none, data := .set #[] 0 (.fresh 0 0 led) } := Heap.get?_push_size _ rfl
      have hT : Shared.TypeIs { s with heap := s.heap.push { cls := .type "set", dict := none, data := .set #[] 0 (.fresh 0 0 led) } } (.ref s.heap.objs.size) "set" := ⟨_, hS, rfl⟩
      have hli := PySem.F.called_set.init.lookup
      have hbi := PySem.F.called_set.init.bind (.ref s.heap.objs.size)
      repeat (any_goals (first | assumption | wp_step))
      refine codeAny_mono (codeAny_call_builtin (R := wants (fun r s₂ => r = .none ∧ ∃ h' tk, s₂ = { s with heap := h', toks := tk } ∧
          h'.SetOf (PySem.strKind prog w) s.heap.objs.size (fun k' => (metS [] xs).any (· == k')) (metS [] xs).length ∧
          (∀ b o, b < s.heap.objs.size → s.heap.get? b = some o → h'.get? b = some o)) E) PySem.F.called_set.init.plain PySem.F.entry_set_init (check_set_init_1 hT ?_)) fun r₂ s₂ hr₂ => ?_
      · obtain ⟨ol, hol, hcl, nl, hdl⟩ := hl
        obtain ⟨ocls, odict, odata, oslots⟩ := ol
        simp only at hcl hdl
        subst hcl; subst hdl
        have hol' : (s.heap.push { cls := .type "set", dict := none, data := .set #[] 0 (.fresh 0 0 led) }).get? l = some { cls := .type "list", dict := odict, data := .seq items nl, slots := oslots } := Heap.get?_push_of_some _ hol
        have hsls := PySem.F.sub_list_set
        have hslf := PySem.F.sub_list_frozenset
        have hne : (Value.type "list" == Value.type "dict") = false := by decide
        have hl1 : (s.heap.push { cls := .type "set", dict := none, data := .set #[] 0 (.fresh 0 0 led) }).IsList l items := ⟨_, hol', rfl, nl, rfl⟩
        unfold Builtin.«set.__init__» noKeywords Builtin.Frozenset.updateFrom
        generalize hPI : pyIter = PI
        wp_walk
        subst hPI
        refine wpAny_pyIter_list hl1 ?_
        refine wpAny_bind (wpAny_runValue ?_)
        have hlS : l < s.heap.objs.size := Heap.lt_size hol
        have hh3 : A.in1.in1.in1.handled = none := by simp [hh]
        have hneI : l ≠ (s.heap.push { cls := .type "set", dict := none, data := .set #[] 0 (.fresh 0 0 led) }).objs.size := by
          rw [Heap.size_push]; exact Nat.ne_of_lt (Nat.lt_succ_of_lt hlS)
        have hSf : s.heap.objs.size ∉ [(s.heap.push { cls := .type "set", dict := none, data := .set #[] 0 (.fresh 0 0 led) }).objs.size, l] := by
          rw [Heap.size_push]; simp only [List.mem_cons, List.mem_singleton, List.not_mem_nil, or_false, not_or]
          exact ⟨Nat.ne_of_lt (Nat.lt_succ_self _), Nat.ne_of_gt hlS⟩
        have hsz : xs.length = items.size := by rw [← StrsAre.len_eq hi, Array.length_toList]
        have hval : ∀ (i : Nat) (v : Value), items[i]? = some v → ∃ t, v = .str (xs.getD i Str.empty) t := fun i v hv => SS.strs_at hi i v (by rw [Array.getElem?_toList]; exact hv)
        refine set_texts_loop ((Walks.list hh3 _ l hneI items).toS) s.heap.objs.size
          hSf xs hsz (by rw [← hsz]; exact hn) hval (items.size - 0) 0 _ (by omega) (Nat.zero_le _)
          ⟨⟨_, Heap.get?_push_size _ rfl, rfl, rfl⟩, (hl1.push _)⟩ ?hS0 ?hR
        case hS0 =>
          have hget : ((s.heap.push { cls := .type "set", dict := none, data := .set #[] 0 (.fresh 0 0 led) }).push { cls := .type "list_iterator", data := .fields #[.ref l, .int 0 0] }).get? s.heap.objs.size = some { cls := .type "set", dict := none, data := .set #[] 0 (.fresh 0 0 led) } := Heap.get?_push_of_some _ hS
          exact PyProof.Rows.SetOf_congr ((PyProof.Rows.setObjOf_fresh (knd := PySem.strKind prog w) led).setOf hget (by unfold scanBound; omega)) (fun _ => rfl) rfl
        case hR =>
          intro s' hm hS'
          obtain ⟨h', g', d', tk', os'⟩ := s'
          have eg : g' = s.gens := hm.gens
          have ed : d' = s.drawn := hm.drawn
          have eo : os' = s.os := hm.os
          subst eg; subst ed; subst eo
          show wpAny _ _ _ _ _ _
          refine wpAny_pure ?_
          show wpAny _ _ (ret Value.none) _ _ _
          refine wpAny_pure ⟨rfl, h', tk', rfl, hS', fun b o hb e => ?_⟩
          have hb1 : b ≠ s.heap.objs.size := Nat.ne_of_lt hb
          have hb2 : b ≠ (s.heap.push { cls := .type "set", dict := none, data := .set #[] 0 (.fresh 0 0 led) }).objs.size := by
            rw [Heap.size_push]; exact Nat.ne_of_lt (Nat.lt_succ_of_lt hb)
          exact hm.heap b o (by simp only [List.mem_cons, List.mem_singleton, List.not_mem_nil, or_false, not_or]; exact ⟨hb1, hb2⟩) (Heap.get?_push_of_some _ (Heap.get?_push_of_some _ e))
      · cases r₂ with
        | error e => exact hr₂
        | ok fl₂ =>
          cases fl₂ with
          | ret r =>
            obtain ⟨rfl, h', tk, rfl, hS', hk'⟩ := hr₂
            repeat (any_goals (first | assumption | wp_step))
            exact h _ _ hS' hk'
          | _ => exact hr₂.elim
    | _ => exact hr.elim
end
/-- len(set(xs)), xs a list of texts -/
def tLenSetN (K : PySem.W.Frag) (ta : TE) : TE := fun σ H Q => ta σ H fun x H1 => ∃ l, ∃ xs : List Str, x = .ref l ∧ SqL K H1 l (xs.map V.str) ∧ xs.length < 1000 ∧ Q (.int (metS [] xs).length) H1
section
variable {X : Cx} {W : WX}
theorem pe_lenSetN {a : Expr} {ta : TE} {p p2 q pos : Pos} (hc : X.calm = true) (hg : Gl X "len") (hm : X.mg "len" = none) (hg2 : Gl X "set") (hm2 : X.mg "set" = none) (ha : PE X a ta)
    (na : starEach [a] X.env = (false, eval a X.env) :: starEach [] X.env := by rfl) : PE X (.Call (.Name "len" p) [.Call (.Name "set" p2) [a] [] q] [] pos) (tLenSetN X.K ta) := by
  refine ⟨fun pins s σ H Q I h => ?_⟩
  refine Call_ (ld_blt I hg hm boot_len ?_)
  refine PyProof.Rows.callWith_builtin1 (PyProof.Rows.args_cons ?_ rfl) rfl rfl
  refine Call_ (ld_blt I hg2 hm2 boot_set ?_)
  refine PyProof.Rows.callWith_type1 (PyProof.Rows.args_cons (thn (ha.run pins s σ H _ I h) fun v s1 ⟨x, H1, I1, r1, q1⟩ => PyProof.Rows.args_nil ?_) na) na rfl
  obtain ⟨l, xs, rfl, hq, h1, q1⟩ := q1
  cases r1
  obtain ⟨its, r, pl, hz⟩ := I1.list hq
  refine call_set_texts (I1.ok.hd hc) pl.isList (by simpa using strsAre_of r) (by unfold scanBound; omega) fun h' tk hS hk => ?_
  refine PyProof.Rows.args_nil ?_
  obtain ⟨o, es, ep, t, ho, hex, hd, _, _, _, hf, hn⟩ := hS
  have I2 : Inv X pins σ H1 { s1 with heap := h', toks := tk } := I1.kept fun b o e => hk b o (Heap.lt_size e) e
  have hml := metS_len xs []
  rw [List.length_nil, Nat.zero_add] at hml
  have zz : (1000 : Nat) ≤ sizeLine := by decide
  exact call_len_set ho hex hd hf (by rw [hn]; omega) ⟨.int (metS [] xs).length, H1, I2.tok _, ⟨_, by rw [hn]⟩, q1⟩
def lenSetG (d : D) (c : Cells) : Out D := match lstOf c d with
  | some l => (match allStr l with
    | some ss => if ss.length < 1000 then .ok (.int (metS [] ss).length) c else .bad
    | none => .bad)
  | none => .bad
def mLenSet (m : ME) : ME := fun δ c => (m δ c).bind lenSetG
theorem de_lenSet {a : Expr} {m : ME} {p p2 q pos : Pos} (hm : X.mg "len" = none) (hm2 : X.mg "set" = none) (ha : DE X W a m) (hc : X.calm = true := by rfl) (hg : Gl X "len" := by rfl) (hg2 : Gl X "set" := by rfl)
    (na : starEach [a] X.env = (false, eval a X.env) :: starEach [] X.env := by rfl) : DE X W (.Call (.Name "len" p) [.Call (.Name "set" p2) [a] [] q] [] pos) (mLenSet m) := by
  obtain ⟨t, pp, s⟩ := ha.ex
  refine ⟨_, pe_lenSetN hc hg hm hg2 hm2 pp na, fun Z R F δ c σ H Q w rs h => s Z R F δ c σ H _ w rs ((Aft.bind h).imp ?_)⟩
  rintro R1 F1 d c1 H1 p1 e1 w1 ⟨_, _, _, h1⟩ v rv
  unfold lenSetG at h1
  split at h1
  · rename_i l hl
    split at h1
    · rename_i ss hs
      split at h1
      · rename_i hz
        obtain ⟨b, us, rfl, hq, rl⟩ := w1.list rv hl
        have := allStr_rel rl hs
        subst this
        exact ⟨b, ss, rfl, hq, hz, h1.ok w1 _ (.int _)⟩
      · exact h1.elim
    · exact h1.elim
  · exact h1.elim
end
end Nw

set_option Elab.async false
set_option linter.all false
set_option maxRecDepth 100000
set_option maxHeartbeats 4000000
/-! Nw41: zip of three, each a list or a tuple. -/
namespace Nw
open PySem PySem.Spec
open PyProof.Rows hiding St
open L2
variable [TheW]
/-! ### what is never come to -/
theorem de_bad {X : Cx} {W : WX} {e : Expr} : DE X W e (fun _ _ => .bad) := ⟨fun _ _ _ => False, ⟨fun _ _ _ _ _ _ h => h.elim⟩, fun _ _ _ _ _ _ _ _ _ _ h => h.elim⟩
theorem ds_bad {X : Cx} {W : WX} {st : Stmt} : DS X W st (fun _ _ => .bad) := ⟨fun _ _ _ => False, ⟨fun _ _ _ _ _ _ h => h.elim⟩, fun _ _ _ _ _ _ _ _ _ _ h => h.elim⟩
/-- b tells a list from a tuple -/
def SqV (K : Frag) (H : Hp) (a : Addr) (xs : List V) : Bool → Prop
  | true => SqL K H a xs
  | false => SqT K H a xs
def ItAt (h : Heap) (i l : Addr) (k : Nat) : Bool → Prop
  | true => h.IsListIter i l k
  | false => h.IsTupleIter i l k
def SeqAt (h : Heap) (l : Addr) (xs : Array Value) : Bool → Prop
  | true => h.IsList l xs
  | false => h.IsTuple l xs
theorem ItAt.live {h : Heap} {i l : Addr} {k : Nat} {b : Bool} (x : ItAt h i l k b) : ∃ o n vs, h.get? i = some o ∧ o.cls = .type n ∧ o.data = .fields vs := by
  cases b with
  | true => obtain ⟨o, h1, h2, h3⟩ := x; exact ⟨o, _, _, h1, h2, h3⟩
  | false => obtain ⟨o, h1, h2, h3⟩ := x; exact ⟨o, _, _, h1, h2, h3⟩
theorem ItAt.at {h h' : Heap} {i l : Addr} {k : Nat} {b : Bool} (x : ItAt h i l k b) (e : ∀ o, h.get? i = some o → h'.get? i = some o) : ItAt h' i l k b := by
  cases b with
  | true => obtain ⟨o, h1, r⟩ := x; exact ⟨o, e _ h1, r⟩
  | false => obtain ⟨o, h1, r⟩ := x; exact ⟨o, e _ h1, r⟩
theorem SeqAt.at {h h' : Heap} {l : Addr} {xs : Array Value} {b : Bool} (x : SeqAt h l xs b) (e : ∀ o, h.get? l = some o → h'.get? l = some o) : SeqAt h' l xs b := by
  cases b with
  | true => obtain ⟨o, h1, r⟩ := x; exact ⟨o, e _ h1, r⟩
  | false => obtain ⟨o, h1, r⟩ := x; exact ⟨o, e _ h1, r⟩
theorem SeqAt.lt {h : Heap} {l : Addr} {xs : Array Value} {b : Bool} (x : SeqAt h l xs b) : l < h.objs.size := by
  cases b with
  | true => obtain ⟨o, h1, _⟩ := x; exact Heap.lt_size h1
  | false => obtain ⟨o, h1, _⟩ := x; exact Heap.lt_size h1
section
variable {X : Cx} {pins : List (Addr × Obj)} {σ : St} {H : Hp} {s : Shared} {a : Addr} {xs ys : List V} {b : Bool}
theorem inv_sq (I : Inv X pins σ H s) (h : SqV X.K H a xs b) : ∃ its : List Value, Vals xs its ∧ SeqAt s.heap a its.toArray b := by
  cases b with
  | true => obtain ⟨its, r, p, _⟩ := I.list h; exact ⟨its, r, p.isList⟩
  | false => obtain ⟨its, r, p, _⟩ := I.tuple h; exact ⟨its, r, p⟩
theorem inv_sq_inj (I : Inv X pins σ H s) (h : SqV X.K H a xs b) (h' : SqV X.K H a ys b) : xs = ys := by
  cases b with
  | true => exact I.list_inj h h'
  | false => exact I.tuple_inj h h'
end
theorem drawsAt {prog : Program} {w : World} {A : Around} (hh : A.handled = none) {it l : Addr} (hne : l ≠ it) (items : Array Value) (k : Nat) (b : Bool) :
    ∃ (n : Nat) (P : Nat → Value → Prop) (T : Nat → Heap → Prop), Draws prog w A it [it, l] n P T ∧ (∀ h, ItAt h it l k b → SeqAt h l items b → T k h) ∧ k ≤ n ∧ (items.size ≤ k → k = n) ∧
      (k < items.size → k < n ∧ (∀ v, P k v → items[k]? = some v) ∧ ∀ h, T (k + 1) h → ItAt h it l (k + 1) b) := by
  by_cases hk : k < items.size
  · cases b with
    | true => exact ⟨_, _, _, Draws.list hh it l hne items, fun h h1 h2 => ⟨h1, h2⟩, Nat.le_of_lt hk, fun z => absurd hk (Nat.not_lt.mpr z), fun _ => ⟨hk, fun v q => q, fun h z => z.1⟩⟩
    | false => exact ⟨_, _, _, Draws.tuple hh it l hne items, fun h h1 h2 => ⟨h1, h2⟩, Nat.le_of_lt hk, fun z => absurd hk (Nat.not_lt.mpr z), fun _ => ⟨hk, fun v q => q, fun h z => z.1⟩⟩
  · refine ⟨k, fun _ _ => False, fun j h => j = k ∧ ItAt h it l k b ∧ SeqAt h l items b, ⟨?_, ?_, ?_, ?_⟩, fun h h1 h2 => ⟨rfl, h1, h2⟩, Nat.le_refl _, fun _ => rfl, fun z => absurd z hk⟩
    · rintro i h ⟨_, h1, _⟩
      obtain ⟨o, _, _, e, _⟩ := h1.live
      exact ⟨o, e⟩
    · rintro i h h' ⟨e, h1, h2⟩ kp
      exact ⟨e, h1.at fun o q => kp it (by simp) o q, h2.at fun o q => kp l (by simp) o q⟩
    · rintro i s Q E hi ⟨e, _⟩ _
      exact absurd hi (by rw [e]; exact Nat.lt_irrefl _)
    · rintro s Q E ⟨_, h1, h2⟩ hE
      have hx : items[k]? = none := Array.getElem?_eq_none (Nat.not_lt.mp hk)
      cases b with
      | true => exact wpAny_nextOf_list_end hh h1 h2 hx hE
      | false => exact wpAny_nextOf_tuple_end hh h1 h2 hx hE
/-- the sequences at a, b, d as they stand at each turn, the items in new triples -/
def Itz3 (K : Frag) (a b d : Addr) (ka kb kd : Bool) : It :=
  ⟨fun i H => ∃ (xs ys zs : List V) (x y z : V), SqV K H a xs ka ∧ SqV K H b ys kb ∧ SqV K H d zs kd ∧ xs[i]? = some x ∧ ys[i]? = some y ∧ zs[i]? = some z,
    fun i H v H' => ∃ T x y z, v = .ref T ∧ H T = none ∧ H' = upd H T (.tup [x, y, z]) ∧ (∀ xs, SqV K H a xs ka → xs[i]? = some x) ∧ (∀ ys, SqV K H b ys kb → ys[i]? = some y) ∧ ∀ zs, SqV K H d zs kd → zs[i]? = some z,
    fun i H => ∃ xs ys zs : List V, SqV K H a xs ka ∧ SqV K H b ys kb ∧ SqV K H d zs kd ∧ (xs.length ≤ i ∨ ys.length ≤ i ∨ zs.length ≤ i)⟩
theorem turn_zip3 {P : Program} {w : World} {K : Frag} {elts : List Expr} {kk : Nat} {tpos : Pos} {a b d z TI TO i1 i2 i3 : Addr} {ka kb kd : Bool} (S : ZipSep3 z TI TO i1 i2 i3 [i1, a] [i2, b] [i3, d]) (n1 : a ≠ i1) (n2 : b ≠ i2) (n3 : d ≠ i3) :
    Turn P w K (.Tuple elts kk tpos) (Itz3 K a b d ka kb kd) [z, TI, TO, i1, i2, i3] z (fun i h => IsZip h z TI TO .none ∧ IsTupOf3 h TI (.ref i1) (.ref i2) (.ref i3) ∧ (∃ x y u, IsTupOf3 h TO x y u) ∧ ItAt h i1 a i ka ∧ ItAt h i2 b i kb ∧ ItAt h i3 d i kd) where
  mem := by simp
  obj := fun i h st c hc => by
    obtain ⟨hz, hTI, ⟨x, y, u, hTO⟩, h1, h2, h3⟩ := st
    have e' : c = z ∨ c = TI ∨ c = TO ∨ c = i1 ∨ c = i2 ∨ c = i3 := by simpa using hc
    rcases e' with q | q | q | q | q | q
    · rw [q]; exact ⟨_, hz, fun v q => nomatch q⟩
    · rw [q]; exact ⟨_, hTI, fun v q => nomatch q⟩
    · rw [q]; exact ⟨_, hTO, fun v q => nomatch q⟩
    · rw [q]; obtain ⟨o, _, _, e, _, d⟩ := h1.live; exact ⟨o, e, fun v q => by rw [d] at q; cases q⟩
    · rw [q]; obtain ⟨o, _, _, e, _, d⟩ := h2.live; exact ⟨o, e, fun v q => by rw [d] at q; cases q⟩
    · rw [q]; obtain ⟨o, _, _, e, _, d⟩ := h3.live; exact ⟨o, e, fun v q => by rw [d] at q; cases q⟩
  keep := fun i h h' st k => by
    obtain ⟨hz, hTI, ⟨x, y, u, hTO⟩, h1, h2, h3⟩ := st
    exact ⟨k z (by simp) _ hz, k TI (by simp) _ hTI, ⟨x, y, u, k TO (by simp) _ hTO⟩, h1.at fun o q => k i1 (by simp) o q, h2.at fun o q => k i2 (by simp) o q, h3.at fun o q => k i3 (by simp) o q⟩
  item := by
    intro X hP hw hK hc i pins s σ H E I hf st hg
    subst hP hw hK
    obtain ⟨hz, hTI, ⟨x0, y0, u0, hTO⟩, h1, h2, h3⟩ := st
    obtain ⟨xs, ys, zs, x, y, u, hqx, hqy, hqz, hx, hy, hu⟩ := hg
    obtain ⟨its1, rv1, p1⟩ := inv_sq I hqx
    obtain ⟨its2, rv2, p2⟩ := inv_sq I hqy
    obtain ⟨its3, rv3, p3⟩ := inv_sq I hqz
    obtain ⟨v1, hv1, r1⟩ := rv1.get hx
    obtain ⟨v2, hv2, r2⟩ := rv2.get hy
    obtain ⟨v3, hv3, r3⟩ := rv3.get hu
    have hzl : z < s.heap.objs.size := Heap.lt_size hz
    have hh : X.A.in1.handled = none := I.ok.hd hc
    obtain ⟨m1, P1, T1, D1, c1, _, _, g1⟩ := drawsAt (prog := X.prog) (w := X.w) hh n1 its1.toArray i ka
    obtain ⟨m2, P2, T2, D2, c2, _, _, g2⟩ := drawsAt (prog := X.prog) (w := X.w) hh n2 its2.toArray i kb
    obtain ⟨m3, P3, T3, D3, c3, _, _, g3⟩ := drawsAt (prog := X.prog) (w := X.w) hh n3 its3.toArray i kd
    have l1 : i < its1.toArray.size := by have := (List.getElem?_eq_some_iff.mp hv1).1; simpa using this
    have l2 : i < its2.toArray.size := by have := (List.getElem?_eq_some_iff.mp hv2).1; simpa using this
    have l3 : i < its3.toArray.size := by have := (List.getElem?_eq_some_iff.mp hv3).1; simpa using this
    obtain ⟨a1, b1, d1⟩ := g1 l1
    obtain ⟨a2, b2, d2⟩ := g2 l2
    obtain ⟨a3, b3, d3⟩ := g3 l3
    refine wpAny_pyNext_zipD3_item S D1 D2 D3 hz hTI hTO (c1 _ h1 p1) (c2 _ h2 p2) (c3 _ h3 p3) a1 a2 a3 fun w1 w2 w3 h' tk e1 e2 e3 z' TO' s1' s2' s3' hT hsz hk => ?_
    obtain rfl : v1 = w1 := by have := b1 _ e1; simp only [List.getElem?_toArray] at this; rw [hv1] at this; exact Option.some.inj this
    obtain rfl : v2 = w2 := by have := b2 _ e2; simp only [List.getElem?_toArray] at this; rw [hv2] at this; exact Option.some.inj this
    obtain rfl : v3 = w3 := by have := b3 _ e3; simp only [List.getElem?_toArray] at this; rw [hv3] at this; exact Option.some.inj this
    have h1' := d1 _ s1'
    have h2' := d2 _ s2'
    have h3' := d3 _ s3'
    refine ⟨_, rfl, wpAny_letOwnedTupleGo_zip (s := { s with heap := h', toks := tk }) z' fun h'' z'' sb => ?_⟩
    have hT2 : h''.get? s.heap.objs.size = some { cls := .type "tuple", data := .seq #[v1, v2, v3] } := (sb.2 _ (Nat.ne_of_gt hzl)).trans hT
    have new : ObjOk X.prog X.w (upd H s.heap.objs.size (.tup [x, y, u])) h'' s.heap.objs.size (.tup [x, y, u]) :=
      ⟨by show 3 ≤ sizeLine; decide, [v1, v2, v3], .cons r1 (.cons r2 (.cons r3 .nil)), ⟨_, hT2, rfl, _, rfl⟩⟩
    have I1 : Inv X pins σ (upd H s.heap.objs.size (.tup [x, y, u])) { s with heap := h'', toks := tk } :=
      I.turnedNew (t' := tk) (ch := [z, TI, TO, i1, i2, i3]) (fun c o hb q => (sb.2 c (fun q' => hb (by simp [q']))).trans (hk c o (fun q' => hb (by simp [q'])) (fun q' => hb (by simp [q'])) (fun q' => hb (by simp [q'])) (fun q' => hb (by simp [q'])) (fun q' => hb (by simp [q'])) q)) hf (Nat.le_refl _) new
    refine ⟨.ref s.heap.objs.size, _, I1, rfl, ⟨_, x, y, u, rfl, I.hok.fresh (Nat.le_refl _), rfl, fun l hl => by rw [inv_sq_inj I hl hqx]; exact hx, fun l hl => by rw [inv_sq_inj I hl hqy]; exact hy, fun l hl => by rw [inv_sq_inj I hl hqz]; exact hu⟩, ⟨z'', ?_, ⟨v1, v2, v3, ?_⟩, ?_, ?_, ?_⟩, fun c hcm => ?_⟩
    · exact (sb.2 _ S.TIz).trans (hk _ _ S.TIz S.TITO S.TIi1 S.TIi2 S.TIi3 hTI)
    · exact (sb.2 _ S.TOz).trans TO'
    · exact h1'.at fun o q => (sb.2 _ S.zi1.symm).trans q
    · exact h2'.at fun o q => (sb.2 _ S.zi2.symm).trans q
    · exact h3'.at fun o q => (sb.2 _ S.zi3.symm).trans q
    · have hlt : c < s.heap.objs.size := by
        have e' : c = z ∨ c = TI ∨ c = TO ∨ c = i1 ∨ c = i2 ∨ c = i3 := by simpa using hcm
        rcases e' with q | q | q | q | q | q
        · rw [q]; exact hzl
        · rw [q]; exact Heap.lt_size hTI
        · rw [q]; exact Heap.lt_size hTO
        · rw [q]; obtain ⟨_, _, _, e1, _⟩ := h1.live; exact Heap.lt_size e1
        · rw [q]; obtain ⟨_, _, _, e2, _⟩ := h2.live; exact Heap.lt_size e2
        · rw [q]; obtain ⟨_, _, _, e3, _⟩ := h3.live; exact Heap.lt_size e3
      rw [upd_ne (Nat.ne_of_lt hlt)]
      exact (hf c hcm).1
  done := by
    intro X hP hw hK hc i pins s σ H E I hf st hg
    subst hP hw hK
    obtain ⟨hz, hTI, ⟨x0, y0, u0, hTO⟩, h1, h2, h3⟩ := st
    obtain ⟨xs, ys, zs, hqx, hqy, hqz, hend⟩ := hg
    obtain ⟨its1, rv1, p1⟩ := inv_sq I hqx
    obtain ⟨its2, rv2, p2⟩ := inv_sq I hqy
    obtain ⟨its3, rv3, p3⟩ := inv_sq I hqz
    have hh : X.A.in1.handled = none := I.ok.hd hc
    obtain ⟨m1, P1, T1, D1, c1, le1, q1, _⟩ := drawsAt (prog := X.prog) (w := X.w) hh n1 its1.toArray i ka
    obtain ⟨m2, P2, T2, D2, c2, le2, q2, _⟩ := drawsAt (prog := X.prog) (w := X.w) hh n2 its2.toArray i kb
    obtain ⟨m3, P3, T3, D3, c3, le3, q3, _⟩ := drawsAt (prog := X.prog) (w := X.w) hh n3 its3.toArray i kd
    have l1 := rv1.length
    have l2 := rv2.length
    have l3 := rv3.length
    have he : i = m1 ∨ i = m2 ∨ i = m3 := by
      rcases hend with q | q | q
      · exact .inl (q1 (by simp; omega))
      · exact .inr (.inl (q2 (by simp; omega)))
      · exact .inr (.inr (q3 (by simp; omega)))
    exact wpAny_pyNext_zipD3_end S D1 D2 D3 hz hTI hTO (c1 _ h1 p1) (c2 _ h2 p2) (c3 _ h3 p3) le1 le2 le3 he fun h' tk hk => ⟨rfl, I.turnedL (t' := tk) (ch := [z, TI, TO, i1, i2, i3]) (fun c o hb q =>
      hk c o (fun q' => hb (by simp [q'])) (fun q' => hb (by simp [q'])) (fun q' => hb (by simp [q'])) (fun q' => hb (by simp [q'])) (fun q' => hb (by simp [q'])) q) hf⟩
  self := fun A i s Q E st h => wpAny_pyIter_zip st.1 h
theorem beginsAt (l : Addr) (items : Array Value) (b : Bool) : ∃ o : Obj, Begins (.ref l) o (fun h => SeqAt h l items b) ∧ ∀ (h : Heap) (i : Addr), h.get? i = some o → ItAt h i l 0 b := by
  cases b with
  | true => exact ⟨_, begins_list l items, fun h i e => ⟨_, e, rfl, rfl⟩⟩
  | false => exact ⟨_, begins_tuple l items, fun h i e => ⟨_, e, rfl, rfl⟩⟩
def iZip3 (K : Frag) (ta : TA) : TI := fun σ H R => ta σ H fun vs H1 => ∃ (a b d : Addr) (xs ys zs : List V) (ka kb kd : Bool), vs = [.ref a, .ref b, .ref d] ∧ SqV K H1 a xs ka ∧ SqV K H1 b ys kb ∧ SqV K H1 d zs kd ∧ R (Itz3 K a b d ka kb kd) H1
theorem pi_zip3 {X : Cx} {e e2 e3 : Expr} {ta : TA} {p pos tpos : Pos} {elts : List Expr} {kk : Nat} (hg : Gl X "zip") (hm : X.mg "zip" = none) (ha : PA X [e, e2, e3] ta)
    (hs : starEach [e, e2, e3] X.env = (false, eval e X.env) :: starEach [e2, e3] X.env := by rfl) (hpl : (backTo pos (starEach [e2, e3] X.env)).any (·.1) = false := by rfl) :
    PI X (.Tuple elts kk tpos) (.Call (.Name "zip" p) [e, e2, e3] [] pos) (iZip3 X.K ta) := by
  refine ⟨fun pins s σ H R I h => ?_⟩
  refine Call_ (ld_blt I hg hm PyProof.Rows.boot_zip (PyProof.Rows.callWith_type1 (thn (ha.run pos pins s σ H _ I h) fun us s1 ⟨vs, H1, I1, r1, q1⟩ => ?_) hs hpl))
  obtain ⟨a, b, d, xs, ys, zs, ka, kb, kd, ex, hqx, hqy, hqz, q⟩ := q1
  subst ex
  cases r1 with
  | cons r rr =>
    cases rr with
    | cons r' rr =>
      cases rr with
      | cons r'' rr =>
        cases rr
        cases r
        cases r'
        cases r''
        obtain ⟨its1, _, p1⟩ := inv_sq I1 hqx
        obtain ⟨its2, _, p2⟩ := inv_sq I1 hqy
        obtain ⟨its3, _, p3⟩ := inv_sq I1 hqz
        obtain ⟨o1, B1, k1⟩ := beginsAt a its1.toArray ka
        obtain ⟨o2, B2, k2⟩ := beginsAt b its2.toArray kb
        obtain ⟨o3, B3, k3⟩ := beginsAt d its3.toArray kd
        have la := p1.lt
        have lb := p2.lt
        have ld := p3.lt
        refine zip_begins3 B1 B2 B3 p1 p2 p3 fun h' hz hTI hTO e1 e2 e3 hsz hk => wpAny_pyIter_zip hz ?_
        have I2 : Inv X pins σ H1 { s1 with heap := h' } := I1.kept (t' := s1.toks) hk
        have far : ∀ (x : Addr), x < s1.heap.objs.size → ∀ k : Nat, ¬ (s1.heap.objs.size + k : Nat) = x := fun x hx k e => absurd hx (by rw [← e]; exact Nat.not_lt.mpr (Nat.le_add_right _ _))
        have a0 := far a la 0
        have b0 := far b lb 0
        have d0 := far d ld 0
        have a1 := far a la
        have b1 := far b lb
        have d1 := far d ld
        rw [Nat.add_zero] at a0 b0 d0
        refine ⟨s1.heap.objs.size + 5, [s1.heap.objs.size + 5, s1.heap.objs.size + 3, s1.heap.objs.size + 4, s1.heap.objs.size, s1.heap.objs.size + 1, s1.heap.objs.size + 2], _, _, H1, rfl, I2, turn_zip3 (ka := ka) (kb := kb) (kd := kd) ?_ (fun e => a0 e.symm) (fun e => b1 1 e.symm) (fun e => d1 2 e.symm), ⟨hz, hTI, ⟨_, _, _, hTO⟩, k1 _ _ e1, k2 _ _ e2, k3 _ _ e3⟩, fun c hcm => ?_, q⟩
        · constructor <;> simp [a0, b0, d0, a1, b1, d1]
        · have e' : c = s1.heap.objs.size + 5 ∨ c = s1.heap.objs.size + 3 ∨ c = s1.heap.objs.size + 4 ∨ c = s1.heap.objs.size ∨ c = s1.heap.objs.size + 1 ∨ c = s1.heap.objs.size + 2 := by simpa using hcm
          have hle : s1.heap.objs.size ≤ c := by
            rcases e' with z | z | z | z | z | z
            · rw [z]; exact Nat.le_add_right _ _
            · rw [z]; exact Nat.le_add_right _ _
            · rw [z]; exact Nat.le_add_right _ _
            · rw [z]; exact Nat.le_refl _
            · rw [z]; exact Nat.le_add_right _ _
            · rw [z]; exact Nat.le_add_right _ _
          exact I1.fpOk hle (I1.hok.fresh hle)
/-! ### the mirror -/
def zip3L : List D → List D → List D → List D
  | a :: l, b :: m, d :: n => .tup [a, b, d] :: zip3L l m n
  | _, _, _ => []
theorem zip3L_get : ∀ {l m n : List D} {k : Nat} {d : D}, (zip3L l m n)[k]? = some d → ∃ a b e, l[k]? = some a ∧ m[k]? = some b ∧ n[k]? = some e ∧ d = .tup [a, b, e]
  | a :: l, b :: m, e :: n, 0, d, h => by
    have h : some (D.tup [a, b, e]) = some d := h
    exact ⟨a, b, e, rfl, rfl, rfl, (Option.some.inj h).symm⟩
  | a :: l, b :: m, e :: n, k + 1, d, h => by
    obtain ⟨x, y, z, h1, h2, h3, h4⟩ := zip3L_get (l := l) (m := m) (n := n) (k := k) (by simpa [zip3L] using h)
    exact ⟨x, y, z, by simpa using h1, by simpa using h2, by simpa using h3, h4⟩
  | [], _, _, k, d, h => by simp [zip3L] at h
  | _ :: _, [], _, k, d, h => by simp [zip3L] at h
  | _ :: _, _ :: _, [], k, d, h => by simp [zip3L] at h
theorem zip3L_len : ∀ {l m n : List D}, (zip3L l m n).length = min l.length (min m.length n.length)
  | a :: l, b :: m, e :: n => by
    show (zip3L l m n).length + 1 = _
    rw [zip3L_len, List.length_cons, List.length_cons, List.length_cons]
    omega
  | [], _, _ => by simp [zip3L]
  | _ :: _, [], _ => by simp [zip3L]
  | _ :: _, _ :: _, [] => by simp [zip3L]
def zip3Seq (ds : List D) (c : Cells) : Out Seq := match ds with
  | [x, y, z] => (match items c x, items c y, items c z with
    | some l, some m, some n => .ok ⟨zip3L l m n, fun c => chkI x l c && (chkI y m c && chkI z n c)⟩ c
    | _, _, _ => .bad)
  | _ => .bad
def mZip3 (ms : MA) : En → Cells → Out Seq := fun δ c => (ms δ c).bind zip3Seq
section
variable {K : Frag} {Z : Hp} {R : List Addr} {F : Hp} {c : Cells} {H : Hp}
/-- a sequence's place, whatever happens later, as long as it stays as it is -/
theorem seq_stays {v : V} {d : D} {ds : List D} (w : Wd K Z R F c H) (r : Rel K R F v d) (e : items c d = some ds) :
    ∃ (a : Addr) (b : Bool), v = .ref a ∧ ∀ Z' R' F' c' H', R <+: R' → Same F F' → Wd K Z' R' F' c' H' → chkI d ds c' = true → ∃ vs, SqV K H' a vs b ∧ RelL K R' F' vs ds := by
  cases r with
  | tup h l =>
    cases e
    exact ⟨_, false, rfl, fun Z' R' F' c' H' p e w' _ => ⟨_, (h.ext e).ext w'.same, l.mono p e⟩⟩
  | lst h l =>
    cases e
    exact ⟨_, true, rfl, fun Z' R' F' c' H' p e w' _ => ⟨_, SqL.of (w'.same _ _ (e _ _ h)), l.mono p e⟩⟩
  | scr h l =>
    cases e
    exact ⟨_, true, rfl, fun Z' R' F' c' H' p e w' _ => ⟨_, (h.ext e).ext w'.same, l.mono p e⟩⟩
  | @cell i a h =>
    refine ⟨a, true, rfl, fun Z' R' F' c' H' p e' w' hc => ?_⟩
    obtain ⟨vs, q, l⟩ := w'.atList (pre_get p h) (chkI_cell hc)
    exact ⟨vs, SqL.of q, l⟩
  | _ => cases e
theorem chkI_items {d : D} {ds : List D} (e : items c d = some ds) : chkI d ds c = true := by
  cases d with
  | cell i => exact chkI_of (items_cell e)
  | _ => rfl
end
theorem di_zip3 {X : Cx} {W : WX} {e e2 e3 : Expr} {ms : MA} {p pos tpos : Pos} {elts : List Expr} {kk : Nat} (hm : X.mg "zip" = none) (ha : DA X W [e, e2, e3] ms) (hg : Gl X "zip" := by rfl)
    (hs : starEach [e, e2, e3] X.env = (false, eval e X.env) :: starEach [e2, e3] X.env := by rfl) (hpl : (backTo pos (starEach [e2, e3] X.env)).any (·.1) = false := by rfl) :
    DI X W (.Tuple elts kk tpos) (.Call (.Name "zip" p) [e, e2, e3] [] pos) (mZip3 ms) := by
  obtain ⟨t, pa, sa⟩ := ha.ex
  refine ⟨_, pi_zip3 hg hm pa hs hpl, fun Z R F δ c σ H Q w rs h => ?_⟩
  unfold mZip3 at h
  refine sa Z R F δ c σ H _ w rs ((Aft.bind h).imp ?_)
  rintro R1 F1 ds c1 H1 q1 e1 w1 ⟨_, _, _, h1⟩ vs rv
  unfold zip3Seq at h1
  split at h1
  · rename_i x y z
    obtain ⟨v1, v2, v3, e', r1, r2, r3⟩ : ∃ v u t, vs = [v, u, t] ∧ Rel X.K R1 F1 v x ∧ Rel X.K R1 F1 u y ∧ Rel X.K R1 F1 t z := by
      cases rv with
      | cons r t =>
        cases t with
        | cons r2 t2 =>
          cases t2 with
          | cons r3 t3 => cases t3; exact ⟨_, _, _, rfl, r, r2, r3⟩
    subst e'
    split at h1
    · rename_i l m n hl hm' hn
      obtain ⟨a, ka, rfl, sa'⟩ := seq_stays w1 r1 hl
      obtain ⟨b, kb, rfl, sb'⟩ := seq_stays w1 r2 hm'
      obtain ⟨d, kd, rfl, sd'⟩ := seq_stays w1 r3 hn
      obtain ⟨xs, g1, _⟩ := sa' Z R1 F1 c1 H1 (List.prefix_refl _) (Same.refl _) w1 (chkI_items hl)
      obtain ⟨ys, g2, _⟩ := sb' Z R1 F1 c1 H1 (List.prefix_refl _) (Same.refl _) w1 (chkI_items hm')
      obtain ⟨zs, g3, _⟩ := sd' Z R1 F1 c1 H1 (List.prefix_refl _) (Same.refl _) w1 (chkI_items hn)
      refine ⟨a, b, d, xs, ys, zs, ka, kb, kd, rfl, g1, g2, g3, h1.ok w1 _ ?_⟩
      intro Z' k R' F' c' H' zz p e w' hc
      have hc : (chkI x l c' && (chkI y m c' && chkI z n c')) = true := hc
      rw [Bool.and_eq_true, Bool.and_eq_true] at hc
      obtain ⟨xs, g1, l1⟩ := sa' Z' R' F' c' H' p e w' hc.1
      obtain ⟨ys, g2, l2⟩ := sb' Z' R' F' c' H' p e w' hc.2.1
      obtain ⟨zs, g3, l3⟩ := sd' Z' R' F' c' H' p e w' hc.2.2
      refine ⟨fun d' hd => ?_, fun hk => ⟨xs, ys, zs, g1, g2, g3, by
        have hk : (zip3L l m n).length ≤ k := hk
        rw [zip3L_len, ← l1.length, ← l2.length, ← l3.length] at hk
        omega⟩⟩
      obtain ⟨d0, e0, f0, hd0, he0, hf0, rfl⟩ := zip3L_get hd
      obtain ⟨v, hv, rv⟩ := l1.get hd0
      obtain ⟨u, hu, ru⟩ := l2.get he0
      obtain ⟨t', ht, rt⟩ := l3.get hf0
      refine ⟨⟨xs, ys, zs, v, u, t', g1, g2, g3, hv, hu, ht⟩, fun x' H'' yy => ?_⟩
      obtain ⟨T, x1, y1, z1, rfl, nn, rfl, hx, hy, hz⟩ := yy
      have k1 := hx xs g1
      have k2 := hy ys g2
      have k3 := hz zs g3
      rw [hv] at k1
      rw [hu] at k2
      rw [ht] at k3
      cases k1
      cases k2
      cases k3
      obtain ⟨w2, s2⟩ := w'.frozen nn (.tup [v, u, t'])
      exact ⟨_, s2, w2, .tup (SqT.of upd_same) (.cons (rv.mono (List.prefix_refl _) s2) (.cons (ru.mono (List.prefix_refl _) s2) (.cons (rt.mono (List.prefix_refl _) s2) .nil)))⟩
    · exact h1.elim
  · exact h1.elim
end Nw

set_option Elab.async false
set_option linter.all false
set_option maxRecDepth 100000
set_option maxHeartbeats 4000000
/-! Nw42: a dict that is locked while it is walked: its items; lists and dicts made of dicts. -/
namespace Nw
open PySem PySem.Spec
open PyProof.Rows hiding St
open L2
variable [TheW]
def keyD : Key → D
  | .inl i => .int i
  | .inr x => .str x
theorem rel_key {K : Frag} {R : List Addr} {F : Hp} : ∀ {k : Key}, Rel K R F (kV k) (keyD k)
  | .inl i => .int i
  | .inr x => .str x
/-- a place is taken out of the frozen part -/
def del (F : Hp) (a : Addr) : Hp := fun b => if b = a then none else F b
theorem del_ne {F : Hp} {a b : Addr} (h : b ≠ a) : del F a b = F b := if_neg h
theorem del_same {F : Hp} {a : Addr} : del F a a = none := if_pos rfl
section
variable {K : Frag} {R : List Addr} {F : Hp} {a : Addr} {od : Obj} {kvs : List (Key × V)} (e : F a = some (.frz od (.dK kvs)))
include e
theorem ne_lk {b : Addr} {u : HO} (h : F b = some u) (hu : ∀ o x, u ≠ .frz o (.dK x)) : del F a b = some u := by
  rw [del_ne (fun z => by rw [z, e] at h; exact hu _ _ (Option.some.inj h).symm)]
  exact h
theorem SqT.unlk {b : Addr} {xs : List V} (h : SqT K F b xs) : SqT K (del F a) b xs := by
  rcases h with (h | ⟨p, h⟩) | h
  · exact .inl (.inl (ne_lk e h fun _ _ z => nomatch z))
  · exact .inl (.inr ⟨p, ne_lk e h fun _ _ z => by injection z with _ z; cases z⟩)
  · exact .inr h
theorem SqL.unlk {b : Addr} {xs : List V} (h : SqL K F b xs) : SqL K (del F a) b xs := by
  rcases h with (h | ⟨p, h⟩) | h
  · exact .inl (.inl (ne_lk e h fun _ _ z => nomatch z))
  · exact .inl (.inr ⟨p, ne_lk e h fun _ _ z => by injection z with _ z; cases z⟩)
  · exact .inr h
mutual
theorem NkV.unlk : ∀ {k : NestedKey} {v : V}, NkV K F k v → NkV K (del F a) k v
  | _, _, .none => .none
  | _, _, .bool h => .bool h
  | _, _, .int i => .int i
  | _, _, .text x => .text x
  | _, _, .tup h l => .tup (SqT.unlk e h) (NkVs.unlk l)
theorem NkVs.unlk : ∀ {ks : List NestedKey} {vs : List V}, NkVs K F ks vs → NkVs K (del F a) ks vs
  | _, _, .nil => .nil
  | _, _, .cons h t => .cons (NkV.unlk h) (NkVs.unlk t)
end
theorem NtOk.unlk {b : Addr} {ob : Obj} {ks : List NestedKey} {vs : List V} (h : NtOk K F b ob ks vs) : NtOk K (del F a) b ob ks vs := by
  obtain ⟨w0, es, ep, xs, h1, h2, h3, h4, h5, h6, h7, h8⟩ := h.ex
  exact ⟨w0, es, ep, xs, h1, h2, h3, h4, h5, h6, fun x hx => ⟨NkV.unlk e (h7 x hx).1, (h7 x hx).2⟩, h8⟩
mutual
theorem Rel.unlk : ∀ {v : V} {d : D}, Rel K R F v d → Rel K R (del F a) v d
  | _, _, .non => .non
  | _, _, .bl b => .bl b
  | _, _, .int i => .int i
  | _, _, .str x => .str x
  | _, _, .ty n => .ty n
  | _, _, .gl x => .gl x
  | _, _, .tup h l => .tup (SqT.unlk e h) (RelL.unlk l)
  | _, _, .lst h l => .lst (ne_lk e h fun _ _ z => nomatch z) (RelL.unlk l)
  | _, _, .scr h l => .scr (SqL.unlk e h) (RelL.unlk l)
  | _, _, .obj h z l => .obj (ne_lk e h fun _ _ z => nomatch z) z (RelL.unlk l)
  | _, _, .cell h => .cell h
  | _, _, .exo h z l => .exo (ne_lk e h fun _ _ z => nomatch z) z (RelL.unlk l)
  | _, _, .exo0 => .exo0
  | _, _, .dic h z l => .dic (ne_lk e h fun _ _ z => nomatch z) z (RelL.unlk l)
  | _, _, .dit h z l => .dit (ne_lk e h fun _ _ z => by unfold exD at z; cases z) (NtOk.unlk e z) (RelL.unlk l)
  | _, _, .err h h2 z l => .err (ne_lk e h fun _ _ z => by unfold exo at z; cases z) (ne_lk e h2 fun _ _ z => by unfold exd at z; cases z) z (RelL.unlk l)
  | _, _, .err0 h => .err0 (ne_lk e h fun _ _ z => by unfold exo at z; cases z)
theorem RelL.unlk : ∀ {vs : List V} {ds : List D}, RelL K R F vs ds → RelL K R (del F a) vs ds
  | _, _, .nil => .nil
  | _, _, .cons h t => .cons (Rel.unlk h) (RelL.unlk t)
end
theorem RelC.unlk {b : Addr} {k : Cell} {o : HO} (h : RelC K R F b k o) : RelC K R (del F a) b k o := by
  cases h with
  | lst l => exact .lst (RelL.unlk e l)
  | ins z l => exact .ins z (RelL.unlk e l)
  | dct z l => exact .dct z (RelL.unlk e l)
  | dtt z l => exact .dtt (NtOk.unlk e z) (RelL.unlk e l)
  | lck z l => exact .lck z (RelL.unlk e l)
  | dead => exact .dead
end
section
variable {K : Frag} {Z : Hp} {R : List Addr} {F : Hp} {c : Cells} {H : Hp} {i : Nat} {a : Addr} {ks : List Key} {vs : List V} {ds : List D} {od : Obj}
theorem Wd.other (w : Wd K Z R F c H) {j : Nat} {b : Addr} (h1 : R[i]? = some a) (h2 : R[j]? = some b) (hj : i ≠ j) : b ≠ a := fun z => by
  subst z
  obtain ⟨l1, e1⟩ := List.getElem?_eq_some_iff.mp h1
  obtain ⟨l2, e2⟩ := List.getElem?_eq_some_iff.mp h2
  exact hj ((List.getElem_inj w.nd).mp (e1.trans e2.symm))
theorem Wd.lock (w : Wd K Z R F c H) (hR : R[i]? = some a) (e : c[i]? = some (.dct ks ds)) :
    ∃ vs, H a = some (.dK (ks.zip vs)) ∧ ks.length = vs.length ∧ RelL K R F vs ds ∧ F a = none ∧ ∀ od, Wd K Z R (upd F a (.frz od (.dK (ks.zip vs)))) (c.set i (.lck ks ds)) (upd H a (.frz od (.dK (ks.zip vs)))) := by
  obtain ⟨vs, q, hl, rl⟩ := w.atDict hR e
  have hF : F a = none := w.at0 hR e
  have hmem : a ∈ R := List.mem_of_getElem? hR
  refine ⟨vs, q, hl, rl, hF, fun od => ?_⟩
  have s : Same F (upd F a (.frz od (.dK (ks.zip vs)))) := Ext.upd hF
  have hi : i < c.length := by rw [← w.len]; exact (List.getElem?_eq_some_iff.mp hR).1
  refine ⟨fun b u z => ?_, fun b u z => ?_, fun b u z => ?_, by rw [List.length_set]; exact w.len, w.nd, fun j k z => ?_, w.tb.imp (fun b _ f y r => have hb : b ≠ a := fun q => r (by rw [q]; exact hmem); ⟨upd_ne hb, (upd_ne hb).trans f, y, r⟩) fun _ _ x => s _ _ x⟩
  · rw [upd_ne (fun y => by subst y; exact (w.zf _ _ z).2 hmem)]; exact w.zs b u z
  · refine ⟨?_, (w.zf b u z).2⟩
    rw [upd_ne (fun y => by subst y; exact (w.zf _ _ z).2 hmem)]; exact (w.zf b u z).1
  · by_cases hb : b = a
    · subst hb; rw [upd_same] at z ⊢; exact z
    · rw [upd_ne hb] at z ⊢; exact w.same b u z
  · by_cases hj : i = j
    · subst hj
      rw [List.getElem?_set_self hi] at z
      cases z
      exact ⟨a, _, hR, upd_same, .lck hl (rl.mono (List.prefix_refl _) s), upd_same⟩
    · rw [List.getElem?_set_ne hj] at z
      obtain ⟨b, u, h1, h2, h3, h4⟩ := w.cel j k z
      have hb := w.other hR h1 hj
      exact ⟨b, u, h1, by rw [upd_ne hb]; exact h2, h3.mono (List.prefix_refl _) s, h4.imp (fun y => by rw [upd_ne hb]; exact y) fun y => by rw [upd_ne hb]; exact y⟩
theorem Wd.unlock (w : Wd K Z R F c H) (hR : R[i]? = some a) (e : F a = some (.frz od (.dK (ks.zip vs)))) (hl : ks.length = vs.length) (rl : RelL K R F vs ds) : Wd K Z R (del F a) (c.set i (.dct ks ds)) (upd H a (.dK (ks.zip vs))) := by
  have hmem : a ∈ R := List.mem_of_getElem? hR
  have hi : i < c.length := by rw [← w.len]; exact (List.getElem?_eq_some_iff.mp hR).1
  refine ⟨fun b u z => ?_, fun b u z => ?_, fun b u z => ?_, by rw [List.length_set]; exact w.len, w.nd, fun j k z => ?_, w.tb.imp (fun b _ f y r => have hb : b ≠ a := fun q => r (by rw [q]; exact hmem); ⟨upd_ne hb, (del_ne hb).trans f, y, r⟩) fun b q x => by
    rw [del_ne (fun y => by
      rw [y, e] at x
      unfold LamX.CodeO at x
      cases x)]
    exact x⟩
  · rw [upd_ne (fun y => by subst y; exact (w.zf _ _ z).2 hmem)]; exact w.zs b u z
  · refine ⟨?_, (w.zf b u z).2⟩
    rw [del_ne (fun y => by subst y; exact (w.zf _ _ z).2 hmem)]; exact (w.zf b u z).1
  · by_cases hb : b = a
    · subst hb; rw [del_same] at z; cases z
    · rw [del_ne hb] at z; rw [upd_ne hb]; exact w.same b u z
  · by_cases hj : i = j
    · subst hj
      rw [List.getElem?_set_self hi] at z
      cases z
      exact ⟨a, _, hR, upd_same, .dct hl (RelL.unlk e rl), del_same⟩
    · rw [List.getElem?_set_ne hj] at z
      obtain ⟨b, u, h1, h2, h3, h4⟩ := w.cel j k z
      have hb := w.other hR h1 hj
      exact ⟨b, u, h1, by rw [upd_ne hb]; exact h2, h3.unlk e, h4.imp (fun y => by rw [del_ne hb]; exact y) fun y => by rw [del_ne hb]; exact y⟩
end
/-- md tells which cell is locked while m is done -/
def mLock (md m : ME) : ME := fun δ c => match md δ c with
  | .ok (.cell i) _ => (match c[i]? with
    | some (.dct ks ds) => (match m δ (c.set i (.lck ks ds)) with
      | .ok v c2 => .ok v (c2.set i (.dct ks ds))
      | _ => .bad)
    | _ => .bad)
  | _ => .bad
theorem de_lock {X : Cx} {W : WX} {e : Expr} {m : ME} (md : ME) (h : DE X W e m) : DE X W e (mLock md m) := by
  obtain ⟨t, p, s⟩ := h.ex
  refine ⟨tLockE t, pe_lock p, fun Z R F δ c σ H Q w rs h => ?_⟩
  unfold mLock at h
  split at h
  · rename_i i c1 _
    split at h
    · rename_i ks ds hc
      have hi : i < R.length := by rw [w.len]; exact (List.getElem?_eq_some_iff.mp hc).1
      have hR : R[i]? = some R[i] := List.getElem?_eq_getElem hi
      obtain ⟨vs, q, hl, rl, hF, lk⟩ := w.lock hR hc
      refine ⟨R[i], .dK (ks.zip vs), q, trivial, fun od => ?_⟩
      have s1 : Same F (upd F R[i] (.frz od (.dK (ks.zip vs)))) := Ext.upd hF
      refine s Z R _ δ _ σ _ _ (lk od) (rs.mono (List.prefix_refl _) s1) ?_
      cases hm : m δ (c.set i (.lck ks ds)) with
      | bad => rw [hm] at h; exact h.elim
      | exc k ns es c2 => rw [hm] at h; exact h.elim
      | ok v c2 =>
        rw [hm] at h
        intro R2 F2 H2 p2 e2 w2 x rx
        have eF : F2 R[i] = some (.frz od (.dK (ks.zip vs))) := e2 _ _ upd_same
        refine ⟨w2.same _ _ eF, ?_⟩
        exact h R2 (del F2 R[i]) _ p2 (fun b u z => by
          rw [del_ne (fun y => by rw [y, hF] at z; cases z)]
          exact e2 _ _ (s1 _ _ z)) (w2.unlock (pre_get p2 hR) eF hl ((rl.mono (List.prefix_refl _) s1).mono p2 e2)) x (Rel.unlk eF rx)
    · exact h.elim
  · exact h.elim
def pairL : List Key → List D → List D
  | k :: ks, d :: ds => .tup [keyD k, d] :: pairL ks ds
  | _, _ => []
theorem pairL_get : ∀ {ks : List Key} {ds : List D} {n : Nat} {d : D}, (pairL ks ds)[n]? = some d → ∃ k e, ks[n]? = some k ∧ ds[n]? = some e ∧ d = .tup [keyD k, e]
  | k :: ks, e :: ds, 0, d, h => ⟨k, e, rfl, rfl, (Option.some.inj (show some (D.tup [keyD k, e]) = some d from h)).symm⟩
  | k :: ks, e :: ds, n + 1, d, h => pairL_get (ks := ks) (ds := ds) (n := n) (by simpa [pairL] using h)
  | [], _, n, d, h => by simp [pairL] at h
  | _ :: _, [], n, d, h => by simp [pairL] at h
theorem pairL_len : ∀ {ks : List Key} {ds : List D}, ks.length = ds.length → (pairL ks ds).length = ks.length
  | [], [], _ => rfl
  | k :: ks, d :: ds, h => by
    show (pairL ks ds).length + 1 = ks.length + 1
    rw [pairL_len (by simpa using h)]
def itemsSeq (d : D) (c : Cells) : Out Seq := match d with
  | .cell i => (match c[i]? with
    | some (.lck ks ds) => .ok ⟨pairL ks ds, fun _ => true⟩ c
    | _ => .bad)
  | _ => .bad
theorem Wd.atLck {K : Frag} {Z : Hp} {R : List Addr} {F : Hp} {c : Cells} {H : Hp} {i : Nat} {a : Addr} {ks : List Key} {ds : List D} (w : Wd K Z R F c H) (h : R[i]? = some a) (e : c[i]? = some (.lck ks ds)) : ∃ od vs, F a = some (.frz od (.dK (ks.zip vs))) ∧ ks.length = vs.length ∧ RelL K R F vs ds := by
  obtain ⟨a', o, h1, h2, h3, h4⟩ := w.cel i _ e
  rw [h] at h1
  cases h1
  have h4 : F a = some o := h4
  cases h3 with
  | lck z l => exact ⟨_, _, h4, z, l⟩
section
variable {X : Cx} {W : WX} {tg e : Expr} {me : ME} {apos cpos tpos : Pos} {elts : List Expr} {kk : Nat}
theorem di_items (he : DE X W e me) (hbase : attributeBase e "items" X.env (eval e X.env) = eval e X.env := by rfl) (hline : (apos.endLine == cpos.line) = true := by rfl) :
    DI X W (.Tuple elts kk tpos) (.Call (.Attribute e "items" apos) [] [] cpos) (fun δ c => (me δ c).bind itemsSeq) := by
  obtain ⟨t, p, s⟩ := he.ex
  refine ⟨_, pi_items p hbase hline, fun Z R F δ c σ H Q w rs h => ?_⟩
  refine s Z R F δ c σ H _ w rs ((Aft.bind h).imp ?_)
  rintro R1 F1 d c1 H1 q1 e1 w1 ⟨_, _, _, h1⟩ v rv
  unfold itemsSeq at h1
  split at h1
  · rename_i i
    split at h1
    · rename_i ks ds hc
      cases rv with
      | @cell _ a hR =>
        obtain ⟨od, vs, hF, hl, rl⟩ := w1.atLck hR hc
        refine ⟨a, od, ks.zip vs, rfl, w1.same _ _ hF, h1.ok w1 _ ?_⟩
        intro Z' k R' F' c' H' zz pp ee w' _
        have hF' := ee _ _ hF
        have hz : (ks.zip vs).length = ks.length := by rw [List.length_zip, ← hl, Nat.min_self]
        refine ⟨fun d' hd => ?_, fun hk => ⟨w'.same _ _ hF', ?_⟩⟩
        · obtain ⟨key, e0, hk, he, rfl⟩ := pairL_get hd
          obtain ⟨u, hu, ru⟩ := (rl.mono pp ee).get he
          have hkl := (List.getElem?_eq_some_iff.mp hk).1
          refine ⟨⟨w'.same _ _ hF', by rw [hz]; exact hkl⟩, fun x H'' yy => ?_⟩
          obtain ⟨T, k', v', hkv, rfl, nn, rfl⟩ := yy
          obtain ⟨g1, g2⟩ := List.getElem?_zip_eq_some.mp hkv
          rw [hk] at g1
          rw [hu] at g2
          cases g1
          cases g2
          obtain ⟨w2, s2⟩ := w'.frozen nn (.tup [kV k', v'])
          exact ⟨_, s2, w2, .tup (SqT.of upd_same) (.cons rel_key (.cons (ru.mono (List.prefix_refl _) s2) .nil))⟩
        · have hk : (pairL ks ds).length ≤ k := hk
          rw [pairL_len (by rw [hl, rl.length])] at hk
          rw [hz]
          exact hk
    · exact h1.elim
  · exact h1.elim
end
end Nw

set_option Elab.async false
set_option linter.all false
set_option maxRecDepth 100000
set_option maxHeartbeats 4000000
/-! Nw43: x in d.values(), whole numbers. -/
namespace NwV
open PySem
open PySem.Sem (wp)
theorem entry_ci : entryFor table "proto.contains_iter" = some Builtin.«proto.contains_iter» := entryFor_of_tree (by kernel_rfl)
theorem plain_ci : plainId "proto.contains_iter" = true := by decide +kernel
theorem no_contains : typeLookup (.type "dict_values") "__contains__" = pure none := by rw [typeLookup_type, builtinLookup_eq_fast]; kernel_rfl
section
variable {prog : Program} {w : World} {A : Around} {R : Result → Shared → Prop} {I : Addr} {fp wr : List Addr} {n : Nat} {P : Nat → Value → Prop} {St : Nat → Heap → Prop}
theorem code_ci (W : Walks prog w A.in1 I fp wr n P St) (ns : Nat → Int) (hP : ∀ i v, P i v → ∃ t, v = .int (ns i) t) {x : Int} {t : Tok} : ∀ (k i : Nat) (s : Shared), n - i = k → i ≤ n → St i s.heap →
    (∀ h' tk, (∀ b o, b ∉ wr → s.heap.get? b = some o → h'.get? b = some o) → R (.ok (.ret (.bool (((List.range n).drop i).any fun j => ns j == x)))) { s with heap := h', toks := tk }) →
    codeAny (model prog w) A (.builtin "proto.contains_iter" ⟨[.ref I, .int x t], []⟩) R s := by
  intro k
  induction k with
  | zero =>
    intro i s hk hi hst hR
    have hin : i = n := by omega
    subst hin
    refine codeAny_builtin entry_ci ?_
    rw [Around.under_plainId plain_ci _]
    show wpAny _ A.in1 (pyNext (.ref I) >>= _) _ _ s
    refine wpAny_bind (W.done s _ _ hst fun h' tk hm => ?_)
    refine wpAny_bind (wpAny_rule (wpAny_pure ?_))
    have := hR h' tk hm
    rw [List.drop_of_length_le (by simp)] at this
    exact this
  | succ k ih =>
    intro i s hk hi hst hR
    have hlt : i < n := by omega
    have hd : (List.range n).drop i = i :: (List.range n).drop (i + 1) := by
      rw [List.drop_eq_getElem_cons (by simpa using hlt)]; simp
    refine codeAny_builtin entry_ci ?_
    rw [Around.under_plainId plain_ci _]
    show wpAny _ A.in1 (pyNext (.ref I) >>= _) _ _ s
    refine wpAny_bind (W.item i s _ _ hlt hst fun v h' tk hPv hst' hm => ?_)
    obtain ⟨u, rfl⟩ := hP i v hPv
    refine wpAny_bind (wpAny_eqBool_int ?_)
    cases hb : ns i == x with
    | false =>
      refine wpAny_pure ⟨plainId_quiet plain_ci _, ih (i + 1) _ (by omega) hlt hst' fun h'' tk' hm' => ?_⟩
      have := hR h'' tk' fun b o hb e => hm' b o hb (hm b o hb e)
      rw [hd, List.any_cons, hb, Bool.false_or] at this
      exact this
    | true =>
      refine wpAny_bind (wpAny_rule (wpAny_pure ?_))
      have := hR h' tk hm
      rw [hd, List.any_cons, hb, Bool.true_or] at this
      exact this
end
section
variable {prog : Program} {w : World} {A : Around} {E : Value → Shared → Prop} {s : Shared}
theorem contains_vals {v : Addr} {x : Int} {t : Tok} {Q : Bool → Shared → Prop} (hT : s.TypeIs (.ref v) "dict_values")
    (h : wpAny (model prog w) A (pyIter (.ref v)) (fun it s₂ => ∃ (I : Addr) (fp wr : List Addr) (n : Nat) (P : Nat → Value → Prop) (St : Nat → Heap → Prop) (ns : Nat → Int), it = .ref I ∧ Walks prog w A.in1 I fp wr n P St ∧ St 0 s₂.heap ∧ (∀ i v, P i v → ∃ t, v = .int (ns i) t) ∧
      ∀ h' tk, (∀ b o, b ∉ wr → s₂.heap.get? b = some o → h'.get? b = some o) → Q ((List.range n).any fun j => ns j == x) { s₂ with heap := h', toks := tk }) (fun _ _ => False) s) :
    wpAny (model prog w) A (contains (.ref v) (.int x t)) Q E s := by
  unfold contains
  refine wpAny_holding ?_
  rw [stdlibNamesSay?_of_typeIs hT]
  refine wpAny_bind (wpAny_specialOf hT no_contains ?_)
  show wpAny _ _ (if ((none : Option Value) == some Value.none) = true then _ else _) Q E s
  rw [if_neg (by simp)]
  refine wpAny_bind (wpAny_callSpecialUnlessNone?_none hT no_contains ?_)
  refine wpAny_bind (wpAny_rule ?_)
  refine wpAny_bind (wpAny_tryCatch (wpAny_mono h (fun it s₂ h₂ => ?_) fun _ _ z => z.elim))
  obtain ⟨I, fp, wr, n, P, St, ns, rfl, W, hst, hP, hQ⟩ := h₂
  refine wpAny_bind (wpAny_runValue (code_ci W ns hP n 0 s₂ rfl (Nat.zero_le _) hst fun h' tk hm => ?_))
  exact wpAny_pure (by simpa using hQ h' tk hm)
end
end NwV
namespace Nw
open PySem PySem.Spec
open PyProof.Rows hiding St
open L2
/-- e.values() of a plain dict -/
def tVals (te : TE) : TE := fun σ H Q => te σ H fun x H1 => ∃ a kvs, x = .ref a ∧ H1 a = some (.dK kvs) ∧ ∀ p, H1 p = none → Q (.ref p) (upd H1 p (viewO "dict_values" p a))
section
variable {X : Cx} {W : WX} {o e : Expr} {td : TE} {apos pos mpos : Pos}
theorem pe_vals (hd : PE X o td) (hbase : attributeBase o "values" X.env (eval o X.env) = eval o X.env := by rfl) (hline : (apos.endLine == mpos.line) = true := by rfl) :
    PE X (.Call (.Attribute o "values" apos) [] [] mpos) (tVals td) := by
  refine ⟨fun pins s σ H Q I h => ?_⟩
  refine wpAny_Call_method0_late hbase hline (thn (hd.run pins s σ H _ I h) fun v s1 ⟨x, H1, I1, r1, a, kvs, ex, ha, q⟩ => ?_)
  subst ex
  obtain rfl : v = Value.ref a := r1
  obtain ⟨_, hsys, vs, rel, dof⟩ := dk_of I1.hok ha
  obtain ⟨ep, dat⟩ := dof.dictAt
  obtain ⟨ob, es, ho, ex, hdat, hko, hpr, hnd⟩ := dat
  refine ⟨"dict", "dict.values", F.plainAttrs_dict, F.slot_dict_values, F.type_dict_values, ⟨ob, ho, ex.1⟩, fun b e => ?_, Calls.callWith_builtin rfl (PySem.evalArgs_none ?_)⟩
  · cases e
    exact ⟨ob, ho, ex.2.1⟩
  refine call_meetsIn F.slot_dict_values ⟨ob, ho, ex.1⟩ F.entry_dict_values (F.args_dict_values_1 _) (meets_dict_values (mixKind X.prog X.w) a hsys) ⟨⟨vs, dof⟩, ?_⟩
  exact ⟨.ref s1.heap.objs.size, _, I1.laid (t' := s1.toks) (fun b o q => Heap.get?_push_of_some _ q) (Nat.le_refl _) (viewO_ok (Heap.get?_push_size _ rfl)), rfl, q _ (I1.hok.fresh (Nat.le_refl _))⟩
theorem op_inVals (hc : X.calm = true) : OpR X (compareOp .In) (fun y x H Q => ∃ (p a : Addr) (kvs : List (Key × V)) (ns : List Int) (i : Int), y = .int i ∧ x = .ref p ∧ H p = some (viewO "dict_values" p a) ∧ H a = some (.dK kvs) ∧ kvs.map Prod.snd = ns.map V.int ∧ Q (.bl (decide (i ∈ ns))) H) := by
  rintro pins s σ H y x v u Q I ry rx ⟨p, a, kvs, ns, i, rfl, rfl, hp, ha, hns, q⟩
  obtain rfl : u = Value.ref p := rx
  obtain ⟨t, rfl⟩ := ry
  have hv : s.heap.get? p = some (DSub.viewOb "dict_values" a) := (show ObjOk X.prog X.w H s.heap p (viewO "dict_values" p a) from I.hok p _ hp).1
  obtain ⟨_, hsys, vs, rel, dof⟩ := dk_of I.hok ha
  obtain ⟨ep, dat⟩ := dof.dictAt
  have dat' := dat
  obtain ⟨ob, es, ho, ex, hdat, hko, hpr, hnd⟩ := dat'
  have hlt : a < s.heap.objs.size := Heap.lt_size ho
  have hlv : vs.length = ns.length := by
    have e1 := congrArg List.length hns
    rw [List.length_map, List.length_map] at e1
    rw [← e1]
    exact (KV.length rel).symm
  have hval : ∀ (i : Nat) (v : Value), (∃ k, vs[i]? = some (k, v)) → ∃ t, v = Value.int (ns.getD i 0) t := fun i v ⟨k, hk⟩ => by
    obtain ⟨x, h1, h2⟩ := KV.at' rel hk
    have e1 : (kvs.map Prod.snd)[i]? = some x := by rw [List.getElem?_map, h1] <;> rfl
    rw [hns, List.getElem?_map] at e1
    obtain ⟨j, hj, e2⟩ := Option.map_eq_some_iff.mp e1
    subst e2
    obtain ⟨t, e3⟩ := h2
    refine ⟨t, ?_⟩
    rw [e3, List.getD_eq_getElem?_getD, hj] <;> rfl
  refine wpAny_bind (m := contains _ _) (NwV.contains_vals ⟨_, hv, rfl⟩ (wpAny_pyIter_values (v := p) (d := a) ⟨_, hv, rfl, rfl⟩ dat ?_))
  refine ⟨s.heap.objs.size, _, _, _, _, _, fun i => ns.getD i 0, rfl, Walks.dictValues (knd := mixKind X.prog X.w) (A := X.A.in1) (I.ok.hd hc) s.heap.objs.size a (Nat.ne_of_lt hlt) vs ep,
    ⟨⟨_, Heap.get?_push_size _ rfl, rfl, rfl⟩, dat.keep fun b u e => Heap.get?_push_of_some _ e⟩, hval, fun h' tk hk => wpAny_pure ?_⟩
  have eb : ((List.range vs.length).any fun j => ns.getD j 0 == i) = decide (i ∈ ns) := by
    rw [hlv, PySem.W.range_any (fun z => z == i) 0 ns]
    cases hd : decide (i ∈ ns) with
    | true => rw [List.any_eq_true]; exact ⟨i, of_decide_eq_true hd, by simp⟩
    | false =>
      rw [List.any_eq_false]
      intro z hz e
      have e : z = i := by simpa using e
      rw [e] at hz
      exact of_decide_eq_false hd hz
  rw [eb]
  refine ⟨.bl _, H, I.kept (t' := tk) fun b u e => hk b u (fun hmem => ?_) (Heap.get?_push_of_some _ e), rfl, q⟩
  have e1 : b = s.heap.objs.size := List.mem_singleton.mp hmem
  have e2 := Heap.lt_size e
  rw [e1] at e2
  exact absurd e2 (Nat.lt_irrefl _)
end
end Nw

set_option Elab.async false
set_option linter.all false
set_option maxRecDepth 100000
set_option maxHeartbeats 4000000
/-! Nw44: dicts: in values, list, sorted, dict, items as a list, get, pop; a text's partition. -/
namespace Nw
open PySem PySem.Spec
open PyProof.Rows hiding St
open L2
variable [TheW]
theorem relL_keys {K : Frag} {R : List Addr} {F : Hp} : ∀ ks : List Key, RelL K R F (ks.map kV) (ks.map keyD)
  | [] => .nil
  | _ :: r => .cons rel_key (relL_keys r)
theorem zip_keys {ks : List Key} {vs : List V} (h : ks.length = vs.length) : ((ks.zip vs).map fun kv => kV kv.1) = ks.map kV := by
  have e : (ks.zip vs).map (fun kv => kV kv.1) = ((ks.zip vs).map Prod.fst).map kV := by rw [List.map_map]; rfl
  rw [e, List.map_fst_zip (Nat.le_of_eq h)]
/-! ### list(d), sorted(d) -/
def listXD (new : List D → Cells → Out D) (ds : List D) (c : Cells) : Out D := match ds with
  | [d] => (match dicOf c d with
    | some q => new (q.1.map keyD) c
    | none => listD new [d] c)
  | _ => .bad
section
variable {X : Cx} {W : WX}
theorem cs_listX {new : List D → Cells → Out D} (hc : X.calm = true) (hn : NewL X new) : CallS X (.type "list") (listXD new) := by
  obtain ⟨r0, p0, q0⟩ := cs_list (X := X) hn
  refine ⟨_, CallR.or (call_listD hc) p0, fun Z W R F c σ H vs ds Q w r h => ?_⟩
  unfold listXD at h
  split at h
  · rename_i d
    obtain ⟨v, e1, rr⟩ : ∃ v, vs = [v] ∧ Rel X.K R F v d := by
      cases r with
      | cons r t => cases t; exact ⟨_, rfl, r⟩
    subst e1
    split at h
    · rename_i q hq
      obtain ⟨ks, es⟩ := q
      obtain ⟨a, us, rfl, ha, hl, rl⟩ := w.dict rr hq
      refine .inl ⟨a, _, rfl, .inl ha, fun p n => ?_⟩
      rw [zip_keys hl]
      exact (hn Z W R F σ c H _ _ Q w (relL_keys ks) h).2 p n
    · exact .inr (q0 Z W R F c σ H [v] [d] Q w r h)
  · exact h.elim
def txtKs : List Key → Option (List Str)
  | [] => some []
  | .inr x :: r => (txtKs r).map (x :: ·)
  | .inl _ :: _ => none
theorem txtKs_eq : ∀ {ks : List Key} {xs : List Str}, txtKs ks = some xs → ks = xs.map Sum.inr
  | [], xs, h => by cases h; rfl
  | .inr x :: r, xs, h => by
    unfold txtKs at h
    cases e : txtKs r with
    | none => rw [e] at h; cases h
    | some ys =>
      rw [e] at h
      cases h
      rw [txtKs_eq e]
      rfl
def sortedXD (new : List D → Cells → Out D) (ds : List D) (c : Cells) : Out D := match ds with
  | [d] => (match dicOf c d with
    | some q => (match txtKs q.1 with
      | some xs => if xs.length < 64 then new ((sortS xs).map D.str) c else .bad
      | none => .bad)
    | none => sortedD new [d] c)
  | _ => .bad
theorem cs_sortedX {new : List D → Cells → Out D} (hc : X.calm = true) (hn : NewL X new) : CallS X (.builtin "sorted") (sortedXD new) := by
  obtain ⟨r0, p0, q0⟩ := cs_sorted (X := X) hn
  refine ⟨_, CallR.or (call_sortedD hc) p0, fun Z W R F c σ H vs ds Q w r h => ?_⟩
  unfold sortedXD at h
  split at h
  · rename_i d
    obtain ⟨v, e1, rr⟩ : ∃ v, vs = [v] ∧ Rel X.K R F v d := by
      cases r with
      | cons r t => cases t; exact ⟨_, rfl, r⟩
    subst e1
    split at h
    · rename_i q hq
      obtain ⟨ks, es⟩ := q
      obtain ⟨a, us, rfl, ha, hl, rl⟩ := w.dict rr hq
      split at h
      · rename_i xs hx
        split at h
        · rename_i h64
          refine .inl ⟨a, _, xs, rfl, .inl ha, by rw [List.map_fst_zip (Nat.le_of_eq hl)]; exact txtKs_eq hx, h64, fun ys p hp hs n => ?_⟩
          rw [sortS_one hs hp]
          exact (hn Z W R F σ c H _ _ Q w (relL_strs _) h).2 p n
        · exact h.elim
      · exact h.elim
    · exact .inr (q0 Z W R F c σ H [v] [d] Q w r h)
  · exact h.elim
/-! ### dict(d), dict(pairs) -/
def pairsOf : List D → Option (List Key × List D)
  | [] => some ([], [])
  | .tup [k, v] :: r => (match keyOf k, pairsOf r with
    | some j, some q => some (j :: q.1, v :: q.2)
    | _, _ => none)
  | _ :: _ => none
theorem pairs_rel {K : Frag} {R : List Addr} {F H : Hp} (hs : Same F H) : ∀ {l : List D} {us : List V} {q : List Key × List D}, RelL K R F us l → pairsOf l = some q →
    ∃ (ps : List Addr) (vs : List V), us = ps.map V.ref ∧ Paired (fun p (kv : Key × V) => SqT K H p [kV kv.1, kv.2]) ps (q.1.zip vs) ∧ q.1.length = vs.length ∧ RelL K R F vs q.2
  | [], _, q, .nil, h => by
    cases h
    exact ⟨[], [], rfl, .nil, rfl, .nil⟩
  | d :: r, _, q, .cons (v := u) h1 t, h => by
    unfold pairsOf at h
    split at h
    · rename_i e1; cases e1
    · rename_i k v r' e1
      cases e1
      split at h
      · rename_i j q' hk hq'
        cases h
        obtain ⟨ps, vs, e2, p2, l2, rl2⟩ := pairs_rel hs t hq'
        cases h1 with
        | @tup a us0 _ g l =>
          cases l with
          | @cons x _ _ _ rx t1 =>
            cases t1 with
            | @cons y _ _ _ ry t2 =>
              cases t2
              have ek := keyOf_rel rx hk
              subst ek
              exact ⟨a :: ps, y :: vs, by rw [e2]; rfl, .cons (g.ext hs) p2, by rw [List.length_cons, List.length_cons, l2], .cons ry rl2⟩
      · cases h
    · cases h
def dictXD (ds : List D) (c : Cells) : Out D := match ds with
  | [d] => (match dicOf c d with
    | some q => .ok (.cell c.length) (c ++ [.dct q.1 q.2])
    | none => (match lstOf c d with
      | some l => (match pairsOf l with
        | some q => let z := mergeD [] [] q.1 q.2; .ok (.cell c.length) (c ++ [.dct z.1 z.2])
        | none => .bad)
      | none => .bad))
  | _ => .bad
theorem Wd.newDic {K : Frag} {Z : Hp} {R : List Addr} {F : Hp} {c : Cells} {H : Hp} {p : Addr} {ks : List Key} {vs : List V} {ds : List D} (w : Wd K Z R F c H) (n : H p = none) (hl : ks.length = vs.length) (rl : RelL K R F vs ds) : Wd K Z (R ++ [p]) F (c ++ [.dct ks ds]) (upd H p (.dK (ks.zip vs))) ∧ Rel K (R ++ [p]) F (.ref p) (.cell c.length) := by
  refine ⟨w.alloc n (.dct hl rl), .cell ?_⟩
  rw [← w.len, List.getElem?_append_right (Nat.le_refl _), Nat.sub_self]
  rfl
theorem cs_dictX (hc : X.calm = true) : CallS X (.type "dict") dictXD := by
  refine ⟨_, CallR.or call_dictD (call_dictP hc), fun Z W R F c σ H vs ds Q w r h => ?_⟩
  unfold dictXD at h
  split at h
  · rename_i d
    obtain ⟨v, e1, rr⟩ : ∃ v, vs = [v] ∧ Rel X.K R F v d := by
      cases r with
      | cons r t => cases t; exact ⟨_, rfl, r⟩
    subst e1
    split at h
    · rename_i q hq
      obtain ⟨ks, es⟩ := q
      obtain ⟨a, us, rfl, ha, hl, rl⟩ := w.dict rr hq
      refine .inl ⟨a, _, rfl, .inl ha, fun p n => ?_⟩
      obtain ⟨w2, r2⟩ := w.newDic n hl rl
      exact h _ _ _ (List.prefix_append _ _) (Same.refl _) w2 _ r2
    · split at h
      · rename_i l hl
        obtain ⟨a, us, rfl, q1, rl⟩ := w.list rr hl
        split at h
        · rename_i q hq
          obtain ⟨ps, vs, e2, p2, l2, rl2⟩ := pairs_rel w.same rl hq
          subst e2
          obtain ⟨vs', m1, m2, m3⟩ := merge_zip (K := X.K) (R := R) (F := F) (ks := []) (vs := []) (ds := []) (js := q.1) (us := vs) (es := q.2) rfl l2 .nil rl2
          refine .inr ⟨a, ps, _, rfl, q1, p2, fun p n => ?_⟩
          have m1 : mergeK [] (q.1.zip vs) = (mergeD [] [] q.1 q.2).1.zip vs' := m1
          rw [m1]
          obtain ⟨w2, r2⟩ := w.newDic n m2 m3
          exact h _ _ _ (List.prefix_append _ _) (Same.refl _) w2 _ r2
        · exact h.elim
      · exact h.elim
  · exact h.elim
end
/-! ### list(d.items()) -/
open Classical in
theorem Wd.take {K : Frag} {Z : Hp} {R : List Addr} {F : Hp} {c : Cells} {H H' : Hp} (w : Wd K Z R F c H) (e : Same H H') (l : List Addr) (hn : ∀ t ∈ l, H t = none) :
    ∃ F', Wd K Z R F' c H' ∧ Same F F' ∧ (∀ t ∈ l, F' t = H' t) := by
  have out : ∀ b u, H b = some u → b ∉ l := fun b u h z => by rw [hn b z] at h; cases h
  have s : Same F (fun b => if b ∈ l then H' b else F b) := fun b u h => by
    show (if b ∈ l then H' b else F b) = some u
    rw [if_neg (out b u (w.same _ _ h))]
    exact h
  refine ⟨fun b => if b ∈ l then H' b else F b, ⟨w.zs.trans e, fun b u h => ⟨?_, (w.zf b u h).2⟩, fun b u h => ?_, w.len, w.nd, fun i k h => ?_, w.tb.imp (fun a ⟨ps, q⟩ f z r => ⟨(e _ _ q).trans q.symm, (if_neg (out a _ q)).trans f, z, r⟩) fun _ _ x => s _ _ x⟩, s, fun t ht => if_pos ht⟩
  · show (if b ∈ l then H' b else F b) = none
    rw [if_neg (out b u (w.zs _ _ h))]
    exact (w.zf b u h).1
  · have h : (if b ∈ l then H' b else F b) = some u := h
    by_cases hb : b ∈ l
    · rw [if_pos hb] at h; exact h
    · rw [if_neg hb] at h; exact e _ _ (w.same _ _ h)
  · obtain ⟨a, u, h1, h2, h3, h4⟩ := w.cel i k h
    have ha := out a u h2
    exact ⟨a, u, h1, e _ _ h2, h3.mono (List.prefix_refl _) s, h4.imp (fun y => by show (if a ∈ l then H' a else F a) = none; rw [if_neg ha]; exact y) fun y => by show (if a ∈ l then H' a else F a) = some u; rw [if_neg ha]; exact y⟩
theorem pairL_rel {K : Frag} {R : List Addr} {F : Hp} : ∀ {ks : List Key} {vs : List V} {ds : List D} {ts : List Addr}, RelL K R F vs ds → Paired (fun (t : Addr) (q : Key × V) => F t = some (.tup [kV q.1, q.2])) ts (ks.zip vs) → RelL K R F (ts.map V.ref) (pairL ks ds)
  | [], _, _, _, _, h => by
    cases h
    exact .nil
  | k :: ks, [], _, _, .nil, h => by
    cases h
    exact .nil
  | k :: ks, v :: vs, d :: ds, _, .cons r t, h => by
    have h : Paired (fun (t : Addr) (q : Key × V) => F t = some (.tup [kV q.1, q.2])) _ ((k, v) :: ks.zip vs) := h
    cases h with
    | cons h1 h2 => exact .cons (.tup (SqT.of h1) (.cons rel_key (.cons r .nil))) (pairL_rel t h2)
theorem paired_imp {α β : Type} {P Q : α → β → Prop} : ∀ {l : List α} {m : List β}, Paired P l m → (∀ a ∈ l, ∀ b, P a b → Q a b) → Paired Q l m
  | _, _, .nil, _ => .nil
  | _, _, .cons h t, f => .cons (f _ List.mem_cons_self _ h) (paired_imp t fun a ha => f a (List.mem_cons_of_mem _ ha))
def mItemsL (me : ME) : ME := fun δ c => (me δ c).bind fun d c1 => match dicOf c1 d with
  | some q => .ok (.lst (pairL q.1 q.2)) c1
  | none => .bad
section
variable {X : Cx} {W : WX} {e o f l : Expr} {me mo mf ml : ME} {p apos cpos pos mpos : Pos}
theorem de_itemsL (hc : X.calm = true) (hm : X.mg "list" = none) (he : DE X W e me) (hg : Gl X "list" := by rfl) (hbase : attributeBase e "items" X.env (eval e X.env) = eval e X.env := by rfl) (hline : (apos.endLine == cpos.line) = true := by rfl)
    (hs : starEach [.Call (.Attribute e "items" apos) [] [] cpos] X.env = (false, eval (.Call (.Attribute e "items" apos) [] [] cpos) X.env) :: starEach [] X.env := by rfl) :
    DE X W (.Call (.Name "list" p) [.Call (.Attribute e "items" apos) [] [] cpos] [] pos) (mItemsL me) := by
  obtain ⟨t, pt, st⟩ := he.ex
  refine ⟨_, LiI.pe_listItems hc pt hg hm (by decide +kernel) hbase hline hs, fun Z R F δ c σ H Q w rs h => ?_⟩
  refine st Z R F δ c σ H _ w rs ((Aft.bind h).imp ?_)
  rintro R1 F1 d c1 H1 q1 e1 w1 ⟨_, _, _, h1⟩ v rv
  split at h1
  · rename_i q hq
    obtain ⟨ks, ds⟩ := q
    obtain ⟨a, vs, rfl, ha, hl, rl⟩ := w1.dict rv hq
    refine ⟨a, _, rfl, ha, fun H' p ts k n nt hp hpt pr => ?_⟩
    obtain ⟨F', w2, s2, f2⟩ := w1.take k (p :: ts) (fun t ht => by
      rcases List.mem_cons.mp ht with z | z
      · rw [z]; exact n
      · exact nt t z)
    refine h1 R1 F' H' (List.prefix_refl _) s2 w2 _ (.lst ((f2 p List.mem_cons_self).trans hpt) ?_)
    exact pairL_rel (rl.mono (List.prefix_refl _) s2) (paired_imp pr fun t ht q hq => (f2 t (List.mem_cons_of_mem _ ht)).trans hq)
  · exact h1.elim
/-! ### x in d.values() -/
def intsD : List D → Option (List Int)
  | [] => some []
  | .int i :: r => (intsD r).map (i :: ·)
  | _ :: _ => none
theorem intsD_rel {K : Frag} {R : List Addr} {F : Hp} : ∀ {vs : List V} {ds : List D} {ns : List Int}, RelL K R F vs ds → intsD ds = some ns → vs = ns.map V.int
  | _, _, ns, .nil, h => by cases h; rfl
  | _, d :: ds, ns, .cons r t, h => by
    unfold intsD at h
    split at h
    · rename_i z; cases z
    · rename_i i r' z
      cases z
      cases e : intsD ds with
      | none => rw [e] at h; cases h
      | some ms =>
        rw [e] at h
        cases h
        rw [intsD_rel t e]
        cases r
        rfl
    · cases h
def inV : D → D → Cells → Out D := fun x d c => match x with
  | .int i => (match dicOf c d with
    | some q => (match intsD q.2 with
      | some ns => .ok (.bl (decide (i ∈ ns))) c
      | none => .bad)
    | none => .bad)
  | _ => .bad
theorem inV_sem {tl to : TE} {δ : En} (sl : ∀ Z R F δ c σ H Q, Wd X.K Z R F c H → RelS X.K R F δ σ → Aft X.K Z W R F σ (ml δ c) (QV X.K Q) → tl σ H Q) (so : ∀ Z R F δ c σ H Q, Wd X.K Z R F c H → RelS X.K R F δ σ → Aft X.K Z W R F σ (mo δ c) (QV X.K Q) → to σ H Q) :
    ∀ Z R F δ c σ H Q, Wd X.K Z R F c H → RelS X.K R F δ σ → Aft X.K Z W R F σ (mOp inV ml mo δ c) (QV X.K Q) → tOp (fun y x H Q => ∃ (p a : Addr) (kvs : List (Key × V)) (ns : List Int) (i : Int), y = .int i ∧ x = .ref p ∧ H p = some (viewO "dict_values" p a) ∧ H a = some (.dK kvs) ∧ kvs.map Prod.snd = ns.map V.int ∧ Q (.bl (decide (i ∈ ns))) H) tl (tVals to) σ H Q := by
  intro Z R F δ c σ H Q w rs h
  unfold mOp at h
  refine sl Z R F δ c σ H _ w rs ((Aft.bind h).imp ?_)
  rintro R1 F1 x c1 H1 q1 e1 w1 ⟨_, _, _, h1⟩ v rv
  refine so Z R1 F1 δ c1 σ H1 _ w1 (rs.mono q1 e1) ((Aft.bind h1).imp ?_)
  rintro R2 F2 d c2 H2 q2 e2 w2 ⟨_, _, _, h2⟩ u ru
  unfold inV at h2
  split at h2
  · rename_i i
    split at h2
    · rename_i q hq
      obtain ⟨ks, ds⟩ := q
      split at h2
      · rename_i ns hn
        obtain ⟨a, vs, rfl, ha, hl, rl⟩ := w2.dict ru hq
        cases rv
        have ev := intsD_rel rl hn
        refine ⟨a, _, rfl, ha, fun p n => ⟨p, a, _, ns, i, rfl, rfl, upd_same, by rw [upd_ne (ne_of_none ha n)]; exact ha, by rw [List.map_snd_zip (Nat.le_of_eq hl.symm)]; exact ev, ?_⟩⟩
        exact h2 R2 F2 _ (List.prefix_refl _) (Same.refl _) (w2.more (Ext.upd n)) _ (.bl _)
      · exact h2.elim
    · exact h2.elim
  · exact h2.elim
theorem de_inV (hc : X.calm = true) (hl : DE X W l ml) (ho : DE X W o mo) (hbase : attributeBase o "values" X.env (eval o X.env) = eval o X.env := by rfl) (hline : (apos.endLine == mpos.line) = true := by rfl)
    (hm : behindInMarks CmpOp.In (.Call (.Attribute o "values" apos) [] [] mpos) = false := by rfl) : DE X W (.Compare l [.In] [.Call (.Attribute o "values" apos) [] [] mpos] pos) (mOp inV ml mo) := by
  obtain ⟨tl, pl, sl⟩ := hl.ex
  obtain ⟨to, po, so⟩ := ho.ex
  exact ⟨_, pe_cmpR (op_inVals hc) pl (pe_vals po hbase hline) hm, inV_sem (δ := []) sl so⟩
theorem dt_inV (hc : X.calm = true) (hl : DE X W l ml) (ho : DE X W o mo) (hbase : attributeBase o "values" X.env (eval o X.env) = eval o X.env := by rfl) (hline : (apos.endLine == mpos.line) = true := by rfl)
    (hm : behindInMarks CmpOp.In (.Call (.Attribute o "values" apos) [] [] mpos) = false := by rfl) : DT X W (.Compare l [.In] [.Call (.Attribute o "values" apos) [] [] mpos] pos) (mB (mOp inV ml mo)) := by
  obtain ⟨tl, pl, sl⟩ := hl.ex
  obtain ⟨to, po, so⟩ := ho.ex
  exact ⟨_, pt_cmpR (op_inVals hc) pl (pe_vals po hbase hline) hm, b_read (inV_sem (δ := []) sl so)⟩
/-! ### get, pop -/
def mGet1 (mo mk : ME) : ME := fun δ c => (mo δ c).bind fun d c1 => match dicOf c1 d with
  | some _ => (mk δ c1).bind fun y c2 => (match dicOf c2 d with
    | some q => (match keyOf y with
      | some k => .ok ((valD k q.1 q.2).getD .non) c2
      | none => .bad)
    | none => .bad)
  | none => .bad
theorem de_get1 {k : Nat} (hr : Room k X.A) (ho : DE X W o mo) (he : DE X W e me) (m : M1 X o "get" apos e cpos := by exact ⟨rfl, rfl, rfl, rfl⟩) : DE X W (.Call (.Attribute o "get" apos) [e] [] cpos) (mGet1 mo me) := by
  obtain ⟨t1, p1, s1⟩ := ho.ex
  obtain ⟨t2, p2, s2⟩ := he.ex
  refine ⟨_, pe_dget1 (by have := hr.units; omega) p1 p2 m, fun Z R F δ c σ H Q w rs h => ?_⟩
  unfold mGet1 at h
  refine s1 Z R F δ c σ H _ w rs ((Aft.bind h).imp ?_)
  rintro R1 F1 d c1 H1 q1 e1 w1 ⟨_, _, _, h1⟩ x rx
  split at h1
  · rename_i q hq
    obtain ⟨ks, ds⟩ := q
    obtain ⟨a, vs, rfl, ha, hl, rl⟩ := w1.dict rx hq
    refine ⟨a, rfl, .inl ⟨_, .inl ha⟩, ?_⟩
    refine s2 Z R1 F1 δ c1 σ H1 _ w1 (rs.mono q1 e1) ((Aft.bind h1).imp ?_)
    rintro R2 F2 y c2 H2 q2 e2 w2 ⟨_, _, _, h3⟩ u ru
    split at h3
    · rename_i q' hq'
      obtain ⟨ks', ds'⟩ := q'
      obtain ⟨a', vs', ea, ha', hl', rl'⟩ := w2.dict (rx.mono q2 e2) hq'
      cases ea
      split at h3
      · rename_i k hk
        have ek : u = kV k := keyOf_rel ru hk
        cases hv : valD k ks' ds' with
        | some w' =>
          obtain ⟨b, hb, rb⟩ := valD_some rl' hv
          refine ⟨some b, ?_, h3.ok w2 b (by show Rel X.K R2 F2 b ((valD k ks' ds').getD .non); rw [hv]; exact rb)⟩
          rw [ek, ← hb]
          exact DGet.k ha'
        | none =>
          refine ⟨none, ?_, h3.ok w2 .non (by show Rel X.K R2 F2 .non ((valD k ks' ds').getD .non); rw [hv]; exact .non)⟩
          rw [ek, ← valV_none hl' (valD_none (by rw [hl', rl'.length]) hv)]
          exact DGet.k ha'
      · exact h3.elim
    · exact h3.elim
  · exact h1.elim
/-- d.pop(k), d.pop(k, x) of a dict -/
def mDPop1 (mo mk : ME) : ME := fun δ c => (mo δ c).bind fun d c1 => match d with
  | .cell i => (match c1[i]? with
    | some (.dct _ _) => (mk δ c1).bind fun y c2 => (match c2[i]?, keyOf y with
      | some (.dct ks ds), some k => (match valD k ks ds with
        | some v => .ok v (c2.set i (.dct (dropKs k ks) (dropVs k ks ds)))
        | none => .bad)
      | _, _ => .bad)
    | _ => .bad)
  | _ => .bad
theorem de_dpop1 (ho : DE X W o mo) (he : DE X W e me) (m : M1 X o "pop" apos e cpos := by exact ⟨rfl, rfl, rfl, rfl⟩) : DE X W (.Call (.Attribute o "pop" apos) [e] [] cpos) (mDPop1 mo me) := by
  obtain ⟨t1, p1, s1⟩ := ho.ex
  obtain ⟨t2, p2, s2⟩ := he.ex
  refine ⟨_, pe_dpop1 p1 p2 m, fun Z R F δ c σ H Q w rs h => ?_⟩
  unfold mDPop1 at h
  refine s1 Z R F δ c σ H _ w rs ((Aft.bind h).imp ?_)
  rintro R1 F1 d c1 H1 q1 e1 w1 ⟨_, _, _, h1⟩ x rx
  split at h1
  · rename_i i
    split at h1
    · rename_i ks0 ds0 hc
      cases rx with
      | @cell _ a hR =>
        obtain ⟨vs0, ha0, _, _⟩ := w1.atDict hR hc
        refine ⟨a, rfl, .inl ⟨_, .inl ha0⟩, ?_⟩
        refine s2 Z R1 F1 δ c1 σ H1 _ w1 (rs.mono q1 e1) ((Aft.bind h1).imp ?_)
        rintro R2 F2 y c2 H2 q2 e2 w2 ⟨_, _, _, h3⟩ u ru
        split at h3
        · rename_i ks ds k hc2 hk
          split at h3
          · rename_i v hv
            obtain ⟨vs, ha, hl, rl⟩ := w2.atDict (pre_get q2 hR) hc2
            obtain ⟨b, hb, rb⟩ := valD_some rl hv
            obtain ⟨z1, z2⟩ := dropK_zip (k := k) hl
            refine ⟨_, k, b, ha, keyOf_rel ru hk, hb, ?_⟩
            rw [z1]
            exact h3 R2 F2 _ (List.prefix_refl _) (Same.refl _) (w2.write (pre_get q2 hR) (.dct z2 (dropVs_rel rl)) (w2.at0 (pre_get q2 hR) hc2)) b rb
          · exact h3.elim
        · exact h3.elim
    · exact h1.elim
  · exact h1.elim
end
/-! ### partition -/
def partD (d : D) (ds : List D) (c : Cells) : Out D := match d, ds with
  | .str a, [.str b] => if (b.length == 0) = false ∧ a.length ≤ sizeLine then .ok (.tup [.str (Txt.partition a b).1, .str (Txt.partition a b).2.1, .str (Txt.partition a b).2.2]) c else .bad
  | _, _ => .bad
theorem ms_part {X : Cx} : MtS X "str.partition" partD := by
  refine ⟨_, mt_partition, fun Z W R F c σ H x d vs ds Q w rx rv h => ?_⟩
  unfold partD at h
  split at h
  · rename_i a b
    obtain ⟨u, e1, ru⟩ : ∃ u, vs = [u] ∧ Rel X.K R F u (.str b) := by
      cases rv with
      | cons r t => cases t; exact ⟨_, rfl, r⟩
    subst e1
    cases ru
    cases rx
    split at h
    · rename_i hz
      refine ⟨a, b, rfl, rfl, hz.1, hz.2, fun p n => ?_⟩
      obtain ⟨w2, s2⟩ := w.frozen n (.tup [.str (Txt.partition a b).1, .str (Txt.partition a b).2.1, .str (Txt.partition a b).2.2])
      exact h _ _ _ (List.prefix_refl _) s2 w2 _ (.tup (SqT.of upd_same) (.cons (.str _) (.cons (.str _) (.cons (.str _) .nil))))
    · exact h.elim
  · exact h.elim
end Nw

set_option Elab.async false
set_option linter.all false
set_option maxRecDepth 100000
set_option maxHeartbeats 4000000
/-! Nw45: d == {}, d != {}. -/
namespace Nw
open PySem PySem.Spec
open PyProof.Rows hiding St
open L2
variable [TheW]
def rE0 (neg : Bool) : R2 := fun x y H Q => ∃ (a b : Addr) (ks : List (Key × V)), x = .ref a ∧ y = .ref b ∧ H a = some (.dK ks) ∧ H b = some (.dK []) ∧ Q (.bl (neg != ks.isEmpty)) H
section
variable {X : Cx} {W : WX} {l : Expr} {ml : ME} {pos dpos : Pos}
theorem op_eqE (hu : X.A.units < cLine) : OpR X (compareOp .Eq) (rE0 false) := by
  intro pins s σ H x y v u Q I rx ry h
  obtain ⟨a, b, ks, rfl, rfl, ea, eb, q⟩ := h
  obtain rfl : v = Value.ref a := rx
  obtain rfl : u = Value.ref b := ry
  obtain ⟨_, ya, va, ra, da⟩ := (show ObjOk X.prog X.w H s.heap a (.dK ks) from I.hok a _ ea)
  obtain ⟨_, yb, vb, rb, db⟩ := (show ObjOk X.prog X.w H s.heap b (.dK []) from I.hok b _ eb)
  cases rb
  have el : ks.isEmpty = va.isEmpty := by
    have := ra.length
    cases ks <;> cases va <;> simp_all
  rw [Bool.false_bne, el] at q
  cases va with
  | nil => exact PySem.W.keq_eq (knd := mixKind X.prog X.w) (r := true) ya yb da db hu (fun _ => .nil) (fin_bl I q rfl)
  | cons p r => exact PySem.W.keq_eq (knd := mixKind X.prog X.w) (r := true) ya yb da db hu (fun z => by simp at z) (fin_bl I q (by simp))
theorem op_neE (hu : X.A.units < cLine) : OpR X (compareOp .NotEq) (rE0 true) := by
  intro pins s σ H x y v u Q I rx ry h
  obtain ⟨a, b, ks, rfl, rfl, ea, eb, q⟩ := h
  obtain rfl : v = Value.ref a := rx
  obtain rfl : u = Value.ref b := ry
  obtain ⟨_, ya, va, ra, da⟩ := (show ObjOk X.prog X.w H s.heap a (.dK ks) from I.hok a _ ea)
  obtain ⟨_, yb, vb, rb, db⟩ := (show ObjOk X.prog X.w H s.heap b (.dK []) from I.hok b _ eb)
  cases rb
  have el : ks.isEmpty = va.isEmpty := by
    have := ra.length
    cases ks <;> cases va <;> simp_all
  rw [Bool.true_bne, el] at q
  cases va with
  | nil => exact PySem.W.keq_ne (knd := mixKind X.prog X.w) (r := true) ya yb da db hu (fun _ => .nil) (fin_bl I q rfl)
  | cons p r => exact PySem.W.keq_ne (knd := mixKind X.prog X.w) (r := true) ya yb da db hu (fun z => by simp at z) (fin_bl I q (by simp))
/-- whether a dict is empty -/
def mE0 (neg : Bool) (ml : ME) : ME := fun δ c => (ml δ c).bind fun d c1 => match dicOf c1 d with
  | some q => .ok (.bl (neg != q.1.isEmpty)) c1
  | none => .bad
theorem e0_sem {neg : Bool} {tl : TE} (sl : ∀ Z R F δ c σ H Q, Wd X.K Z R F c H → RelS X.K R F δ σ → Aft X.K Z W R F σ (ml δ c) (QV X.K Q) → tl σ H Q) :
    ∀ Z R F δ c σ H Q, Wd X.K Z R F c H → RelS X.K R F δ σ → Aft X.K Z W R F σ (mE0 neg ml δ c) (QV X.K Q) → tOp (rE0 neg) tl tDNewK σ H Q := by
  intro Z R F δ c σ H Q w rs h
  unfold mE0 at h
  refine sl Z R F δ c σ H _ w rs ((Aft.bind h).imp ?_)
  rintro R1 F1 d c1 H1 q1 e1 w1 ⟨_, _, _, h1⟩ v rv
  split at h1
  · rename_i q hq
    obtain ⟨ks, ds⟩ := q
    obtain ⟨a, vs, rfl, ha, hl, rl⟩ := w1.dict rv hq
    intro p n
    refine ⟨a, p, _, rfl, rfl, by rw [upd_ne (ne_of_none ha n)]; exact ha, upd_same, ?_⟩
    have ez : (ks.zip vs).isEmpty = ks.isEmpty := by
      cases ks <;> cases vs <;> simp_all
    rw [ez]
    exact h1 R1 F1 _ (List.prefix_refl _) (Same.refl _) (w1.more (Ext.upd n)) _ (.bl _)
  · exact h1.elim
variable {k : Nat}
theorem de_eqE (hr : Room k X.A) (hl : DE X W l ml) (hm : behindInMarks CmpOp.Eq (.Dict [] [] dpos) = false := by rfl) : DE X W (.Compare l [.Eq] [.Dict [] [] dpos] pos) (mE0 false ml) := by
  obtain ⟨tl, pl, sl⟩ := hl.ex
  exact ⟨_, pe_cmpR (op_eqE (by have := hr.units; omega)) pl pe_dnewK hm, e0_sem sl⟩
theorem de_neE (hr : Room k X.A) (hl : DE X W l ml) (hm : behindInMarks CmpOp.NotEq (.Dict [] [] dpos) = false := by rfl) : DE X W (.Compare l [.NotEq] [.Dict [] [] dpos] pos) (mE0 true ml) := by
  obtain ⟨tl, pl, sl⟩ := hl.ex
  exact ⟨_, pe_cmpR (op_neE (by have := hr.units; omega)) pl pe_dnewK hm, e0_sem sl⟩
theorem dt_eqE (hr : Room k X.A) (hl : DE X W l ml) (hm : behindInMarks CmpOp.Eq (.Dict [] [] dpos) = false := by rfl) : DT X W (.Compare l [.Eq] [.Dict [] [] dpos] pos) (mB (mE0 false ml)) := by
  obtain ⟨tl, pl, sl⟩ := hl.ex
  exact ⟨_, pt_cmpR (op_eqE (by have := hr.units; omega)) pl pe_dnewK hm, b_read (e0_sem sl)⟩
theorem dt_neE (hr : Room k X.A) (hl : DE X W l ml) (hm : behindInMarks CmpOp.NotEq (.Dict [] [] dpos) = false := by rfl) : DT X W (.Compare l [.NotEq] [.Dict [] [] dpos] pos) (mB (mE0 true ml)) := by
  obtain ⟨tl, pl, sl⟩ := hl.ex
  exact ⟨_, pt_cmpR (op_neE (by have := hr.units; omega)) pl pe_dnewK hm, b_read (e0_sem sl)⟩
end
end Nw

set_option Elab.async false
set_option linter.all false
set_option maxRecDepth 100000
set_option maxHeartbeats 4000000
/-! Nw46: C(e, .., k = v, ..): values by their names. -/
namespace Nw
open PySem PySem.Spec
open PyProof.Rows hiding St
open L2
variable [TheW]
/-- the values at these places -/
def pickL {α : Type} (xs : List α) : List Nat → List α
  | [] => []
  | i :: is => match xs[i]? with
    | some a => a :: pickL xs is
    | none => pickL xs is
theorem pickL_vals {vs : List V} {us : List Value} (r : Vals vs us) : ∀ is, Vals (pickL vs is) (pickL us is)
  | [] => .nil
  | i :: is => by
    have t := pickL_vals r is
    unfold pickL
    cases e : vs[i]? with
    | some v =>
      obtain ⟨u, e2, h2⟩ := r.get e
      rw [e2]
      exact .cons h2 t
    | none =>
      rw [List.getElem?_eq_none (by rw [← r.length]; exact List.getElem?_eq_none_iff.mp e)]
      exact t
theorem RelL.at {K : Frag} {R : List Addr} {F : Hp} : ∀ {vs : List V} {ds : List D} (r : RelL K R F vs ds) (i : Nat), match ds[i]? with | some d => ∃ v, vs[i]? = some v ∧ Rel K R F v d | none => vs[i]? = none
  | [], _, .nil, _ => rfl
  | v :: vs, d :: ds, .cons h t, 0 => ⟨v, rfl, h⟩
  | v :: vs, d :: ds, .cons h t, i + 1 => RelL.at t i
theorem pickL_rel {K : Frag} {R : List Addr} {F : Hp} {vs : List V} {ds : List D} (r : RelL K R F vs ds) : ∀ is, RelL K R F (pickL vs is) (pickL ds is)
  | [] => .nil
  | i :: is => by
    have t := pickL_rel r is
    have h := RelL.at r i
    unfold pickL
    cases e : ds[i]? with
    | none => rw [e] at h; rw [show vs[i]? = none from h]; exact t
    | some d => rw [e] at h; obtain ⟨v, e2, h2⟩ := h; rw [e2]; exact .cons h2 t
/-- self ahead, then the values by their places among the written ones and the keywords' -/
def kwG {α : Type} (is : List Nat) (us ws : List α) : List α := match us with
  | u :: us => u :: pickL (us ++ ws) is
  | [] => []
theorem kwG_vals (is : List Nat) {vs zs : List V} {us ws : List Value} (r : Vals vs us) (s : Vals zs ws) : Vals (kwG is vs zs) (kwG is us ws) := by
  cases r with
  | nil => exact .nil
  | cons h t => exact .cons h (pickL_vals (Vals.append t s) is)
section
variable {K : PySem.W.Frag} {x qual : Str} {params : Arguments} {body : List Stmt} {scope : Scope} {kws : List (Str × V)} {f : Addr} {fd : FuncData} {ps : List Str}
/-- no defaults: n values and self are written, the others by their names -/
theorem fun_kbn (F : FunD K x qual params body scope [] kws f fd) (n : Nat) (ks : List Str) (is : List Nat)
    (h : ∀ (kV doc pm : Value) (an : Option Addr) (cdv ct : Value) (us ws : List Value), us.length = n + 1 → ws.length = ks.length → bindArgs (PySem.W.fnOf x qual params body scope .none kV doc pm an cdv ct) ⟨us, ks.zip ws⟩ = pure (ps.zip (kwG is us ws))) :
    KBn K fd ps (n + 1) ks (kwG is) (kwG is) := by
  obtain ⟨oc, od, dV, kV, doc, pm, an, cdv, ct, osl, rfl, lk, hcd, hD, hK⟩ := F.ex
  rcases hD with ⟨_, rfl⟩ | ⟨e, _⟩
  · exact ⟨fun s us ws X l1 l2 => .of_eq (h kV doc pm an cdv ct us ws l1 l2), fun r1 r2 => kwG_vals is r1 r2⟩
  · exact absurd rfl e
end
section
variable {K : PySem.W.Frag} {x qual : Str} {params : Arguments} {body : List Stmt} {scope : Scope} {kws : List (Str × V)} {f : Addr} {fd : FuncData} {ps : List Str}
/-- the same for a function: no self ahead -/
def kwF {α : Type} (is : List Nat) (us ws : List α) : List α := pickL (us ++ ws) is
theorem fun_kbf (F : FunD K x qual params body scope [] kws f fd) (n : Nat) (ks : List Str) (is : List Nat)
    (h : ∀ (kV doc pm : Value) (an : Option Addr) (cdv ct : Value) (us ws : List Value), us.length = n → ws.length = ks.length → bindArgs (PySem.W.fnOf x qual params body scope .none kV doc pm an cdv ct) ⟨us, ks.zip ws⟩ = pure (ps.zip (kwF is us ws))) :
    KBn K fd ps n ks (kwF is) (kwF is) := by
  obtain ⟨oc, od, dV, kV, doc, pm, an, cdv, ct, osl, rfl, lk, hcd, hD, hK⟩ := F.ex
  rcases hD with ⟨_, rfl⟩ | ⟨e, _⟩
  · exact ⟨fun s us ws X l1 l2 => .of_eq (h kV doc pm an cdv ct us ws l1 l2), fun r1 r2 => pickL_vals (Vals.append r1 r2) is⟩
  · exact absurd rfl e
end
/-- the values of keywords, from the left -/
structure DK (X : Cx) (W : WX) (kws : List Keyword) (m : MA) : Prop where
  ex : ∃ t, PK X kws t ∧ ∀ Z R F δ c σ H Q, Wd X.K Z R F c H → RelS X.K R F δ σ → Aft X.K Z W R F σ (m δ c) (QL X.K Q) → t σ H Q
structure MkKOk (P : Program) (w : World) (K : Frag) (mg : Str → Option Value) (base : Heap) (k : Nat) (cn : Str) (n : Nat) (ks : List Str) (is : List Nat) (m : MF) : Prop where
  g : mg cn = some (.ref (He.ga K cn))
  ex : ∃ fd ps, Mk K (He.ga K cn) (He.ma K (He.ga K cn) "__init__") ∧ FnOk P w K mg base (L2.CX P w) k (He.ma K (He.ga K cn) "__init__") fd ps (spOf K m) ∧ KBn K fd ps (n + 1) ks (kwG is) (kwG is)
structure DefKOk (P : Program) (w : World) (K : Frag) (mg : Str → Option Value) (base : Heap) (k : Nat) (x : Str) (n : Nat) (ks : List Str) (is : List Nat) (m : MF) : Prop where
  g : mg x = some (.ref (He.ga K x))
  kp : PySem.W.keepIn K (.ref (He.ga K x)) = true
  ex : ∃ fd ps, FnOk P w K mg base (L2.CX P w) k (He.ga K x) fd ps (spOf K m) ∧ KBn K fd ps n ks (kwF is) (kwF is)
/-- f(e, .., k = v, ..) -/
def mCallK (n q : Nat) (is : List Nat) (m : MF) (ma mk : MA) : ME := fun δ c => (ma δ c).bind fun ds c1 => (mk δ c1).bind fun es c2 => if ds.length = n ∧ es.length = q then m (pickL (ds ++ es) is) c2 else .bad
/-- C(e, .., k = v, ..) -/
def mMakeK (cn : Str) (n q : Nat) (is : List Nat) (m : MF) (ma mk : MA) : ME := fun δ c => (ma δ c).bind fun ds c1 => (mk δ c1).bind fun es c2 => if ds.length = n ∧ es.length = q then makeGo cn m (pickL (ds ++ es) is) c2 else .bad
section
variable {X : Cx} {W : WX} {k n : Nat} {x cn : Str} {m : MF} {e : Expr} {es : List Expr} {ma mk : MA} {me : ME} {p pos kpos : Pos} {ks : List Str} {is : List Nat} {kws : List Keyword} {nm : Option Str}
theorem dk_nil : DK X W [] mNil := ⟨_, pk_nil, fun Z R F δ c σ H Q w rs h => h.ok w _ .nil⟩
theorem dk_cons (ha : DE X W e me) (hr : DK X W kws mk) : DK X W (⟨nm, e, kpos⟩ :: kws) (mCons me mk) := by
  obtain ⟨ta, pa, sa⟩ := ha.ex
  obtain ⟨tr, pr, sr⟩ := hr.ex
  refine ⟨_, pk_cons pa pr, fun Z R F δ c σ H Q w rs h => sa Z R F δ c σ H _ w rs ((Aft.bind h).imp ?_)⟩
  rintro R1 F1 d c1 H1 p1 e1 w1 ⟨_, _, _, h1⟩ x rx
  refine sr Z R1 F1 δ c1 σ H1 _ w1 (rs.mono p1 e1) ((Aft.bind h1).imp ?_)
  rintro R2 F2 ds c2 H2 p2 e2 w2 ⟨_, _, _, h2⟩ xs rxs
  exact h2.ok w2 _ (.cons (rx.mono p2 e2) rxs)
theorem mkKS {CX : CXT} {sp : Sp} {E : XK} {C fa : Addr} {fd : FuncData} {ps : List Str} {g : List Value → List Value → List Value} {gV : List V → List V → List V} {pins : List (Addr × Obj)} {σ : St} {H : Hp} {s : Shared} {Q : VK} {us ws : List Value} {vs zs : List V} (M : Mk X.K C fa) (F : FnOk X.prog X.w X.K X.mg X.base CX k fa fd ps sp) (hr : Room (k + 1) X.A) (hb : KBn X.K fd ps (n + 1) ks g gV) (hx : PassesAt CX X σ E)
    (I : Inv X pins σ H s) (r : Vals vs us) (rz : Vals zs ws) (l1 : vs.length = n) (l2 : zs.length = ks.length) (h : ∀ x dx, H x = none → H dx = none → dx ≠ x → sp (gV (.ref x :: vs) zs) (upd (upd H dx (.own x)) x (.ins C dx [])) (fun v H2 => v = .non ∧ Q (.ref x) H2) E) :
    wpAny (model X.prog X.w) X.A (call (.ref C) us (ks.zip ws)) (EP X pins σ Q) X.xe s := by
  have hq := h (s.heap.objs.size + 1) s.heap.objs.size (I.hok.fresh (Nat.le_succ _)) (I.hok.fresh (Nat.le_refl _)) (Nat.ne_of_lt (Nat.lt_succ_self _))
  have I2 := Inv.made (C := C) I
  have r1 : Vals (V.ref (s.heap.objs.size + 1) :: vs) (Value.ref (s.heap.objs.size + 1) :: us) := .cons rfl r
  have r2 := hb.rel r1 rz
  have e1 : (Value.ref (s.heap.objs.size + 1) :: us).length = n + 1 := r1.length.symm.trans (congrArg Nat.succ l1)
  have e2 : ws.length = ks.length := rz.length.symm.trans l2
  refine wpAny_call (make_map (f := fa) I.kIn M.makes M.init (beq_iff_eq.mp M.fn) (codeAny_mono (F.run _ X.stack _ _ ⟨Value.ref (s.heap.objs.size + 1) :: us, ks.zip ws⟩ (g (Value.ref (s.heap.objs.size + 1) :: us) ws) _ _ E (hr.make C us (ks.zip ws))
    (I2.env0.make C us (ks.zip ws)) (hb.to _ (Value.ref (s.heap.objs.size + 1) :: us) ws I2.kIn e1 e2) r2 hq) fun r s' hq' => ?_))
  cases r with
  | error e => exact hx pins _ _ e s' I2 hq'
  | ok fl =>
    cases fl with
    | ret u =>
      obtain ⟨v, H', I3, rv, ev, q3⟩ := I2.after hq'
      subst ev
      exact ⟨rv, ⟨V.ref (s.heap.objs.size + 1), H', I3, rfl, q3⟩⟩
    | next => exact False.elim hq'
    | brk => exact False.elim hq'
    | cont => exact False.elim hq'
theorem pe_makeKS {CX : CXT} {sp : Sp} {E : St → XK} {C fa : Addr} {fd : FuncData} {ps : List Str} {g : List Value → List Value → List Value} {gV : List V → List V → List V} {t tk : TA} (M : Mk X.K C fa) (F : FnOk X.prog X.w X.K X.mg X.base CX k fa fd ps sp) (hr : Room (k + 1) X.A) (hg : Gl X x) (hm : X.mg x = some (.ref C)) (hb : KBn X.K fd ps (n + 1) ks g gV) (hx : ∀ σ, PassesAt CX X σ (E σ)) (ha : PA X (e :: es) t) (hkw : PK X kws tk)
    (hall : (backToKw pos (keywordEach kws X.env)).all (·.1.isSome) = true) (hks : (backToKw pos (keywordEach kws X.env)).filterMap (·.1) = ks) (hdb : (x == ("__debug__" : Str)) = false)
    (he : starEach (e :: es) X.env = (false, eval e X.env) :: starEach es X.env) (hpl : ((backTo pos (starEach (e :: es) X.env)).any (·.1) || (backToKw pos (keywordEach kws X.env)).any (·.1.isNone)) = false) :
    PE X (.Call (.Name x p) (e :: es) kws pos) (fun σ H Q => t σ H fun vs H1 => tk σ H1 fun zs H2 => vs.length = n ∧ zs.length = ks.length ∧ ∀ x dx, H2 x = none → H2 dx = none → dx ≠ x →
      sp (gV (.ref x :: vs) zs) (upd (upd H2 dx (.own x)) x (.ins C dx [])) (fun v H3 => v = .non ∧ Q (.ref x) H3) (E σ)) := by
  refine ⟨fun pins s σ H Q I h => ?_⟩
  refine wpAny_Call_Name_kw (ld_glob I hg hm ?_ hdb)
  refine PySem.W.callWith_KW (h₀ := X.base) I.ok.mod.kin M.kp hall (thn (ha.run pos pins s σ H _ I h) fun us s1 ⟨vs, H1, I1, r, q⟩ => ?_) hpl he
  refine thn (hkw.run pos pins s1 σ H1 _ I1 q) fun ws s2 ⟨zs, H2, I2, rz, l1, l2, q2⟩ => ⟨I2.kIn, ?_⟩
  rw [hks]
  exact mkKS M F hr hb (hx σ) I2 r rz l1 l2 q2
theorem pe_makeKS0 {CX : CXT} {sp : Sp} {E : St → XK} {C fa : Addr} {fd : FuncData} {ps : List Str} {g : List Value → List Value → List Value} {gV : List V → List V → List V} {tk : TA} (M : Mk X.K C fa) (F : FnOk X.prog X.w X.K X.mg X.base CX k fa fd ps sp) (hr : Room (k + 1) X.A) (hg : Gl X x) (hm : X.mg x = some (.ref C)) (hb : KBn X.K fd ps 1 ks g gV) (hx : ∀ σ, PassesAt CX X σ (E σ)) (hkw : PK X kws tk)
    (hall : (backToKw pos (keywordEach kws X.env)).all (·.1.isSome) = true) (hks : (backToKw pos (keywordEach kws X.env)).filterMap (·.1) = ks) (hdb : (x == ("__debug__" : Str)) = false)
    (hpl : ((backTo pos (starEach [] X.env)).any (·.1) || (backToKw pos (keywordEach kws X.env)).any (·.1.isNone)) = false) :
    PE X (.Call (.Name x p) [] kws pos) (fun σ H Q => tk σ H fun zs H2 => zs.length = ks.length ∧ ∀ x dx, H2 x = none → H2 dx = none → dx ≠ x →
      sp (gV [.ref x] zs) (upd (upd H2 dx (.own x)) x (.ins C dx [])) (fun v H3 => v = .non ∧ Q (.ref x) H3) (E σ)) := by
  refine ⟨fun pins s σ H Q I h => ?_⟩
  refine wpAny_Call_Name_kw (ld_glob I hg hm ?_ hdb)
  refine PySem.W.callWith_KW0 (h₀ := X.base) I.ok.mod.kin M.kp hall ?_ hpl
  refine thn (hkw.run pos pins s σ H _ I h) fun ws s2 ⟨zs, H2, I2, rz, l2, q2⟩ => ⟨I2.kIn, ?_⟩
  rw [hks]
  exact mkKS (us := []) (vs := []) M F hr hb (hx σ) I2 .nil rz rfl l2 q2
theorem dd_makeK (G : MkKOk X.prog X.w X.K X.mg X.base k cn n ks is m) (hr : Room (k + 1) X.A) (tk : Takes X W) (ha : DA X W (e :: es) ma) (hk : DK X W kws mk) (hg : Gl X cn := by rfl)
    (hall : (backToKw pos (keywordEach kws X.env)).all (·.1.isSome) = true := by rfl) (hks : (backToKw pos (keywordEach kws X.env)).filterMap (·.1) = ks := by rfl) (hdb : (cn == ("__debug__" : Str)) = false := by decide)
    (he : starEach (e :: es) X.env = (false, eval e X.env) :: starEach es X.env := by rfl) (hpl : ((backTo pos (starEach (e :: es) X.env)).any (·.1) || (backToKw pos (keywordEach kws X.env)).any (·.1.isNone)) = false := by rfl) :
    DE X W (.Call (.Name cn p) (e :: es) kws pos) (mMakeK cn n ks.length is m ma mk) := by
  obtain ⟨fd, ps, M, F, hb⟩ := G.ex
  obtain ⟨t, pa, sa⟩ := ha.ex
  obtain ⟨t2, pk, sk⟩ := hk.ex
  refine ⟨_, pe_makeKS M F hr hg G.g hb (passAt tk) pa pk hall hks hdb he hpl, fun Z R F δ c σ H Q w rs h => sa Z R F δ c σ H _ w rs ((Aft.bind h).imp ?_)⟩
  rintro R1 F1 ds c1 H1 p1 e1 w1 ⟨_, _, _, h1⟩ vs rv
  refine sk Z R1 F1 δ c1 σ H1 _ w1 (rs.mono p1 e1) ((Aft.bind h1).imp ?_)
  rintro R2 F2 es2 c2 H2 p2 e2 w2 ⟨_, _, _, h2⟩ zs rz
  by_cases hl : ds.length = n ∧ es2.length = ks.length
  · rw [if_pos hl] at h2
    exact ⟨rv.length.trans hl.1, rz.length.trans hl.2, make_sp w2 (pickL_rel ((rv.mono p2 e2).append rz) is) h2⟩
  · rw [if_neg hl] at h2
    exact h2.elim
theorem dd_makeK0 (G : MkKOk X.prog X.w X.K X.mg X.base k cn 0 ks is m) (hr : Room (k + 1) X.A) (tk : Takes X W) (hk : DK X W kws mk) (hg : Gl X cn := by rfl)
    (hall : (backToKw pos (keywordEach kws X.env)).all (·.1.isSome) = true := by rfl) (hks : (backToKw pos (keywordEach kws X.env)).filterMap (·.1) = ks := by rfl) (hdb : (cn == ("__debug__" : Str)) = false := by decide)
    (hpl : ((backTo pos (starEach [] X.env)).any (·.1) || (backToKw pos (keywordEach kws X.env)).any (·.1.isNone)) = false := by rfl) :
    DE X W (.Call (.Name cn p) [] kws pos) (mMakeK cn 0 ks.length is m mNil mk) := by
  obtain ⟨fd, ps, M, F, hb⟩ := G.ex
  obtain ⟨t2, pk, sk⟩ := hk.ex
  refine ⟨_, pe_makeKS0 M F hr hg G.g hb (passAt tk) pk hall hks hdb hpl, fun Z R F δ c σ H Q w rs h => sk Z R F δ c σ H _ w rs ((Aft.bind (show Aft X.K Z W R F σ ((mk δ c).bind fun es c2 => if ([] : List D).length = 0 ∧ es.length = ks.length then makeGo cn m (pickL ([] ++ es) is) c2 else .bad) (QV X.K Q) from h)).imp ?_)⟩
  rintro R2 F2 es2 c2 H2 p2 e2 w2 ⟨_, _, _, h2⟩ zs rz
  by_cases hl : ([] : List D).length = 0 ∧ es2.length = ks.length
  · rw [if_pos hl] at h2
    exact ⟨rz.length.trans hl.2, make_sp w2 (pickL_rel rz is) h2⟩
  · rw [if_neg hl] at h2
    exact h2.elim
theorem fnKS {CX : CXT} {sp : Sp} {E : XK} {fa : Addr} {fd : FuncData} {ps : List Str} {g : List Value → List Value → List Value} {gV : List V → List V → List V} {pins : List (Addr × Obj)} {σ : St} {H : Hp} {s : Shared} {Q : VK} {us ws : List Value} {vs zs : List V} (F : FnOk X.prog X.w X.K X.mg X.base CX k fa fd ps sp) (hr : Room k X.A) (hb : KBn X.K fd ps n ks g gV) (hx : PassesAt CX X σ E)
    (I : Inv X pins σ H s) (r : Vals vs us) (rz : Vals zs ws) (l1 : vs.length = n) (l2 : zs.length = ks.length) (h : sp (gV vs zs) H Q E) : wpAny (model X.prog X.w) X.A (call (.ref fa) us (ks.zip ws)) (EP X pins σ Q) X.xe s := by
  have r2 := hb.rel r rz
  refine wpAny_call (codeAny_mono (F.run X.A X.stack s H ⟨us, ks.zip ws⟩ (g us ws) (gV vs zs) Q E hr I.env0 (hb.to s us ws I.kIn (r.length.symm.trans l1) (rz.length.symm.trans l2)) r2 h) fun r s' hq => ?_)
  cases r with
  | error e => exact hx pins _ _ e s' I hq
  | ok fl =>
    cases fl with
    | ret u => exact I.after hq
    | next => exact False.elim hq
    | brk => exact False.elim hq
    | cont => exact False.elim hq
theorem pe_callKS {CX : CXT} {sp : Sp} {E : St → XK} {fa : Addr} {fd : FuncData} {ps : List Str} {g : List Value → List Value → List Value} {gV : List V → List V → List V} {t tk : TA} (F : FnOk X.prog X.w X.K X.mg X.base CX k fa fd ps sp) (hr : Room k X.A) (hg : Gl X x) (hm : X.mg x = some (.ref fa)) (hkp : PySem.W.keepIn X.K (.ref fa) = true) (hb : KBn X.K fd ps n ks g gV) (hx : ∀ σ, PassesAt CX X σ (E σ)) (ha : PA X (e :: es) t) (hkw : PK X kws tk)
    (hall : (backToKw pos (keywordEach kws X.env)).all (·.1.isSome) = true) (hks : (backToKw pos (keywordEach kws X.env)).filterMap (·.1) = ks) (hdb : (x == ("__debug__" : Str)) = false)
    (he : starEach (e :: es) X.env = (false, eval e X.env) :: starEach es X.env) (hpl : ((backTo pos (starEach (e :: es) X.env)).any (·.1) || (backToKw pos (keywordEach kws X.env)).any (·.1.isNone)) = false) :
    PE X (.Call (.Name x p) (e :: es) kws pos) (fun σ H Q => t σ H fun vs H1 => tk σ H1 fun zs H2 => vs.length = n ∧ zs.length = ks.length ∧ sp (gV vs zs) H2 Q (E σ)) := by
  refine ⟨fun pins s σ H Q I h => ?_⟩
  refine wpAny_Call_Name_kw (ld_glob I hg hm ?_ hdb)
  refine PySem.W.callWith_KW (h₀ := X.base) I.ok.mod.kin hkp hall (thn (ha.run pos pins s σ H _ I h) fun us s1 ⟨vs, H1, I1, r, q⟩ => ?_) hpl he
  refine thn (hkw.run pos pins s1 σ H1 _ I1 q) fun ws s2 ⟨zs, H2, I2, rz, l1, l2, q2⟩ => ⟨I2.kIn, ?_⟩
  rw [hks]
  exact fnKS F hr hb (hx σ) I2 r rz l1 l2 q2
theorem pe_callKS0 {CX : CXT} {sp : Sp} {E : St → XK} {fa : Addr} {fd : FuncData} {ps : List Str} {g : List Value → List Value → List Value} {gV : List V → List V → List V} {tk : TA} (F : FnOk X.prog X.w X.K X.mg X.base CX k fa fd ps sp) (hr : Room k X.A) (hg : Gl X x) (hm : X.mg x = some (.ref fa)) (hkp : PySem.W.keepIn X.K (.ref fa) = true) (hb : KBn X.K fd ps 0 ks g gV) (hx : ∀ σ, PassesAt CX X σ (E σ)) (hkw : PK X kws tk)
    (hall : (backToKw pos (keywordEach kws X.env)).all (·.1.isSome) = true) (hks : (backToKw pos (keywordEach kws X.env)).filterMap (·.1) = ks) (hdb : (x == ("__debug__" : Str)) = false)
    (hpl : ((backTo pos (starEach [] X.env)).any (·.1) || (backToKw pos (keywordEach kws X.env)).any (·.1.isNone)) = false) :
    PE X (.Call (.Name x p) [] kws pos) (fun σ H Q => tk σ H fun zs H2 => zs.length = ks.length ∧ sp (gV [] zs) H2 Q (E σ)) := by
  refine ⟨fun pins s σ H Q I h => ?_⟩
  refine wpAny_Call_Name_kw (ld_glob I hg hm ?_ hdb)
  refine PySem.W.callWith_KW0 (h₀ := X.base) I.ok.mod.kin hkp hall ?_ hpl
  refine thn (hkw.run pos pins s σ H _ I h) fun ws s2 ⟨zs, H2, I2, rz, l2, q2⟩ => ⟨I2.kIn, ?_⟩
  rw [hks]
  exact fnKS (us := []) (vs := []) F hr hb (hx σ) I2 .nil rz rfl l2 q2
theorem dd_callK (G : DefKOk X.prog X.w X.K X.mg X.base k x n ks is m) (hr : Room k X.A) (tk : Takes X W) (ha : DA X W (e :: es) ma) (hk : DK X W kws mk) (hg : Gl X x := by rfl)
    (hall : (backToKw pos (keywordEach kws X.env)).all (·.1.isSome) = true := by rfl) (hks : (backToKw pos (keywordEach kws X.env)).filterMap (·.1) = ks := by rfl) (hdb : (x == ("__debug__" : Str)) = false := by decide)
    (he : starEach (e :: es) X.env = (false, eval e X.env) :: starEach es X.env := by rfl) (hpl : ((backTo pos (starEach (e :: es) X.env)).any (·.1) || (backToKw pos (keywordEach kws X.env)).any (·.1.isNone)) = false := by rfl) :
    DE X W (.Call (.Name x p) (e :: es) kws pos) (mCallK n ks.length is m ma mk) := by
  obtain ⟨fd, ps, F, hb⟩ := G.ex
  obtain ⟨t, pa, sa⟩ := ha.ex
  obtain ⟨t2, pk, sk⟩ := hk.ex
  refine ⟨_, pe_callKS F hr hg G.g G.kp hb (passAt tk) pa pk hall hks hdb he hpl, fun Z R F δ c σ H Q w rs h => sa Z R F δ c σ H _ w rs ((Aft.bind h).imp ?_)⟩
  rintro R1 F1 ds c1 H1 p1 e1 w1 ⟨_, _, _, h1⟩ vs rv
  refine sk Z R1 F1 δ c1 σ H1 _ w1 (rs.mono p1 e1) ((Aft.bind h1).imp ?_)
  rintro R2 F2 es2 c2 H2 p2 e2 w2 ⟨_, _, _, h2⟩ zs rz
  by_cases hl : ds.length = n ∧ es2.length = ks.length
  · rw [if_pos hl] at h2
    exact ⟨rv.length.trans hl.1, rz.length.trans hl.2, sp_of w2 (pickL_rel ((rv.mono p2 e2).append rz) is) h2⟩
  · rw [if_neg hl] at h2
    exact h2.elim
theorem dd_callK0 (G : DefKOk X.prog X.w X.K X.mg X.base k x 0 ks is m) (hr : Room k X.A) (tk : Takes X W) (hk : DK X W kws mk) (hg : Gl X x := by rfl)
    (hall : (backToKw pos (keywordEach kws X.env)).all (·.1.isSome) = true := by rfl) (hks : (backToKw pos (keywordEach kws X.env)).filterMap (·.1) = ks := by rfl) (hdb : (x == ("__debug__" : Str)) = false := by decide)
    (hpl : ((backTo pos (starEach [] X.env)).any (·.1) || (backToKw pos (keywordEach kws X.env)).any (·.1.isNone)) = false := by rfl) :
    DE X W (.Call (.Name x p) [] kws pos) (mCallK 0 ks.length is m mNil mk) := by
  obtain ⟨fd, ps, F, hb⟩ := G.ex
  obtain ⟨t2, pk, sk⟩ := hk.ex
  refine ⟨_, pe_callKS0 F hr hg G.g G.kp hb (passAt tk) pk hall hks hdb hpl, fun Z R F δ c σ H Q w rs h => sk Z R F δ c σ H _ w rs ((Aft.bind (show Aft X.K Z W R F σ ((mk δ c).bind fun es c2 => if ([] : List D).length = 0 ∧ es.length = ks.length then m (pickL ([] ++ es) is) c2 else .bad) (QV X.K Q) from h)).imp ?_)⟩
  rintro R2 F2 es2 c2 H2 p2 e2 w2 ⟨_, _, _, h2⟩ zs rz
  by_cases hl : ([] : List D).length = 0 ∧ es2.length = ks.length
  · rw [if_pos hl] at h2
    exact ⟨rz.length.trans hl.2, sp_of w2 (pickL_rel rz is) h2⟩
  · rw [if_neg hl] at h2
    exact h2.elim
end
end Nw

set_option Elab.async false
set_option linter.all false
set_option maxRecDepth 100000
set_option maxHeartbeats 4000000
/-! Nw47: xs.clear(); defs that need to know that no repr is under way. -/
namespace Nw
open PySem PySem.Spec
open PyProof.Rows hiding St
open L2
variable [TheW]
section
variable {X : Cx}
def clearD (d : D) (ds : List D) (c : Cells) : Out D := match d, ds with
  | .cell i, [] => (match c[i]? with
    | some (.lst _) => .ok .non (c.set i (.lst []))
    | _ => .bad)
  | _, _ => .bad
theorem ms_clear : MtS X "list.clear" clearD := by
  refine ⟨_, mt_clear, fun Z W R F c σ H x d vs ds Q w rx rv h => ?_⟩
  unfold clearD at h
  split at h
  · rename_i i
    cases rv
    cases rx with
    | cell hR =>
      split at h
      · rename_i l hl
        obtain ⟨us, q, rl⟩ := w.atList hR hl
        exact ⟨_, us, rfl, rfl, q, h _ _ _ (List.prefix_refl _) (Same.refl _) (w.write hR (.lst .nil) (w.at0 hR hl)) _ .non⟩
      · exact h.elim
  · exact h.elim
end
/-! ### guards -/
theorem deeper_gd {A : Around} {env : Env} (h : A.guards = some []) : (A.deeper env).guards = some [] := h
theorem in1_gd {A : Around} (h : A.guards = some []) : A.in1.guards = some [] := h
/-- FnOk of the hand layer, where no repr is under way -/
structure FnG (P : Program) (w : World) (K : Frag) (mg : Str → Option Value) (base : Heap) (CX : CXT) (k : Nat) (f : Addr) (fd : FuncData) (ps : List Str) (sp : Sp) : Prop where
  len : ∀ vs H Q E, sp vs H Q E → vs.length = ps.length
  run : ∀ (A : Around) (outer : List Env) (s : Shared) (H : Hp) (args : Args) (us : List Value) (vs : List V) (Q : VK) (E : XK), A.guards = some [] → Room k A → Env0 P w K mg base A outer s H → BindsTo s fd args (ps.zip us) → Vals vs us → sp vs H Q E →
    codeAny (model P w) A (.call (.ref f) args) (CR CX outer P w H s Q E) s
section
variable {P : Program} {w : World} {K : Frag} {mg : Str → Option Value} {base : Heap} {CX : CXT} {j k : Nat} {f : Addr} {fd : FuncData} {N ps : List Str} {sp : Sp} {x qual : Str} {params : Arguments} {body : List Stmt} {scope : Scope} {mb : MS}
theorem FnG.of (F : FnOk P w K mg base CX k f fd ps sp) : FnG P w K mg base CX k f fd ps sp := ⟨F.len, fun A outer s H args us vs Q E _ => F.run A outer s H args us vs Q E⟩
theorem FnG.mono (F : FnG P w K mg base CX j f fd ps sp) (h : j ≤ k) : FnG P w K mg base CX k f fd ps sp := ⟨F.len, fun A outer s H args us vs Q E g hr => F.run A outer s H args us vs Q E g (hr.mono h)⟩
theorem fun_okG (F : FunD K x qual params body scope [] [] f fd) (S : FnScope N ps scope) (len : ∀ vs H Q E, sp vs H Q E → vs.length = ps.length)
    (hb : ∀ (cdv : Value) (A : Around) (outer : List Env) (s : Shared) (H : Hp) (vs : List V) (Q : VK) (E : XK), A.guards = some [] → Room k (A.deeper (envOfC qual scope s.heap.objs.size f cdv)) → sp vs H Q E →
      ∃ t, PSs (cxOf CX P w K mg base N qual scope f cdv A outer s H E) body t ∧ t { nx := fun _ H' => Q .non H', rt := Q } (L2.start N vs) H) : FnG P w K mg base CX (k + 1) f fd ps sp := by
  obtain ⟨oc, od, dV, kV, doc, pm, an, cdv, ct, osl, rfl, lk, hcd, _, _⟩ := F.ex
  refine ⟨len, fun A outer s H args us vs Q E g hr e0 bt rv hs => ?_⟩
  obtain ⟨t, pt, ht⟩ := hb cdv A outer s H vs Q E g (hr.deeper _) hs
  have old : ∀ b o, base.get? b = some o → s.heap.get? b = some o := fun b o e => (e0.bs b o e).1
  have kin := e0.mod.kin.keeps old
  refine codeAny_call_function hr.depth (kin _ _ lk) rfl S.co S.gen rfl (PySem.W.codeRec_of kin hcd) (bt _ _ _ _ ?_)
  refine wpAny_newFunctionEnv_cells S.kind (fun y hy => ?_) fun env he s1 q => ?_
  · rcases S.par y.1 (List.of_mem_zip (show (y.1, y.2) ∈ ps.zip us from hy)).1 with z | z
    · exact .inl z
    · exact .inr ⟨z, PySem.W.cellsFrom_some _ _ _ (.inl z)⟩
  · subst he
    refine ⟨(e0.mod.nolimit.keeps old).keeps q.toInCall.keep, codeAny_func (wpAny_mono (pt.run [] s1 _ H _ (inv_start S hr.hd e0 (len _ _ _ _ hs) rv q) ht) (fun fl s' z => ?_) fun _ _ z => z)⟩
    cases fl with
    | ret u =>
      obtain ⟨v, σ', H', J, r1, q1⟩ := z
      exact ⟨v, H', J.os, J.bare, J.base, J.hok, r1, q1⟩
    | next =>
      obtain ⟨σ', H', J, q1⟩ := z
      exact ⟨V.non, H', J.os, J.bare, J.base, J.hok, rfl, q1⟩
    | brk => exact z.elim fun _ z => z.elim fun _ z => z.2.elim
    | cont => exact z.elim fun _ z => z.elim fun _ z => z.2.elim
abbrev BodyOkG (P : Program) (w : World) (K : PySem.W.Frag) (mg : Str → Option Value) (base : Heap) (N : List Str) (qual : Str) (scope : Scope) (f : Addr) (k : Nat) (body : List Stmt) (mb : MS) : Prop :=
  ∀ (cdv : Value) (A : Around) (outer : List Env) (s : Shared) (H : Hp) (E : XK), (A.deeper (envOfC qual scope s.heap.objs.size f cdv)).guards = some [] → Room k (A.deeper (envOfC qual scope s.heap.objs.size f cdv)) →
    Takes (Cxf P w K mg base N qual scope f cdv A outer s H E) (WE' E) →
    PassesOwn (model P w) (Cxf P w K mg base N qual scope f cdv A outer s H E).A (Cxf P w K mg base N qual scope f cdv A outer s H E).env (Cxf P w K mg base N qual scope f cdv A outer s H E).xe →
    DSs (Cxf P w K mg base N qual scope f cdv A outer s H E) (WE' E) body mb
theorem fn_okG (Fn : FunD K x qual params body scope [] [] f fd) (S : FnScope N ps scope) (hb : BodyOkG P w K mg base N qual scope f k body mb) : FnG P w K mg base (L2.CX P w) (k + 1) f fd ps (spOf K (mkFn ps.length N.length mb)) := by
  refine fun_okG Fn S ?_ ?_
  · rintro vs H Q E ⟨Z, R, F, c, ds, wd, r, h⟩
    unfold mkFn at h
    split at h
    · rename_i hl
      rw [r.length]; exact hl
    · exact h.elim
  · rintro cdv A outer s H vs Q E g hr ⟨Z, R, F, c, ds, wd, r, h⟩
    obtain ⟨t, p, sd⟩ := (hb cdv A outer s H E (deeper_gd g) hr (takes_of rfl rfl rfl rfl) (passes_of rfl)).ex
    refine ⟨t, p, ?_⟩
    unfold mkFn at h
    split at h
    · rename_i hl
      have e : L2.start N vs = vs.map some ++ List.replicate (N.length - ps.length) none := by unfold L2.start; rw [r.length, hl]
      rw [e]
      exact sd Z R F _ c _ H _ wd (relS_start _ r) (mk_read h)
    · exact h.elim
end
/-! ### the law is called where no repr is under way -/
theorem start_env {P : Program} {w : World} {K : Frag} {mg mb : Str → Option Value} {a : Addr} {s : Shared} {its : Array Value} {H : Hp} (KX : K.In s.heap) (hns : s.heap.Ns mainGlobals mg) (hb : s.heap.Ns builtinsNs mb) (hbb : ∀ x : Str, x ≠ "__name__" → mb x = bootBuiltins x) (hlim : s.heap.NoLimit) (hg : s.gens = #[])
    (ha : s.heap.get? a = some { cls := .type "list", data := .seq its }) (hok : HOk P w H s.heap) (hA : ∀ b, H b ≠ none → b = a) (hK : H a ≠ none → K.lookup a = none) : K.In (hidT s.heap H) ∧ (hidT s.heap H).Ns mainGlobals mg ∧ Env0 P w K mg (hidT s.heap H) callerA [] s H := by
  have un : ∀ {b : Addr}, b ≠ a → H b = none := fun {b} z => Classical.byContradiction fun q => z (hA b q)
  have ns : ∀ {b : Addr} {m : Str → Option Value}, s.heap.Ns b m → (hidT s.heap H).Ns b m := fun {b m} q => by
    obtain ⟨o, es, ep, e, d, r⟩ := q
    refine ⟨o, es, ep, hidT_get e (un fun z => ?_), d, r⟩
    rw [z, ha] at e
    cases e
    cases (show Data.seq its _ = Data.dict es ep from d)
  have k0 : K.In (hidT s.heap H) := fun b o e => hidT_get (KX b o e) (by
    by_cases z : b = a
    · rw [z]
      refine Classical.byContradiction fun q => ?_
      rw [z, hK q] at e
      cases e
    · exact un z)
  refine ⟨k0, ns hns, rfl, ⟨k0, ns hns, ⟨mb, ns hb, hbb⟩, ?_⟩, fun b o e => of_hidT e, Nat.le_of_eq (hidT_size _ _), trivial, fun b z => (by cases z), hok, .of_eq hg⟩
  obtain ⟨mc, h1, h2⟩ := hlim
  exact ⟨mc, ns h1, h2⟩
theorem law_callG {P : Program} {w : World} {K : Frag} {mg mb : Str → Option Value} {k : Nat} {fa a : Addr} {fd : FuncData} {x : Str} {m : MF} {n : Nat} {s : Shared} {vs : List Value} {ns : List Int}
    (KX : K.In s.heap) (hns : s.heap.Ns mainGlobals mg) (hb : s.heap.Ns builtinsNs mb) (hbb : ∀ x : Str, x ≠ "__name__" → mb x = bootBuiltins x) (hlim : s.heap.NoLimit) (hg : s.gens = #[])
    (ha : s.heap.get? a = some { cls := .type "list", data := .seq vs.toArray }) (hi : IntsAre vs ns) (hl : ns.length ≤ sizeLine) (hn : ns.length ≤ n) (hr : Room k callerA)
    (F : ∀ base : Heap, FnG P w K mg base (L2.CX P w) k fa fd [x] (spOf K m)) (hbind : ∀ (s : Shared) (u : Value), BindsTo s fd ⟨[u], []⟩ [(x, u)]) (hm : LawOk m n) (hT : ∀ H : Hp, TbW (fun _ => none) [] H H) :
    codeAny (model P w) callerA (.call (.ref fa) ⟨[.ref a], []⟩) (fun r s' => r = .ok (.ret (.bool true)) ∧ OldK s.heap s'.heap ∧ s'.os = s.os ∧ AllBare s'.gens) s := by
  have main : ∀ H : Hp, Only H → SqL K H a (ns.map V.int) → HOk P w H s.heap → (∀ b, H b ≠ none → b = a) → (H a ≠ none → K.lookup a = none) →
      codeAny (model P w) callerA (.call (.ref fa) ⟨[.ref a], []⟩) (fun r s' => r = .ok (.ret (.bool true)) ∧ OldK s.heap s'.heap ∧ s'.os = s.os ∧ AllBare s'.gens) s := by
    intro H hO hS hok hA hK
    obtain ⟨_, _, e0⟩ := start_env (w := w) KX hns hb hbb hlim hg ha hok hA hK
    refine codeAny_mono ((F _).run callerA [] s H ⟨[.ref a], []⟩ [.ref a] [.ref a] _ _ rfl hr e0 (hbind s (.ref a)) (.cons rfl .nil) (sp_law hm H H (Same.refl _) (hT H) a ns hn hS)) fun r s' h => ?_
    cases r with
    | error e => exact (cx_no H s e s' h).elim
    | ok fl =>
      cases fl with
      | ret u =>
        obtain ⟨v, H', os, bare, un, hok', r', q⟩ := h
        cases (show v = .bl true from q)
        cases (show u = Value.bool true from r')
        refine ⟨rfl, OldK.of_keep fun b o e => ?_, os, bare⟩
        rcases hO b with z | ⟨ob, xs, z⟩
        · exact un.keep b o e z (fun z => by cases z) (by simp)
        · have e1 := (hok b _ z).1
          rw [e] at e1
          cases e1
          exact (hok' b _ (un.frzs b _ _ z)).1
      | _ => exact False.elim h
  have rv := vals_ints hi
  cases hk : K.lookup a with
  | some o =>
    have e := KX a o hk
    rw [ha] at e
    cases e
    exact main (fun _ => none) (fun _ => .inl rfl) (.inr ⟨_, vs.toArray, _, hk, rfl, rfl, rfl, by rw [List.size_toArray, hi.length]; exact hl, by simpa using rv⟩) (fun b u z => by cases (show (none : Option HO) = some u from z)) (fun b z => absurd rfl z) fun z => absurd rfl z
  | none =>
    have at_ : ∀ {b : Addr} {u : HO}, (if b = a then some (HO.frz { cls := .type "list", data := .seq vs.toArray } (.lst (ns.map V.int))) else none) = some u → b = a ∧ u = .frz { cls := .type "list", data := .seq vs.toArray } (.lst (ns.map V.int)) := fun {b u} z => by
      by_cases q : b = a
      · rw [if_pos q] at z
        exact ⟨q, (Option.some.inj z).symm⟩
      · rw [if_neg q] at z
        cases z
    refine main (fun b => if b = a then some (.frz { cls := .type "list", data := .seq vs.toArray } (.lst (ns.map V.int))) else none) (fun b => ?_) (.inl (.inr ⟨{ cls := .type "list", data := .seq vs.toArray }, if_pos rfl⟩)) (fun b u z => ?_) (fun b z => ?_) fun _ => hk
    · by_cases q : b = a
      · exact .inr ⟨_, _, if_pos q⟩
      · exact .inl (if_neg q)
    · obtain ⟨rfl, rfl⟩ := at_ z
      exact ⟨ha, by rw [List.length_map]; exact hl, vs, _, rv, ha⟩
    · by_cases q : b = a
      · exact q
      · exact absurd (if_neg q) z
theorem walkWG {l : PySem.W.OpenLaw} {n k : Nat} {q : Program} {loose : List Str} {XP : (Str → Option Value) → Heap → Prop} {YP : World → Heap → Prop} {d : DefRec} {x : Str} {m : MF} (hn : l.most = some n) (hn2 : n ≤ sizeLine) (hdf : d.params.defaults = []) (hr : Room k callerA) (hm : LawOk m n)
    (hF : ∀ (w : World) (mg : Str → Option Value) (f : Addr) (h : Heap), YP w h → h.Ns mainGlobals mg → mg d.name = some (.ref f) →
      ∃ (K : Frag) (fd : FuncData), K.In h ∧ (∀ (s : Shared) (u : Value), BindsTo s fd ⟨[u], []⟩ [(x, u)]) ∧ ∀ base : Heap, FnG l.prog w K mg base (L2.CX l.prog w) k f fd [x] (@spOf ⟨some w, []⟩ K m)) :
    PySem.W.WalkO q loose XP YP l.row.toRowW d [] (fun f vs => PySem.call f vs) := by
  refine Att.attach_call hn hdf fun w s0 s1 mg mb f o pm cd doc a vs ns G Y ho hd hcd hmg hobj hints hlen hg => ?_
  letI : TheW := ⟨some w, []⟩
  obtain ⟨K, fd, KX, hb, hG⟩ := hF w mg f _ Y G.T.g hmg
  exact law_callG KX G.T.g G.T.b G.T.builtins G.T.nolimit hg hobj hints (Nat.le_trans hlen hn2) hlen hr hG hb hm fun H p hp => nomatch hp
end Nw

set_option Elab.async false
set_option linter.all false
set_option maxRecDepth 100000
set_option maxHeartbeats 4000000
/-! Nw48: calls of defs that need to know that no repr is under way; repr(x). -/
namespace Nw
open PySem PySem.Spec
open PyProof.Rows hiding St
open L2
variable [TheW]
section
variable {P : Program} {w : World} {K : Frag} {mg : Str → Option Value} {base : Heap} {k : Nat} {f : Addr} {fd : FuncData} {N ps : List Str} {x qual : Str} {params : Arguments} {body : List Stmt} {scope : Scope} {mb : MS}
theorem fn_okBG (Fn : FunD K x qual params body scope [] [] f fd) (S : FnScope N ps scope) (hb : BodyOkG P w K mg base N qual scope f k body mb) : FnG P w K mg base (L2.CX P w) (k + 1) f fd ps (spOf K (mkFnB ps.length N.length mb)) := by
  refine fun_okG Fn S ?_ ?_
  · rintro vs H Q E ⟨Z, R, F, c, ds, wd, r, h⟩
    unfold mkFnB at h
    split at h
    · rename_i hl
      rw [r.length]; exact hl
    · exact h.elim
  · rintro cdv A outer s H vs Q E g hr ⟨Z, R, F, c, ds, wd, r, h⟩
    obtain ⟨t, p, sd⟩ := (hb cdv A outer s H E (deeper_gd g) hr (takes_of rfl rfl rfl rfl) (passes_of rfl)).ex
    refine ⟨t, p, ?_⟩
    unfold mkFnB at h
    split at h
    · rename_i hl
      have e : L2.start N vs = vs.map some ++ List.replicate (N.length - ps.length) none := by unfold L2.start; rw [r.length, hl]
      rw [e]
      refine sd Z R F _ c _ H _ wd (relS_start _ r) ?_
      generalize mb (ds.map some ++ List.replicate (N.length - ps.length) none) c = o at h
      cases o with
      | nx δ c' => exact fun R' F' H' σ p e w' rs => fin_read wd p e w' .non h
      | rt d c' => exact fun R' F' H' v p e w' rv => fin_read wd p e w' rv h
      | exc k ns es δ c' =>
        intro R' F' H' σ x p e w' rs xr
        dsimp only at h
        unfold fin at h
        split at h
        · rename_i es' c2 hz
          split at hz
          · rename_i hc
            split at hz
            · rename_i d' hd
              injection hz with hz1 hz2
              subst hz1
              subst hz2
              obtain ⟨F2, sF, hF, w2, eR⟩ := wd.drop p e w' hc
              refine h _ F2 H' x (by rw [eR]; exact List.prefix_refl _) (e.trans sF) w2 ?_
              -- the fields one by one
              have key : ∀ (f : Nat) (vs : List V) (ds : List D) (e' : D), RelL K R' F' vs ds → frz c' c.length (f + 1) (.tup ds) = some e' → ∃ ds', e' = .tup ds' ∧ RelL K (R'.take c.length) F2 vs ds' := by
                intro f vs ds e' rl hf
                unfold frz at hf
                split at hf
                · rename_i hn
                  cases hf
                  unfold nc at hn
                  exact ⟨ds, rfl, (rl.cut hn).mono (List.prefix_refl _) sF⟩
                · have hf : (ds.mapM (frz c' c.length f)).map D.tup = some e' := hf
                  cases e1 : List.mapM (frz c' c.length f) ds with
                  | none => rw [e1] at hf; simp at hf
                  | some es2 =>
                    rw [e1] at hf
                    simp at hf
                    subst hf
                    exact ⟨es2, rfl, mapM_rel rl e1 (fun v d e r h => frz_rel w' sF hF f v d e r h) fun v e z => z⟩
              cases xr with
              | none =>
                obtain ⟨ds', e1, rl'⟩ := key 29 [] [] _ .nil hd
                cases e1
                cases rl'
                exact .none
              | some hx z rl =>
                obtain ⟨ds', e1, rl'⟩ := key 29 _ _ _ rl hd
                cases e1
                exact .some (sF _ _ hx) z rl'
            · cases hz
          · cases hz
        · exact h.elim
      | bk δ c' => exact h.elim
      | ct δ c' => exact h.elim
      | bad => exact h.elim
    · exact h.elim
end
structure DefOkG (P : Program) (w : World) (K : Frag) (mg : Str → Option Value) (base : Heap) (k : Nat) (x : Str) (m : MF) : Prop where
  g : mg x = some (.ref (He.ga K x))
  kp : PySem.W.keepIn K (.ref (He.ga K x)) = true
  ex : ∃ fd ps, FnG P w K mg base (L2.CX P w) k (He.ga K x) fd ps (spOf K m) ∧ Binds K fd ps []
section
variable {X : Cx} {W : WX} {k : Nat} {x : Str} {m : MF} {e : Expr} {es : List Expr} {ma : MA} {p pos : Pos} {fa : Addr} {fd : FuncData} {ps : List Str}
theorem run_fnG {sp : Sp} {CX : CXT} {E : St → XK} {pins : List (Addr × Obj)} {σ : St} {H : Hp} {s : Shared} {Q : VK} {us : List Value} {vs : List V} (F : FnG X.prog X.w X.K X.mg X.base CX k fa fd ps sp) (gd : X.A.guards = some []) (hr : Room k X.A) (hb : Binds X.K fd ps []) (hx : PassesAt CX X σ (E σ))
    (I : Inv X pins σ H s) (r : Vals vs us) (h : sp vs H Q (E σ)) : wpAny (model X.prog X.w) X.A (call (.ref fa) us) (EP X pins σ Q) X.xe s := by
  have hl : us.length = ps.length := r.length.symm.trans (F.len _ _ _ _ h)
  have bb := hb s us I.kIn (by rw [List.append_nil]; exact hl)
  rw [List.append_nil] at bb
  refine wpAny_call (codeAny_mono (F.run X.A X.stack s H ⟨us, []⟩ us vs Q (E σ) gd hr I.env0 bb r h) fun r s' hq => ?_)
  cases r with
  | error e => exact hx pins _ _ e s' I hq
  | ok fl =>
    cases fl with
    | ret u => exact I.after hq
    | next => exact False.elim hq
    | brk => exact False.elim hq
    | cont => exact False.elim hq
theorem dd_callG (G : DefOkG X.prog X.w X.K X.mg X.base k x m) (gd : X.A.guards = some []) (hr : Room k X.A) (tk : Takes X W) (ha : DA X W (e :: es) ma) (hg : Gl X x := by rfl) (hdb : (x == ("__debug__" : Str)) = false := by decide)
    (he : starEach (e :: es) X.env = (false, eval e X.env) :: starEach es X.env := by rfl) (hpl : (backTo pos (starEach es X.env)).any (·.1) = false := by rfl) : DE X W (.Call (.Name x p) (e :: es) [] pos) (mCall m ma) := by
  obtain ⟨fd, ps, F, hb⟩ := G.ex
  obtain ⟨t, pa, sa⟩ := ha.ex
  refine ⟨fun σ H Q => t σ H fun vs H1 => spOf X.K m vs H1 Q (WE W σ), ⟨fun pins s σ H Q I h => ?_⟩, fun Z R F δ c σ H Q w rs h => sa Z R F δ c σ H _ w rs ((Aft.bind h).imp ?_)⟩
  · refine wpAny_Call_Name_kw (ld_glob I hg G.g ?_ hdb)
    refine PySem.W.callWith_K (h₀ := X.base) I.ok.mod.kin G.kp (thn (pa.run pos pins s σ H _ I h) fun us s1 ⟨vs, H1, I1, r, q⟩ => ⟨I1.kIn, ?_⟩) he hpl
    exact run_fnG (E := WE W) F gd hr hb (passAt tk σ) I1 r q
  · rintro R1 F1 ds c1 H1 p1 e1 w1 ⟨_, _, _, h1⟩ vs rv
    exact sp_of w1 rv h1
theorem dd_callG0 (G : DefOkG X.prog X.w X.K X.mg X.base k x m) (gd : X.A.guards = some []) (hr : Room k X.A) (tk : Takes X W) (hg : Gl X x := by rfl) (hdb : (x == ("__debug__" : Str)) = false := by decide) : DE X W (.Call (.Name x p) [] [] pos) (mCall m mNil) := by
  obtain ⟨fd, ps, F, hb⟩ := G.ex
  exact ⟨fun σ H Q => spOf X.K m [] H Q (WE W σ), ⟨fun pins s σ H Q I h => wpAny_Call_Name_kw (ld_glob I hg G.g (PySem.W.callWith_K0 I.kIn G.kp (run_fnG (E := WE W) (us := []) F gd hr hb (passAt tk σ) I .nil h)) hdb)⟩, fun Z R F δ c σ H Q w rs h => sp_of w .nil h⟩
end
end Nw

set_option Elab.async false
set_option linter.all false
set_option maxRecDepth 100000
set_option maxHeartbeats 4000000
/-! Nw49: repr(x) of plain data. -/
namespace Nw
open PySem PySem.Spec
open PyProof.Rows hiding St
open L2
variable [TheW]
mutual
def toPy : D → Option PyData
  | .non => some .none
  | .bl b => some (.bool b)
  | .int i => some (.int i)
  | .str x => some (.str x)
  | .tup l => (toPyL l).map PyData.tuple
  | .lst l => (toPyL l).map PyData.list
  | .scr l => (toPyL l).map PyData.list
  | _ => none
def toPyL : List D → Option (List PyData)
  | [] => some []
  | d :: ds => match toPy d, toPyL ds with
    | some a, some b => some (a :: b)
    | _, _ => none
end
section
variable {X : Cx} {pins : List (Addr × Obj)} {σ : St} {H F : Hp} {s : Shared} {R : List Addr}
mutual
theorem reads_d (I : Inv X pins σ H s) (sm : Same F H) : ∀ (d : D) {p : PyData} {v : V} {u : Value}, toPy d = some p → Rel X.K R F v d → RelV v u → ∃ as, Reads s.heap u p as
  | .non, p, v, u, h, r, q => by
    cases r
    unfold toPy at h
    cases h
    cases (show u = Value.none from q)
    exact ⟨_, .none⟩
  | .bl b, p, v, u, h, r, q => by
    cases r
    unfold toPy at h
    cases h
    cases (show u = Value.bool b from q)
    exact ⟨_, .bool b⟩
  | .int i, p, v, u, h, r, q => by
    cases r
    unfold toPy at h
    cases h
    obtain ⟨t, rfl⟩ := q
    exact ⟨_, .int i t⟩
  | .str x, p, v, u, h, r, q => by
    cases r
    unfold toPy at h
    cases h
    obtain ⟨t, rfl⟩ := q
    exact ⟨_, .str x t⟩
  | .tup l, p, v, u, h, r, q => by
    unfold toPy at h
    cases r with
    | tup hs rl =>
      obtain ⟨ps, e1, rfl⟩ := Option.map_eq_some_iff.mp h
      cases (show u = Value.ref _ from q)
      obtain ⟨its, rv, o, e, c, n, dd⟩ := inv_sq (b := false) I (Same.sqT sm hs)
      obtain ⟨as, ra⟩ := reads_l I sm l e1 rl rv
      exact ⟨_, .tuple e c dd (by simpa using ra)⟩
  | .lst l, p, v, u, h, r, q => by
    unfold toPy at h
    cases r with
    | lst hs rl =>
      obtain ⟨ps, e1, rfl⟩ := Option.map_eq_some_iff.mp h
      cases (show u = Value.ref _ from q)
      obtain ⟨its, rv, o, e, c, n, dd⟩ := inv_sq (b := true) I (SqL.of (sm _ _ hs))
      obtain ⟨as, ra⟩ := reads_l I sm l e1 rl rv
      exact ⟨_, .list e c dd (by simpa using ra)⟩
  | .scr l, p, v, u, h, r, q => by
    unfold toPy at h
    cases r with
    | scr hs rl =>
      obtain ⟨ps, e1, rfl⟩ := Option.map_eq_some_iff.mp h
      cases (show u = Value.ref _ from q)
      obtain ⟨its, rv, o, e, c, n, dd⟩ := inv_sq (b := true) I (SqL.ext hs sm)
      obtain ⟨as, ra⟩ := reads_l I sm l e1 rl rv
      exact ⟨_, .list e c dd (by simpa using ra)⟩
  | .ty _, _, _, _, h, _, _ => by unfold toPy at h; cases h
  | .gl _, _, _, _, h, _, _ => by unfold toPy at h; cases h
  | .obj _ _ _, _, _, _, h, _, _ => by unfold toPy at h; cases h
  | .cell _, _, _, _, h, _, _ => by unfold toPy at h; cases h
  | .exo _ _ _ _ _, _, _, _, h, _, _ => by unfold toPy at h; cases h
  | .err _ _ _, _, _, _, h, _, _ => by unfold toPy at h; cases h
  | .dic _ _, _, _, _, h, _, _ => by unfold toPy at h; cases h
  | .dit _ _, _, _, _, h, _, _ => by unfold toPy at h; cases h
theorem reads_l (I : Inv X pins σ H s) (sm : Same F H) : ∀ (ds : List D) {ps : List PyData} {vs : List V} {us : List Value}, toPyL ds = some ps → RelL X.K R F vs ds → Vals vs us → ∃ as, ReadsAll s.heap us ps as
  | [], ps, vs, us, h, r, q => by
    unfold toPyL at h
    cases h
    cases r
    cases q
    exact ⟨_, .nil⟩
  | d :: ds, ps, vs, us, h, r, q => by
    unfold toPyL at h
    cases e1 : toPy d with
    | none => rw [e1] at h; cases h
    | some a =>
      cases e2 : toPyL ds with
      | none => rw [e1, e2] at h; cases h
      | some b =>
        rw [e1, e2] at h
        cases h
        cases r with
        | cons r1 r2 =>
          cases q with
          | cons q1 q2 =>
            obtain ⟨as, h1⟩ := reads_d I sm d e1 r1 q1
            obtain ⟨bs, h2⟩ := reads_l I sm ds e2 r2 q2
            exact ⟨_, .cons h1 h2⟩
end
end
def rRepr (X : Cx) : List V → Hp → VK → Prop := fun xs H Q => ∃ (v : V) (p : PyData), xs = [v] ∧ (∀ pins s σ, Inv X pins σ H s → ∀ u, RelV v u → ∃ as, Reads s.heap u p as ∧ (p.hasDict = true → sysModules ∉ as)) ∧ p.showable = true ∧ p.depth ≤ 40 ∧ p.shown.length ≤ sizeLine ∧ Q (.str p.shown) H
def reprD (ds : List D) (c : Cells) : Out D := match ds with
  | [d] => if dicOf c d = some ([], []) then .ok (.str (PyData.dict []).shown) c else (match toPy d with
    | some p => if p.hasDict = false ∧ p.showable = true ∧ p.depth ≤ 40 ∧ p.shown.length ≤ sizeLine then .ok (.str p.shown) c else .bad
    | none => .bad)
  | _ => .bad
section
variable {X : Cx}
theorem call_repr (gd : X.A.guards = some []) (hu : X.A.units + 50 < cLine) : CallR X (.builtin "repr") (rRepr X) := by
  intro pins s σ H xs us Q I r h
  obtain ⟨v, p, rfl, rd, h1, h2, h3, q⟩ := h
  obtain ⟨u, rfl, rv⟩ := vals1 r
  obtain ⟨as, rr, hsm⟩ := rd pins s σ I u rv
  have leaf : EP X pins σ Q (.str p.shown s.toks) { s with toks := s.toks + 1 } := ⟨.str _, H, I.tok _, ⟨_, rfl⟩, q⟩
  have fin : ∀ (h' : Heap) (t tk : Tok), (∀ b o, s.heap.get? b = some o → h'.get? b = some o) → EP X pins σ Q (.str p.shown t) { s with heap := h', toks := tk } := fun h' t tk hk => ⟨.str _, H, I.kept (t' := tk) hk, ⟨_, rfl⟩, q⟩
  cases rr with
  | none => exact PySem.P.repr_of_none leaf
  | bool b => exact PySem.P.repr_of_bool leaf
  | int i t => exact PySem.P.repr_of_int (of_decide_eq_true h1) leaf
  | str x t => exact PySem.P.repr_of_str leaf h3
  | list e c d ra => exact PySem.repr_of_reads' (.list e c d ra) h1 hsm gd (by omega) (fun _ _ z => z) fin h3
  | tuple e c d ra => exact PySem.repr_of_reads' (.tuple e c d ra) h1 hsm gd (by omega) (fun _ _ z => z) fin h3
  | dict e c d ra rb => exact PySem.repr_of_reads' (.dict e c d ra rb) h1 hsm gd (by omega) (fun _ _ z => z) fin h3
theorem cs_repr0 (gd : X.A.guards = some []) (hu : X.A.units + 50 < cLine) : CallS X (.builtin "repr") reprD := by
  refine ⟨_, call_repr gd hu, fun Z W R F c σ H vs ds Q w r h => ?_⟩
  unfold reprD at h
  split at h
  · rename_i d
    obtain ⟨v, e1, rr⟩ : ∃ v, vs = [v] ∧ Rel X.K R F v d := by
      cases r with
      | cons r t => cases t; exact ⟨_, rfl, r⟩
    subst e1
    by_cases z0 : dicOf c d = some ([], [])
    · rw [if_pos z0] at h
      obtain ⟨a, us, rfl, ha, hl, rl⟩ := w.dict rr z0
      refine ⟨_, .dict [], rfl, fun pins s σ I u q => ?_, rfl, by decide +kernel, by decide +kernel, h _ _ _ (List.prefix_refl _) (Same.refl _) w _ (.str _)⟩
      cases (show u = Value.ref a from q)
      obtain ⟨_, ya, va, ra, o, es, ep, e, x, d1, kz, pz, _⟩ := (show ObjOk X.prog X.w H s.heap a (.dK []) from I.hok a _ ha)
      cases ra
      have e0 : es.toList = [] := by
        generalize es.toList = l at pz
        cases pz
        rfl
      refine ⟨_, .dict (as := []) (bs := []) e x.1 d1 (by rw [e0]; exact .nil) (by rw [e0]; exact .nil), fun _ z => ?_⟩
      have z : sysModules = a := by simpa using z
      rw [z] at ya
      simp at ya
    rw [if_neg z0] at h
    split at h
    · rename_i p hp
      by_cases z : p.hasDict = false ∧ p.showable = true ∧ p.depth ≤ 40 ∧ p.shown.length ≤ sizeLine
      · rw [if_pos z] at h
        refine ⟨v, p, rfl, fun pins s σ I u q => ?_, z.2.1, z.2.2.1, z.2.2.2, h _ _ _ (List.prefix_refl _) (Same.refl _) w _ (.str _)⟩
        obtain ⟨as, ra⟩ := reads_d I w.same d hp rr q
        exact ⟨as, ra, PyData.noDict_hsm z.1⟩
      · rw [if_neg z] at h
        exact h.elim
    · exact h.elim
  · exact h.elim
theorem cs_repr {k : Nat} (gd : X.A.guards = some []) (hr : Room k X.A) : CallS X (.builtin "repr") reprD := cs_repr0 gd (by have := hr.un; omega)
/-- where an error is handled -/
theorem cs_reprH {k : Nat} {A : Around} (gd : X.A.guards = some []) (hr : Room k A) (hA : X.A.units = A.units) : CallS X (.builtin "repr") reprD := cs_repr0 gd (by rw [hA]; have := hr.un; omega)
end
section
variable {i : Nat}
theorem ind_cb {g : List D → Cells → Out D} {ms : Addr → Option Addr → Str → MA} (h : IndA i ms) : IndE i (fun a x k => mCB g (ms a x k)) := fun k ns ds δ c a x => by
  show (ms a x k _ c).bind _ = (ms 0 none k _ c).bind _
  rw [h k ns ds δ c a x]
theorem ind_isiV {ts : List Ty} {f : Ty → Bool} : IndE i (fun _ _ _ => mIsi ts f (mVar i)) := fun k ns ds δ c a x => by
  by_cases hi : i < δ.length
  · simp [mIsi, mVar, hi, Out.bind, isiD, tyD]
  · simp [mIsi, mVar, hi, Out.bind]
end
/-! ### xs[::-1] -/
def revD (new : List D → Cells → Out D) (d : D) (c : Cells) : Out D := match lstOf c d with
  | some l => new l.reverse c
  | none => .bad
def mRev (new : List D → Cells → Out D) (me : ME) : ME := fun δ c => (me δ c).bind (revD new)
theorem RelL.rev {K : Frag} {R : List Addr} {F : Hp} : ∀ {vs : List V} {ds : List D}, RelL K R F vs ds → RelL K R F vs.reverse ds.reverse
  | _, _, .nil => .nil
  | _, _, .cons r t => by
    rw [List.reverse_cons, List.reverse_cons]
    exact RelL.append (RelL.rev t) (.cons r .nil)
section
variable {X : Cx} {W : WX} {e : Expr} {me : ME} {new : List D → Cells → Out D} {k : Nat} {p1 p2 p3 pos : Pos}
theorem de_rev (hn : NewL X new) (he : DE X W e me) : DE X W (.Subscript e (.Slice none none (some (.UnaryOp .USub (.Constant (.int 1) k p1) p2)) p3) pos) (mRev new me) := by
  obtain ⟨t, pt, st⟩ := he.ex
  refine ⟨_, L2.pe_revL pt, fun Z R F δ c σ H Q w rs h => st Z R F δ c σ H _ w rs ((Aft.bind h).imp ?_)⟩
  rintro R1 F1 d c1 H1 q1 e1 w1 ⟨_, _, _, h1⟩ v rv
  unfold revD at h1
  split at h1
  · rename_i l hl
    obtain ⟨a, us, rfl, hs, rl⟩ := w1.list rv hl
    exact ⟨a, us, rfl, hs, (hn _ _ _ _ _ _ _ _ _ _ w1 rl.rev h1).2⟩
  · exact h1.elim
end
end Nw

set_option Elab.async false
set_option linter.all false
set_option maxRecDepth 100000
set_option maxHeartbeats 4000000
/-! Nw50: a, b = a list. -/
namespace Nw
open PySem PySem.Spec
open PyProof.Rows hiding St
open L2
variable [TheW]
/-- (a, b, ..) = a tuple or a list of that length -/
def gU (n : Nat) (gs : MGs) : MG := fun d δ => match d with
  | .tup ds => if ds.length = n then gs ds δ else none
  | .lst ds => if ds.length = n then gs ds δ else none
  | _ => none
section
variable {X : Cx} {pos : Pos}
theorem pg_u {es : List Expr} {k : Nat} {t : TGs} {n : Nat} (hc : X.calm = true) (h : PGs X es t)
    (hn : (assignEach es X.env).length = n := by rfl) (hst : (assignEach es X.env).findIdx? (·.1) = none := by rfl) : PG X (.Tuple es k pos) (fun v σ H Q => gTup X.K n t v σ H Q ∨ gLst X.K n t v σ H Q) := by
  refine ⟨fun pins s σ H v u Q I r hw => ?_⟩
  rcases hw with hw | hw
  · exact (pg_tup hc h hn hst).run pins s σ H v u Q I r hw
  · exact (pg_lst hc h hn hst).run pins s σ H v u Q I r hw
theorem dg_u {es : List Expr} {k : Nat} {gs : MGs} {n : Nat} {sl : List Nat} (hc : X.calm = true) (h : DGs X es sl gs) (hn : (assignEach es X.env).length = n := by rfl) (hst : (assignEach es X.env).findIdx? (·.1) = none := by rfl) : DG X (.Tuple es k pos) sl (gU n gs) := by
  obtain ⟨t, p, s⟩ := h.ex
  refine ⟨_, pg_u hc p hn hst, fun Z R F δ c σ H v d δ' Q w rs r e h => ?_⟩
  cases r with
  | @tup a vs ds hq l =>
    have e2 : (if ds.length = n then gs ds δ else none) = some δ' := e
    by_cases hl : ds.length = n
    · rw [if_pos hl] at e2
      exact .inl ⟨a, vs, rfl, hq.ext w.same, by rw [l.length]; exact hl, s Z R F δ c σ H vs ds δ' Q w rs l e2 h⟩
    · rw [if_neg hl] at e2
      cases e2
  | @lst a vs ds hq l =>
    have e2 : (if ds.length = n then gs ds δ else none) = some δ' := e
    by_cases hl : ds.length = n
    · rw [if_pos hl] at e2
      exact .inr ⟨a, vs, rfl, SqL.of (w.same _ _ hq), by rw [l.length]; exact hl, s Z R F δ c σ H vs ds δ' Q w rs l e2 h⟩
    · rw [if_neg hl] at e2
      cases e2
  | _ => cases e
end
end Nw

set_option Elab.async false
set_option linter.all false
set_option maxRecDepth 100000
set_option maxHeartbeats 4000000
/-! Nw51: statements in groups: what the first ones make may be forgotten ahead of the others. -/
namespace Nw
open PySem PySem.Spec
open PyProof.Rows hiding St
open L2
variable [TheW]
theorem wp_execs_append {M : Model} {Γ : PySem.Ctx} {l2 : List Stmt} {env : Env} {Q : Flow → Pos → Shared → Prop} {E : Value → Pos → Shared → Prop} : ∀ (l1 : List Stmt) (p : Pos) (s : Shared),
    Sem.wp M Γ (execs l1 env) (fun f p s => match f with | .next => Sem.wp M Γ (execs l2 env) Q E p s | f => Q f p s) E p s → Sem.wp M Γ (execs (l1 ++ l2) env) Q E p s
  | [], p, s, h => h
  | st :: r, p, s, h => by
    rw [List.cons_append, execs_cons, Sem.wp_bind']
    rw [execs_cons, Sem.wp_bind'] at h
    refine Sem.wp_mono M Γ _ (fun f p' s' h' => ?_) (fun _ _ _ h' => h') _ _ h
    cases f <;> first | exact wp_execs_append r p' s' h' | exact h'
theorem wpAny_execs_append {M : Model} {A : Around} {l1 l2 : List Stmt} {env : Env} {Q : Flow → Shared → Prop} {E : Value → Shared → Prop} {s : Shared}
    (h : wpAny M A (execs l1 env) (fun f s' => match f with | .next => wpAny M A (execs l2 env) Q E s' | f => Q f s') E s) : wpAny M A (execs (l1 ++ l2) env) Q E s := fun Γ p hΓ => by
  refine wp_execs_append l1 p s (Sem.wp_mono M Γ _ (fun f p' s' h' => ?_) (fun _ _ _ h' => h') _ _ (h Γ p hΓ))
  cases f <;> first | exact h' Γ p' hΓ | exact h'
section
variable {X : Cx} {W : WX} {l1 l2 : List Stmt} {t u : TS} {m1 m2 : MS}
theorem pss_append (h1 : PSs X l1 t) (h2 : PSs X l2 u) : PSs X (l1 ++ l2) (tSeq t u) := by
  refine ⟨fun pins s σ H D I h => ?_⟩
  refine wpAny_execs_append (thn (h1.run pins s σ H { D with nx := u D } I h) fun f s1 q => ?_)
  cases f with
  | next =>
    obtain ⟨σ', H', I', q⟩ := q
    exact h2.run pins s1 σ' H' D I' q
  | ret v => exact q
  | brk => exact q
  | cont => exact q
theorem dss_append (h : DSs X W l1 m1) (h2 : DSs X W l2 m2) : DSs X W (l1 ++ l2) (mSeq m1 m2) := by
  obtain ⟨t, p, s⟩ := h.ex
  obtain ⟨u, q, s2⟩ := h2.ex
  refine ⟨_, pss_append p q, fun Z R F δ c σ H E w rs h => s Z R F δ c σ H _ w rs (AftS.seq h ?_)⟩
  intro δ' c' R' F' H' σ' p' e' w' rs' h'
  exact s2 Z R' F' δ' c' σ' H' E w' rs' h'
end
end Nw

set_option Elab.async false
set_option linter.all false
set_option maxRecDepth 100000
set_option maxHeartbeats 4000000
/-! Nw52: isinstance of a caught error. -/
namespace Nw
open PySem PySem.Spec
open PyProof.Rows hiding St
open L2
variable [TheW]
/-- what isinstance asks of a class of errors -/
def xisB (K : Frag) (D : Addr) : Bool := decide (PySem.W.findIn K (.ref D) "__getattribute__" = some (some (.builtin "BaseException.__getattribute__"))) && (decide (PySem.W.findIn K (.ref D) "__getattr__" = some none) && (decide (PySem.W.subIn K (.ref D) (.type "BaseException") = some true) && (PySem.W.hasDictIn K D &&
  (decide (PySem.W.findIn K (.ref D) "__class__" = some (some (.builtin "object.__class__"))) && (decide (PySem.W.specialIn K (.builtin "object.__class__") "__get__" = some (some (.builtin "getset_descriptor.__get__"))) && (decide (PySem.W.takesIn K (.builtin "object.__class__") = some true) && (decide (PySem.W.mroIn K D (.type "object") = some true) && (PySem.W.clsIn K D).isSome)))))))
structure XisC (K : Frag) (D : Addr) : Prop where
  C : ExcC K D
  cl : (PySem.W.clsIn K D).isSome = true
theorem xisB_ok {K : Frag} {D : Addr} (h : xisB K D = true) : XisC K D := by
  unfold xisB at h
  simp only [Bool.and_eq_true, decide_eq_true_eq] at h
  obtain ⟨h1, h2, h3, h4, h5, h6, h7, h8, h9⟩ := h
  exact ⟨⟨h1, h2, h3, h4, h5, h6, h7, h8⟩, h9⟩
/-- isinstance(e, C) for the classes of errors of a table -/
def XisOk (K : Frag) (C : Cl) (t : List (Str × Bool)) : Prop := ∀ k b, t.lookup k = some b → XisC K (He.ga K k) ∧ PySem.W.kitOne K (.ref (He.ga K k)) (C.v K) = some b
def xisT (C : Cl) (t : List (Str × Bool)) (K : Frag) : Bool := t.all fun p => xisB K (He.ga K p.1) && decide (PySem.W.kitOne K (.ref (He.ga K p.1)) (C.v K) = some p.2)
theorem ck_xis {K : Frag} {C : Cl} {t : List (Str × Bool)} (h : (Ck.any (xisT C t)).ok K = true) : XisOk K C t := fun k b e => by
  have h := List.all_eq_true.mp h (k, b) (lookup_mem e)
  obtain ⟨h1, h2⟩ := Bool.and_eq_true_iff.mp h
  exact ⟨xisB_ok h1, of_decide_eq_true h2⟩
def rIsX (K : PySem.W.Frag) (D a : Addr) (d : Option Addr) : List V → Hp → VK → Prop := fun xs H Q => ∃ (c : V) (cv : Value) (b : Bool), xs = [.ref a, c] ∧ ClsV c cv ∧ PySem.W.kitOne K (.ref D) cv = some b ∧ (∀ dx, d = some dx → ∃ fs, H dx = some (.xd fs)) ∧ Q (.bl b) H
theorem call_isX {X : Cx} {a D : Addr} {d : Option Addr} {oe : Obj} {pn : List (Addr × Obj)} (T : XisC X.K D) (hz : Zc (.ref D) d oe) (hf : ∃ vs, oe.data = .fields vs) : CallR (X.suite a ((a, oe) :: pn)) (.builtin "isinstance") (rIsX X.K D a d) := by
  intro pins s σ H xs us Q I r h
  obtain ⟨c, cv, b, rfl, hcv, e, hd, q⟩ := h
  obtain ⟨u1, u2, rfl, r1, r2⟩ := vals2 r
  cases (show u1 = Value.ref a from r1)
  have e2 := hcv.eq r2
  subst e2
  obtain ⟨hget, _⟩ := I.pin (a, oe) (List.mem_append.mpr (.inl List.mem_cons_self))
  obtain ⟨vs, hv⟩ := hf
  have fin : ∀ od : Option Obj, PySem.W.InstAt s.heap a oe D od → wpAny (model (X.suite a ((a, oe) :: pn)).prog (X.suite a ((a, oe) :: pn)).w) (X.suite a ((a, oe) :: pn)).A (call (.builtin "isinstance") [.ref a, u2]) (EP (X.suite a ((a, oe) :: pn)) pins σ Q) (X.suite a ((a, oe) :: pn)).xe s := fun od J =>
    PySem.W.kia_one (PySem.W.kitx_exc T.cl T.C.hg T.C.hk T.C.hs T.C.ha T.C.hn T.C.ht T.C.hm) I.kIn J e (fun z => nomatch z) fun tk => ⟨.bl b, H, I.kept (t' := tk) fun _ _ z => z, rfl, q⟩
  obtain ⟨oc, odc, oda, osl⟩ := oe
  obtain ⟨h1, h2⟩ := hz
  dsimp only at h1 h2 hv
  subst h1 h2 hv
  cases odc with
  | none => exact fin none ⟨hget, rfl, rfl, trivial⟩
  | some dx =>
    obtain ⟨fs, hx⟩ := hd dx rfl
    obtain ⟨mA, ⟨od, es, ep, eh, _⟩, _⟩ := (show ObjOk _ _ H s.heap dx (.xd fs) from I.hok dx _ hx)
    exact fin (some od) ⟨hget, rfl, rfl, eh⟩
def mIsX (a : Addr) (d : Option Addr) (k : Str) (t : List (Str × Bool)) (i : Nat) : ME := fun δ c => match δ[i]? with
  | some (some (.exo a' d' _ _ _)) => if a' = a ∧ d' = d then (match t.lookup k with
    | some b => .ok (.bl b) c
    | none => .bad) else .bad
  | _ => .bad
section
variable {X : Cx} {W : WX} {p pos p1 : Pos} {n k : Str} {i : Nat} {a : Addr} {oe : Obj} {d : Option Addr} {pn : List (Addr × Obj)} {ce : Expr} {t : List (Str × Bool)}
theorem de_isX {C : Cl} (T : XisOk X.K C t) (hz : Zc (.ref (He.ga X.K k)) d oe) (hv : ∃ vs, oe.data = .fields vs) (hm : X.mg "isinstance" = none) (he : DE (X.suite a ((a, oe) :: pn)) W (.Name n p1) (mVar i)) (hc : DC (X.suite a ((a, oe) :: pn)) ce C) (hg : Gl X "isinstance" := by rfl)
    (hs : starEach [.Name n p1, ce] X.env = [(false, eval (.Name n p1) X.env), (false, eval ce X.env)] := by rfl) (hs2 : starEach [ce] X.env = [(false, eval ce X.env)] := by rfl) (hpl : (backTo pos (starEach [ce] X.env)).any (·.1) = false := by rfl) :
    DE (X.suite a ((a, oe) :: pn)) W (.Call (.Name "isinstance" p) [.Name n p1, ce] [] pos) (mIsX a d k t i) := by
  cases hb : t.lookup k with
  | none =>
    refine ⟨fun _ _ _ => False, ⟨fun pins s σ H Q I h => h.elim⟩, fun Z R F δ c σ H Q w rs h => ?_⟩
    unfold mIsX at h
    rw [hb] at h
    split at h
    · split at h <;> exact h
    · exact h
  | some b =>
    obtain ⟨T1, T2⟩ := T k b hb
    obtain ⟨te, pe, se⟩ := he.ex
    obtain ⟨v, pc, kc⟩ := hc.ex
    refine ⟨_, pe_callB (call_isX T1 hz hv) hg hm PyProof.Rows.boot_isinstance (pa_cons pe (pa_cons pc pa_nil hs2) (by rw [hs, hs2])) (by decide) (by decide) (by rw [hs, hs2]) hpl, fun Z R F δ c σ H Q w rs h => ?_⟩
    unfold mIsX at h
    split at h
    · rename_i a' d' k' ns ds e
      split at h
      · rename_i hh
        obtain ⟨rfl, rfl⟩ := hh
        rw [hb] at h
        refine se Z R F δ c σ H _ w rs ?_
        unfold mVar
        rw [e]
        intro R' F' H' p' e' w' u ru
        have q := h R' F' H' p' e' w' _ (.bl b)
        cases ru with
        | @exo _ dd _ _ vs _ hF z l =>
          exact ⟨v, _, b, rfl, kc, T2, fun dx hx => by cases hx; exact ⟨_, w'.same _ _ hF⟩, q⟩
        | exo0 => exact ⟨v, _, b, rfl, kc, T2, (fun dx hx => nomatch hx), q⟩
      · exact h.elim
    · exact h.elim
end
theorem ind_isX {i : Nat} {t : List (Str × Bool)} : IndE i (fun a x k => mIsX a x k t i) := fun k ns ds δ c a x => by
  show mIsX a x k t i _ c = mIsX 0 none k t i _ c
  unfold mIsX
  by_cases h : i < δ.length
  · rw [List.getElem?_set_self h, List.getElem?_set_self h]
    simp
  · rw [List.getElem?_eq_none (by rw [List.length_set]; omega), List.getElem?_eq_none (by rw [List.length_set]; omega)]
end Nw

set_option Elab.async false
set_option linter.all false
set_option maxRecDepth 100000
set_option maxHeartbeats 4000000
/-! Nw72: errors made and held: their fields, their classes, what they tell. -/
namespace Nw
open PySem PySem.Spec
open PyProof.Rows hiding St
open L2
variable [TheW]
/-! ### an error made -/
/-- x(e, ..): the error itself -/
def tMkE (C : Addr) (sp : Sp) (ta : TA) : TE := fun σ H Q => ta σ H fun vs H1 => vs.length ≤ 1000 ∧ ∀ a, H1 a = none → sp (.ref a :: vs) (upd H1 a (exo a C none)) (fun v H2 => v = .non ∧ Q (.ref a) H2) (fun _ _ _ => False)
section
variable {X : Cx} {x : Str} {p pos : Pos} {e : Expr} {es : List Expr} {ta : TA}
theorem pe_mkE {CX : CXT} {C fI : Addr} {k : Nat} {fd : FuncData} {ps : List Str} {sp : Sp} (T : OexC X.K C) (iC : PySem.W.findIn X.K (.ref C) "__init__" = some (some (.ref fI))) (tI : PySem.W.typeIn X.K (.ref fI) = some (.type "function"))
    (F1 : FnOk X.prog X.w X.K X.mg X.base CX k fI fd ps sp) (hr : Room (k + 1) X.A) (hb : Binds X.K fd ps []) (hx : Passes CX X (fun _ _ _ => False)) (hg : Gl X x) (hm : X.mg x = some (.ref C)) (ha : PA X (e :: es) ta)
    (hdb : (x == ("__debug__" : Str)) = false := by decide) (he : starEach (e :: es) X.env = (false, eval e X.env) :: starEach es X.env := by rfl) (hpl : (backTo pos (starEach es X.env)).any (·.1) = false := by rfl) :
    PE X (.Call (.Name x p) (e :: es) [] pos) (tMkE C sp ta) := by
  refine ⟨fun pins s σ H Q I h => ?_⟩
  obtain ⟨nm, q, N, bs, bm, sn, sub, ab, col, dd, k0, k1, k2, k3, k5, hC, hbm⟩ := T.cls
  refine wpAny_Call_Name_kw (ld_glob I hg hm ?_ hdb)
  refine PySem.W.callWith_K (h₀ := X.base) I.ok.mod.kin T.kC (thn (ha.run pos pins s σ H _ I h) fun us s1 ⟨vs, H1, I1, r1, hz, q1⟩ => ⟨I1.kIn, ?_⟩) he hpl
  show wpAny _ _ (call (.ref C) us) _ _ _
  obtain ⟨hp, g, dr, tk, os⟩ := s1
  have hsz : hp.objs.size ≤ hp.objs.size + 1 := Nat.le_succ _
  have hn : H1 (hp.objs.size + 1) = none := I1.hok.fresh hsz
  have hq := q1 (hp.objs.size + 1) hn
  have kk : ∀ b o, hp.get? b = some o → ((hp.push (PySem.W.kdv_tup us)).push (PySem.HandSPX.excO C hp.objs.size)).get? b = some o := fun b o e => Heap.get?_push_of_some _ (Heap.get?_push_of_some _ e)
  have hget : ((hp.push (PySem.W.kdv_tup us)).push (PySem.HandSPX.excO C hp.objs.size)).get? (hp.objs.size + 1) = some (PySem.HandSPX.excO C hp.objs.size) := by heap_get
  have I2 : Inv X pins σ (upd H1 (hp.objs.size + 1) (exo (hp.objs.size + 1) C none)) ⟨(hp.push (PySem.W.kdv_tup us)).push (PySem.HandSPX.excO C hp.objs.size), g, dr, tk, os⟩ :=
    I1.laid (t' := tk) (a := hp.objs.size + 1) (o := exo (hp.objs.size + 1) C none) (h' := (hp.push (PySem.W.kdv_tup us)).push (PySem.HandSPX.excO C hp.objs.size)) kk hsz (exo_ok hget)
  have r2 : Vals (V.ref (hp.objs.size + 1) :: vs) (Value.ref (hp.objs.size + 1) :: us) := .cons rfl r1
  have hl : (Value.ref (hp.objs.size + 1) :: us).length = ps.length := by
    have e := r2.length
    rw [F1.len _ _ _ _ hq] at e
    exact e.symm
  have hus : us.length ≤ sizeLine := by
    rw [← Paired.length r1, sizeLine_eq]
    omega
  have bb := hb ⟨(hp.push (PySem.W.kdv_tup us)).push (PySem.HandSPX.excO C hp.objs.size), g, dr, tk, os⟩ (Value.ref (hp.objs.size + 1) :: us) I2.kIn (by rw [List.append_nil]; exact hl)
  rw [List.append_nil] at bb
  refine wpAny_call (PySem.HandSPX.call_own F.excBase_ValueError (fun Y => PySem.HandSPX.refsVE_contains Y bm hbm) (I1.kIn _ _ hC) (PySem.W.looks_findIn I1.kIn iC) (fun self => PySem.W.bind_fn I1.kIn self tI) hus
    (codeAny_mono (F1.run _ X.stack _ _ ⟨Value.ref (hp.objs.size + 1) :: us, []⟩ (Value.ref (hp.objs.size + 1) :: us) _ _ (fun _ _ _ => False) (hr.make C us []) (I2.env0.make C us []) bb r2 hq) fun r s' hq' => ?_))
  cases r with
  | error er => exact hx pins σ _ _ er s' I2 hq'
  | ok fl =>
    cases fl with
    | ret u =>
      obtain ⟨v, H2, J, rv, ev, q2⟩ := I2.after hq'
      subst ev
      exact ⟨rv, ⟨.ref (hp.objs.size + 1), H2, J, rfl, q2⟩⟩
    | next => exact False.elim hq'
    | brk => exact False.elim hq'
    | cont => exact False.elim hq'
/-- x(), no __init__ of its own -/
theorem pe_mkE0 {C : Addr} {bmB : List Value} {B newId initId : String} (F : ExcBaseFacts B newId initId bmB) (q : PySem.W.excIn X.K C bmB newId = true) (gC : X.mg x = some (.ref C)) (kC : PySem.W.keepIn X.K (.ref C) = true) (hg : Gl X x)
    (hdb : (x == ("__debug__" : Str)) = false := by decide) : PE X (.Call (.Name x p) [] [] pos) (fun _ H Q => ∀ a, H a = none → Q (.ref a) (upd H a (exo a C none))) := by
  refine ⟨fun pins s σ H Q I h => ?_⟩
  refine wpAny_Call_Name_kw (ld_glob I hg gC (PySem.W.callWith_K0 I.kIn kC ?_) hdb)
  obtain ⟨bm, N, nm, qn, bs, hdct, sn, sub, ab, col, dd, k0, k1, k2, k3, k5, mN, hC, hN, hni, T⟩ := exc_obj I.kIn q
  refine wpAny_call_exc_subT F T hC hN hni (fun h' a hm => ?_) (by simp)
  have hn : H a = none := I.hok.gone hm.new
  obtain ⟨t, ht, _, _⟩ := hm.there
  exact ⟨.ref a, upd H a (exo a C none), I.laidN hm.keeps hm.new hn (exo_ok ht), rfl, h a hn⟩
end
section
variable {X : Cx} {W : WX} {x : Str} {k : Nat} {p pos : Pos} {e : Expr} {es : List Expr} {ma : MA} {ns : List Str}
def mMkE (x : Str) (ns : List Str) (ma : MA) : ME := fun δ c => (ma δ c).bind fun ds c1 => if ds.length = ns.length ∧ ds.length ≤ 1000 then .ok (.err x ns.reverse ds.reverse) c1 else .bad
theorem de_mkE (T : ExcN X k x ns) (hr : Room (k + 1) X.A) (ha : DA X W (e :: es) ma) (hg : Gl X x := by rfl) (hdb : (x == ("__debug__" : Str)) = false := by decide)
    (he : starEach (e :: es) X.env = (false, eval e X.env) :: starEach es X.env := by rfl) (hpl : (backTo pos (starEach es X.env)).any (·.1) = false := by rfl) :
    DE X W (.Call (.Name x p) (e :: es) [] pos) (mMkE x ns ma) := by
  obtain ⟨t, pa, sa⟩ := ha.ex
  obtain ⟨f, fd, ps, h1, h2, G, hb⟩ := T.ini
  refine ⟨_, pe_mkE T.T h1 h2 G hr hb passL hg T.g pa hdb he hpl, fun Z R F δ c σ H Q w rs h => sa Z R F δ c σ H _ w rs ((Aft.bind h).imp ?_)⟩
  rintro R1 F1 ds c1 H1 p1 e1 w1 ⟨_, _, _, h1⟩ vs rv
  split at h1
  · rename_i hl
    refine ⟨by rw [rv.length]; exact hl.2, fun a na => ⟨a, vs, rfl, by rw [rv.length]; exact hl.1, upd_same, fun d H' nd ne h3 h4 h5 => ?_⟩⟩
    have nd1 : H1 d = none := by rw [upd_ne ne] at nd; exact nd
    refine ⟨rfl, ?_⟩
    have eH : H' = upd (upd H1 d (exd d (ns.zip vs).reverse)) a (exo a (He.ga X.K x) (some d)) := by
      funext b
      by_cases hba : b = a
      · subst hba; rw [upd_same, h3]
      · rw [upd_ne hba]
        by_cases hb : b = d
        · subst hb; rw [upd_same, h4]
        · rw [upd_ne hb, h5 b hba hb, upd_ne hba]
    rw [eH]
    obtain ⟨w2, s2⟩ := w1.frozen nd1 (exd d (ns.zip vs).reverse)
    have na2 : upd H1 d (exd d (ns.zip vs).reverse) a = none := by rw [upd_ne (Ne.symm ne)]; exact na
    obtain ⟨w3, s3⟩ := w2.frozen na2 (exo a (He.ga X.K x) (some d))
    have hlv : ns.length = vs.length := by rw [rv.length]; exact hl.1.symm
    refine h1 _ _ _ (List.prefix_refl _) (s2.trans s3) w3 (.ref a) (.err (d := d) (vs := vs.reverse) upd_same ?_ (by rw [List.length_reverse, List.length_reverse]; exact hlv) ((rv.mono (List.prefix_refl _) (s2.trans s3)).reverse))
    rw [upd_ne ne, upd_same, zip_reverse hlv]
  · exact h1.elim
def mErr0 (x : Str) : ME := fun _ c => .ok (.err x [] []) c
theorem de_mkE0 (T : Exc0 X.K X.mg x) (hg : Gl X x := by rfl) (hdb : (x == ("__debug__" : Str)) = false := by decide) : DE X W (.Call (.Name x p) [] [] pos) (mErr0 x) := by
  refine ⟨_, pe_mkE0 PySem.F.excBase_ValueError T.ex T.g T.kp hg hdb, fun Z R F δ c σ H Q w rs h => fun a na => ?_⟩
  obtain ⟨w2, s2⟩ := w.frozen na (exo a (He.ga X.K x) none)
  exact h _ _ _ (List.prefix_refl _) s2 w2 (.ref a) (.err0 upd_same)
end
/-! ### its fields -/
/-- at a: an error of the class C (its dict at d, with fs) -/
structure XeAt (H : Hp) (a C : Addr) (d : Option Addr) (fs : List (Str × V)) : Prop where
  o : H a = some (exo a C d)
  d : ∀ dx, d = some dx → H dx = some (exd dx fs)
theorem XeAt.inst {X : Cx} {pins : List (Addr × Obj)} {σ : St} {H : Hp} {s : Shared} {a C : Addr} {d : Option Addr} {fs : List (Str × V)} (I : Inv X pins σ H s) (h : XeAt H a C d fs) : ∃ (oe : Obj) (od : Option Obj), PySem.W.InstAt s.heap a oe C od ∧
    (d = none ∧ od = none ∨ ∃ (dx : Addr) (od' : Obj) (mA : Str → Option Value), d = some dx ∧ od = some od' ∧ (∀ n, PySem.W.lookIn n od' = some (mA n)) ∧ ∀ f, RelO (fs.lookup f) (mA f)) := by
  obtain ⟨t1, ho⟩ := exo_at I.hok h.o
  cases d with
  | none => exact ⟨_, none, ⟨ho, rfl, rfl, True.intro⟩, .inl ⟨rfl, rfl⟩⟩
  | some dx =>
    obtain ⟨mA, hns, hr⟩ := exd_at I.hok (h.d dx rfl)
    obtain ⟨od, hod, hl⟩ := lookIn_ns hns
    exact ⟨_, some od, ⟨ho, rfl, rfl, hod⟩, .inr ⟨dx, od, mA, rfl, rfl, hl, hr⟩⟩
def tXe (K : Frag) (n : Str) (cs : List Str) (te : TE) : TE := fun σ H Q => te σ H fun x H1 => ∃ (k : Str) (a : Addr) (d : Addr) (fs : List (Str × V)) (v : V), k ∈ cs ∧ x = .ref a ∧ XeAt H1 a (He.ga K k) (some d) fs ∧ fs.lookup n = some v ∧ Q v H1
section
variable {X : Cx} {W : WX} {pos : Pos} {e : Expr} {n : Str} {cs : List Str}
theorem pe_xe {te : TE} (T : XfOk X.K n cs) (he : PE X e te) (hb : attributeBase e n X.env (eval e X.env) = eval e X.env := by rfl) : PE X (.Attribute e n pos) (tXe X.K n cs te) := by
  refine ⟨fun pins s σ H Q I h => ?_⟩
  refine attr_of hb (thn (he.run pins s σ H _ I h) fun u s1 hh => ?_)
  obtain ⟨x, H1, I1, rx, k, a, d, fs, v, hk, ex, A, l, q⟩ := hh
  subst ex
  obtain rfl : u = Value.ref a := rx
  obtain ⟨T1, no⟩ := T k hk
  obtain ⟨oe, od, J, hJ⟩ := A.inst I1
  rcases hJ with ⟨hd, _⟩ | ⟨dx, od', mA, hd, rfl, hl, hr⟩
  · cases hd
  · obtain ⟨u, hu, ru⟩ := RelO.some_of (v := v) (o := mA n) (by rw [← l]; exact hr n)
    exact HandSPX.exc_get I1.kIn J T1.ga T1.gg T1.exC (PySem.W.findObj_own T1.hdC no rfl (by rw [hl, hu])) (handed_of ru) ⟨v, H1, I1.tok _, ru, q⟩
/-- e.n of an error held -/
def xeGo (n : Str) (cs : List Str) (d : D) (c : Cells) : Out D := match d with
  | .err k ns ds => if cs.contains k = true then (match lookF n ns ds with
    | some v => .ok v c
    | none => .bad) else .bad
  | _ => .bad
def mXe (n : Str) (cs : List Str) (m : ME) : ME := fun δ c => (m δ c).bind (xeGo n cs)
theorem de_xe {m : ME} (T : XfOk X.K n cs) (he : DE X W e m) (hb : attributeBase e n X.env (eval e X.env) = eval e X.env := by rfl) : DE X W (.Attribute e n pos) (mXe n cs m) := by
  obtain ⟨t, pe, se⟩ := he.ex
  refine ⟨_, pe_xe T pe hb, fun Z R F δ c σ H Q w rs h => se Z R F δ c σ H _ w rs ((Aft.bind h).imp ?_)⟩
  rintro R1 F1 d c1 H1 p1 e1 w1 ⟨_, _, _, h1⟩ v rv
  unfold xeGo at h1
  split at h1
  · rename_i k ns ds
    split at h1
    · rename_i hc
      split at h1
      · rename_i y hl
        cases rv with
        | @err a dd _ _ vs _ hF hG z l =>
          obtain ⟨u, hu, ru⟩ := lookF_rel l hl
          exact ⟨k, a, dd, _, u, by simpa using hc, rfl, ⟨w1.same _ _ hF, fun dx e => by cases e; exact w1.same _ _ hG⟩, hu, h1.ok w1 u ru⟩
        | err0 => unfold lookF at hl; cases hl
      · exact h1.elim
    · exact h1.elim
  · exact h1.elim
/-! ### its classes -/
def rIsXe (K : PySem.W.Frag) : List V → Hp → VK → Prop := fun xs H Q => ∃ (a D : Addr) (d : Option Addr) (fs : List (Str × V)) (c : V) (cv : Value) (b : Bool), xs = [.ref a, c] ∧ XisC K D ∧ XeAt H a D d fs ∧ ClsV c cv ∧ PySem.W.kitOne K (.ref D) cv = some b ∧ Q (.bl b) H
theorem call_isXe : CallR X (.builtin "isinstance") (rIsXe X.K) := by
  intro pins s σ H xs us Q I r h
  obtain ⟨a, D, d, fs, c, cv, b, rfl, T, A, hcv, e, q⟩ := h
  obtain ⟨u1, u2, rfl, r1, r2⟩ := vals2 r
  cases (show u1 = Value.ref a from r1)
  have e2 := hcv.eq r2
  subst e2
  obtain ⟨oe, od, J, _⟩ := A.inst I
  exact PySem.W.kia_one (PySem.W.kitx_exc T.cl T.C.hg T.C.hk T.C.hs T.C.ha T.C.hn T.C.ht T.C.hm) I.kIn J e (fun z => nomatch z) fun tk => ⟨.bl b, H, I.kept (t' := tk) fun _ _ z => z, rfl, q⟩
def isXeGo (t : List (Str × Bool)) (d : D) (c : Cells) : Out D := match d with
  | .err k _ _ => (match t.lookup k with
    | some b => .ok (.bl b) c
    | none => .bad)
  | _ => .bad
def mIsXe (t : List (Str × Bool)) (m : ME) : ME := fun δ c => (m δ c).bind (isXeGo t)
theorem de_isXe {C : Cl} {t : List (Str × Bool)} {m : ME} {ce : Expr} {p : Pos} (T : XisOk X.K C t) (hm : X.mg "isinstance" = none) (he : DE X W e m) (hc : DC X ce C) (hg : Gl X "isinstance" := by rfl)
    (hs : starEach [e, ce] X.env = [(false, eval e X.env), (false, eval ce X.env)] := by rfl) (hs2 : starEach [ce] X.env = [(false, eval ce X.env)] := by rfl) (hpl : (backTo pos (starEach [ce] X.env)).any (·.1) = false := by rfl) :
    DE X W (.Call (.Name "isinstance" p) [e, ce] [] pos) (mIsXe t m) := by
  obtain ⟨te, pe, se⟩ := he.ex
  obtain ⟨v, pc, kc⟩ := hc.ex
  refine ⟨_, pe_callB call_isXe hg hm PyProof.Rows.boot_isinstance (pa_cons pe (pa_cons pc pa_nil hs2) (by rw [hs, hs2])) (by decide) (by decide) (by rw [hs, hs2]) hpl, fun Z R F δ c σ H Q w rs h => se Z R F δ c σ H _ w rs ((Aft.bind h).imp ?_)⟩
  rintro R1 F1 d c1 H1 p1 e1 w1 ⟨_, _, _, h1⟩ u ru
  unfold isXeGo at h1
  split at h1
  · rename_i k ns ds
    split at h1
    · rename_i b hb
      obtain ⟨T1, T2⟩ := T k b hb
      have q := h1.ok w1 _ (.bl b)
      cases ru with
      | @err a dd _ _ vs _ hF hG z l => exact ⟨a, _, some dd, _, v, _, b, rfl, T1, ⟨w1.same _ _ hF, fun dx e => by cases e; exact w1.same _ _ hG⟩, kc, T2, q⟩
      | err0 hF => exact ⟨_, _, none, [], v, _, b, rfl, T1, ⟨w1.same _ _ hF, fun dx e => by cases e⟩, kc, T2, q⟩
    · exact h1.elim
  · exact h1.elim
end
/-! ### what it tells -/
section
variable {prog : Program} {w : World} {A : Around} {E : Value → Shared → Prop} {s : Shared} {K : Frag} {x C : Addr} {ox : Obj} {od : Option Obj} {name : Str} {pl : Sem Bool} {Q : Value × List Value → Shared → Prop}
theorem canon_bexc_ga : Manifest.canonical "BaseException.__getattribute__" = "object.__getattribute__" := by kernel_rfl
theorem methodX_fn {f : Addr} (X : K.In s.heap) (I : PySem.W.InstAt s.heap x ox C od) (hga : PySem.W.findIn K (.ref C) "__getattribute__" = some (some (.builtin "BaseException.__getattribute__"))) (hk : PySem.W.findIn K (.ref C) "__getattr__" = some none)
    (hf : PySem.W.findIn K (.ref C) name = some (some (.ref f))) (ht : PySem.W.typeIn K (.ref f) = some (.type "function")) (hs : PySem.W.shadowIn od name = some false) (h : Q (.ref f, [.ref x]) s) :
    wpAny (model prog w) A (getMethod (.ref x) name pl) Q E s := by
  unfold getMethod specialOf
  refine wpAny_bind (wpAny_bind (I.type.here ((PySem.W.looks_findIn X hga).here ?_)))
  dsimp only
  rw [canon_bexc_ga, if_neg (by decide)]
  refine wpAny_bind (wpAny_bind (I.type.here ((PySem.W.looks_findIn X hk).here ?_)))
  refine wpAny_bind (wpAny_bind (I.type.here ((PySem.W.looks_findIn X hf).here (wpAny_bind ((PySem.W.looks_typeIn X ht).here ?_)))))
  rw [if_neg (by decide +kernel)]
  refine wpAny_bind (wpAny_loadPart I.at_ ?_)
  have hd := I.dict
  cases e : ox.dict with
  | none => exact wpAny_bind (wpAny_rule (wpAny_pure h))
  | some dx =>
    cases od with
    | none => rw [e] at hd; exact hd.elim
    | some o =>
      rw [e] at hd
      obtain ⟨r, a, b⟩ := Option.map_eq_some_iff.mp hs
      refine wpAny_bind (wpAny_bind (wpAny_loadPart hd ?_))
      rw [PySem.W.nsLook_of a]
      refine wpAny_pure ?_
      rw [b]
      exact wpAny_bind (wpAny_rule (wpAny_pure h))
end
/-- the class of errors cn has the method mn, which does what m says -/
structure XMethOk (X : Cx) (k : Nat) (mn cn : Str) (m : MF) : Prop where
  cl : XfC X.K (He.ga X.K cn)
  ex : ∃ f fd ps, Meth X.K (He.ga X.K cn) mn f ∧ FnOk X.prog X.w X.K X.mg X.base (L2.CX X.prog X.w) k f fd ps (spOf X.K m) ∧ Binds X.K fd ps []
inductive XDisp (X : Cx) (k : Nat) (mn : Str) : List (Str × MF) → Prop where
  | nil : XDisp X k mn []
  | cons {cn : Str} {m : MF} {r : List (Str × MF)} (h : XMethOk X k mn cn m) (t : XDisp X k mn r) : XDisp X k mn ((cn, m) :: r)
theorem XDisp.look {X : Cx} {k : Nat} {mn : Str} : ∀ {ds : List (Str × MF)} {cn : Str} {m : MF}, XDisp X k mn ds → ds.lookup cn = some m → XMethOk X k mn cn m
  | _, cn, m, .nil, e => by cases e
  | _, cn, m, .cons (cn := c0) h t, e => by
    rw [List.lookup_cons] at e
    cases q : cn == c0 with
    | true =>
      rw [q] at e
      cases e
      rw [eq_of_beq q]
      exact h
    | false =>
      rw [q] at e
      exact t.look e
section
variable {X : Cx} {W : WX} {k : Nat} {mn : Str} {o : Expr} {apos pos : Pos} {mo : ME}
theorem pe_methX0 {pl : Sem Bool} {CX : CXT} {ta : TE} {ι : Type} {Cf : ι → Addr} {spf : ι → Sp} {E : St → XK} (he : PE X o ta)
    (hi : ∀ i, XfC X.K (Cf i) ∧ ∃ f fd ps, Meth X.K (Cf i) mn f ∧ FnOk X.prog X.w X.K X.mg X.base CX k f fd ps (spf i) ∧ Binds X.K fd ps []) (hr : Room k X.A) (hx : ∀ σ, PassesAt CX X σ (E σ))
    (ht : eval (.Call (.Attribute o mn apos) [] [] pos) X.env = (do
      let ov ← eval o X.env
      standAt apos.atName
      let (f, first) ← holding [ov] (getMethod ov mn pl)
      callWith pos f first (backTo pos (starEach [] X.env)) (backToKw pos (keywordEach [] X.env)))) :
    PE X (.Call (.Attribute o mn apos) [] [] pos) (fun σ H Q => ta σ H fun v H1 => ∃ i a d fs, v = .ref a ∧ XeAt H1 a (Cf i) d fs ∧ fs.lookup mn = none ∧ spf i [v] H1 Q (E σ)) := by
  refine ⟨fun pins s σ H Q I z => PySem.W.methodCall_KW (pl := pl) (thn (he.run pins s σ H _ I z) ?_) ht⟩
  rintro u s1 ⟨v, H1, I1, rv, i, a, d, fs, rfl, A, l, q⟩
  obtain ⟨c, f, fd, ps, hm, G, hb⟩ := hi i
  obtain rfl : u = Value.ref a := rv
  obtain ⟨oe, od, J, hJ⟩ := A.inst I1
  refine methodX_fn I1.kIn J c.ga c.gg hm.at_ (beq_iff_eq.mp hm.fn) ?_ ?_
  · rcases hJ with ⟨_, rfl⟩ | ⟨dx, od', mA, _, rfl, hl, hr⟩
    · rfl
    · have hn : mA mn = none := RelO.none_of (by rw [← l]; exact hr mn)
      show (PySem.W.lookIn mn od').map (·.isSome) = some false
      rw [hl, hn]
      rfl
  · exact PySem.W.callWith_K0 (first := [.ref a]) I1.kIn hm.kp (run_fnS (E := E) (us := [.ref a]) (vs := [.ref a]) G hr hb (hx σ) I1 (.cons rfl .nil) q)
def methXOf (mn : Str) (ds : List (Str × MF)) (d : D) : Option MF := match d with
  | .err k ns _ => if ns.contains mn = true then none else ds.lookup k
  | _ => none
def mMethX0 (mn : Str) (ds : List (Str × MF)) (mo : ME) : ME := fun δ c => (mo δ c).bind fun d c1 => match methXOf mn ds d with
  | some m => m [d] c1
  | none => .bad
theorem de_methX0 {pl : Sem Bool} {ds : List (Str × MF)} (ho : DE X W o mo) (hd : XDisp X k mn ds) (hr : Room k X.A) (tk : Takes X W)
    (ht : eval (.Call (.Attribute o mn apos) [] [] pos) X.env = (do
      let ov ← eval o X.env
      standAt apos.atName
      let (f, first) ← holding [ov] (getMethod ov mn pl)
      callWith pos f first (backTo pos (starEach [] X.env)) (backToKw pos (keywordEach [] X.env))) := by rfl) :
    DE X W (.Call (.Attribute o mn apos) [] [] pos) (mMethX0 mn ds mo) := by
  obtain ⟨ta, pa, sa⟩ := ho.ex
  let ι := { q : Str × MF // ds.lookup q.1 = some q.2 }
  refine ⟨_, pe_methX0 (ι := ι) (Cf := fun i => He.ga X.K i.1.1) (spf := fun i => spOf X.K i.1.2) (E := WE W) pa (fun i => let g := hd.look i.2; ⟨g.cl, g.ex⟩) hr (passAt tk) ht, fun Z R F δ c σ H Q w rs h => sa Z R F δ c σ H _ w rs ((Aft.bind h).imp ?_)⟩
  rintro R1 F1 d c1 H1 p1 e1 w1 ⟨_, _, _, h1⟩ v rv
  split at h1
  · rename_i mf hq
    unfold methXOf at hq
    split at hq
    · rename_i k' ns fs
      split at hq
      · cases hq
      · rename_i hn
        have sp := fun {v : V} (rv : Rel X.K R1 F1 v (.err k' ns fs)) => sp_of (σ := σ) (W := W) (Q := Q) (m := mf) w1 (.cons rv .nil) h1
        cases rv with
        | @err a dd _ _ vs _ hF hG z l => exact ⟨⟨(k', mf), hq⟩, a, some dd, _, rfl, ⟨w1.same _ _ hF, fun dx e => by cases e; exact w1.same _ _ hG⟩, zip_lookup_none (by simpa using hn), sp (.err hF hG z l)⟩
        | @err0 a _ hF => exact ⟨⟨(k', mf), hq⟩, a, none, [], rfl, ⟨w1.same _ _ hF, fun dx e => by cases e⟩, rfl, sp (.err0 hF)⟩
    · cases hq
  · exact h1.elim
end
/-! ### as the head has them -/
section
variable (P : Program) (w : World) (K : Frag) (mg : Str → Option Value) (base : Heap)
/-- the method mn of the class of errors cn -/
structure XMtOk (k : Nat) (mn cn : Str) (m : MF) : Prop where
  cl : XfC K (He.ga K cn)
  ex : ∃ fd ps, Meth K (He.ga K cn) mn (He.ma K (He.ga K cn) mn) ∧ FnOk P w K mg base (L2.CX P w) k (He.ma K (He.ga K cn) mn) fd ps (spOf K m) ∧ Binds K fd ps []
end
section
variable {X : Cx} {W : WX} {k : Nat} {x cn mn : Str} {m : MF} {e : Expr} {es : List Expr} {ma : MA} {p pos : Pos} {ns : List Str}
theorem XMtOk.mono {P : Program} {w : World} {K : Frag} {mg : Str → Option Value} {base : Heap} {j : Nat} (G : XMtOk P w K mg base k mn cn m) (h : k ≤ j) : XMtOk P w K mg base j mn cn m := by
  obtain ⟨fd, ps, h1, h2, h3⟩ := G.ex
  exact ⟨G.cl, fd, ps, h1, h2.mono h, h3⟩
theorem xdisp_cons {r : List (Str × MF)} (G : XMtOk X.prog X.w X.K X.mg X.base k mn cn m) (t : XDisp X k mn r) : XDisp X k mn ((cn, m) :: r) := by
  obtain ⟨fd, ps, h1, h2, h3⟩ := G.ex
  exact .cons ⟨G.cl, _, fd, ps, h1, h2, h3⟩ t
theorem dd_mkE (T : ExOk X.prog X.w X.K X.mg X.base k x ns) (hr : Room (k + 1) X.A) (ha : DA X W (e :: es) ma) (hg : Gl X x := by rfl) (hdb : (x == ("__debug__" : Str)) = false := by decide)
    (he : starEach (e :: es) X.env = (false, eval e X.env) :: starEach es X.env := by rfl) (hpl : (backTo pos (starEach es X.env)).any (·.1) = false := by rfl) :
    DE X W (.Call (.Name x p) (e :: es) [] pos) (mMkE x ns ma) := by
  obtain ⟨fd, ps, h1, h2, h3, h4⟩ := T.ex
  exact de_mkE ⟨T.g, T.T, _, fd, ps, h1, h2, h3, h4⟩ hr ha hg hdb he hpl
end
theorem ck_xc {K : Frag} {k : Str} (h : (Ck.xf k []).ok K = true) : XfC K (He.ga K k) := xfB_ok (He.ba h).1
end Nw

set_option Elab.async false
set_option linter.all false
set_option maxRecDepth 100000
set_option maxHeartbeats 4000000
namespace Nw
namespace Law
open PySem PySem.Spec
open PyProof.Rows hiding St
open L2
def topS (i : Nat) : Stmt := PySem.Challenge.pw_namewalk_k01_errors.main.body.getD i (.Pass ⟨0, 0, 0, 0⟩)
def tys : List Ty := [Ty.b "NoneType", Ty.b "bool", Ty.b "int", Ty.b "str", Ty.b "tuple", Ty.b "list", Ty.b "dict"]
def eqcs : List Str := []
abbrev st__law_classes : Stmt := topS 20
abbrev st__law_fields : Stmt := topS 19
abbrev st_WalkError_told : Stmt := inClass (topS 1) 0
abbrev st_NoTree_told : Stmt := inClass (topS 2) 1
abbrev st_NoNode_told : Stmt := inClass (topS 3) 1
abbrev st_BadText_told : Stmt := inClass (topS 4) 1
abbrev st_NoPath_told : Stmt := inClass (topS 5) 0
abbrev st_NoOwner_told : Stmt := inClass (topS 6) 1
abbrev st_NoDeed_told : Stmt := inClass (topS 7) 1
abbrev st_NoRow_told : Stmt := inClass (topS 8) 1
abbrev st_NoWeaving_told : Stmt := inClass (topS 9) 0
abbrev st_Large_told : Stmt := inClass (topS 10) 1
abbrev st_Busy_told : Stmt := inClass (topS 11) 0
abbrev st_Idle_told : Stmt := inClass (topS 12) 0
abbrev st_Forbidden_told : Stmt := inClass (topS 13) 0
abbrev st_NoBack_told : Stmt := inClass (topS 14) 0
abbrev st_Large___init__ : Stmt := inClass (topS 10) 0
abbrev st_NoRow___init__ : Stmt := inClass (topS 8) 0
abbrev st_NoDeed___init__ : Stmt := inClass (topS 7) 0
abbrev st_NoOwner___init__ : Stmt := inClass (topS 6) 0
abbrev st_BadText___init__ : Stmt := inClass (topS 4) 0
abbrev st_NoNode___init__ : Stmt := inClass (topS 3) 0
abbrev st_NoTree___init__ : Stmt := inClass (topS 2) 0
abbrev st__law_digit : Stmt := topS 18
abbrev st__law_state : Stmt := topS 17
abbrev st_law : Stmt := topS 21
def d__law_classes : He.DefD := ⟨(("_law_classes" : Str), none), ("_law_classes" : Str), ("_law_classes" : Str), defArgs st__law_classes, defBody st__law_classes, defScope st__law_classes, [], []⟩
def d__law_fields : He.DefD := ⟨(("_law_fields" : Str), none), ("_law_fields" : Str), ("_law_fields" : Str), defArgs st__law_fields, defBody st__law_fields, defScope st__law_fields, [], []⟩
def d_WalkError_told : He.DefD := ⟨(("WalkError" : Str), some ("told" : Str)), ("told" : Str), ("WalkError.told" : Str), defArgs st_WalkError_told, defBody st_WalkError_told, defScope st_WalkError_told, [], []⟩
def d_NoTree_told : He.DefD := ⟨(("NoTree" : Str), some ("told" : Str)), ("told" : Str), ("NoTree.told" : Str), defArgs st_NoTree_told, defBody st_NoTree_told, defScope st_NoTree_told, [], []⟩
def d_NoNode_told : He.DefD := ⟨(("NoNode" : Str), some ("told" : Str)), ("told" : Str), ("NoNode.told" : Str), defArgs st_NoNode_told, defBody st_NoNode_told, defScope st_NoNode_told, [], []⟩
def d_BadText_told : He.DefD := ⟨(("BadText" : Str), some ("told" : Str)), ("told" : Str), ("BadText.told" : Str), defArgs st_BadText_told, defBody st_BadText_told, defScope st_BadText_told, [], []⟩
def d_NoPath_told : He.DefD := ⟨(("NoPath" : Str), some ("told" : Str)), ("told" : Str), ("NoPath.told" : Str), defArgs st_NoPath_told, defBody st_NoPath_told, defScope st_NoPath_told, [], []⟩
def d_NoOwner_told : He.DefD := ⟨(("NoOwner" : Str), some ("told" : Str)), ("told" : Str), ("NoOwner.told" : Str), defArgs st_NoOwner_told, defBody st_NoOwner_told, defScope st_NoOwner_told, [], []⟩
def d_NoDeed_told : He.DefD := ⟨(("NoDeed" : Str), some ("told" : Str)), ("told" : Str), ("NoDeed.told" : Str), defArgs st_NoDeed_told, defBody st_NoDeed_told, defScope st_NoDeed_told, [], []⟩
def d_NoRow_told : He.DefD := ⟨(("NoRow" : Str), some ("told" : Str)), ("told" : Str), ("NoRow.told" : Str), defArgs st_NoRow_told, defBody st_NoRow_told, defScope st_NoRow_told, [], []⟩
def d_NoWeaving_told : He.DefD := ⟨(("NoWeaving" : Str), some ("told" : Str)), ("told" : Str), ("NoWeaving.told" : Str), defArgs st_NoWeaving_told, defBody st_NoWeaving_told, defScope st_NoWeaving_told, [], []⟩
def d_Large_told : He.DefD := ⟨(("Large" : Str), some ("told" : Str)), ("told" : Str), ("Large.told" : Str), defArgs st_Large_told, defBody st_Large_told, defScope st_Large_told, [], []⟩
def d_Busy_told : He.DefD := ⟨(("Busy" : Str), some ("told" : Str)), ("told" : Str), ("Busy.told" : Str), defArgs st_Busy_told, defBody st_Busy_told, defScope st_Busy_told, [], []⟩
def d_Idle_told : He.DefD := ⟨(("Idle" : Str), some ("told" : Str)), ("told" : Str), ("Idle.told" : Str), defArgs st_Idle_told, defBody st_Idle_told, defScope st_Idle_told, [], []⟩
def d_Forbidden_told : He.DefD := ⟨(("Forbidden" : Str), some ("told" : Str)), ("told" : Str), ("Forbidden.told" : Str), defArgs st_Forbidden_told, defBody st_Forbidden_told, defScope st_Forbidden_told, [], []⟩
def d_NoBack_told : He.DefD := ⟨(("NoBack" : Str), some ("told" : Str)), ("told" : Str), ("NoBack.told" : Str), defArgs st_NoBack_told, defBody st_NoBack_told, defScope st_NoBack_told, [], []⟩
def d_Large___init__ : He.DefD := ⟨(("Large" : Str), some ("__init__" : Str)), ("__init__" : Str), ("Large.__init__" : Str), defArgs st_Large___init__, defBody st_Large___init__, defScope st_Large___init__, [], []⟩
def d_NoRow___init__ : He.DefD := ⟨(("NoRow" : Str), some ("__init__" : Str)), ("__init__" : Str), ("NoRow.__init__" : Str), defArgs st_NoRow___init__, defBody st_NoRow___init__, defScope st_NoRow___init__, [], []⟩
def d_NoDeed___init__ : He.DefD := ⟨(("NoDeed" : Str), some ("__init__" : Str)), ("__init__" : Str), ("NoDeed.__init__" : Str), defArgs st_NoDeed___init__, defBody st_NoDeed___init__, defScope st_NoDeed___init__, [], []⟩
def d_NoOwner___init__ : He.DefD := ⟨(("NoOwner" : Str), some ("__init__" : Str)), ("__init__" : Str), ("NoOwner.__init__" : Str), defArgs st_NoOwner___init__, defBody st_NoOwner___init__, defScope st_NoOwner___init__, [], []⟩
def d_BadText___init__ : He.DefD := ⟨(("BadText" : Str), some ("__init__" : Str)), ("__init__" : Str), ("BadText.__init__" : Str), defArgs st_BadText___init__, defBody st_BadText___init__, defScope st_BadText___init__, [], []⟩
def d_NoNode___init__ : He.DefD := ⟨(("NoNode" : Str), some ("__init__" : Str)), ("__init__" : Str), ("NoNode.__init__" : Str), defArgs st_NoNode___init__, defBody st_NoNode___init__, defScope st_NoNode___init__, [], []⟩
def d_NoTree___init__ : He.DefD := ⟨(("NoTree" : Str), some ("__init__" : Str)), ("__init__" : Str), ("NoTree.__init__" : Str), defArgs st_NoTree___init__, defBody st_NoTree___init__, defScope st_NoTree___init__, [], []⟩
def d__law_digit : He.DefD := ⟨(("_law_digit" : Str), none), ("_law_digit" : Str), ("_law_digit" : Str), defArgs st__law_digit, defBody st__law_digit, defScope st__law_digit, [], []⟩
def d__law_state : He.DefD := ⟨(("_law_state" : Str), none), ("_law_state" : Str), ("_law_state" : Str), defArgs st__law_state, defBody st__law_state, defScope st__law_state, [], []⟩
def d_law : He.DefD := ⟨(("law" : Str), none), ("law" : Str), ("law" : Str), defArgs st_law, defBody st_law, defScope st_law, [], []⟩
def fa_0 : List He.Fa := [.free ("enumerate" : Str),
  .free ("isinstance" : Str),
  .glo ("NoBack" : Str),
  .glo ("Forbidden" : Str),
  .glo ("Idle" : Str),
  .glo ("Busy" : Str),
  .glo ("Large" : Str),
  .glo ("NoWeaving" : Str),
  .glo ("NoRow" : Str),
  .glo ("NoDeed" : Str),
  .glo ("NoOwner" : Str),
  .glo ("NoPath" : Str),
  .glo ("BadText" : Str),
  .glo ("NoNode" : Str),
  .glo ("NoTree" : Str),
  .glo ("_law_classes" : Str),
  .free ("len" : Str),
  .free ("range" : Str),
  .free ("ValueError" : Str),
  .glo ("WalkError" : Str),
  .glo ("_law_fields" : Str),
  .meth ("WalkError" : Str) ("told" : Str),
  .meth ("NoTree" : Str) ("told" : Str),
  .meth ("NoNode" : Str) ("told" : Str),
  .meth ("BadText" : Str) ("told" : Str),
  .meth ("NoPath" : Str) ("told" : Str),
  .meth ("NoOwner" : Str) ("told" : Str),
  .meth ("NoDeed" : Str) ("told" : Str),
  .meth ("NoRow" : Str) ("told" : Str),
  .meth ("NoWeaving" : Str) ("told" : Str),
  .meth ("Large" : Str) ("told" : Str),
  .meth ("Busy" : Str) ("told" : Str),
  .meth ("Idle" : Str) ("told" : Str),
  .meth ("Forbidden" : Str) ("told" : Str),
  .meth ("NoBack" : Str) ("told" : Str),
  .exc ("NoBack" : Str),
  .exc ("Forbidden" : Str),
  .exc ("Idle" : Str),
  .exc ("Busy" : Str),
  .exc ("NoWeaving" : Str),
  .exc ("NoPath" : Str),
  .free ("int" : Str),
  .glo ("_law_digit" : Str),
  .free ("abs" : Str),
  .glo ("_law_state" : Str),
  .glo ("law" : Str)]
def ck_0 : List Ck := [.any (xisT (Cl.gl ("NoBack" : Str)) [(("WalkError" : Str), false), (("NoTree" : Str), false), (("NoNode" : Str), false), (("BadText" : Str), false), (("NoPath" : Str), false), (("NoOwner" : Str), false), (("NoDeed" : Str), false), (("NoRow" : Str), false), (("NoWeaving" : Str), false), (("Large" : Str), false), (("Busy" : Str), false), (("Idle" : Str), false), (("Forbidden" : Str), false), (("NoBack" : Str), true)]),
  .any (xisT (Cl.gl ("Forbidden" : Str)) [(("WalkError" : Str), false), (("NoTree" : Str), false), (("NoNode" : Str), false), (("BadText" : Str), false), (("NoPath" : Str), false), (("NoOwner" : Str), false), (("NoDeed" : Str), false), (("NoRow" : Str), false), (("NoWeaving" : Str), false), (("Large" : Str), false), (("Busy" : Str), false), (("Idle" : Str), false), (("Forbidden" : Str), true), (("NoBack" : Str), false)]),
  .any (xisT (Cl.gl ("Idle" : Str)) [(("WalkError" : Str), false), (("NoTree" : Str), false), (("NoNode" : Str), false), (("BadText" : Str), false), (("NoPath" : Str), false), (("NoOwner" : Str), false), (("NoDeed" : Str), false), (("NoRow" : Str), false), (("NoWeaving" : Str), false), (("Large" : Str), false), (("Busy" : Str), false), (("Idle" : Str), true), (("Forbidden" : Str), false), (("NoBack" : Str), false)]),
  .any (xisT (Cl.gl ("Busy" : Str)) [(("WalkError" : Str), false), (("NoTree" : Str), false), (("NoNode" : Str), false), (("BadText" : Str), false), (("NoPath" : Str), false), (("NoOwner" : Str), false), (("NoDeed" : Str), false), (("NoRow" : Str), false), (("NoWeaving" : Str), false), (("Large" : Str), false), (("Busy" : Str), true), (("Idle" : Str), false), (("Forbidden" : Str), false), (("NoBack" : Str), false)]),
  .any (xisT (Cl.gl ("Large" : Str)) [(("WalkError" : Str), false), (("NoTree" : Str), false), (("NoNode" : Str), false), (("BadText" : Str), false), (("NoPath" : Str), false), (("NoOwner" : Str), false), (("NoDeed" : Str), false), (("NoRow" : Str), false), (("NoWeaving" : Str), false), (("Large" : Str), true), (("Busy" : Str), false), (("Idle" : Str), false), (("Forbidden" : Str), false), (("NoBack" : Str), false)]),
  .any (xisT (Cl.gl ("NoWeaving" : Str)) [(("WalkError" : Str), false), (("NoTree" : Str), false), (("NoNode" : Str), false), (("BadText" : Str), false), (("NoPath" : Str), false), (("NoOwner" : Str), false), (("NoDeed" : Str), false), (("NoRow" : Str), false), (("NoWeaving" : Str), true), (("Large" : Str), false), (("Busy" : Str), false), (("Idle" : Str), false), (("Forbidden" : Str), false), (("NoBack" : Str), false)]),
  .any (xisT (Cl.gl ("NoRow" : Str)) [(("WalkError" : Str), false), (("NoTree" : Str), false), (("NoNode" : Str), false), (("BadText" : Str), false), (("NoPath" : Str), false), (("NoOwner" : Str), false), (("NoDeed" : Str), false), (("NoRow" : Str), true), (("NoWeaving" : Str), false), (("Large" : Str), false), (("Busy" : Str), false), (("Idle" : Str), false), (("Forbidden" : Str), false), (("NoBack" : Str), false)]),
  .any (xisT (Cl.gl ("NoDeed" : Str)) [(("WalkError" : Str), false), (("NoTree" : Str), false), (("NoNode" : Str), false), (("BadText" : Str), false), (("NoPath" : Str), false), (("NoOwner" : Str), false), (("NoDeed" : Str), true), (("NoRow" : Str), false), (("NoWeaving" : Str), false), (("Large" : Str), false), (("Busy" : Str), false), (("Idle" : Str), false), (("Forbidden" : Str), false), (("NoBack" : Str), false)]),
  .any (xisT (Cl.gl ("NoOwner" : Str)) [(("WalkError" : Str), false), (("NoTree" : Str), false), (("NoNode" : Str), false), (("BadText" : Str), false), (("NoPath" : Str), false), (("NoOwner" : Str), true), (("NoDeed" : Str), false), (("NoRow" : Str), false), (("NoWeaving" : Str), false), (("Large" : Str), false), (("Busy" : Str), false), (("Idle" : Str), false), (("Forbidden" : Str), false), (("NoBack" : Str), false)]),
  .any (xisT (Cl.gl ("NoPath" : Str)) [(("WalkError" : Str), false), (("NoTree" : Str), false), (("NoNode" : Str), false), (("BadText" : Str), false), (("NoPath" : Str), true), (("NoOwner" : Str), false), (("NoDeed" : Str), false), (("NoRow" : Str), false), (("NoWeaving" : Str), false), (("Large" : Str), false), (("Busy" : Str), false), (("Idle" : Str), false), (("Forbidden" : Str), false), (("NoBack" : Str), false)]),
  .any (xisT (Cl.gl ("BadText" : Str)) [(("WalkError" : Str), false), (("NoTree" : Str), false), (("NoNode" : Str), false), (("BadText" : Str), true), (("NoPath" : Str), false), (("NoOwner" : Str), false), (("NoDeed" : Str), false), (("NoRow" : Str), false), (("NoWeaving" : Str), false), (("Large" : Str), false), (("Busy" : Str), false), (("Idle" : Str), false), (("Forbidden" : Str), false), (("NoBack" : Str), false)]),
  .any (xisT (Cl.gl ("NoNode" : Str)) [(("WalkError" : Str), false), (("NoTree" : Str), false), (("NoNode" : Str), true), (("BadText" : Str), false), (("NoPath" : Str), false), (("NoOwner" : Str), false), (("NoDeed" : Str), false), (("NoRow" : Str), false), (("NoWeaving" : Str), false), (("Large" : Str), false), (("Busy" : Str), false), (("Idle" : Str), false), (("Forbidden" : Str), false), (("NoBack" : Str), false)]),
  .any (xisT (Cl.gl ("NoTree" : Str)) [(("WalkError" : Str), false), (("NoTree" : Str), true), (("NoNode" : Str), false), (("BadText" : Str), false), (("NoPath" : Str), false), (("NoOwner" : Str), false), (("NoDeed" : Str), false), (("NoRow" : Str), false), (("NoWeaving" : Str), false), (("Large" : Str), false), (("Busy" : Str), false), (("Idle" : Str), false), (("Forbidden" : Str), false), (("NoBack" : Str), false)]),
  .any (xisT (Cl.ty "ValueError") [(("WalkError" : Str), true), (("NoTree" : Str), true), (("NoNode" : Str), true), (("BadText" : Str), true), (("NoPath" : Str), true), (("NoOwner" : Str), true), (("NoDeed" : Str), true), (("NoRow" : Str), true), (("NoWeaving" : Str), true), (("Large" : Str), true), (("Busy" : Str), true), (("Idle" : Str), true), (("Forbidden" : Str), true), (("NoBack" : Str), true)])]
def ck_1 : List Ck := [.any (xisT (Cl.gl ("WalkError" : Str)) [(("WalkError" : Str), true), (("NoTree" : Str), true), (("NoNode" : Str), true), (("BadText" : Str), true), (("NoPath" : Str), true), (("NoOwner" : Str), true), (("NoDeed" : Str), true), (("NoRow" : Str), true), (("NoWeaving" : Str), true), (("Large" : Str), true), (("Busy" : Str), true), (("Idle" : Str), true), (("Forbidden" : Str), true), (("NoBack" : Str), true)]),
  .xf ("Large" : Str) [("count" : Str)],
  .xf ("NoRow" : Str) [("why" : Str)],
  .xf ("NoDeed" : Str) [("why" : Str)],
  .xf ("NoTree" : Str) [("why" : Str)],
  .xf ("NoRow" : Str) [("index" : Str)],
  .xf ("NoOwner" : Str) [("owner" : Str)],
  .xf ("BadText" : Str) [("place" : Str)],
  .xf ("NoNode" : Str) [("node" : Str)],
  .xf ("NoTree" : Str) [("node" : Str)],
  .xf ("WalkError" : Str) [],
  .xf ("NoTree" : Str) [],
  .xf ("NoNode" : Str) [],
  .xf ("BadText" : Str) []]
def ck_2 : List Ck := [.xf ("NoPath" : Str) [],
  .xf ("NoOwner" : Str) [],
  .xf ("NoDeed" : Str) [],
  .xf ("NoRow" : Str) [],
  .xf ("NoWeaving" : Str) [],
  .xf ("Large" : Str) [],
  .xf ("Busy" : Str) [],
  .xf ("Idle" : Str) [],
  .xf ("Forbidden" : Str) [],
  .xf ("NoBack" : Str) [],
  .oex ("Large" : Str) [("count" : Str)],
  .fnT ("Large" : Str) ("__init__" : Str),
  .oex ("NoRow" : Str) [("index" : Str), ("why" : Str)],
  .fnT ("NoRow" : Str) ("__init__" : Str)]
def ck_3 : List Ck := [.oex ("NoDeed" : Str) [("why" : Str)],
  .fnT ("NoDeed" : Str) ("__init__" : Str),
  .oex ("NoOwner" : Str) [("owner" : Str)],
  .fnT ("NoOwner" : Str) ("__init__" : Str),
  .oex ("BadText" : Str) [("place" : Str)],
  .fnT ("BadText" : Str) ("__init__" : Str),
  .oex ("NoNode" : Str) [("node" : Str)],
  .fnT ("NoNode" : Str) ("__init__" : Str),
  .oex ("NoTree" : Str) [("why" : Str), ("node" : Str)],
  .fnT ("NoTree" : Str) ("__init__" : Str)]
def fn_0 : List He.DefD := [d__law_classes, d__law_fields, d_WalkError_told, d_NoTree_told, d_NoNode_told, d_BadText_told, d_NoPath_told, d_NoOwner_told, d_NoDeed_told, d_NoRow_told, d_NoWeaving_told, d_Large_told, d_Busy_told, d_Idle_told, d_Forbidden_told, d_NoBack_told, d_Large___init__, d_NoRow___init__, d_NoDeed___init__, d_NoOwner___init__, d_BadText___init__, d_NoNode___init__, d_NoTree___init__, d__law_digit, d__law_state, d_law]
def fa : List He.Fa := List.flatten [fa_0]
def ck : List Ck := List.flatten [ck_0, ck_1, ck_2, ck_3]
def fn : List He.DefD := List.flatten [fn_0]
abbrev hk : PySem.W.Hook := hookS fa ck fn
def ob (s : PySem.W.SharedT) : He.AlD := obsSG fa ck fn (HandSHeadRun.getT s)
theorem ob_eq (s : PySem.W.SharedT) : ob s = hk.obs s.abs := obsSG_eq (HandSHeadRun.getT_eq s)
end Law
end Nw

set_option Elab.async false
set_option linter.all false
set_option maxRecDepth 100000
set_option maxHeartbeats 0
namespace Nw
namespace Law
open PySem PySem.Spec
open PyProof.Rows hiding St
open L2
theorem run1 (w : World) (os : OsState) : (ER w os).map (asqF fa) = some true := by
  kernel_rfl
theorem run2 (w : World) (os : OsState) : (ER w os).map (asqC ck) = some true := by
  kernel_rfl
theorem run3 (w : World) (os : OsState) : (ER w os).map (asqD fn) = some (He.valD fn) := by
  kernel_rfl
theorem run (w : World) : HandSHeadRun.RunEq R Qtop hk ob 9000 loose w := by
  intro os
  exact run_join4 (run0 w os) (run1 w os) (run2 w os) (run3 w os)
end Law
end Nw

set_option Elab.async false
set_option linter.all false
set_option maxRecDepth 100000
set_option maxHeartbeats 4000000
namespace Nw
namespace Law
open PySem PySem.Spec
open PyProof.Rows hiding St
open L2
structure Fx (K : Frag) (mg : Str → Option Value) : Prop where
  f_enumerate : mg ("enumerate" : Str) = none
  xis_NoBack : XisOk K (Cl.gl ("NoBack" : Str)) [(("WalkError" : Str), false), (("NoTree" : Str), false), (("NoNode" : Str), false), (("BadText" : Str), false), (("NoPath" : Str), false), (("NoOwner" : Str), false), (("NoDeed" : Str), false), (("NoRow" : Str), false), (("NoWeaving" : Str), false), (("Large" : Str), false), (("Busy" : Str), false), (("Idle" : Str), false), (("Forbidden" : Str), false), (("NoBack" : Str), true)]
  f_isinstance : mg ("isinstance" : Str) = none
  g_NoBack : mg ("NoBack" : Str) = some (.ref (He.ga K ("NoBack" : Str)))
  xis_Forbidden : XisOk K (Cl.gl ("Forbidden" : Str)) [(("WalkError" : Str), false), (("NoTree" : Str), false), (("NoNode" : Str), false), (("BadText" : Str), false), (("NoPath" : Str), false), (("NoOwner" : Str), false), (("NoDeed" : Str), false), (("NoRow" : Str), false), (("NoWeaving" : Str), false), (("Large" : Str), false), (("Busy" : Str), false), (("Idle" : Str), false), (("Forbidden" : Str), true), (("NoBack" : Str), false)]
  g_Forbidden : mg ("Forbidden" : Str) = some (.ref (He.ga K ("Forbidden" : Str)))
  xis_Idle : XisOk K (Cl.gl ("Idle" : Str)) [(("WalkError" : Str), false), (("NoTree" : Str), false), (("NoNode" : Str), false), (("BadText" : Str), false), (("NoPath" : Str), false), (("NoOwner" : Str), false), (("NoDeed" : Str), false), (("NoRow" : Str), false), (("NoWeaving" : Str), false), (("Large" : Str), false), (("Busy" : Str), false), (("Idle" : Str), true), (("Forbidden" : Str), false), (("NoBack" : Str), false)]
  g_Idle : mg ("Idle" : Str) = some (.ref (He.ga K ("Idle" : Str)))
  xis_Busy : XisOk K (Cl.gl ("Busy" : Str)) [(("WalkError" : Str), false), (("NoTree" : Str), false), (("NoNode" : Str), false), (("BadText" : Str), false), (("NoPath" : Str), false), (("NoOwner" : Str), false), (("NoDeed" : Str), false), (("NoRow" : Str), false), (("NoWeaving" : Str), false), (("Large" : Str), false), (("Busy" : Str), true), (("Idle" : Str), false), (("Forbidden" : Str), false), (("NoBack" : Str), false)]
  g_Busy : mg ("Busy" : Str) = some (.ref (He.ga K ("Busy" : Str)))
  xis_Large : XisOk K (Cl.gl ("Large" : Str)) [(("WalkError" : Str), false), (("NoTree" : Str), false), (("NoNode" : Str), false), (("BadText" : Str), false), (("NoPath" : Str), false), (("NoOwner" : Str), false), (("NoDeed" : Str), false), (("NoRow" : Str), false), (("NoWeaving" : Str), false), (("Large" : Str), true), (("Busy" : Str), false), (("Idle" : Str), false), (("Forbidden" : Str), false), (("NoBack" : Str), false)]
  g_Large : mg ("Large" : Str) = some (.ref (He.ga K ("Large" : Str)))
  xis_NoWeaving : XisOk K (Cl.gl ("NoWeaving" : Str)) [(("WalkError" : Str), false), (("NoTree" : Str), false), (("NoNode" : Str), false), (("BadText" : Str), false), (("NoPath" : Str), false), (("NoOwner" : Str), false), (("NoDeed" : Str), false), (("NoRow" : Str), false), (("NoWeaving" : Str), true), (("Large" : Str), false), (("Busy" : Str), false), (("Idle" : Str), false), (("Forbidden" : Str), false), (("NoBack" : Str), false)]
  g_NoWeaving : mg ("NoWeaving" : Str) = some (.ref (He.ga K ("NoWeaving" : Str)))
  xis_NoRow : XisOk K (Cl.gl ("NoRow" : Str)) [(("WalkError" : Str), false), (("NoTree" : Str), false), (("NoNode" : Str), false), (("BadText" : Str), false), (("NoPath" : Str), false), (("NoOwner" : Str), false), (("NoDeed" : Str), false), (("NoRow" : Str), true), (("NoWeaving" : Str), false), (("Large" : Str), false), (("Busy" : Str), false), (("Idle" : Str), false), (("Forbidden" : Str), false), (("NoBack" : Str), false)]
  g_NoRow : mg ("NoRow" : Str) = some (.ref (He.ga K ("NoRow" : Str)))
  xis_NoDeed : XisOk K (Cl.gl ("NoDeed" : Str)) [(("WalkError" : Str), false), (("NoTree" : Str), false), (("NoNode" : Str), false), (("BadText" : Str), false), (("NoPath" : Str), false), (("NoOwner" : Str), false), (("NoDeed" : Str), true), (("NoRow" : Str), false), (("NoWeaving" : Str), false), (("Large" : Str), false), (("Busy" : Str), false), (("Idle" : Str), false), (("Forbidden" : Str), false), (("NoBack" : Str), false)]
  g_NoDeed : mg ("NoDeed" : Str) = some (.ref (He.ga K ("NoDeed" : Str)))
  xis_NoOwner : XisOk K (Cl.gl ("NoOwner" : Str)) [(("WalkError" : Str), false), (("NoTree" : Str), false), (("NoNode" : Str), false), (("BadText" : Str), false), (("NoPath" : Str), false), (("NoOwner" : Str), true), (("NoDeed" : Str), false), (("NoRow" : Str), false), (("NoWeaving" : Str), false), (("Large" : Str), false), (("Busy" : Str), false), (("Idle" : Str), false), (("Forbidden" : Str), false), (("NoBack" : Str), false)]
  g_NoOwner : mg ("NoOwner" : Str) = some (.ref (He.ga K ("NoOwner" : Str)))
  xis_NoPath : XisOk K (Cl.gl ("NoPath" : Str)) [(("WalkError" : Str), false), (("NoTree" : Str), false), (("NoNode" : Str), false), (("BadText" : Str), false), (("NoPath" : Str), true), (("NoOwner" : Str), false), (("NoDeed" : Str), false), (("NoRow" : Str), false), (("NoWeaving" : Str), false), (("Large" : Str), false), (("Busy" : Str), false), (("Idle" : Str), false), (("Forbidden" : Str), false), (("NoBack" : Str), false)]
  g_NoPath : mg ("NoPath" : Str) = some (.ref (He.ga K ("NoPath" : Str)))
  xis_BadText : XisOk K (Cl.gl ("BadText" : Str)) [(("WalkError" : Str), false), (("NoTree" : Str), false), (("NoNode" : Str), false), (("BadText" : Str), true), (("NoPath" : Str), false), (("NoOwner" : Str), false), (("NoDeed" : Str), false), (("NoRow" : Str), false), (("NoWeaving" : Str), false), (("Large" : Str), false), (("Busy" : Str), false), (("Idle" : Str), false), (("Forbidden" : Str), false), (("NoBack" : Str), false)]
  g_BadText : mg ("BadText" : Str) = some (.ref (He.ga K ("BadText" : Str)))
  xis_NoNode : XisOk K (Cl.gl ("NoNode" : Str)) [(("WalkError" : Str), false), (("NoTree" : Str), false), (("NoNode" : Str), true), (("BadText" : Str), false), (("NoPath" : Str), false), (("NoOwner" : Str), false), (("NoDeed" : Str), false), (("NoRow" : Str), false), (("NoWeaving" : Str), false), (("Large" : Str), false), (("Busy" : Str), false), (("Idle" : Str), false), (("Forbidden" : Str), false), (("NoBack" : Str), false)]
  g_NoNode : mg ("NoNode" : Str) = some (.ref (He.ga K ("NoNode" : Str)))
  xis_NoTree : XisOk K (Cl.gl ("NoTree" : Str)) [(("WalkError" : Str), false), (("NoTree" : Str), true), (("NoNode" : Str), false), (("BadText" : Str), false), (("NoPath" : Str), false), (("NoOwner" : Str), false), (("NoDeed" : Str), false), (("NoRow" : Str), false), (("NoWeaving" : Str), false), (("Large" : Str), false), (("Busy" : Str), false), (("Idle" : Str), false), (("Forbidden" : Str), false), (("NoBack" : Str), false)]
  g_NoTree : mg ("NoTree" : Str) = some (.ref (He.ga K ("NoTree" : Str)))
  g__law_classes : mg ("_law_classes" : Str) = some (.ref (He.ga K ("_law_classes" : Str)))
  f_len : mg ("len" : Str) = none
  f_range : mg ("range" : Str) = none
  xis_ValueError : XisOk K (Cl.ty "ValueError") [(("WalkError" : Str), true), (("NoTree" : Str), true), (("NoNode" : Str), true), (("BadText" : Str), true), (("NoPath" : Str), true), (("NoOwner" : Str), true), (("NoDeed" : Str), true), (("NoRow" : Str), true), (("NoWeaving" : Str), true), (("Large" : Str), true), (("Busy" : Str), true), (("Idle" : Str), true), (("Forbidden" : Str), true), (("NoBack" : Str), true)]
  f_ValueError : mg ("ValueError" : Str) = none
  xis_WalkError : XisOk K (Cl.gl ("WalkError" : Str)) [(("WalkError" : Str), true), (("NoTree" : Str), true), (("NoNode" : Str), true), (("BadText" : Str), true), (("NoPath" : Str), true), (("NoOwner" : Str), true), (("NoDeed" : Str), true), (("NoRow" : Str), true), (("NoWeaving" : Str), true), (("Large" : Str), true), (("Busy" : Str), true), (("Idle" : Str), true), (("Forbidden" : Str), true), (("NoBack" : Str), true)]
  g_WalkError : mg ("WalkError" : Str) = some (.ref (He.ga K ("WalkError" : Str)))
  xf_count : XfOk K ("count" : Str) [("Large" : Str)]
  xf_why : XfOk K ("why" : Str) [("NoTree" : Str), ("NoDeed" : Str), ("NoRow" : Str)]
  xf_index : XfOk K ("index" : Str) [("NoRow" : Str)]
  xf_owner : XfOk K ("owner" : Str) [("NoOwner" : Str)]
  xf_place : XfOk K ("place" : Str) [("BadText" : Str)]
  xf_node : XfOk K ("node" : Str) [("NoTree" : Str), ("NoNode" : Str)]
  g__law_fields : mg ("_law_fields" : Str) = some (.ref (He.ga K ("_law_fields" : Str)))
  mt_WalkError_told : Meth K (He.ga K ("WalkError" : Str)) ("told" : Str) (He.ma K (He.ga K ("WalkError" : Str)) ("told" : Str))
  xc_WalkError : XfC K (He.ga K ("WalkError" : Str))
  mt_NoTree_told : Meth K (He.ga K ("NoTree" : Str)) ("told" : Str) (He.ma K (He.ga K ("NoTree" : Str)) ("told" : Str))
  xc_NoTree : XfC K (He.ga K ("NoTree" : Str))
  mt_NoNode_told : Meth K (He.ga K ("NoNode" : Str)) ("told" : Str) (He.ma K (He.ga K ("NoNode" : Str)) ("told" : Str))
  xc_NoNode : XfC K (He.ga K ("NoNode" : Str))
  mt_BadText_told : Meth K (He.ga K ("BadText" : Str)) ("told" : Str) (He.ma K (He.ga K ("BadText" : Str)) ("told" : Str))
  xc_BadText : XfC K (He.ga K ("BadText" : Str))
  mt_NoPath_told : Meth K (He.ga K ("NoPath" : Str)) ("told" : Str) (He.ma K (He.ga K ("NoPath" : Str)) ("told" : Str))
  xc_NoPath : XfC K (He.ga K ("NoPath" : Str))
  mt_NoOwner_told : Meth K (He.ga K ("NoOwner" : Str)) ("told" : Str) (He.ma K (He.ga K ("NoOwner" : Str)) ("told" : Str))
  xc_NoOwner : XfC K (He.ga K ("NoOwner" : Str))
  mt_NoDeed_told : Meth K (He.ga K ("NoDeed" : Str)) ("told" : Str) (He.ma K (He.ga K ("NoDeed" : Str)) ("told" : Str))
  xc_NoDeed : XfC K (He.ga K ("NoDeed" : Str))
  mt_NoRow_told : Meth K (He.ga K ("NoRow" : Str)) ("told" : Str) (He.ma K (He.ga K ("NoRow" : Str)) ("told" : Str))
  xc_NoRow : XfC K (He.ga K ("NoRow" : Str))
  mt_NoWeaving_told : Meth K (He.ga K ("NoWeaving" : Str)) ("told" : Str) (He.ma K (He.ga K ("NoWeaving" : Str)) ("told" : Str))
  xc_NoWeaving : XfC K (He.ga K ("NoWeaving" : Str))
  mt_Large_told : Meth K (He.ga K ("Large" : Str)) ("told" : Str) (He.ma K (He.ga K ("Large" : Str)) ("told" : Str))
  xc_Large : XfC K (He.ga K ("Large" : Str))
  mt_Busy_told : Meth K (He.ga K ("Busy" : Str)) ("told" : Str) (He.ma K (He.ga K ("Busy" : Str)) ("told" : Str))
  xc_Busy : XfC K (He.ga K ("Busy" : Str))
  mt_Idle_told : Meth K (He.ga K ("Idle" : Str)) ("told" : Str) (He.ma K (He.ga K ("Idle" : Str)) ("told" : Str))
  xc_Idle : XfC K (He.ga K ("Idle" : Str))
  mt_Forbidden_told : Meth K (He.ga K ("Forbidden" : Str)) ("told" : Str) (He.ma K (He.ga K ("Forbidden" : Str)) ("told" : Str))
  xc_Forbidden : XfC K (He.ga K ("Forbidden" : Str))
  mt_NoBack_told : Meth K (He.ga K ("NoBack" : Str)) ("told" : Str) (He.ma K (He.ga K ("NoBack" : Str)) ("told" : Str))
  xc_NoBack : XfC K (He.ga K ("NoBack" : Str))
  x0_NoBack : Exc0 K mg ("NoBack" : Str)
  x0_Forbidden : Exc0 K mg ("Forbidden" : Str)
  x0_Idle : Exc0 K mg ("Idle" : Str)
  x0_Busy : Exc0 K mg ("Busy" : Str)
  oex_Large : OexC K (He.ga K ("Large" : Str)) ∧ PySem.W.findIn K (.ref (He.ga K ("Large" : Str))) ("count" : Str) = some none
  fnt_Large : PySem.W.findIn K (.ref (He.ga K ("Large" : Str))) "__init__" = some (some (.ref (He.ma K (He.ga K ("Large" : Str)) "__init__"))) ∧ PySem.W.typeIn K (.ref (He.ma K (He.ga K ("Large" : Str)) "__init__")) = some (.type "function")
  x0_NoWeaving : Exc0 K mg ("NoWeaving" : Str)
  oex_NoRow : OexC K (He.ga K ("NoRow" : Str)) ∧ PySem.W.findIn K (.ref (He.ga K ("NoRow" : Str))) ("index" : Str) = some none ∧ PySem.W.findIn K (.ref (He.ga K ("NoRow" : Str))) ("why" : Str) = some none
  fnt_NoRow : PySem.W.findIn K (.ref (He.ga K ("NoRow" : Str))) "__init__" = some (some (.ref (He.ma K (He.ga K ("NoRow" : Str)) "__init__"))) ∧ PySem.W.typeIn K (.ref (He.ma K (He.ga K ("NoRow" : Str)) "__init__")) = some (.type "function")
  oex_NoDeed : OexC K (He.ga K ("NoDeed" : Str)) ∧ PySem.W.findIn K (.ref (He.ga K ("NoDeed" : Str))) ("why" : Str) = some none
  fnt_NoDeed : PySem.W.findIn K (.ref (He.ga K ("NoDeed" : Str))) "__init__" = some (some (.ref (He.ma K (He.ga K ("NoDeed" : Str)) "__init__"))) ∧ PySem.W.typeIn K (.ref (He.ma K (He.ga K ("NoDeed" : Str)) "__init__")) = some (.type "function")
  oex_NoOwner : OexC K (He.ga K ("NoOwner" : Str)) ∧ PySem.W.findIn K (.ref (He.ga K ("NoOwner" : Str))) ("owner" : Str) = some none
  fnt_NoOwner : PySem.W.findIn K (.ref (He.ga K ("NoOwner" : Str))) "__init__" = some (some (.ref (He.ma K (He.ga K ("NoOwner" : Str)) "__init__"))) ∧ PySem.W.typeIn K (.ref (He.ma K (He.ga K ("NoOwner" : Str)) "__init__")) = some (.type "function")
  x0_NoPath : Exc0 K mg ("NoPath" : Str)
  oex_BadText : OexC K (He.ga K ("BadText" : Str)) ∧ PySem.W.findIn K (.ref (He.ga K ("BadText" : Str))) ("place" : Str) = some none
  fnt_BadText : PySem.W.findIn K (.ref (He.ga K ("BadText" : Str))) "__init__" = some (some (.ref (He.ma K (He.ga K ("BadText" : Str)) "__init__"))) ∧ PySem.W.typeIn K (.ref (He.ma K (He.ga K ("BadText" : Str)) "__init__")) = some (.type "function")
  oex_NoNode : OexC K (He.ga K ("NoNode" : Str)) ∧ PySem.W.findIn K (.ref (He.ga K ("NoNode" : Str))) ("node" : Str) = some none
  fnt_NoNode : PySem.W.findIn K (.ref (He.ga K ("NoNode" : Str))) "__init__" = some (some (.ref (He.ma K (He.ga K ("NoNode" : Str)) "__init__"))) ∧ PySem.W.typeIn K (.ref (He.ma K (He.ga K ("NoNode" : Str)) "__init__")) = some (.type "function")
  oex_NoTree : OexC K (He.ga K ("NoTree" : Str)) ∧ PySem.W.findIn K (.ref (He.ga K ("NoTree" : Str))) ("why" : Str) = some none ∧ PySem.W.findIn K (.ref (He.ga K ("NoTree" : Str))) ("node" : Str) = some none
  fnt_NoTree : PySem.W.findIn K (.ref (He.ga K ("NoTree" : Str))) "__init__" = some (some (.ref (He.ma K (He.ga K ("NoTree" : Str)) "__init__"))) ∧ PySem.W.typeIn K (.ref (He.ma K (He.ga K ("NoTree" : Str)) "__init__")) = some (.type "function")
  f_int : mg ("int" : Str) = none
  g__law_digit : mg ("_law_digit" : Str) = some (.ref (He.ga K ("_law_digit" : Str)))
  f_abs : mg ("abs" : Str) = none
  g__law_state : mg ("_law_state" : Str) = some (.ref (He.ga K ("_law_state" : Str)))
  g_law : mg ("law" : Str) = some (.ref (He.ga K ("law" : Str)))
section
variable [TheW] {P : Program} {w : World} {K : Frag} {mg : Str → Option Value} {base : Heap}
noncomputable def EQ : E2 := eqP

/-! _law_classes -/
theorem sc__law_classes : FnScope [("_law_error" : Str), ("_law_found" : Str)] [("_law_error" : Str)] (defScope st__law_classes) := ⟨rfl, rfl, rfl, by decide +kernel, rfl, by decide +kernel, by decide +kernel⟩
noncomputable def mb__law_classes : MS :=
  (mSeq (mSet 1 (mLst (mCons (mIsXe [(("WalkError" : Str), false), (("NoTree" : Str), true), (("NoNode" : Str), false), (("BadText" : Str), false), (("NoPath" : Str), false), (("NoOwner" : Str), false), (("NoDeed" : Str), false), (("NoRow" : Str), false), (("NoWeaving" : Str), false), (("Large" : Str), false), (("Busy" : Str), false), (("Idle" : Str), false), (("Forbidden" : Str), false), (("NoBack" : Str), false)] (mVar 0)) (mCons (mIsXe [(("WalkError" : Str), false), (("NoTree" : Str), false), (("NoNode" : Str), true), (("BadText" : Str), false), (("NoPath" : Str), false), (("NoOwner" : Str), false), (("NoDeed" : Str), false), (("NoRow" : Str), false), (("NoWeaving" : Str), false), (("Large" : Str), false), (("Busy" : Str), false), (("Idle" : Str), false), (("Forbidden" : Str), false), (("NoBack" : Str), false)] (mVar 0)) (mCons (mIsXe [(("WalkError" : Str), false), (("NoTree" : Str), false), (("NoNode" : Str), false), (("BadText" : Str), true), (("NoPath" : Str), false), (("NoOwner" : Str), false), (("NoDeed" : Str), false), (("NoRow" : Str), false), (("NoWeaving" : Str), false), (("Large" : Str), false), (("Busy" : Str), false), (("Idle" : Str), false), (("Forbidden" : Str), false), (("NoBack" : Str), false)] (mVar 0)) mNil)))))
    (mSeq (mSet 1 (mOp addD (mVar 1) (mLst (mCons (mIsXe [(("WalkError" : Str), false), (("NoTree" : Str), false), (("NoNode" : Str), false), (("BadText" : Str), false), (("NoPath" : Str), true), (("NoOwner" : Str), false), (("NoDeed" : Str), false), (("NoRow" : Str), false), (("NoWeaving" : Str), false), (("Large" : Str), false), (("Busy" : Str), false), (("Idle" : Str), false), (("Forbidden" : Str), false), (("NoBack" : Str), false)] (mVar 0)) (mCons (mIsXe [(("WalkError" : Str), false), (("NoTree" : Str), false), (("NoNode" : Str), false), (("BadText" : Str), false), (("NoPath" : Str), false), (("NoOwner" : Str), true), (("NoDeed" : Str), false), (("NoRow" : Str), false), (("NoWeaving" : Str), false), (("Large" : Str), false), (("Busy" : Str), false), (("Idle" : Str), false), (("Forbidden" : Str), false), (("NoBack" : Str), false)] (mVar 0)) (mCons (mIsXe [(("WalkError" : Str), false), (("NoTree" : Str), false), (("NoNode" : Str), false), (("BadText" : Str), false), (("NoPath" : Str), false), (("NoOwner" : Str), false), (("NoDeed" : Str), true), (("NoRow" : Str), false), (("NoWeaving" : Str), false), (("Large" : Str), false), (("Busy" : Str), false), (("Idle" : Str), false), (("Forbidden" : Str), false), (("NoBack" : Str), false)] (mVar 0)) mNil))))))
    (mSeq (mSet 1 (mOp addD (mVar 1) (mLst (mCons (mIsXe [(("WalkError" : Str), false), (("NoTree" : Str), false), (("NoNode" : Str), false), (("BadText" : Str), false), (("NoPath" : Str), false), (("NoOwner" : Str), false), (("NoDeed" : Str), false), (("NoRow" : Str), true), (("NoWeaving" : Str), false), (("Large" : Str), false), (("Busy" : Str), false), (("Idle" : Str), false), (("Forbidden" : Str), false), (("NoBack" : Str), false)] (mVar 0)) (mCons (mIsXe [(("WalkError" : Str), false), (("NoTree" : Str), false), (("NoNode" : Str), false), (("BadText" : Str), false), (("NoPath" : Str), false), (("NoOwner" : Str), false), (("NoDeed" : Str), false), (("NoRow" : Str), false), (("NoWeaving" : Str), true), (("Large" : Str), false), (("Busy" : Str), false), (("Idle" : Str), false), (("Forbidden" : Str), false), (("NoBack" : Str), false)] (mVar 0)) (mCons (mIsXe [(("WalkError" : Str), false), (("NoTree" : Str), false), (("NoNode" : Str), false), (("BadText" : Str), false), (("NoPath" : Str), false), (("NoOwner" : Str), false), (("NoDeed" : Str), false), (("NoRow" : Str), false), (("NoWeaving" : Str), false), (("Large" : Str), true), (("Busy" : Str), false), (("Idle" : Str), false), (("Forbidden" : Str), false), (("NoBack" : Str), false)] (mVar 0)) mNil))))))
    (mSeq (mSet 1 (mOp addD (mVar 1) (mLst (mCons (mIsXe [(("WalkError" : Str), false), (("NoTree" : Str), false), (("NoNode" : Str), false), (("BadText" : Str), false), (("NoPath" : Str), false), (("NoOwner" : Str), false), (("NoDeed" : Str), false), (("NoRow" : Str), false), (("NoWeaving" : Str), false), (("Large" : Str), false), (("Busy" : Str), true), (("Idle" : Str), false), (("Forbidden" : Str), false), (("NoBack" : Str), false)] (mVar 0)) (mCons (mIsXe [(("WalkError" : Str), false), (("NoTree" : Str), false), (("NoNode" : Str), false), (("BadText" : Str), false), (("NoPath" : Str), false), (("NoOwner" : Str), false), (("NoDeed" : Str), false), (("NoRow" : Str), false), (("NoWeaving" : Str), false), (("Large" : Str), false), (("Busy" : Str), false), (("Idle" : Str), true), (("Forbidden" : Str), false), (("NoBack" : Str), false)] (mVar 0)) (mCons (mIsXe [(("WalkError" : Str), false), (("NoTree" : Str), false), (("NoNode" : Str), false), (("BadText" : Str), false), (("NoPath" : Str), false), (("NoOwner" : Str), false), (("NoDeed" : Str), false), (("NoRow" : Str), false), (("NoWeaving" : Str), false), (("Large" : Str), false), (("Busy" : Str), false), (("Idle" : Str), false), (("Forbidden" : Str), true), (("NoBack" : Str), false)] (mVar 0)) mNil))))))
    (mRet (mOp addD (mVar 1) (mLst (mCons (mIsXe [(("WalkError" : Str), false), (("NoTree" : Str), false), (("NoNode" : Str), false), (("BadText" : Str), false), (("NoPath" : Str), false), (("NoOwner" : Str), false), (("NoDeed" : Str), false), (("NoRow" : Str), false), (("NoWeaving" : Str), false), (("Large" : Str), false), (("Busy" : Str), false), (("Idle" : Str), false), (("Forbidden" : Str), false), (("NoBack" : Str), true)] (mVar 0)) mNil))))))))
noncomputable def m__law_classes : MF := mkFn 1 2 mb__law_classes
theorem ok__law_classes (T : Fx K mg)  {fd : FuncData} (F : FunD K ("_law_classes" : Str) ("_law_classes" : Str) (defArgs st__law_classes) (defBody st__law_classes) (defScope st__law_classes) [] [] (He.ga K ("_law_classes" : Str)) fd) : DefOk P w K mg base 1 ("_law_classes" : Str) m__law_classes := by
  have G : FnOk P w K mg base (L2.CX P w) 1 (He.ga K ("_law_classes" : Str)) fd [("_law_error" : Str)] (spOf K m__law_classes) := fn_ok F sc__law_classes (fun cdv A outer s H E hr tk hp =>
    (dss_cons (ds_set (i := 1) sc__law_classes.nd rfl (Or.inl rfl) (de_lst (da_cons (de_isXe T.xis_NoTree T.f_isinstance (de_v 0) (dc_gl T.g_NoTree)) (da_cons (de_isXe T.xis_NoNode T.f_isinstance (de_v 0) (dc_gl T.g_NoNode)) (da_cons (de_isXe T.xis_BadText T.f_isinstance (de_v 0) (dc_gl T.g_BadText)) da_nil)))))
    (dss_cons (ds_set (i := 1) sc__law_classes.nd rfl (Or.inl rfl) (de_op os_add (de_v 1) (de_lst (da_cons (de_isXe T.xis_NoPath T.f_isinstance (de_v 0) (dc_gl T.g_NoPath)) (da_cons (de_isXe T.xis_NoOwner T.f_isinstance (de_v 0) (dc_gl T.g_NoOwner)) (da_cons (de_isXe T.xis_NoDeed T.f_isinstance (de_v 0) (dc_gl T.g_NoDeed)) da_nil))))))
    (dss_cons (ds_set (i := 1) sc__law_classes.nd rfl (Or.inl rfl) (de_op os_add (de_v 1) (de_lst (da_cons (de_isXe T.xis_NoRow T.f_isinstance (de_v 0) (dc_gl T.g_NoRow)) (da_cons (de_isXe T.xis_NoWeaving T.f_isinstance (de_v 0) (dc_gl T.g_NoWeaving)) (da_cons (de_isXe T.xis_Large T.f_isinstance (de_v 0) (dc_gl T.g_Large)) da_nil))))))
    (dss_cons (ds_set (i := 1) sc__law_classes.nd rfl (Or.inl rfl) (de_op os_add (de_v 1) (de_lst (da_cons (de_isXe T.xis_Busy T.f_isinstance (de_v 0) (dc_gl T.g_Busy)) (da_cons (de_isXe T.xis_Idle T.f_isinstance (de_v 0) (dc_gl T.g_Idle)) (da_cons (de_isXe T.xis_Forbidden T.f_isinstance (de_v 0) (dc_gl T.g_Forbidden)) da_nil))))))
    (dss_one (ds_ret (de_op os_add (de_v 1) (de_lst (da_cons (de_isXe T.xis_NoBack T.f_isinstance (de_v 0) (dc_gl T.g_NoBack)) da_nil))))))))))
  exact ⟨T.g__law_classes, F.kp, fd, [("_law_error" : Str)], G, F.bindsN fun _ _ _ _ _ _ us hl => match us, hl with | [_], _ => rfl⟩
/-! _law_fields -/
theorem sc__law_fields : FnScope [("_law_error" : Str)] [("_law_error" : Str)] (defScope st__law_fields) := ⟨rfl, rfl, rfl, by decide +kernel, rfl, by decide +kernel, by decide +kernel⟩
noncomputable def mb__law_fields : MS :=
  (mSeq (mIfS (mB (mIsXe [(("WalkError" : Str), false), (("NoTree" : Str), true), (("NoNode" : Str), false), (("BadText" : Str), false), (("NoPath" : Str), false), (("NoOwner" : Str), false), (("NoDeed" : Str), false), (("NoRow" : Str), false), (("NoWeaving" : Str), false), (("Large" : Str), false), (("Busy" : Str), false), (("Idle" : Str), false), (("Forbidden" : Str), false), (("NoBack" : Str), false)] (mVar 0))) (mRet (mLst (mCons (mXe ("why" : Str) [("NoTree" : Str), ("NoDeed" : Str), ("NoRow" : Str)] (mVar 0)) (mCons (mXe ("node" : Str) [("NoTree" : Str), ("NoNode" : Str)] (mVar 0)) mNil)))) mSkip)
    (mSeq (mIfS (mB (mIsXe [(("WalkError" : Str), false), (("NoTree" : Str), false), (("NoNode" : Str), true), (("BadText" : Str), false), (("NoPath" : Str), false), (("NoOwner" : Str), false), (("NoDeed" : Str), false), (("NoRow" : Str), false), (("NoWeaving" : Str), false), (("Large" : Str), false), (("Busy" : Str), false), (("Idle" : Str), false), (("Forbidden" : Str), false), (("NoBack" : Str), false)] (mVar 0))) (mRet (mLst (mCons (mXe ("node" : Str) [("NoTree" : Str), ("NoNode" : Str)] (mVar 0)) mNil))) mSkip)
    (mSeq (mIfS (mB (mIsXe [(("WalkError" : Str), false), (("NoTree" : Str), false), (("NoNode" : Str), false), (("BadText" : Str), true), (("NoPath" : Str), false), (("NoOwner" : Str), false), (("NoDeed" : Str), false), (("NoRow" : Str), false), (("NoWeaving" : Str), false), (("Large" : Str), false), (("Busy" : Str), false), (("Idle" : Str), false), (("Forbidden" : Str), false), (("NoBack" : Str), false)] (mVar 0))) (mRet (mLst (mCons (mXe ("place" : Str) [("BadText" : Str)] (mVar 0)) mNil))) mSkip)
    (mSeq (mIfS (mB (mIsXe [(("WalkError" : Str), false), (("NoTree" : Str), false), (("NoNode" : Str), false), (("BadText" : Str), false), (("NoPath" : Str), false), (("NoOwner" : Str), true), (("NoDeed" : Str), false), (("NoRow" : Str), false), (("NoWeaving" : Str), false), (("Large" : Str), false), (("Busy" : Str), false), (("Idle" : Str), false), (("Forbidden" : Str), false), (("NoBack" : Str), false)] (mVar 0))) (mRet (mLst (mCons (mXe ("owner" : Str) [("NoOwner" : Str)] (mVar 0)) mNil))) mSkip)
    (mSeq (mIfS (mB (mIsXe [(("WalkError" : Str), false), (("NoTree" : Str), false), (("NoNode" : Str), false), (("BadText" : Str), false), (("NoPath" : Str), false), (("NoOwner" : Str), false), (("NoDeed" : Str), true), (("NoRow" : Str), false), (("NoWeaving" : Str), false), (("Large" : Str), false), (("Busy" : Str), false), (("Idle" : Str), false), (("Forbidden" : Str), false), (("NoBack" : Str), false)] (mVar 0))) (mRet (mLst (mCons (mXe ("why" : Str) [("NoTree" : Str), ("NoDeed" : Str), ("NoRow" : Str)] (mVar 0)) mNil))) mSkip)
    (mSeq (mIfS (mB (mIsXe [(("WalkError" : Str), false), (("NoTree" : Str), false), (("NoNode" : Str), false), (("BadText" : Str), false), (("NoPath" : Str), false), (("NoOwner" : Str), false), (("NoDeed" : Str), false), (("NoRow" : Str), true), (("NoWeaving" : Str), false), (("Large" : Str), false), (("Busy" : Str), false), (("Idle" : Str), false), (("Forbidden" : Str), false), (("NoBack" : Str), false)] (mVar 0))) (mRet (mLst (mCons (mXe ("index" : Str) [("NoRow" : Str)] (mVar 0)) (mCons (mXe ("why" : Str) [("NoTree" : Str), ("NoDeed" : Str), ("NoRow" : Str)] (mVar 0)) mNil)))) mSkip)
    (mRet (mIf (mB (mIsXe [(("WalkError" : Str), false), (("NoTree" : Str), false), (("NoNode" : Str), false), (("BadText" : Str), false), (("NoPath" : Str), false), (("NoOwner" : Str), false), (("NoDeed" : Str), false), (("NoRow" : Str), false), (("NoWeaving" : Str), false), (("Large" : Str), true), (("Busy" : Str), false), (("Idle" : Str), false), (("Forbidden" : Str), false), (("NoBack" : Str), false)] (mVar 0))) (mLst (mCons (mXe ("count" : Str) [("Large" : Str)] (mVar 0)) mNil)) (mLst mNil)))))))))
noncomputable def m__law_fields : MF := mkFn 1 1 mb__law_fields
theorem ok__law_fields (T : Fx K mg)  {fd : FuncData} (F : FunD K ("_law_fields" : Str) ("_law_fields" : Str) (defArgs st__law_fields) (defBody st__law_fields) (defScope st__law_fields) [] [] (He.ga K ("_law_fields" : Str)) fd) : DefOk P w K mg base 1 ("_law_fields" : Str) m__law_fields := by
  have G : FnOk P w K mg base (L2.CX P w) 1 (He.ga K ("_law_fields" : Str)) fd [("_law_error" : Str)] (spOf K m__law_fields) := fn_ok F sc__law_fields (fun cdv A outer s H E hr tk hp =>
    (dss_cons (ds_if (dt_val (de_isXe T.xis_NoTree T.f_isinstance (de_v 0) (dc_gl T.g_NoTree))) (dss_one (ds_ret (de_lst (da_cons (de_xe T.xf_why (de_v 0)) (da_cons (de_xe T.xf_node (de_v 0)) da_nil))))) dss_nil)
    (dss_cons (ds_if (dt_val (de_isXe T.xis_NoNode T.f_isinstance (de_v 0) (dc_gl T.g_NoNode))) (dss_one (ds_ret (de_lst (da_cons (de_xe T.xf_node (de_v 0)) da_nil)))) dss_nil)
    (dss_cons (ds_if (dt_val (de_isXe T.xis_BadText T.f_isinstance (de_v 0) (dc_gl T.g_BadText))) (dss_one (ds_ret (de_lst (da_cons (de_xe T.xf_place (de_v 0)) da_nil)))) dss_nil)
    (dss_cons (ds_if (dt_val (de_isXe T.xis_NoOwner T.f_isinstance (de_v 0) (dc_gl T.g_NoOwner))) (dss_one (ds_ret (de_lst (da_cons (de_xe T.xf_owner (de_v 0)) da_nil)))) dss_nil)
    (dss_cons (ds_if (dt_val (de_isXe T.xis_NoDeed T.f_isinstance (de_v 0) (dc_gl T.g_NoDeed))) (dss_one (ds_ret (de_lst (da_cons (de_xe T.xf_why (de_v 0)) da_nil)))) dss_nil)
    (dss_cons (ds_if (dt_val (de_isXe T.xis_NoRow T.f_isinstance (de_v 0) (dc_gl T.g_NoRow))) (dss_one (ds_ret (de_lst (da_cons (de_xe T.xf_index (de_v 0)) (da_cons (de_xe T.xf_why (de_v 0)) da_nil))))) dss_nil)
    (dss_one (ds_ret (de_if (dt_val (de_isXe T.xis_Large T.f_isinstance (de_v 0) (dc_gl T.g_Large))) (de_lst (da_cons (de_xe T.xf_count (de_v 0)) da_nil)) (de_lst da_nil)))))))))))
  exact ⟨T.g__law_fields, F.kp, fd, [("_law_error" : Str)], G, F.bindsN fun _ _ _ _ _ _ us hl => match us, hl with | [_], _ => rfl⟩
/-! WalkError.told -/
theorem sc_WalkError_told : FnScope [("self" : Str)] [("self" : Str)] (defScope st_WalkError_told) := ⟨rfl, rfl, rfl, by decide +kernel, rfl, by decide +kernel, by decide +kernel⟩
noncomputable def mb_WalkError_told : MS :=
  (mRet (mC (.str ("refused" : Str))))
noncomputable def m_WalkError_told : MF := mkFn 1 1 mb_WalkError_told
theorem ok_WalkError_told (T : Fx K mg)  {fd : FuncData} (F : FunD K ("told" : Str) ("WalkError.told" : Str) (defArgs st_WalkError_told) (defBody st_WalkError_told) (defScope st_WalkError_told) [] [] (He.ma K (He.ga K ("WalkError" : Str)) ("told" : Str)) fd) : XMtOk P w K mg base 1 ("told" : Str) ("WalkError" : Str) m_WalkError_told := by
  have G : FnOk P w K mg base (L2.CX P w) 1 (He.ma K (He.ga K ("WalkError" : Str)) ("told" : Str)) fd [("self" : Str)] (spOf K m_WalkError_told) := fn_ok F sc_WalkError_told (fun cdv A outer s H E hr tk hp =>
    (dss_one (ds_ret de_str)))
  exact ⟨T.xc_WalkError, fd, [("self" : Str)], T.mt_WalkError_told, G, F.bindsN fun _ _ _ _ _ _ us hl => match us, hl with | [_], _ => rfl⟩
/-! NoTree.told -/
theorem sc_NoTree_told : FnScope [("self" : Str)] [("self" : Str)] (defScope st_NoTree_told) := ⟨rfl, rfl, rfl, by decide +kernel, rfl, by decide +kernel, by decide +kernel⟩
noncomputable def mb_NoTree_told : MS :=
  (mRet (mC (.str ("refused notree" : Str))))
noncomputable def m_NoTree_told : MF := mkFn 1 1 mb_NoTree_told
theorem ok_NoTree_told (T : Fx K mg)  {fd : FuncData} (F : FunD K ("told" : Str) ("NoTree.told" : Str) (defArgs st_NoTree_told) (defBody st_NoTree_told) (defScope st_NoTree_told) [] [] (He.ma K (He.ga K ("NoTree" : Str)) ("told" : Str)) fd) : XMtOk P w K mg base 1 ("told" : Str) ("NoTree" : Str) m_NoTree_told := by
  have G : FnOk P w K mg base (L2.CX P w) 1 (He.ma K (He.ga K ("NoTree" : Str)) ("told" : Str)) fd [("self" : Str)] (spOf K m_NoTree_told) := fn_ok F sc_NoTree_told (fun cdv A outer s H E hr tk hp =>
    (dss_one (ds_ret de_str)))
  exact ⟨T.xc_NoTree, fd, [("self" : Str)], T.mt_NoTree_told, G, F.bindsN fun _ _ _ _ _ _ us hl => match us, hl with | [_], _ => rfl⟩
/-! NoNode.told -/
theorem sc_NoNode_told : FnScope [("self" : Str)] [("self" : Str)] (defScope st_NoNode_told) := ⟨rfl, rfl, rfl, by decide +kernel, rfl, by decide +kernel, by decide +kernel⟩
noncomputable def mb_NoNode_told : MS :=
  (mRet (mC (.str ("refused nonode" : Str))))
noncomputable def m_NoNode_told : MF := mkFn 1 1 mb_NoNode_told
theorem ok_NoNode_told (T : Fx K mg)  {fd : FuncData} (F : FunD K ("told" : Str) ("NoNode.told" : Str) (defArgs st_NoNode_told) (defBody st_NoNode_told) (defScope st_NoNode_told) [] [] (He.ma K (He.ga K ("NoNode" : Str)) ("told" : Str)) fd) : XMtOk P w K mg base 1 ("told" : Str) ("NoNode" : Str) m_NoNode_told := by
  have G : FnOk P w K mg base (L2.CX P w) 1 (He.ma K (He.ga K ("NoNode" : Str)) ("told" : Str)) fd [("self" : Str)] (spOf K m_NoNode_told) := fn_ok F sc_NoNode_told (fun cdv A outer s H E hr tk hp =>
    (dss_one (ds_ret de_str)))
  exact ⟨T.xc_NoNode, fd, [("self" : Str)], T.mt_NoNode_told, G, F.bindsN fun _ _ _ _ _ _ us hl => match us, hl with | [_], _ => rfl⟩
/-! BadText.told -/
theorem sc_BadText_told : FnScope [("self" : Str)] [("self" : Str)] (defScope st_BadText_told) := ⟨rfl, rfl, rfl, by decide +kernel, rfl, by decide +kernel, by decide +kernel⟩
noncomputable def mb_BadText_told : MS :=
  (mRet (mC (.str ("refused badtext" : Str))))
noncomputable def m_BadText_told : MF := mkFn 1 1 mb_BadText_told
theorem ok_BadText_told (T : Fx K mg)  {fd : FuncData} (F : FunD K ("told" : Str) ("BadText.told" : Str) (defArgs st_BadText_told) (defBody st_BadText_told) (defScope st_BadText_told) [] [] (He.ma K (He.ga K ("BadText" : Str)) ("told" : Str)) fd) : XMtOk P w K mg base 1 ("told" : Str) ("BadText" : Str) m_BadText_told := by
  have G : FnOk P w K mg base (L2.CX P w) 1 (He.ma K (He.ga K ("BadText" : Str)) ("told" : Str)) fd [("self" : Str)] (spOf K m_BadText_told) := fn_ok F sc_BadText_told (fun cdv A outer s H E hr tk hp =>
    (dss_one (ds_ret de_str)))
  exact ⟨T.xc_BadText, fd, [("self" : Str)], T.mt_BadText_told, G, F.bindsN fun _ _ _ _ _ _ us hl => match us, hl with | [_], _ => rfl⟩
/-! NoPath.told -/
theorem sc_NoPath_told : FnScope [("self" : Str)] [("self" : Str)] (defScope st_NoPath_told) := ⟨rfl, rfl, rfl, by decide +kernel, rfl, by decide +kernel, by decide +kernel⟩
noncomputable def mb_NoPath_told : MS :=
  (mRet (mC (.str ("refused nopath" : Str))))
noncomputable def m_NoPath_told : MF := mkFn 1 1 mb_NoPath_told
theorem ok_NoPath_told (T : Fx K mg)  {fd : FuncData} (F : FunD K ("told" : Str) ("NoPath.told" : Str) (defArgs st_NoPath_told) (defBody st_NoPath_told) (defScope st_NoPath_told) [] [] (He.ma K (He.ga K ("NoPath" : Str)) ("told" : Str)) fd) : XMtOk P w K mg base 1 ("told" : Str) ("NoPath" : Str) m_NoPath_told := by
  have G : FnOk P w K mg base (L2.CX P w) 1 (He.ma K (He.ga K ("NoPath" : Str)) ("told" : Str)) fd [("self" : Str)] (spOf K m_NoPath_told) := fn_ok F sc_NoPath_told (fun cdv A outer s H E hr tk hp =>
    (dss_one (ds_ret de_str)))
  exact ⟨T.xc_NoPath, fd, [("self" : Str)], T.mt_NoPath_told, G, F.bindsN fun _ _ _ _ _ _ us hl => match us, hl with | [_], _ => rfl⟩
/-! NoOwner.told -/
theorem sc_NoOwner_told : FnScope [("self" : Str)] [("self" : Str)] (defScope st_NoOwner_told) := ⟨rfl, rfl, rfl, by decide +kernel, rfl, by decide +kernel, by decide +kernel⟩
noncomputable def mb_NoOwner_told : MS :=
  (mRet (mC (.str ("refused noowner" : Str))))
noncomputable def m_NoOwner_told : MF := mkFn 1 1 mb_NoOwner_told
theorem ok_NoOwner_told (T : Fx K mg)  {fd : FuncData} (F : FunD K ("told" : Str) ("NoOwner.told" : Str) (defArgs st_NoOwner_told) (defBody st_NoOwner_told) (defScope st_NoOwner_told) [] [] (He.ma K (He.ga K ("NoOwner" : Str)) ("told" : Str)) fd) : XMtOk P w K mg base 1 ("told" : Str) ("NoOwner" : Str) m_NoOwner_told := by
  have G : FnOk P w K mg base (L2.CX P w) 1 (He.ma K (He.ga K ("NoOwner" : Str)) ("told" : Str)) fd [("self" : Str)] (spOf K m_NoOwner_told) := fn_ok F sc_NoOwner_told (fun cdv A outer s H E hr tk hp =>
    (dss_one (ds_ret de_str)))
  exact ⟨T.xc_NoOwner, fd, [("self" : Str)], T.mt_NoOwner_told, G, F.bindsN fun _ _ _ _ _ _ us hl => match us, hl with | [_], _ => rfl⟩
/-! NoDeed.told -/
theorem sc_NoDeed_told : FnScope [("self" : Str)] [("self" : Str)] (defScope st_NoDeed_told) := ⟨rfl, rfl, rfl, by decide +kernel, rfl, by decide +kernel, by decide +kernel⟩
noncomputable def mb_NoDeed_told : MS :=
  (mRet (mC (.str ("refused nodeed" : Str))))
noncomputable def m_NoDeed_told : MF := mkFn 1 1 mb_NoDeed_told
theorem ok_NoDeed_told (T : Fx K mg)  {fd : FuncData} (F : FunD K ("told" : Str) ("NoDeed.told" : Str) (defArgs st_NoDeed_told) (defBody st_NoDeed_told) (defScope st_NoDeed_told) [] [] (He.ma K (He.ga K ("NoDeed" : Str)) ("told" : Str)) fd) : XMtOk P w K mg base 1 ("told" : Str) ("NoDeed" : Str) m_NoDeed_told := by
  have G : FnOk P w K mg base (L2.CX P w) 1 (He.ma K (He.ga K ("NoDeed" : Str)) ("told" : Str)) fd [("self" : Str)] (spOf K m_NoDeed_told) := fn_ok F sc_NoDeed_told (fun cdv A outer s H E hr tk hp =>
    (dss_one (ds_ret de_str)))
  exact ⟨T.xc_NoDeed, fd, [("self" : Str)], T.mt_NoDeed_told, G, F.bindsN fun _ _ _ _ _ _ us hl => match us, hl with | [_], _ => rfl⟩
/-! NoRow.told -/
theorem sc_NoRow_told : FnScope [("self" : Str)] [("self" : Str)] (defScope st_NoRow_told) := ⟨rfl, rfl, rfl, by decide +kernel, rfl, by decide +kernel, by decide +kernel⟩
noncomputable def mb_NoRow_told : MS :=
  (mRet (mC (.str ("refused norow" : Str))))
noncomputable def m_NoRow_told : MF := mkFn 1 1 mb_NoRow_told
theorem ok_NoRow_told (T : Fx K mg)  {fd : FuncData} (F : FunD K ("told" : Str) ("NoRow.told" : Str) (defArgs st_NoRow_told) (defBody st_NoRow_told) (defScope st_NoRow_told) [] [] (He.ma K (He.ga K ("NoRow" : Str)) ("told" : Str)) fd) : XMtOk P w K mg base 1 ("told" : Str) ("NoRow" : Str) m_NoRow_told := by
  have G : FnOk P w K mg base (L2.CX P w) 1 (He.ma K (He.ga K ("NoRow" : Str)) ("told" : Str)) fd [("self" : Str)] (spOf K m_NoRow_told) := fn_ok F sc_NoRow_told (fun cdv A outer s H E hr tk hp =>
    (dss_one (ds_ret de_str)))
  exact ⟨T.xc_NoRow, fd, [("self" : Str)], T.mt_NoRow_told, G, F.bindsN fun _ _ _ _ _ _ us hl => match us, hl with | [_], _ => rfl⟩
/-! NoWeaving.told -/
theorem sc_NoWeaving_told : FnScope [("self" : Str)] [("self" : Str)] (defScope st_NoWeaving_told) := ⟨rfl, rfl, rfl, by decide +kernel, rfl, by decide +kernel, by decide +kernel⟩
noncomputable def mb_NoWeaving_told : MS :=
  (mRet (mC (.str ("refused noweaving" : Str))))
noncomputable def m_NoWeaving_told : MF := mkFn 1 1 mb_NoWeaving_told
theorem ok_NoWeaving_told (T : Fx K mg)  {fd : FuncData} (F : FunD K ("told" : Str) ("NoWeaving.told" : Str) (defArgs st_NoWeaving_told) (defBody st_NoWeaving_told) (defScope st_NoWeaving_told) [] [] (He.ma K (He.ga K ("NoWeaving" : Str)) ("told" : Str)) fd) : XMtOk P w K mg base 1 ("told" : Str) ("NoWeaving" : Str) m_NoWeaving_told := by
  have G : FnOk P w K mg base (L2.CX P w) 1 (He.ma K (He.ga K ("NoWeaving" : Str)) ("told" : Str)) fd [("self" : Str)] (spOf K m_NoWeaving_told) := fn_ok F sc_NoWeaving_told (fun cdv A outer s H E hr tk hp =>
    (dss_one (ds_ret de_str)))
  exact ⟨T.xc_NoWeaving, fd, [("self" : Str)], T.mt_NoWeaving_told, G, F.bindsN fun _ _ _ _ _ _ us hl => match us, hl with | [_], _ => rfl⟩
/-! Large.told -/
theorem sc_Large_told : FnScope [("self" : Str)] [("self" : Str)] (defScope st_Large_told) := ⟨rfl, rfl, rfl, by decide +kernel, rfl, by decide +kernel, by decide +kernel⟩
noncomputable def mb_Large_told : MS :=
  (mRet (mC (.str ("refused large" : Str))))
noncomputable def m_Large_told : MF := mkFn 1 1 mb_Large_told
theorem ok_Large_told (T : Fx K mg)  {fd : FuncData} (F : FunD K ("told" : Str) ("Large.told" : Str) (defArgs st_Large_told) (defBody st_Large_told) (defScope st_Large_told) [] [] (He.ma K (He.ga K ("Large" : Str)) ("told" : Str)) fd) : XMtOk P w K mg base 1 ("told" : Str) ("Large" : Str) m_Large_told := by
  have G : FnOk P w K mg base (L2.CX P w) 1 (He.ma K (He.ga K ("Large" : Str)) ("told" : Str)) fd [("self" : Str)] (spOf K m_Large_told) := fn_ok F sc_Large_told (fun cdv A outer s H E hr tk hp =>
    (dss_one (ds_ret de_str)))
  exact ⟨T.xc_Large, fd, [("self" : Str)], T.mt_Large_told, G, F.bindsN fun _ _ _ _ _ _ us hl => match us, hl with | [_], _ => rfl⟩
/-! Busy.told -/
theorem sc_Busy_told : FnScope [("self" : Str)] [("self" : Str)] (defScope st_Busy_told) := ⟨rfl, rfl, rfl, by decide +kernel, rfl, by decide +kernel, by decide +kernel⟩
noncomputable def mb_Busy_told : MS :=
  (mRet (mC (.str ("refused busy" : Str))))
noncomputable def m_Busy_told : MF := mkFn 1 1 mb_Busy_told
theorem ok_Busy_told (T : Fx K mg)  {fd : FuncData} (F : FunD K ("told" : Str) ("Busy.told" : Str) (defArgs st_Busy_told) (defBody st_Busy_told) (defScope st_Busy_told) [] [] (He.ma K (He.ga K ("Busy" : Str)) ("told" : Str)) fd) : XMtOk P w K mg base 1 ("told" : Str) ("Busy" : Str) m_Busy_told := by
  have G : FnOk P w K mg base (L2.CX P w) 1 (He.ma K (He.ga K ("Busy" : Str)) ("told" : Str)) fd [("self" : Str)] (spOf K m_Busy_told) := fn_ok F sc_Busy_told (fun cdv A outer s H E hr tk hp =>
    (dss_one (ds_ret de_str)))
  exact ⟨T.xc_Busy, fd, [("self" : Str)], T.mt_Busy_told, G, F.bindsN fun _ _ _ _ _ _ us hl => match us, hl with | [_], _ => rfl⟩
/-! Idle.told -/
theorem sc_Idle_told : FnScope [("self" : Str)] [("self" : Str)] (defScope st_Idle_told) := ⟨rfl, rfl, rfl, by decide +kernel, rfl, by decide +kernel, by decide +kernel⟩
noncomputable def mb_Idle_told : MS :=
  (mRet (mC (.str ("refused idle" : Str))))
noncomputable def m_Idle_told : MF := mkFn 1 1 mb_Idle_told
theorem ok_Idle_told (T : Fx K mg)  {fd : FuncData} (F : FunD K ("told" : Str) ("Idle.told" : Str) (defArgs st_Idle_told) (defBody st_Idle_told) (defScope st_Idle_told) [] [] (He.ma K (He.ga K ("Idle" : Str)) ("told" : Str)) fd) : XMtOk P w K mg base 1 ("told" : Str) ("Idle" : Str) m_Idle_told := by
  have G : FnOk P w K mg base (L2.CX P w) 1 (He.ma K (He.ga K ("Idle" : Str)) ("told" : Str)) fd [("self" : Str)] (spOf K m_Idle_told) := fn_ok F sc_Idle_told (fun cdv A outer s H E hr tk hp =>
    (dss_one (ds_ret de_str)))
  exact ⟨T.xc_Idle, fd, [("self" : Str)], T.mt_Idle_told, G, F.bindsN fun _ _ _ _ _ _ us hl => match us, hl with | [_], _ => rfl⟩
/-! Forbidden.told -/
theorem sc_Forbidden_told : FnScope [("self" : Str)] [("self" : Str)] (defScope st_Forbidden_told) := ⟨rfl, rfl, rfl, by decide +kernel, rfl, by decide +kernel, by decide +kernel⟩
noncomputable def mb_Forbidden_told : MS :=
  (mRet (mC (.str ("refused forbidden" : Str))))
noncomputable def m_Forbidden_told : MF := mkFn 1 1 mb_Forbidden_told
theorem ok_Forbidden_told (T : Fx K mg)  {fd : FuncData} (F : FunD K ("told" : Str) ("Forbidden.told" : Str) (defArgs st_Forbidden_told) (defBody st_Forbidden_told) (defScope st_Forbidden_told) [] [] (He.ma K (He.ga K ("Forbidden" : Str)) ("told" : Str)) fd) : XMtOk P w K mg base 1 ("told" : Str) ("Forbidden" : Str) m_Forbidden_told := by
  have G : FnOk P w K mg base (L2.CX P w) 1 (He.ma K (He.ga K ("Forbidden" : Str)) ("told" : Str)) fd [("self" : Str)] (spOf K m_Forbidden_told) := fn_ok F sc_Forbidden_told (fun cdv A outer s H E hr tk hp =>
    (dss_one (ds_ret de_str)))
  exact ⟨T.xc_Forbidden, fd, [("self" : Str)], T.mt_Forbidden_told, G, F.bindsN fun _ _ _ _ _ _ us hl => match us, hl with | [_], _ => rfl⟩
/-! NoBack.told -/
theorem sc_NoBack_told : FnScope [("self" : Str)] [("self" : Str)] (defScope st_NoBack_told) := ⟨rfl, rfl, rfl, by decide +kernel, rfl, by decide +kernel, by decide +kernel⟩
noncomputable def mb_NoBack_told : MS :=
  (mRet (mC (.str ("refused noback" : Str))))
noncomputable def m_NoBack_told : MF := mkFn 1 1 mb_NoBack_told
theorem ok_NoBack_told (T : Fx K mg)  {fd : FuncData} (F : FunD K ("told" : Str) ("NoBack.told" : Str) (defArgs st_NoBack_told) (defBody st_NoBack_told) (defScope st_NoBack_told) [] [] (He.ma K (He.ga K ("NoBack" : Str)) ("told" : Str)) fd) : XMtOk P w K mg base 1 ("told" : Str) ("NoBack" : Str) m_NoBack_told := by
  have G : FnOk P w K mg base (L2.CX P w) 1 (He.ma K (He.ga K ("NoBack" : Str)) ("told" : Str)) fd [("self" : Str)] (spOf K m_NoBack_told) := fn_ok F sc_NoBack_told (fun cdv A outer s H E hr tk hp =>
    (dss_one (ds_ret de_str)))
  exact ⟨T.xc_NoBack, fd, [("self" : Str)], T.mt_NoBack_told, G, F.bindsN fun _ _ _ _ _ _ us hl => match us, hl with | [_], _ => rfl⟩
/-! Large -/
theorem sc_Large___init__ : FnScope [("self" : Str), ("count" : Str)] [("self" : Str), ("count" : Str)] (defScope st_Large___init__) := ⟨rfl, rfl, rfl, by decide +kernel, rfl, by decide +kernel, by decide +kernel⟩
theorem ok_Large___init__ (T : Fx K mg) {fd : FuncData} (F : FunD K "__init__" ("Large.__init__" : Str) (defArgs st_Large___init__) (defBody st_Large___init__) (defScope st_Large___init__) [] [] (He.ma K (He.ga K ("Large" : Str)) "__init__") fd) : ExOk P w K mg base 1 ("Large" : Str) [("count" : Str)] :=
  ⟨T.g_Large, T.oex_Large.1, fd, [("self" : Str), ("count" : Str)], T.fnt_Large.1, T.fnt_Large.2, exc_init1 F sc_Large___init__ T.oex_Large.1 T.oex_Large.2, F.bindsN fun _ _ _ _ _ _ us hl => match us, hl with | [_, _], _ => rfl⟩
/-! NoRow -/
theorem sc_NoRow___init__ : FnScope [("self" : Str), ("index" : Str), ("why" : Str)] [("self" : Str), ("index" : Str), ("why" : Str)] (defScope st_NoRow___init__) := ⟨rfl, rfl, rfl, by decide +kernel, rfl, by decide +kernel, by decide +kernel⟩
theorem ok_NoRow___init__ (T : Fx K mg) {fd : FuncData} (F : FunD K "__init__" ("NoRow.__init__" : Str) (defArgs st_NoRow___init__) (defBody st_NoRow___init__) (defScope st_NoRow___init__) [] [] (He.ma K (He.ga K ("NoRow" : Str)) "__init__") fd) : ExOk P w K mg base 1 ("NoRow" : Str) [("index" : Str), ("why" : Str)] :=
  ⟨T.g_NoRow, T.oex_NoRow.1, fd, [("self" : Str), ("index" : Str), ("why" : Str)], T.fnt_NoRow.1, T.fnt_NoRow.2, exc_init2 F sc_NoRow___init__ T.oex_NoRow.1 T.oex_NoRow.2.1 T.oex_NoRow.2.2, F.bindsN fun _ _ _ _ _ _ us hl => match us, hl with | [_, _, _], _ => rfl⟩
/-! NoDeed -/
theorem sc_NoDeed___init__ : FnScope [("self" : Str), ("why" : Str)] [("self" : Str), ("why" : Str)] (defScope st_NoDeed___init__) := ⟨rfl, rfl, rfl, by decide +kernel, rfl, by decide +kernel, by decide +kernel⟩
theorem ok_NoDeed___init__ (T : Fx K mg) {fd : FuncData} (F : FunD K "__init__" ("NoDeed.__init__" : Str) (defArgs st_NoDeed___init__) (defBody st_NoDeed___init__) (defScope st_NoDeed___init__) [] [] (He.ma K (He.ga K ("NoDeed" : Str)) "__init__") fd) : ExOk P w K mg base 1 ("NoDeed" : Str) [("why" : Str)] :=
  ⟨T.g_NoDeed, T.oex_NoDeed.1, fd, [("self" : Str), ("why" : Str)], T.fnt_NoDeed.1, T.fnt_NoDeed.2, exc_init1 F sc_NoDeed___init__ T.oex_NoDeed.1 T.oex_NoDeed.2, F.bindsN fun _ _ _ _ _ _ us hl => match us, hl with | [_, _], _ => rfl⟩
/-! NoOwner -/
theorem sc_NoOwner___init__ : FnScope [("self" : Str), ("owner" : Str)] [("self" : Str), ("owner" : Str)] (defScope st_NoOwner___init__) := ⟨rfl, rfl, rfl, by decide +kernel, rfl, by decide +kernel, by decide +kernel⟩
theorem ok_NoOwner___init__ (T : Fx K mg) {fd : FuncData} (F : FunD K "__init__" ("NoOwner.__init__" : Str) (defArgs st_NoOwner___init__) (defBody st_NoOwner___init__) (defScope st_NoOwner___init__) [] [] (He.ma K (He.ga K ("NoOwner" : Str)) "__init__") fd) : ExOk P w K mg base 1 ("NoOwner" : Str) [("owner" : Str)] :=
  ⟨T.g_NoOwner, T.oex_NoOwner.1, fd, [("self" : Str), ("owner" : Str)], T.fnt_NoOwner.1, T.fnt_NoOwner.2, exc_init1 F sc_NoOwner___init__ T.oex_NoOwner.1 T.oex_NoOwner.2, F.bindsN fun _ _ _ _ _ _ us hl => match us, hl with | [_, _], _ => rfl⟩
/-! BadText -/
theorem sc_BadText___init__ : FnScope [("self" : Str), ("place" : Str)] [("self" : Str), ("place" : Str)] (defScope st_BadText___init__) := ⟨rfl, rfl, rfl, by decide +kernel, rfl, by decide +kernel, by decide +kernel⟩
theorem ok_BadText___init__ (T : Fx K mg) {fd : FuncData} (F : FunD K "__init__" ("BadText.__init__" : Str) (defArgs st_BadText___init__) (defBody st_BadText___init__) (defScope st_BadText___init__) [] [] (He.ma K (He.ga K ("BadText" : Str)) "__init__") fd) : ExOk P w K mg base 1 ("BadText" : Str) [("place" : Str)] :=
  ⟨T.g_BadText, T.oex_BadText.1, fd, [("self" : Str), ("place" : Str)], T.fnt_BadText.1, T.fnt_BadText.2, exc_init1 F sc_BadText___init__ T.oex_BadText.1 T.oex_BadText.2, F.bindsN fun _ _ _ _ _ _ us hl => match us, hl with | [_, _], _ => rfl⟩
/-! NoNode -/
theorem sc_NoNode___init__ : FnScope [("self" : Str), ("node" : Str)] [("self" : Str), ("node" : Str)] (defScope st_NoNode___init__) := ⟨rfl, rfl, rfl, by decide +kernel, rfl, by decide +kernel, by decide +kernel⟩
theorem ok_NoNode___init__ (T : Fx K mg) {fd : FuncData} (F : FunD K "__init__" ("NoNode.__init__" : Str) (defArgs st_NoNode___init__) (defBody st_NoNode___init__) (defScope st_NoNode___init__) [] [] (He.ma K (He.ga K ("NoNode" : Str)) "__init__") fd) : ExOk P w K mg base 1 ("NoNode" : Str) [("node" : Str)] :=
  ⟨T.g_NoNode, T.oex_NoNode.1, fd, [("self" : Str), ("node" : Str)], T.fnt_NoNode.1, T.fnt_NoNode.2, exc_init1 F sc_NoNode___init__ T.oex_NoNode.1 T.oex_NoNode.2, F.bindsN fun _ _ _ _ _ _ us hl => match us, hl with | [_, _], _ => rfl⟩
/-! NoTree -/
theorem sc_NoTree___init__ : FnScope [("self" : Str), ("why" : Str), ("node" : Str)] [("self" : Str), ("why" : Str), ("node" : Str)] (defScope st_NoTree___init__) := ⟨rfl, rfl, rfl, by decide +kernel, rfl, by decide +kernel, by decide +kernel⟩
theorem ok_NoTree___init__ (T : Fx K mg) {fd : FuncData} (F : FunD K "__init__" ("NoTree.__init__" : Str) (defArgs st_NoTree___init__) (defBody st_NoTree___init__) (defScope st_NoTree___init__) [] [] (He.ma K (He.ga K ("NoTree" : Str)) "__init__") fd) : ExOk P w K mg base 1 ("NoTree" : Str) [("why" : Str), ("node" : Str)] :=
  ⟨T.g_NoTree, T.oex_NoTree.1, fd, [("self" : Str), ("why" : Str), ("node" : Str)], T.fnt_NoTree.1, T.fnt_NoTree.2, exc_init2 F sc_NoTree___init__ T.oex_NoTree.1 T.oex_NoTree.2.1 T.oex_NoTree.2.2, F.bindsN fun _ _ _ _ _ _ us hl => match us, hl with | [_, _, _], _ => rfl⟩
/-! _law_digit -/
theorem sc__law_digit : FnScope [("_law_state_here" : Str), ("_law_base" : Str), ("_law_found" : Str), ("_law_mixed" : Str)] [("_law_state_here" : Str), ("_law_base" : Str)] (defScope st__law_digit) := ⟨rfl, rfl, rfl, by decide +kernel, rfl, by decide +kernel, by decide +kernel⟩
noncomputable def mb__law_digit : MS :=
  (mSeq (mIfS (mB (mOp (gtD) (mOp ixD (mVar 0) (mC (.int 0))) (mC (.int 0)))) (mSeq (mSet 2 (mOp modD (mCB intD (mCons (mOp ixD (mVar 0) (mC (.int 0))) mNil)) (mVar 1)))
    (mSeq (mSetI (mVar 0) (mC (.int 0)) (mOp fdivD (mOp ixD (mVar 0) (mC (.int 0))) (mVar 1)))
    (mRet (mVar 2)))) mSkip)
    (mSeq (mSet 3 (mOp mulD (mOp ixD (mVar 0) (mC (.int 1))) (mOp addD (mOp fdivD (mOp ixD (mVar 0) (mC (.int 1))) (mC (.int 1009))) (mC (.int 69621)))))
    (mSeq (mSetI (mVar 0) (mC (.int 1)) (mOp addD (mOp modD (mCB intD (mCons (mOp addD (mVar 3) (mOp ixD (mVar 0) (mC (.int 2)))) mNil)) (mC (.int 2147483629))) (mC (.int 7))))
    (mRet (mOp modD (mCB intD (mCons (mOp fdivD (mOp ixD (mVar 0) (mC (.int 1))) (mC (.int 97))) mNil)) (mVar 1))))))
noncomputable def m__law_digit : MF := mkFn 2 4 mb__law_digit
theorem ok__law_digit (T : Fx K mg)  {fd : FuncData} (F : FunD K ("_law_digit" : Str) ("_law_digit" : Str) (defArgs st__law_digit) (defBody st__law_digit) (defScope st__law_digit) [] [] (He.ga K ("_law_digit" : Str)) fd) : DefOk P w K mg base 1 ("_law_digit" : Str) m__law_digit := by
  have G : FnOk P w K mg base (L2.CX P w) 1 (He.ga K ("_law_digit" : Str)) fd [("_law_state_here" : Str), ("_law_base" : Str)] (spOf K m__law_digit) := fn_ok F sc__law_digit (fun cdv A outer s H E hr tk hp =>
    (dss_cons (ds_if (dt_cmp (os_gt) (de_ix (de_v 0) de_int) de_int) (dss_cons (ds_set (i := 2) sc__law_digit.nd rfl (Or.inl rfl) (de_op os_mod (de_callTy cs_int T.f_int (by decide +kernel) (da_cons (de_ix (de_v 0) de_int) da_nil)) (de_v 1)))
    (dss_cons (ds_setI (de_v 0) de_int (de_op os_fdiv (de_ix (de_v 0) de_int) (de_v 1)))
    (dss_one (ds_ret (de_v 2))))) dss_nil)
    (dss_cons (ds_set (i := 3) sc__law_digit.nd rfl (Or.inl rfl) (de_op os_mul (de_ix (de_v 0) de_int) (de_op os_add (de_op os_fdiv (de_ix (de_v 0) de_int) de_int) de_int)))
    (dss_cons (ds_setI (de_v 0) de_int (de_op os_add (de_op os_mod (de_callTy cs_int T.f_int (by decide +kernel) (da_cons (de_op os_add (de_v 3) (de_ix (de_v 0) de_int)) da_nil)) de_int) de_int))
    (dss_one (ds_ret (de_op os_mod (de_callTy cs_int T.f_int (by decide +kernel) (da_cons (de_op os_fdiv (de_ix (de_v 0) de_int) de_int) da_nil)) (de_v 1))))))))
  exact ⟨T.g__law_digit, F.kp, fd, [("_law_state_here" : Str), ("_law_base" : Str)], G, F.bindsN fun _ _ _ _ _ _ us hl => match us, hl with | [_, _], _ => rfl⟩
/-! _law_state -/
theorem sc__law_state : FnScope [("_law_source" : Str)] [("_law_source" : Str)] (defScope st__law_state) := ⟨rfl, rfl, rfl, by decide +kernel, rfl, by decide +kernel, by decide +kernel⟩
noncomputable def mb__law_state : MS :=
  (mSeq (mSet 0 (mCB absD (mCons (mVar 0) mNil)))
    (mRet (mLstC (mCons (mOp mulD (mVar 0) (mCB intD (mCons (mOp (geD) (mVar 0) (mOp powD (mC (.int 10)) (mC (.int 18)))) mNil))) (mCons (mOp addD (mOp modD (mCB intD (mCons (mVar 0) mNil)) (mC (.int 2147483629))) (mC (.int 7))) (mCons (mOp modD (mCB intD (mCons (mVar 0) mNil)) (mC (.int 2147483587))) mNil))))))
noncomputable def m__law_state : MF := mkFn 1 1 mb__law_state
theorem ok__law_state (T : Fx K mg)  {fd : FuncData} (F : FunD K ("_law_state" : Str) ("_law_state" : Str) (defArgs st__law_state) (defBody st__law_state) (defScope st__law_state) [] [] (He.ga K ("_law_state" : Str)) fd) : DefOk P w K mg base 1 ("_law_state" : Str) m__law_state := by
  have G : FnOk P w K mg base (L2.CX P w) 1 (He.ga K ("_law_state" : Str)) fd [("_law_source" : Str)] (spOf K m__law_state) := fn_ok F sc__law_state (fun cdv A outer s H E hr tk hp =>
    (dss_cons (ds_set (i := 0) sc__law_state.nd rfl (Or.inl rfl) (de_callB (cs_abs) T.f_abs PyProof.Rows.boot_abs (da_cons (de_v 0) da_nil)))
    (dss_one (ds_ret (de_lstC (da_cons (de_op os_mul (de_v 0) (de_callTy cs_int T.f_int (by decide +kernel) (da_cons (de_cmp (os_ge) (de_v 0) (de_op os_pow de_int de_int)) da_nil))) (da_cons (de_op os_add (de_op os_mod (de_callTy cs_int T.f_int (by decide +kernel) (da_cons (de_v 0) da_nil)) de_int) de_int) (da_cons (de_op os_mod (de_callTy cs_int T.f_int (by decide +kernel) (da_cons (de_v 0) da_nil)) de_int) da_nil))))))))
  exact ⟨T.g__law_state, F.kp, fd, [("_law_source" : Str)], G, F.bindsN fun _ _ _ _ _ _ us hl => match us, hl with | [_], _ => rfl⟩
/-! law -/
theorem sc_law : FnScope [("_law_script" : Str), ("_law_cell" : Str), ("_law_s" : Str), ("_law_x" : Str), ("_law_y" : Str), ("_law_errors" : Str), ("_law_fields_here" : Str), ("_law_words" : Str), ("_law_at" : Str), ("_law_error" : Str), ("_law_k" : Str)] [("_law_script" : Str)] (defScope st_law) := ⟨rfl, rfl, rfl, by decide +kernel, rfl, by decide +kernel, by decide +kernel⟩
noncomputable def law_e0 : ME :=
  (mOp (eqO EQ) (mVar 10) (mVar 8))
noncomputable def law_b1 : MS :=
  (mSeq (mIfS (mOrT (mB (mOp (neO EQ) (mMethX0 ("told" : Str) [(("WalkError" : Str), m_WalkError_told), (("NoTree" : Str), m_NoTree_told), (("NoNode" : Str), m_NoNode_told), (("BadText" : Str), m_BadText_told), (("NoPath" : Str), m_NoPath_told), (("NoOwner" : Str), m_NoOwner_told), (("NoDeed" : Str), m_NoDeed_told), (("NoRow" : Str), m_NoRow_told), (("NoWeaving" : Str), m_NoWeaving_told), (("Large" : Str), m_Large_told), (("Busy" : Str), m_Busy_told), (("Idle" : Str), m_Idle_told), (("Forbidden" : Str), m_Forbidden_told), (("NoBack" : Str), m_NoBack_told)] (mVar 9)) (mOp addD (mC (.str ("refused " : Str))) (mOp ixD (mVar 7) (mVar 8))))) (mB (mOp (neO EQ) (mCall m__law_fields (mCons (mVar 9) mNil)) (mOp ixD (mVar 6) (mVar 8))))) (mRet (mC (.bl false))) mSkip)
    (mSeq (mIfS (mOrT (mNotT (mB (mIsXe [(("WalkError" : Str), true), (("NoTree" : Str), true), (("NoNode" : Str), true), (("BadText" : Str), true), (("NoPath" : Str), true), (("NoOwner" : Str), true), (("NoDeed" : Str), true), (("NoRow" : Str), true), (("NoWeaving" : Str), true), (("Large" : Str), true), (("Busy" : Str), true), (("Idle" : Str), true), (("Forbidden" : Str), true), (("NoBack" : Str), true)] (mVar 9)))) (mNotT (mB (mIsXe [(("WalkError" : Str), true), (("NoTree" : Str), true), (("NoNode" : Str), true), (("BadText" : Str), true), (("NoPath" : Str), true), (("NoOwner" : Str), true), (("NoDeed" : Str), true), (("NoRow" : Str), true), (("NoWeaving" : Str), true), (("Large" : Str), true), (("Busy" : Str), true), (("Idle" : Str), true), (("Forbidden" : Str), true), (("NoBack" : Str), true)] (mVar 9))))) (mRet (mC (.bl false))) mSkip)
    (mIfS (mB (mOp (neO EQ) (mCall m__law_classes (mCons (mVar 9) mNil)) (mLc (fun δ c => ((mCons (mCB lenD (mCons (mVar 5) mNil)) mNil) δ c).bind rng1) (gN 10) (fun _ c => .ok true c) law_e0 [10]))) (mRet (mC (.bl false))) mSkip)))
noncomputable def ls_8 : MS :=
  (mFor (mEnum (mCons (mVar 5) mNil)) (gT 2 (gsCons (gN 8) (gsCons (gN 9) gsNil))) law_b1)
noncomputable def ls_7 : MS :=
  (mSet 7 (mOp addD (mVar 7) (mLst (mCons (mC (.str ("idle" : Str))) (mCons (mC (.str ("forbidden" : Str))) (mCons (mC (.str ("noback" : Str))) mNil))))))
noncomputable def ls_6 : MS :=
  (mSet 7 (mLst (mCons (mC (.str ("notree" : Str))) (mCons (mC (.str ("nonode" : Str))) (mCons (mC (.str ("badtext" : Str))) (mCons (mC (.str ("nopath" : Str))) (mCons (mC (.str ("noowner" : Str))) (mCons (mC (.str ("nodeed" : Str))) (mCons (mC (.str ("norow" : Str))) (mCons (mC (.str ("noweaving" : Str))) (mCons (mC (.str ("large" : Str))) (mCons (mC (.str ("busy" : Str))) mNil))))))))))))
noncomputable def ls_5 : MS :=
  (mSet 6 (mLst (mCons (mLst (mCons (mVar 3) (mCons (mVar 4) mNil))) (mCons (mLst (mCons (mVar 4) mNil)) (mCons (mLst (mCons (mVar 3) mNil)) (mCons (mLst mNil) (mCons (mLst (mCons (mVar 4) mNil)) (mCons (mLst (mCons (mVar 4) mNil)) (mCons (mLst (mCons (mVar 3) (mCons (mVar 4) mNil))) (mCons (mLst mNil) (mCons (mLst (mCons (mVar 3) mNil)) (mCons (mLst mNil) (mCons (mLst mNil) (mCons (mLst mNil) (mCons (mLst mNil) mNil)))))))))))))))
noncomputable def ls_4 : MS :=
  (mSet 5 (mOp addD (mVar 5) (mLst (mCons (mMkE ("Large" : Str) [("count" : Str)] (mCons (mVar 3) mNil)) (mCons (mErr0 ("Busy" : Str)) (mCons (mErr0 ("Idle" : Str)) (mCons (mErr0 ("Forbidden" : Str)) (mCons (mErr0 ("NoBack" : Str)) mNil))))))))
noncomputable def ls_3 : MS :=
  (mSet 5 (mLst (mCons (mMkE ("NoTree" : Str) [("why" : Str), ("node" : Str)] (mCons (mVar 3) (mCons (mVar 4) mNil))) (mCons (mMkE ("NoNode" : Str) [("node" : Str)] (mCons (mVar 4) mNil)) (mCons (mMkE ("BadText" : Str) [("place" : Str)] (mCons (mVar 3) mNil)) (mCons (mErr0 ("NoPath" : Str)) (mCons (mMkE ("NoOwner" : Str) [("owner" : Str)] (mCons (mVar 4) mNil)) (mCons (mMkE ("NoDeed" : Str) [("why" : Str)] (mCons (mVar 4) mNil)) (mCons (mMkE ("NoRow" : Str) [("index" : Str), ("why" : Str)] (mCons (mVar 3) (mCons (mVar 4) mNil))) (mCons (mErr0 ("NoWeaving" : Str)) mNil))))))))))
noncomputable def lsd_2 (D0_ : ME) : MS :=
  (mSet 4 (mOp ixD (mLst (mCons (mC (.str ("none" : Str))) (mCons (mC .non) (mCons (mOp subD (mVar 3) (mC (.int 50))) (mCons (mLst (mCons (mVar 3) mNil)) mNil))))) D0_))
noncomputable def ls_2 : MS := lsd_2 (mCall m__law_digit (mCons (mVar 2) (mCons (mC (.int 4)) mNil)))
noncomputable def lsd_1 (D0_ : ME) : MS :=
  (mSet 3 D0_)
noncomputable def ls_1 : MS := lsd_1 (mCall m__law_digit (mCons (mVar 2) (mCons (mC (.int 100)) mNil)))
noncomputable def ls_0 : MS :=
  (mSet 2 (mCall m__law_state (mCons (mVar 1) mNil)))
noncomputable def lw_0 : MS := mScope [0, 1] [0] (mSeq ls_0 (mSeq ls_1 (mSeq ls_2 (mSeq ls_3 (mSeq ls_4 (mSeq ls_5 (mSeq ls_6 (mSeq ls_7 ls_8))))))))
noncomputable def mb_law : MS :=
  (mSeq (mFor (fun δ c => ((mSl lstD (mOp addD (mVar 0) (mLst (mCons (mC (.int 0)) mNil))) (fun _ c => .ok none c) (fun δ c => ((mC (.int 3)) δ c).bind asI)) δ c).bind seqAny) (gN 1) lw_0)
    (mRet (mC (.bl true))))
noncomputable def m_law : MF := mkFn 1 11 mb_law
theorem ok_law (T : Fx K mg) (h__law_classes : DefOk P w K mg base 1 ("_law_classes" : Str) m__law_classes) (hE : EqAll P w K mg base 2 EQ) (h__law_fields : DefOk P w K mg base 1 ("_law_fields" : Str) m__law_fields) (ht_NoBack_told : XMtOk P w K mg base 1 ("told" : Str) ("NoBack" : Str) m_NoBack_told) (ht_Forbidden_told : XMtOk P w K mg base 1 ("told" : Str) ("Forbidden" : Str) m_Forbidden_told) (ht_Idle_told : XMtOk P w K mg base 1 ("told" : Str) ("Idle" : Str) m_Idle_told) (ht_Busy_told : XMtOk P w K mg base 1 ("told" : Str) ("Busy" : Str) m_Busy_told) (ht_Large_told : XMtOk P w K mg base 1 ("told" : Str) ("Large" : Str) m_Large_told) (ht_NoWeaving_told : XMtOk P w K mg base 1 ("told" : Str) ("NoWeaving" : Str) m_NoWeaving_told) (ht_NoRow_told : XMtOk P w K mg base 1 ("told" : Str) ("NoRow" : Str) m_NoRow_told) (ht_NoDeed_told : XMtOk P w K mg base 1 ("told" : Str) ("NoDeed" : Str) m_NoDeed_told) (ht_NoOwner_told : XMtOk P w K mg base 1 ("told" : Str) ("NoOwner" : Str) m_NoOwner_told) (ht_NoPath_told : XMtOk P w K mg base 1 ("told" : Str) ("NoPath" : Str) m_NoPath_told) (ht_BadText_told : XMtOk P w K mg base 1 ("told" : Str) ("BadText" : Str) m_BadText_told) (ht_NoNode_told : XMtOk P w K mg base 1 ("told" : Str) ("NoNode" : Str) m_NoNode_told) (ht_NoTree_told : XMtOk P w K mg base 1 ("told" : Str) ("NoTree" : Str) m_NoTree_told) (ht_WalkError_told : XMtOk P w K mg base 1 ("told" : Str) ("WalkError" : Str) m_WalkError_told) (hx_Large : ExOk P w K mg base 1 ("Large" : Str) [("count" : Str)]) (hx_NoRow : ExOk P w K mg base 1 ("NoRow" : Str) [("index" : Str), ("why" : Str)]) (hx_NoDeed : ExOk P w K mg base 1 ("NoDeed" : Str) [("why" : Str)]) (hx_NoOwner : ExOk P w K mg base 1 ("NoOwner" : Str) [("owner" : Str)]) (hx_BadText : ExOk P w K mg base 1 ("BadText" : Str) [("place" : Str)]) (hx_NoNode : ExOk P w K mg base 1 ("NoNode" : Str) [("node" : Str)]) (hx_NoTree : ExOk P w K mg base 1 ("NoTree" : Str) [("why" : Str), ("node" : Str)]) (h__law_digit : DefOk P w K mg base 1 ("_law_digit" : Str) m__law_digit) (h__law_state : DefOk P w K mg base 1 ("_law_state" : Str) m__law_state) {fd : FuncData} (F : FunD K ("law" : Str) ("law" : Str) (defArgs st_law) (defBody st_law) (defScope st_law) [] [] (He.ga K ("law" : Str)) fd) : FnOk P w K mg base (L2.CX P w) 3 (He.ga K ("law" : Str)) fd [("_law_script" : Str)] (spOf K m_law) :=
  fn_ok F sc_law (fun cdv A outer s H E hr tk hp =>
    (dss_cons (ds_for hp rfl (di_any (de_sl newL (de_op os_add (de_v 0) (de_lst (da_cons de_int da_nil))) do_none (do_some de_int))) (dg_name (i := 1) sc_law.nd rfl (Or.inl rfl)) (dss_scope [0, 1] [0] (dss_cons (ds_set (i := 2) sc_law.nd rfl (Or.inl rfl) (dd_call h__law_state (hr.mono (show 1 ≤ _ by first | decide | omega)) tk (da_cons (de_v 1) da_nil)))
    (dss_cons (ds_set (i := 3) sc_law.nd rfl (Or.inl rfl) (dd_call h__law_digit (hr.mono (show 1 ≤ _ by first | decide | omega)) tk (da_cons (de_v 2) (da_cons de_int da_nil))))
    (dss_cons (ds_set (i := 4) sc_law.nd rfl (Or.inl rfl) (de_ix (de_lst (da_cons de_str (da_cons de_non (da_cons (de_op os_sub (de_v 3) de_int) (da_cons (de_lst (da_cons (de_v 3) da_nil)) da_nil))))) (dd_call h__law_digit (hr.mono (show 1 ≤ _ by first | decide | omega)) tk (da_cons (de_v 2) (da_cons de_int da_nil)))))
    (dss_cons (ds_set (i := 5) sc_law.nd rfl (Or.inl rfl) (de_lst (da_cons (dd_mkE hx_NoTree (hr.mono (show 2 ≤ _ by first | decide | omega)) (da_cons (de_v 3) (da_cons (de_v 4) da_nil))) (da_cons (dd_mkE hx_NoNode (hr.mono (show 2 ≤ _ by first | decide | omega)) (da_cons (de_v 4) da_nil)) (da_cons (dd_mkE hx_BadText (hr.mono (show 2 ≤ _ by first | decide | omega)) (da_cons (de_v 3) da_nil)) (da_cons (de_mkE0 T.x0_NoPath) (da_cons (dd_mkE hx_NoOwner (hr.mono (show 2 ≤ _ by first | decide | omega)) (da_cons (de_v 4) da_nil)) (da_cons (dd_mkE hx_NoDeed (hr.mono (show 2 ≤ _ by first | decide | omega)) (da_cons (de_v 4) da_nil)) (da_cons (dd_mkE hx_NoRow (hr.mono (show 2 ≤ _ by first | decide | omega)) (da_cons (de_v 3) (da_cons (de_v 4) da_nil))) (da_cons (de_mkE0 T.x0_NoWeaving) da_nil))))))))))
    (dss_cons (ds_set (i := 5) sc_law.nd rfl (Or.inl rfl) (de_op os_add (de_v 5) (de_lst (da_cons (dd_mkE hx_Large (hr.mono (show 2 ≤ _ by first | decide | omega)) (da_cons (de_v 3) da_nil)) (da_cons (de_mkE0 T.x0_Busy) (da_cons (de_mkE0 T.x0_Idle) (da_cons (de_mkE0 T.x0_Forbidden) (da_cons (de_mkE0 T.x0_NoBack) da_nil))))))))
    (dss_cons (ds_set (i := 6) sc_law.nd rfl (Or.inl rfl) (de_lst (da_cons (de_lst (da_cons (de_v 3) (da_cons (de_v 4) da_nil))) (da_cons (de_lst (da_cons (de_v 4) da_nil)) (da_cons (de_lst (da_cons (de_v 3) da_nil)) (da_cons (de_lst da_nil) (da_cons (de_lst (da_cons (de_v 4) da_nil)) (da_cons (de_lst (da_cons (de_v 4) da_nil)) (da_cons (de_lst (da_cons (de_v 3) (da_cons (de_v 4) da_nil))) (da_cons (de_lst da_nil) (da_cons (de_lst (da_cons (de_v 3) da_nil)) (da_cons (de_lst da_nil) (da_cons (de_lst da_nil) (da_cons (de_lst da_nil) (da_cons (de_lst da_nil) da_nil)))))))))))))))
    (dss_cons (ds_set (i := 7) sc_law.nd rfl (Or.inl rfl) (de_lst (da_cons de_str (da_cons de_str (da_cons de_str (da_cons de_str (da_cons de_str (da_cons de_str (da_cons de_str (da_cons de_str (da_cons de_str (da_cons de_str da_nil))))))))))))
    (dss_cons (ds_set (i := 7) sc_law.nd rfl (Or.inl rfl) (de_op os_add (de_v 7) (de_lst (da_cons de_str (da_cons de_str (da_cons de_str da_nil))))))
    (dss_one (ds_for hp rfl (di_enum T.f_enumerate (da_cons (de_v 5) da_nil)) (dg_tup rfl (dgs_cons (dg_name (i := 8) sc_law.nd rfl (Or.inr rfl)) (dgs_cons (dg_name (i := 9) sc_law.nd rfl (Or.inl rfl)) dgs_nil))) (dss_cons (ds_if (DW.dt (dw_or (dt_cmp (os_ne (hE _ rfl rfl rfl rfl rfl) (hr.mono (show 2 ≤ _ by first | decide | omega))) (de_methX0 (de_v 9) (xdisp_cons ht_WalkError_told (xdisp_cons ht_NoTree_told (xdisp_cons ht_NoNode_told (xdisp_cons ht_BadText_told (xdisp_cons ht_NoPath_told (xdisp_cons ht_NoOwner_told (xdisp_cons ht_NoDeed_told (xdisp_cons ht_NoRow_told (xdisp_cons ht_NoWeaving_told (xdisp_cons ht_Large_told (xdisp_cons ht_Busy_told (xdisp_cons ht_Idle_told (xdisp_cons ht_Forbidden_told (xdisp_cons ht_NoBack_told .nil)))))))))))))) (hr.mono (show 1 ≤ _ by first | decide | omega)) tk) (de_op os_add de_str (de_ix (de_v 7) (de_v 8)))) (dw_or1 (dt_cmp (os_ne (hE _ rfl rfl rfl rfl rfl) (hr.mono (show 2 ≤ _ by first | decide | omega))) (dd_call h__law_fields (hr.mono (show 1 ≤ _ by first | decide | omega)) tk (da_cons (de_v 9) da_nil)) (de_ix (de_v 6) (de_v 8)))))) (dss_one (ds_ret de_bl)) dss_nil)
    (dss_cons (ds_if (DW.dt (dw_or (dt_not (dt_val (de_isXe T.xis_WalkError T.f_isinstance (de_v 9) (dc_gl T.g_WalkError)))) (dw_or1 (dt_not (dt_val (de_isXe T.xis_ValueError T.f_isinstance (de_v 9) (dc_ty T.f_ValueError (by decide +kernel)))))))) (dss_one (ds_ret de_bl)) dss_nil)
    (dss_one (ds_if (dt_cmp (os_ne (hE _ rfl rfl rfl rfl rfl) (hr.mono (show 2 ≤ _ by first | decide | omega))) (dd_call h__law_classes (hr.mono (show 1 ≤ _ by first | decide | omega)) tk (da_cons (de_v 9) da_nil)) (de_lc (own := [(("_law_k" : Str), 10)]) rfl sc_law.nd (di_range1 T.f_range (da_cons (de_callB (cs_len) T.f_len PySem.boot_len (da_cons (de_v 5) da_nil)) da_nil)) (by kernel_rfl) rfl (fun _ _ _ _ _ => (dg_name (i := 10) sc_law.nd rfl (Or.inl rfl))) (fun _ _ _ _ _ => dts_nil) (fun _ _ _ _ _ => (de_cmp (os_eq (hE _ rfl rfl rfl rfl rfl) (hr.mono (show 2 ≤ _ by first | decide | omega))) (de_v 10) (de_v 8))))) (dss_one (ds_ret de_bl)) dss_nil))))))))))))))))
    (dss_one (ds_ret de_bl))))
end
end Law
end Nw

set_option Elab.async false
set_option linter.all false
set_option maxRecDepth 100000
set_option maxHeartbeats 1000000
namespace Nw
namespace Law
open PySem PySem.Spec
open PyProof.Rows hiding St
open L2
theorem zz0 : (0 : Nat) ≤ sizeLine := by decide
theorem zz1 : (1 : Nat) ≤ sizeLine := by decide
theorem zz2 : (2 : Nat) ≤ sizeLine := by decide
theorem zz3 : (3 : Nat) ≤ sizeLine := by decide
theorem zz4 : (4 : Nat) ≤ sizeLine := by decide
theorem zz5 : (5 : Nat) ≤ sizeLine := by decide
theorem zz6 : (6 : Nat) ≤ sizeLine := by decide
theorem zz8 : (8 : Nat) ≤ sizeLine := by decide
theorem zz10 : (10 : Nat) ≤ sizeLine := by decide
theorem zz13 : (13 : Nat) ≤ sizeLine := by decide
theorem zz16 : (16 : Nat) ≤ sizeLine := by decide
/-! cells that are forgotten -/
theorem mapM_self {f : D → Option D} : ∀ {l : List D}, (∀ d ∈ l, f d = some d) → l.mapM f = some l
  | [], _ => rfl
  | d :: r, h => by
    rw [List.mapM_cons, h d List.mem_cons_self, mapM_self fun x hx => h x (List.mem_cons_of_mem _ hx)]
    rfl
theorem frz_nc {c : Cells} {n f : Nat} {d : D} (h : nc n d = true) : frz c n (f + 1) d = some d := by
  unfold frz
  rw [if_pos h]
theorem get_last {c : Cells} {k : Cell} : (c ++ [k])[c.length]? = some k := by simp
theorem set_last {c : Cells} {k k' : Cell} : (c ++ [k]).set c.length k' = c ++ [k'] := by simp
theorem fin_ins {c : Cells} {cn : Str} {ns : List Str} {ds : List D} (h : ∀ d ∈ ds, nc c.length d = true) : fin c (c ++ [.ins cn ns ds]) (.cell c.length) = .ok (.obj cn ns ds) c := by
  have e : (c ++ [Cell.ins cn ns ds]).take c.length = c := List.take_left
  have k : nc c.length (.cell c.length) = false := by unfold nc; simp
  unfold fin
  rw [e, if_pos (Or.inr rfl)]
  have e2 : frz (c ++ [.ins cn ns ds]) c.length 30 (.cell c.length) = some (.obj cn ns ds) := by
    show (if nc c.length (.cell c.length) = true then _ else _) = _
    rw [k, if_neg (by decide)]
    dsimp only
    rw [get_last]
    dsimp only
    rw [mapM_self fun d hd => frz_nc (h d hd)]
    rfl
  rw [e2]
theorem nc_int {n : Nat} {i : Int} : nc n (.int i) = true := by unfold nc; rfl
theorem nc_str {n : Nat} {s : Str} : nc n (.str s) = true := by unfold nc; rfl
theorem nc_bl {n : Nat} {s : Bool} : nc n (.bl s) = true := by unfold nc; rfl
theorem ncL_of {n : Nat} : ∀ {l : List D}, (∀ d ∈ l, nc n d = true) → ncL n l = true
  | [], _ => by unfold ncL; rfl
  | d :: r, h => by unfold ncL; rw [h d List.mem_cons_self, ncL_of fun x hx => h x (List.mem_cons_of_mem _ hx)]; rfl
theorem nc_tup {n : Nat} {l : List D} (h : ∀ d ∈ l, nc n d = true) : nc n (.tup l) = true := by unfold nc; exact ncL_of h
theorem nc_lst {n : Nat} {l : List D} (h : ∀ d ∈ l, nc n d = true) : nc n (.lst l) = true := by unfold nc; exact ncL_of h
theorem nc_obj {n : Nat} {cn : Str} {ns : List Str} {l : List D} (h : ∀ d ∈ l, nc n d = true) : nc n (.obj cn ns l) = true := by unfold nc; exact ncL_of h
theorem seq_ct {a b : MS} {δ δ' : En} {c c' : Cells} (h : a δ c = .ct δ' c') : mSeq a b δ c = .ct δ' c' := by
  unfold mSeq
  rw [h]
/-! the law's digits -/
/-- a state stands in cell i -/
def StAt (c : Cells) (i : Nat) : Prop := ∃ a0 a1 a2 : Int, c[i]? = some (.lst [.int a0, .int a1, .int a2]) ∧ 0 ≤ a1 ∧ a1 < 2 ^ 32
theorem StAt.append {c c' : Cells} {i : Nat} (h : StAt c i) : StAt (c ++ c') i := by
  obtain ⟨a0, a1, a2, e, z⟩ := h
  exact ⟨a0, a1, a2, by rw [List.getElem?_append_left (List.getElem?_eq_some_iff.mp e).1]; exact e, z⟩
theorem StAt.set {c : Cells} {i j : Nat} {k : Cell} (h : StAt c i) (hij : j ≠ i) : StAt (c.set j k) i := by
  obtain ⟨a0, a1, a2, e, z⟩ := h
  exact ⟨a0, a1, a2, by rw [List.getElem?_set_ne hij]; exact e, z⟩
theorem StAt.lt {c : Cells} {i : Nat} (h : StAt c i) : i < c.length := by
  obtain ⟨a0, a1, a2, e, z⟩ := h
  exact (List.getElem?_eq_some_iff.mp e).1
theorem digit_ok {c : Cells} {i : Nat} {b : Int} (h : StAt c i) (hb : 0 < b) (hb2 : b < 1073741824) : ∃ (k : Int) (q : Cell), 0 ≤ k ∧ k < b ∧ m__law_digit [.cell i, .int b] c = .ok (.int k) (c.set i q) ∧ StAt (c.set i q) i := by
  obtain ⟨a0, a1, a2, e, z1, z2⟩ := h
  have hi := (List.getElem?_eq_some_iff.mp e).1
  have hm : CMul a1 (a1 / 1009 + 69621) := .inl ⟨by omega, by omega⟩
  have hd : CDiv a0 b := ⟨hb, hb2⟩
  have e' : c[i] = .lst [.int a0, .int a1, .int a2] := (List.getElem?_eq_some_iff.mp e).2
  unfold m__law_digit mb__law_digit
  by_cases h0 : 0 < a0
  · refine ⟨a0 % b, .lst [.int (a0 / b), .int a1, .int a2], Int.emod_nonneg _ (by omega), Int.emod_lt_of_pos _ hb, ?_, a0 / b, a1, a2, by simp [hi], z1, z2⟩
    simp [mkFn, mSeq, mIfS, mB, mOp, mVar, mC, mCB, mCons, mNil, mSet, mSetI, mRet, mSkip, Out.bind, Out.fl, gtD, asB, ixD, items, e, e', atI, intD, modD, fdivD, hb, hd, h0, setIGo, ixN, hi]
  · have h0' : ¬ (0 < a0) := h0
    obtain ⟨n1, en⟩ : ∃ n1 : Int, n1 = (a1 * (a1 / 1009 + 69621) + a2) % 2147483629 + 7 := ⟨_, rfl⟩
    have n2 : 7 ≤ n1 := by have := Int.emod_nonneg (a1 * (a1 / 1009 + 69621) + a2) (b := 2147483629) (by omega); omega
    have n3 : n1 < 2147483636 := by have := Int.emod_lt_of_pos (a1 * (a1 / 1009 + 69621) + a2) (b := 2147483629) (by omega); omega
    have hd7 : CDiv n1 97 := ⟨by omega, by omega⟩
    have hd9 : CDiv a1 1009 := ⟨by omega, by omega⟩
    refine ⟨n1 / 97 % b, .lst [.int a0, .int n1, .int a2], Int.emod_nonneg _ (by omega), Int.emod_lt_of_pos _ hb, ?_, a0, n1, a2, by simp [hi], by omega, by omega⟩
    subst en
    simp [mkFn, mSeq, mIfS, mB, mOp, mVar, mC, mCB, mCons, mNil, mSet, mSetI, mRet, mSkip, Out.bind, Out.fl, gtD, asB, ixD, items, e, e', atI, intD, modD, fdivD, mulD, addD, addG, hb, hm, hd9, hd7, h0, setIGo, ixN, hi]
theorem state_ok {c : Cells} {n : Int} : ∃ q : Cell, m__law_state [.int n] c = .ok (.cell c.length) (c ++ [q]) ∧ StAt (c ++ [q]) c.length := by
  obtain ⟨a, ha⟩ : ∃ a : Int, a = if n < 0 then -n else n := ⟨_, rfl⟩
  have hp : CPow 10 18 := ⟨by decide, by decide, by decide⟩
  have hm : ∀ k : Bool, CMul a (if k = true then 1 else 0) := fun k => .inr (by cases k <;> simp)
  have z : (10 : Int) ^ (18 : Int).toNat = 1000000000000000000 := by decide
  refine ⟨.lst [.int (a * (if decide ((1000000000000000000 : Int) ≤ a) = true then 1 else 0)), .int (a % 2147483629 + 7), .int (a % 2147483587)], ?_, _, _, _, List.getElem?_concat_length, ?_, ?_⟩
  · unfold m__law_state mb__law_state
    have h1 := hm (decide ((1000000000000000000 : Int) ≤ a))
    have hs : (3 : Nat) ≤ sizeLine := by decide
    subst ha
    simp only [mkFn, mSeq, mB, mOp, mVar, mC, mCB, mCons, mNil, mSet, mRet, mLstC, lstC, Out.bind, Out.fl, geD, intD, modD, powD, mulD, addD, addG, absD, List.length, List.map, List.replicate, List.append, List.set, List.getElem?_cons_zero, HAppend.hAppend, Append.append, if_pos hp, z, if_pos h1]
    simp [hs]
  · have := Int.emod_nonneg a (b := 2147483629) (by omega)
    omega
  · have := Int.emod_lt_of_pos a (b := 2147483629) (by omega)
    omega
/-! the end of a law whose outer loop's body is one block -/
theorem keepE_end {δ : En} {scr : D} {r : Nat} (h0 : δ[0]? = some (some scr)) (hl : δ.length = r + 2) (hs : nc 0 scr = true) : keepE 0 [0] δ = some scr :: none :: List.replicate r none := by
  apply List.ext_getElem?
  intro i
  unfold keepE
  rw [List.getElem?_mapIdx]
  cases i with
  | zero =>
    rw [h0]
    show some (if [0].contains 0 = true then keepD 0 (some scr) else none) = _
    simp [keepD, hs]
  | succ j =>
    rw [List.getElem?_cons_succ, ← List.replicate_succ, List.getElem?_replicate]
    by_cases hj : j < r + 1
    · rw [if_pos hj, List.getElem?_eq_getElem (by omega)]
      simp
    · rw [if_neg hj, List.getElem?_eq_none (by omega)]
      rfl
theorem only_end {scr : D} {n : Int} {r : Nat} : onlyE [0, 1] (some scr :: some (.int n) :: List.replicate r none) = some scr :: some (.int n) :: List.replicate r none := by
  apply List.ext_getElem?
  intro i
  unfold onlyE
  rw [List.getElem?_mapIdx]
  match i with
  | 0 => rfl
  | 1 => rfl
  | j + 2 =>
    rw [List.getElem?_cons_succ, List.getElem?_cons_succ, List.getElem?_replicate]
    by_cases hj : j < r
    · rw [if_pos hj]
      simp
    · rw [if_neg hj]
      rfl
theorem law_blk {m : MS} {k : Int} {r : Nat} (hm : ∀ (scr : D) (n : Int), (∀ j, nc j scr = true) → ∃ δ1 c1, (m (some scr :: some (.int n) :: List.replicate r none) [] = .nx δ1 c1 ∨ m (some scr :: some (.int n) :: List.replicate r none) [] = .ct δ1 c1) ∧ δ1[0]? = some (some scr) ∧ δ1.length = r + 2) :
    LawOk (mkFn 1 (r + 2) (mSeq (mFor (fun δ c => ((mSl lstD (mOp addD (mVar 0) (mLst (mCons (mC (.int 0)) mNil))) (fun _ c => .ok none c) (fun δ c => ((mC (.int k)) δ c).bind asI)) δ c).bind seqAny) (gN 1) (mScope [0, 1] [0] m)) (mRet (mC (.bl true))))) 63 := by
  refine law_for fun scr n hs => ⟨_, rfl, ?_⟩
  obtain ⟨δ1, c1, h1, h2, h3⟩ := hm scr n hs
  have hk := keepE_end h2 h3 (hs 0)
  unfold mScope
  rw [only_end]
  rcases h1 with h1 | h1
  · rw [h1]
    left
    show (if (c1.take 0).all (ncC 0) = true ∨ c1.take 0 = [] then Fl.nx (keepE 0 [0] δ1) (c1.take 0) else .bad) = _
    rw [List.take_zero, if_pos (.inr rfl), hk]
  · rw [h1]
    right
    show (if (c1.take 0).all (ncC 0) = true ∨ c1.take 0 = [] then Fl.ct (keepE 0 [0] δ1) (c1.take 0) else .bad) = _
    rw [List.take_zero, if_pos (.inr rfl), hk]
/-! the drawn numbers' cell -/
def StQ (q : Cell) : Prop := ∃ a0 a1 a2 : Int, q = .lst [.int a0, .int a1, .int a2] ∧ 0 ≤ a1 ∧ a1 < 2 ^ 32
theorem StQ.at {q : Cell} (h : StQ q) : StAt [q] 0 := by
  obtain ⟨a0, a1, a2, rfl, z⟩ := h
  exact ⟨a0, a1, a2, rfl, z⟩
theorem StQ.of {q : Cell} (h : StAt [q] 0) : StQ q := by
  obtain ⟨a0, a1, a2, e, z⟩ := h
  exact ⟨a0, a1, a2, Option.some.inj e, z⟩
theorem StQ.nc {q : Cell} (h : StQ q) {n : Nat} : ncC n q = true := by
  obtain ⟨a0, a1, a2, rfl, z⟩ := h
  show ncL n [.int a0, .int a1, .int a2] = true
  exact ncL_of fun d hd => by
    simp at hd
    rcases hd with rfl | rfl | rfl <;> exact nc_int
theorem StQ.all {q : Cell} (h : StQ q) {n : Nat} : [q].all (ncC n) = true := by
  show (ncC n q && true) = true
  rw [h.nc]
  rfl
theorem StAt.q {c : Cells} {i : Nat} {q : Cell} (h : StAt (c.set i q) i) : StQ q := by
  obtain ⟨a0, a1, a2, e, z⟩ := h
  have hi : i < c.length := by have := (List.getElem?_eq_some_iff.mp e).1; rwa [List.length_set] at this
  rw [List.getElem?_set_self hi] at e
  exact ⟨a0, a1, a2, Option.some.inj e, z⟩
/-- a number drawn -/
theorem dig {q : Cell} (h : StQ q) {b : Int} (hb : 0 < b) (hb2 : b < 1073741824) : ∃ (k : Nat) (q' : Cell), (k : Int) < b ∧ m__law_digit [.cell 0, .int b] [q] = .ok (.int (k : Nat)) [q'] ∧ StQ q' := by
  obtain ⟨k, q', k1, k2, k3, k4⟩ := digit_ok h.at hb hb2
  refine ⟨k.toNat, q', by omega, ?_, StQ.of k4⟩
  rw [show ((k.toNat : Nat) : Int) = k by omega]
  exact k3
/-- one of a list drawn -/
theorem loop_I {chk : Cells → Bool} {g : MG} {mb : MS} {Inv : Nat → En → Cells → Prop} (hck : ∀ j δ c, Inv j δ c → chk c = true) : ∀ {l : List D} {k : Nat} {δ : En} {c : Cells}, (∀ d ∈ l, ∀ j δ c, k ≤ j → j < k + l.length → Inv j δ c → ∃ δ1, g d δ = some δ1 ∧ ∃ δ2 c2, mb δ1 c = .nx δ2 c2 ∧ Inv (j + 1) δ2 c2) → Inv k δ c → ∃ δ' c', loopGo chk g mb l δ c = .nx δ' c' ∧ Inv (k + l.length) δ' c'
  | [], k, δ, c, _, hi => ⟨δ, c, by unfold loopGo; rw [if_pos (hck _ _ _ hi)], hi⟩
  | d :: l, k, δ, c, h, hi => by
    obtain ⟨δ1, h1, δ2, c2, h2, h3⟩ := h d List.mem_cons_self k δ c (Nat.le_refl _) (by rw [List.length_cons]; omega) hi
    obtain ⟨δ', c', h4, h5⟩ := loop_I (mb := mb) (g := g) hck (l := l) (k := k + 1) (fun e he j δ c h1 h2 hj => h e (List.mem_cons_of_mem _ he) j δ c (by omega) (by rw [List.length_cons]; omega) hj) h3
    refine ⟨δ', c', ?_, by rw [List.length_cons, show k + (l.length + 1) = k + 1 + l.length by omega]; exact h5⟩
    unfold loopGo
    rw [if_pos (hck _ _ _ hi), h1]
    dsimp only
    rw [h2]
    exact h4
/-! errors made, told, asked -/
theorem EQ_same {d : D} {c : Cells} (h : okp d 50 = true) : EQ d d c = .ok true c := by
  unfold EQ eqP
  rw [pyD_okp d 50 60 h (by decide)]
  dsimp only
  rw [if_pos ⟨shaped_okp h, shaped_okp h⟩, eqv_self h]
abbrev ERR (X Y : D) : List D := [.err ("NoTree" : Str) [("node" : Str), ("why" : Str)] [Y, X], .err ("NoNode" : Str) [("node" : Str)] [Y], .err ("BadText" : Str) [("place" : Str)] [X], .err ("NoPath" : Str) [] [], .err ("NoOwner" : Str) [("owner" : Str)] [Y], .err ("NoDeed" : Str) [("why" : Str)] [Y], .err ("NoRow" : Str) [("why" : Str), ("index" : Str)] [Y, X], .err ("NoWeaving" : Str) [] [], .err ("Large" : Str) [("count" : Str)] [X], .err ("Busy" : Str) [] [], .err ("Idle" : Str) [] [], .err ("Forbidden" : Str) [] [], .err ("NoBack" : Str) [] []]
abbrev FLD (X Y : D) : List D := [.lst [X, Y], .lst [Y], .lst [X], .lst [], .lst [Y], .lst [Y], .lst [X, Y], .lst [], .lst [X], .lst [], .lst [], .lst [], .lst []]
abbrev WRD : List D := [.str ("notree" : Str), .str ("nonode" : Str), .str ("badtext" : Str), .str ("nopath" : Str), .str ("noowner" : Str), .str ("nodeed" : Str), .str ("norow" : Str), .str ("noweaving" : Str), .str ("large" : Str), .str ("busy" : Str), .str ("idle" : Str), .str ("forbidden" : Str), .str ("noback" : Str)]
abbrev e01 (scr : D) (x1 x2 x3 x4 x5 x6 x7 x8 x9 x10 : Option D) : En := [some scr, x1, x2, x3, x4, x5, x6, x7, x8, x9, x10]
theorem ne_comb {a b : ME} {d : D} {δ : En} {C : Cells} (ha : a δ C = .ok d C) (hb : b δ C = .ok d C) (he : EQ d d C = .ok true C) : mB (mOp (neO EQ) a b) δ C = .ok false C := by
  unfold mB mOp
  simp only [ha, hb, Out.bind, neO, he, asB]
  try rfl
theorem b1_comb {A B : MT} {R : MS} {δ : En} {C : Cells} (hA : A δ C = .ok false C) (hB : B δ C = .ok false C) (hR : R δ C = .nx δ C) : mSeq (mIfS (mOrT A B) (mRet (mC (.bl false))) mSkip) R δ C = .nx δ C := by
  unfold mSeq mIfS mOrT mSkip
  simp only [hA, hB, Out.bind, Out.fl]
  exact hR
section
variable {scr Y : D} {x : Int} {x1 x2 x10 : Option D} {C : Cells}
theorem okXY (hY : okp Y 49 = true) : okp (.lst [.int x, Y]) 50 = true := by
  simp [okp, okpL, hY]
theorem okY (hY : okp Y 49 = true) : okp (.lst [Y]) 50 = true := by
  simp [okp, okpL, hY]
theorem okX : okp (.lst [.int x]) 50 = true := by
  unfold okp okpL okpL okp
  rfl
theorem okN : okp (.lst []) 50 = true := by
  unfold okp okpL
  rfl
theorem it_0 (hY : okp Y 49 = true) : law_b1 (e01 scr x1 x2 (some (.int x)) (some Y) (some (.lst (ERR (.int x) Y))) (some (.lst (FLD (.int x) Y))) (some (.lst WRD)) (some (.int 0)) (some (.err ("NoTree" : Str) [("node" : Str), ("why" : Str)] [Y, (.int x)])) x10) C = .nx (e01 scr x1 x2 (some (.int x)) (some Y) (some (.lst (ERR (.int x) Y))) (some (.lst (FLD (.int x) Y))) (some (.lst WRD)) (some (.int 0)) (some (.err ("NoTree" : Str) [("node" : Str), ("why" : Str)] [Y, (.int x)])) x10) C := by
  unfold law_b1
  refine b1_comb ?_ (ne_comb (d := .lst [(.int x), Y]) (by kernel_rfl) (by kernel_rfl) (EQ_same (okXY hY))) ?_
  · kernel_rfl
  · kernel_rfl
theorem it_1 (hY : okp Y 49 = true) : law_b1 (e01 scr x1 x2 (some (.int x)) (some Y) (some (.lst (ERR (.int x) Y))) (some (.lst (FLD (.int x) Y))) (some (.lst WRD)) (some (.int 1)) (some (.err ("NoNode" : Str) [("node" : Str)] [Y])) x10) C = .nx (e01 scr x1 x2 (some (.int x)) (some Y) (some (.lst (ERR (.int x) Y))) (some (.lst (FLD (.int x) Y))) (some (.lst WRD)) (some (.int 1)) (some (.err ("NoNode" : Str) [("node" : Str)] [Y])) x10) C := by
  unfold law_b1
  refine b1_comb ?_ (ne_comb (d := .lst [Y]) (by kernel_rfl) (by kernel_rfl) (EQ_same (okY hY))) ?_
  · kernel_rfl
  · kernel_rfl
theorem it_2 (hY : okp Y 49 = true) : law_b1 (e01 scr x1 x2 (some (.int x)) (some Y) (some (.lst (ERR (.int x) Y))) (some (.lst (FLD (.int x) Y))) (some (.lst WRD)) (some (.int 2)) (some (.err ("BadText" : Str) [("place" : Str)] [(.int x)])) x10) C = .nx (e01 scr x1 x2 (some (.int x)) (some Y) (some (.lst (ERR (.int x) Y))) (some (.lst (FLD (.int x) Y))) (some (.lst WRD)) (some (.int 2)) (some (.err ("BadText" : Str) [("place" : Str)] [(.int x)])) x10) C := by
  unfold law_b1
  refine b1_comb ?_ (ne_comb (d := .lst [(.int x)]) (by kernel_rfl) (by kernel_rfl) (EQ_same (okX))) ?_
  · kernel_rfl
  · kernel_rfl
theorem it_3 (hY : okp Y 49 = true) : law_b1 (e01 scr x1 x2 (some (.int x)) (some Y) (some (.lst (ERR (.int x) Y))) (some (.lst (FLD (.int x) Y))) (some (.lst WRD)) (some (.int 3)) (some (.err ("NoPath" : Str) [] [])) x10) C = .nx (e01 scr x1 x2 (some (.int x)) (some Y) (some (.lst (ERR (.int x) Y))) (some (.lst (FLD (.int x) Y))) (some (.lst WRD)) (some (.int 3)) (some (.err ("NoPath" : Str) [] [])) x10) C := by
  unfold law_b1
  refine b1_comb ?_ (ne_comb (d := .lst []) (by kernel_rfl) (by kernel_rfl) (EQ_same (okN))) ?_
  · kernel_rfl
  · kernel_rfl
theorem it_4 (hY : okp Y 49 = true) : law_b1 (e01 scr x1 x2 (some (.int x)) (some Y) (some (.lst (ERR (.int x) Y))) (some (.lst (FLD (.int x) Y))) (some (.lst WRD)) (some (.int 4)) (some (.err ("NoOwner" : Str) [("owner" : Str)] [Y])) x10) C = .nx (e01 scr x1 x2 (some (.int x)) (some Y) (some (.lst (ERR (.int x) Y))) (some (.lst (FLD (.int x) Y))) (some (.lst WRD)) (some (.int 4)) (some (.err ("NoOwner" : Str) [("owner" : Str)] [Y])) x10) C := by
  unfold law_b1
  refine b1_comb ?_ (ne_comb (d := .lst [Y]) (by kernel_rfl) (by kernel_rfl) (EQ_same (okY hY))) ?_
  · kernel_rfl
  · kernel_rfl
theorem it_5 (hY : okp Y 49 = true) : law_b1 (e01 scr x1 x2 (some (.int x)) (some Y) (some (.lst (ERR (.int x) Y))) (some (.lst (FLD (.int x) Y))) (some (.lst WRD)) (some (.int 5)) (some (.err ("NoDeed" : Str) [("why" : Str)] [Y])) x10) C = .nx (e01 scr x1 x2 (some (.int x)) (some Y) (some (.lst (ERR (.int x) Y))) (some (.lst (FLD (.int x) Y))) (some (.lst WRD)) (some (.int 5)) (some (.err ("NoDeed" : Str) [("why" : Str)] [Y])) x10) C := by
  unfold law_b1
  refine b1_comb ?_ (ne_comb (d := .lst [Y]) (by kernel_rfl) (by kernel_rfl) (EQ_same (okY hY))) ?_
  · kernel_rfl
  · kernel_rfl
theorem it_6 (hY : okp Y 49 = true) : law_b1 (e01 scr x1 x2 (some (.int x)) (some Y) (some (.lst (ERR (.int x) Y))) (some (.lst (FLD (.int x) Y))) (some (.lst WRD)) (some (.int 6)) (some (.err ("NoRow" : Str) [("why" : Str), ("index" : Str)] [Y, (.int x)])) x10) C = .nx (e01 scr x1 x2 (some (.int x)) (some Y) (some (.lst (ERR (.int x) Y))) (some (.lst (FLD (.int x) Y))) (some (.lst WRD)) (some (.int 6)) (some (.err ("NoRow" : Str) [("why" : Str), ("index" : Str)] [Y, (.int x)])) x10) C := by
  unfold law_b1
  refine b1_comb ?_ (ne_comb (d := .lst [(.int x), Y]) (by kernel_rfl) (by kernel_rfl) (EQ_same (okXY hY))) ?_
  · kernel_rfl
  · kernel_rfl
theorem it_7 (hY : okp Y 49 = true) : law_b1 (e01 scr x1 x2 (some (.int x)) (some Y) (some (.lst (ERR (.int x) Y))) (some (.lst (FLD (.int x) Y))) (some (.lst WRD)) (some (.int 7)) (some (.err ("NoWeaving" : Str) [] [])) x10) C = .nx (e01 scr x1 x2 (some (.int x)) (some Y) (some (.lst (ERR (.int x) Y))) (some (.lst (FLD (.int x) Y))) (some (.lst WRD)) (some (.int 7)) (some (.err ("NoWeaving" : Str) [] [])) x10) C := by
  unfold law_b1
  refine b1_comb ?_ (ne_comb (d := .lst []) (by kernel_rfl) (by kernel_rfl) (EQ_same (okN))) ?_
  · kernel_rfl
  · kernel_rfl
theorem it_8 (hY : okp Y 49 = true) : law_b1 (e01 scr x1 x2 (some (.int x)) (some Y) (some (.lst (ERR (.int x) Y))) (some (.lst (FLD (.int x) Y))) (some (.lst WRD)) (some (.int 8)) (some (.err ("Large" : Str) [("count" : Str)] [(.int x)])) x10) C = .nx (e01 scr x1 x2 (some (.int x)) (some Y) (some (.lst (ERR (.int x) Y))) (some (.lst (FLD (.int x) Y))) (some (.lst WRD)) (some (.int 8)) (some (.err ("Large" : Str) [("count" : Str)] [(.int x)])) x10) C := by
  unfold law_b1
  refine b1_comb ?_ (ne_comb (d := .lst [(.int x)]) (by kernel_rfl) (by kernel_rfl) (EQ_same (okX))) ?_
  · kernel_rfl
  · kernel_rfl
theorem it_9 (hY : okp Y 49 = true) : law_b1 (e01 scr x1 x2 (some (.int x)) (some Y) (some (.lst (ERR (.int x) Y))) (some (.lst (FLD (.int x) Y))) (some (.lst WRD)) (some (.int 9)) (some (.err ("Busy" : Str) [] [])) x10) C = .nx (e01 scr x1 x2 (some (.int x)) (some Y) (some (.lst (ERR (.int x) Y))) (some (.lst (FLD (.int x) Y))) (some (.lst WRD)) (some (.int 9)) (some (.err ("Busy" : Str) [] [])) x10) C := by
  unfold law_b1
  refine b1_comb ?_ (ne_comb (d := .lst []) (by kernel_rfl) (by kernel_rfl) (EQ_same (okN))) ?_
  · kernel_rfl
  · kernel_rfl
theorem it_10 (hY : okp Y 49 = true) : law_b1 (e01 scr x1 x2 (some (.int x)) (some Y) (some (.lst (ERR (.int x) Y))) (some (.lst (FLD (.int x) Y))) (some (.lst WRD)) (some (.int 10)) (some (.err ("Idle" : Str) [] [])) x10) C = .nx (e01 scr x1 x2 (some (.int x)) (some Y) (some (.lst (ERR (.int x) Y))) (some (.lst (FLD (.int x) Y))) (some (.lst WRD)) (some (.int 10)) (some (.err ("Idle" : Str) [] [])) x10) C := by
  unfold law_b1
  refine b1_comb ?_ (ne_comb (d := .lst []) (by kernel_rfl) (by kernel_rfl) (EQ_same (okN))) ?_
  · kernel_rfl
  · kernel_rfl
theorem it_11 (hY : okp Y 49 = true) : law_b1 (e01 scr x1 x2 (some (.int x)) (some Y) (some (.lst (ERR (.int x) Y))) (some (.lst (FLD (.int x) Y))) (some (.lst WRD)) (some (.int 11)) (some (.err ("Forbidden" : Str) [] [])) x10) C = .nx (e01 scr x1 x2 (some (.int x)) (some Y) (some (.lst (ERR (.int x) Y))) (some (.lst (FLD (.int x) Y))) (some (.lst WRD)) (some (.int 11)) (some (.err ("Forbidden" : Str) [] [])) x10) C := by
  unfold law_b1
  refine b1_comb ?_ (ne_comb (d := .lst []) (by kernel_rfl) (by kernel_rfl) (EQ_same (okN))) ?_
  · kernel_rfl
  · kernel_rfl
theorem it_12 (hY : okp Y 49 = true) : law_b1 (e01 scr x1 x2 (some (.int x)) (some Y) (some (.lst (ERR (.int x) Y))) (some (.lst (FLD (.int x) Y))) (some (.lst WRD)) (some (.int 12)) (some (.err ("NoBack" : Str) [] [])) x10) C = .nx (e01 scr x1 x2 (some (.int x)) (some Y) (some (.lst (ERR (.int x) Y))) (some (.lst (FLD (.int x) Y))) (some (.lst WRD)) (some (.int 12)) (some (.err ("NoBack" : Str) [] [])) x10) C := by
  unfold law_b1
  refine b1_comb ?_ (ne_comb (d := .lst []) (by kernel_rfl) (by kernel_rfl) (EQ_same (okN))) ?_
  · kernel_rfl
  · kernel_rfl
theorem all_right (hY : okp Y 49 = true) : ∃ y8 y9 y10, ls_8 (e01 scr x1 x2 (some (.int x)) (some Y) (some (.lst (ERR (.int x) Y))) (some (.lst (FLD (.int x) Y))) (some (.lst WRD)) none none none) C = .nx (e01 scr x1 x2 (some (.int x)) (some Y) (some (.lst (ERR (.int x) Y))) (some (.lst (FLD (.int x) Y))) (some (.lst WRD)) y8 y9 y10) C := by
  have el : enumL (ERR (.int x) Y) = [.tup [.int 0, .err ("NoTree" : Str) [("node" : Str), ("why" : Str)] [Y, (.int x)]], .tup [.int 1, .err ("NoNode" : Str) [("node" : Str)] [Y]], .tup [.int 2, .err ("BadText" : Str) [("place" : Str)] [(.int x)]], .tup [.int 3, .err ("NoPath" : Str) [] []], .tup [.int 4, .err ("NoOwner" : Str) [("owner" : Str)] [Y]], .tup [.int 5, .err ("NoDeed" : Str) [("why" : Str)] [Y]], .tup [.int 6, .err ("NoRow" : Str) [("why" : Str), ("index" : Str)] [Y, (.int x)]], .tup [.int 7, .err ("NoWeaving" : Str) [] []], .tup [.int 8, .err ("Large" : Str) [("count" : Str)] [(.int x)]], .tup [.int 9, .err ("Busy" : Str) [] []], .tup [.int 10, .err ("Idle" : Str) [] []], .tup [.int 11, .err ("Forbidden" : Str) [] []], .tup [.int 12, .err ("NoBack" : Str) [] []]] := rfl
  have lo := loop_I (chk := chkI (.lst (ERR (.int x) Y)) (ERR (.int x) Y)) (g := gT 2 (gsCons (gN 8) (gsCons (gN 9) gsNil))) (mb := law_b1) (Inv := fun _ δ c => ∃ y8 y9 y10, δ = (e01 scr x1 x2 (some (.int x)) (some Y) (some (.lst (ERR (.int x) Y))) (some (.lst (FLD (.int x) Y))) (some (.lst WRD)) y8 y9 y10) ∧ c = C) (fun _ _ _ _ => rfl) (l := enumL (ERR (.int x) Y)) (k := 0)
    (δ := (e01 scr x1 x2 (some (.int x)) (some Y) (some (.lst (ERR (.int x) Y))) (some (.lst (FLD (.int x) Y))) (some (.lst WRD)) none none none)) (c := C)
    (fun d hd j δ c _ _ hi => by
      obtain ⟨y8, y9, y10, rfl, hc⟩ := hi
      rw [hc]
      rw [el] at hd
      simp only [List.mem_cons, List.not_mem_nil, or_false] at hd
      rcases hd with rfl | rfl | rfl | rfl | rfl | rfl | rfl | rfl | rfl | rfl | rfl | rfl | rfl
      · exact ⟨_, rfl, _, _, it_0 hY, _, _, _, rfl, rfl⟩
      · exact ⟨_, rfl, _, _, it_1 hY, _, _, _, rfl, rfl⟩
      · exact ⟨_, rfl, _, _, it_2 hY, _, _, _, rfl, rfl⟩
      · exact ⟨_, rfl, _, _, it_3 hY, _, _, _, rfl, rfl⟩
      · exact ⟨_, rfl, _, _, it_4 hY, _, _, _, rfl, rfl⟩
      · exact ⟨_, rfl, _, _, it_5 hY, _, _, _, rfl, rfl⟩
      · exact ⟨_, rfl, _, _, it_6 hY, _, _, _, rfl, rfl⟩
      · exact ⟨_, rfl, _, _, it_7 hY, _, _, _, rfl, rfl⟩
      · exact ⟨_, rfl, _, _, it_8 hY, _, _, _, rfl, rfl⟩
      · exact ⟨_, rfl, _, _, it_9 hY, _, _, _, rfl, rfl⟩
      · exact ⟨_, rfl, _, _, it_10 hY, _, _, _, rfl, rfl⟩
      · exact ⟨_, rfl, _, _, it_11 hY, _, _, _, rfl, rfl⟩
      · exact ⟨_, rfl, _, _, it_12 hY, _, _, _, rfl, rfl⟩)
    ⟨_, _, _, rfl, rfl⟩
  obtain ⟨δ', c', hlp, y8, y9, y10, rfl, hc⟩ := lo
  rw [hc] at hlp
  refine ⟨y8, y9, y10, ?_⟩
  unfold ls_8 mFor
  have it : mEnum (mCons (mVar 5) mNil) (e01 scr x1 x2 (some (.int x)) (some Y) (some (.lst (ERR (.int x) Y))) (some (.lst (FLD (.int x) Y))) (some (.lst WRD)) none none none) C = .ok ⟨enumL (ERR (.int x) Y), chkI (.lst (ERR (.int x) Y)) (ERR (.int x) Y)⟩ C := rfl
  rw [it]
  exact hlp
end
def yD (x : Int) : Nat → D
  | 0 => .str ("none" : Str)
  | 1 => .non
  | 2 => .int (x - 50)
  | _ => .lst [.int x]
theorem yD_ok {x : Int} {k : Nat} : okp (yD x k) 49 = true := by
  unfold yD
  split
  · decide +kernel
  · rfl
  · rfl
  · unfold okp okpL okpL okp
    rfl
theorem k01_body {scr : D} {n : Int} : ∃ δ1 c1, (mSeq ls_0 (mSeq ls_1 (mSeq ls_2 (mSeq ls_3 (mSeq ls_4 (mSeq ls_5 (mSeq ls_6 (mSeq ls_7 ls_8)))))))) (e01 scr (some (.int n)) none none none none none none none none none) [] = .nx δ1 c1 ∧ δ1[0]? = some (some scr) ∧ δ1.length = 11 := by
  obtain ⟨q0, st, hq0⟩ := state_ok (c := []) (n := n)
  have hq0 : StQ q0 := StQ.of hq0
  have st : m__law_state [.int n] [] = .ok (.cell 0) [q0] := st
  obtain ⟨x, q1, hx, d1, hq1⟩ := dig hq0 (b := 100) (by decide) (by decide)
  obtain ⟨k, q2, hk, d2, hq2⟩ := dig hq1 (b := 4) (by decide) (by decide)
  obtain ⟨y8, y9, y10, s8⟩ := all_right (scr := scr) (Y := yD (x : Nat) k) (x := (x : Nat)) (x1 := some (.int n)) (x2 := some (.cell 0)) (C := [q2]) yD_ok
  have s0 : ls_0 (e01 scr (some (.int n)) none none none none none none none none none) [] = .nx (e01 scr (some (.int n)) (some (.cell 0)) none none none none none none none none) [q0] := by
    obtain ⟨F1, e1⟩ : ∃ F : MF, F = m__law_state := ⟨_, rfl⟩
    rw [← e1] at st
    unfold ls_0
    rw [← e1]
    simp only [mkFn, mkFnB, mSeq, mIfS, mB, mOp, mVar, mC, mCB, mCons, mNil, mSet, mRet, mExpr, mSkip, mOrT, mAndT, mNotT, mAnd, mOr, mNot, mIf, mChain, mIsi, mSl, mLc, mLcL, mLcC, mEnum, mBM, mBM0, mAsg, mPar, mLst, lstD, mLstC, lstC, mTup, tupD, mCall, mCallV, mFld, mMeth0, mMeth, mMake, mRaise, mTry, mTryN, wipeE, eqO, neO, asB, asI, negD, Out.bind, Out.fl, zz0, zz1, zz2, zz3, zz4, zz5, zz6, zz8, zz10, zz13, zz16, List.length_cons, List.length_nil, List.map_cons, List.map_nil, List.replicate, List.cons_append, List.nil_append, List.append_nil, List.set_cons_zero, List.set_cons_succ, List.getElem?_cons_zero, List.getElem?_cons_succ, List.zip_cons_cons, List.zip_nil_right, List.foldl_cons, List.foldl_nil, Nat.reduceAdd, Nat.reduceSub, Bool.not_true, Bool.not_false, Bool.false_eq_true, Bool.true_eq_false, decide_true, decide_false, ↓reduceIte, st]
  have s1 : ls_1 (e01 scr (some (.int n)) (some (.cell 0)) none none none none none none none none) [q0] = .nx (e01 scr (some (.int n)) (some (.cell 0)) (some (.int (x : Nat))) none none none none none none none) [q1] := by
    obtain ⟨F1, e1⟩ : ∃ F : MF, F = m__law_digit := ⟨_, rfl⟩
    rw [← e1] at d1
    unfold ls_1 lsd_1
    rw [← e1]
    simp only [mkFn, mkFnB, mSeq, mIfS, mB, mOp, mVar, mC, mCB, mCons, mNil, mSet, mRet, mExpr, mSkip, mOrT, mAndT, mNotT, mAnd, mOr, mNot, mIf, mChain, mIsi, mSl, mLc, mLcL, mLcC, mEnum, mBM, mBM0, mAsg, mPar, mLst, lstD, mLstC, lstC, mTup, tupD, mCall, mCallV, mFld, mMeth0, mMeth, mMake, mRaise, mTry, mTryN, wipeE, eqO, neO, asB, asI, negD, Out.bind, Out.fl, zz0, zz1, zz2, zz3, zz4, zz5, zz6, zz8, zz10, zz13, zz16, List.length_cons, List.length_nil, List.map_cons, List.map_nil, List.replicate, List.cons_append, List.nil_append, List.append_nil, List.set_cons_zero, List.set_cons_succ, List.getElem?_cons_zero, List.getElem?_cons_succ, List.zip_cons_cons, List.zip_nil_right, List.foldl_cons, List.foldl_nil, Nat.reduceAdd, Nat.reduceSub, Bool.not_true, Bool.not_false, Bool.false_eq_true, Bool.true_eq_false, decide_true, decide_false, ↓reduceIte, d1]
  have s2 : ls_2 (e01 scr (some (.int n)) (some (.cell 0)) (some (.int (x : Nat))) none none none none none none none) [q1] = .nx (e01 scr (some (.int n)) (some (.cell 0)) (some (.int (x : Nat))) (some (yD (x : Nat) k)) none none none none none none) [q2] := by
    obtain ⟨D0, hD⟩ : ∃ D0 : ME, D0 = mCall m__law_digit (mCons (mVar 2) (mCons (mC (.int 4)) mNil)) := ⟨_, rfl⟩
    have dd : D0 (e01 scr (some (.int n)) (some (.cell 0)) (some (.int (x : Nat))) none none none none none none none) [q1] = .ok (.int (k : Nat)) [q2] := by
      obtain ⟨F1, e1⟩ : ∃ F : MF, F = m__law_digit := ⟨_, rfl⟩
      rw [← e1] at d2
      rw [hD, ← e1]
      simp only [mkFn, mkFnB, mSeq, mIfS, mB, mOp, mVar, mC, mCB, mCons, mNil, mSet, mRet, mExpr, mSkip, mOrT, mAndT, mNotT, mAnd, mOr, mNot, mIf, mChain, mIsi, mSl, mLc, mLcL, mLcC, mEnum, mBM, mBM0, mAsg, mPar, mLst, lstD, mLstC, lstC, mTup, tupD, mCall, mCallV, mFld, mMeth0, mMeth, mMake, mRaise, mTry, mTryN, wipeE, eqO, neO, asB, asI, negD, Out.bind, Out.fl, zz0, zz1, zz2, zz3, zz4, zz5, zz6, zz8, zz10, zz13, zz16, List.length_cons, List.length_nil, List.map_cons, List.map_nil, List.replicate, List.cons_append, List.nil_append, List.append_nil, List.set_cons_zero, List.set_cons_succ, List.getElem?_cons_zero, List.getElem?_cons_succ, List.zip_cons_cons, List.zip_nil_right, List.foldl_cons, List.foldl_nil, Nat.reduceAdd, Nat.reduceSub, Bool.not_true, Bool.not_false, Bool.false_eq_true, Bool.true_eq_false, decide_true, decide_false, ↓reduceIte, d2]
    unfold ls_2
    rw [← hD]
    have : k = 0 ∨ k = 1 ∨ k = 2 ∨ k = 3 := by omega
    have ls : (mLst (mCons (mC (.str ("none" : Str))) (mCons (mC .non) (mCons (mOp subD (mVar 3) (mC (.int 50))) (mCons (mLst (mCons (mVar 3) mNil)) mNil))))) (e01 scr (some (.int n)) (some (.cell 0)) (some (.int (x : Nat))) none none none none none none none) [q1] = .ok (.lst [.str ("none" : Str), .non, .int ((x : Nat) - 50), .lst [.int (x : Nat)]]) [q1] := by kernel_rfl
    have ix : ixD (.lst [.str ("none" : Str), .non, .int ((x : Nat) - 50), .lst [.int (x : Nat)]]) (.int (k : Nat)) [q2] = .ok (yD (x : Nat) k) [q2] := by
      rcases this with rfl | rfl | rfl | rfl <;> rfl
    obtain ⟨LS, hLS⟩ : ∃ LS : ME, LS = (mLst (mCons (mC (.str ("none" : Str))) (mCons (mC .non) (mCons (mOp subD (mVar 3) (mC (.int 50))) (mCons (mLst (mCons (mVar 3) mNil)) mNil))))) := ⟨_, rfl⟩
    obtain ⟨Y, hY⟩ : ∃ Y, Y = yD (x : Nat) k := ⟨_, rfl⟩
    unfold lsd_2
    rw [← hLS] at ls ⊢
    rw [← hY] at ix ⊢
    simp only [mkFn, mkFnB, mSeq, mIfS, mB, mOp, mVar, mC, mCB, mCons, mNil, mSet, mRet, mExpr, mSkip, mOrT, mAndT, mNotT, mAnd, mOr, mNot, mIf, mChain, mIsi, mSl, mLc, mLcL, mLcC, mEnum, mBM, mBM0, mAsg, mPar, mLst, lstD, mLstC, lstC, mTup, tupD, mCall, mCallV, mFld, mMeth0, mMeth, mMake, mRaise, mTry, mTryN, wipeE, eqO, neO, asB, asI, negD, Out.bind, Out.fl, zz0, zz1, zz2, zz3, zz4, zz5, zz6, zz8, zz10, zz13, zz16, List.length_cons, List.length_nil, List.map_cons, List.map_nil, List.replicate, List.cons_append, List.nil_append, List.append_nil, List.set_cons_zero, List.set_cons_succ, List.getElem?_cons_zero, List.getElem?_cons_succ, List.zip_cons_cons, List.zip_nil_right, List.foldl_cons, List.foldl_nil, Nat.reduceAdd, Nat.reduceSub, Bool.not_true, Bool.not_false, Bool.false_eq_true, Bool.true_eq_false, decide_true, decide_false, ↓reduceIte, ls, dd, ix]
  obtain ⟨Y, hY⟩ : ∃ Y, Y = yD (x : Nat) k := ⟨_, rfl⟩
  rw [← hY] at s2 s8
  have s3 : ls_3 (e01 scr (some (.int n)) (some (.cell 0)) (some (.int (x : Nat))) (some Y) none none none none none none) [q2] = .nx (e01 scr (some (.int n)) (some (.cell 0)) (some (.int (x : Nat))) (some Y) (some (.lst [.err ("NoTree" : Str) [("node" : Str), ("why" : Str)] [Y, (.int (x : Nat))], .err ("NoNode" : Str) [("node" : Str)] [Y], .err ("BadText" : Str) [("place" : Str)] [(.int (x : Nat))], .err ("NoPath" : Str) [] [], .err ("NoOwner" : Str) [("owner" : Str)] [Y], .err ("NoDeed" : Str) [("why" : Str)] [Y], .err ("NoRow" : Str) [("why" : Str), ("index" : Str)] [Y, (.int (x : Nat))], .err ("NoWeaving" : Str) [] []])) none none none none none) [q2] := by kernel_rfl
  have s4 : ls_4 (e01 scr (some (.int n)) (some (.cell 0)) (some (.int (x : Nat))) (some Y) (some (.lst [.err ("NoTree" : Str) [("node" : Str), ("why" : Str)] [Y, (.int (x : Nat))], .err ("NoNode" : Str) [("node" : Str)] [Y], .err ("BadText" : Str) [("place" : Str)] [(.int (x : Nat))], .err ("NoPath" : Str) [] [], .err ("NoOwner" : Str) [("owner" : Str)] [Y], .err ("NoDeed" : Str) [("why" : Str)] [Y], .err ("NoRow" : Str) [("why" : Str), ("index" : Str)] [Y, (.int (x : Nat))], .err ("NoWeaving" : Str) [] []])) none none none none none) [q2] = .nx (e01 scr (some (.int n)) (some (.cell 0)) (some (.int (x : Nat))) (some Y) (some (.lst (ERR (.int (x : Nat)) Y))) none none none none none) [q2] := by kernel_rfl
  have s5 : ls_5 (e01 scr (some (.int n)) (some (.cell 0)) (some (.int (x : Nat))) (some Y) (some (.lst (ERR (.int (x : Nat)) Y))) none none none none none) [q2] = .nx (e01 scr (some (.int n)) (some (.cell 0)) (some (.int (x : Nat))) (some Y) (some (.lst (ERR (.int (x : Nat)) Y))) (some (.lst (FLD (.int (x : Nat)) Y))) none none none none) [q2] := by kernel_rfl
  have s6 : ls_6 (e01 scr (some (.int n)) (some (.cell 0)) (some (.int (x : Nat))) (some Y) (some (.lst (ERR (.int (x : Nat)) Y))) (some (.lst (FLD (.int (x : Nat)) Y))) none none none none) [q2] = .nx (e01 scr (some (.int n)) (some (.cell 0)) (some (.int (x : Nat))) (some Y) (some (.lst (ERR (.int (x : Nat)) Y))) (some (.lst (FLD (.int (x : Nat)) Y))) (some (.lst [.str ("notree" : Str), .str ("nonode" : Str), .str ("badtext" : Str), .str ("nopath" : Str), .str ("noowner" : Str), .str ("nodeed" : Str), .str ("norow" : Str), .str ("noweaving" : Str), .str ("large" : Str), .str ("busy" : Str)])) none none none) [q2] := by kernel_rfl
  have s7 : ls_7 (e01 scr (some (.int n)) (some (.cell 0)) (some (.int (x : Nat))) (some Y) (some (.lst (ERR (.int (x : Nat)) Y))) (some (.lst (FLD (.int (x : Nat)) Y))) (some (.lst [.str ("notree" : Str), .str ("nonode" : Str), .str ("badtext" : Str), .str ("nopath" : Str), .str ("noowner" : Str), .str ("nodeed" : Str), .str ("norow" : Str), .str ("noweaving" : Str), .str ("large" : Str), .str ("busy" : Str)])) none none none) [q2] = .nx (e01 scr (some (.int n)) (some (.cell 0)) (some (.int (x : Nat))) (some Y) (some (.lst (ERR (.int (x : Nat)) Y))) (some (.lst (FLD (.int (x : Nat)) Y))) (some (.lst WRD)) none none none) [q2] := by kernel_rfl
  refine ⟨e01 scr (some (.int n)) (some (.cell 0)) (some (.int (x : Nat))) (some Y) (some (.lst (ERR (.int (x : Nat)) Y))) (some (.lst (FLD (.int (x : Nat)) Y))) (some (.lst WRD)) y8 y9 y10, [q2], ?_, rfl, rfl⟩
  rw [seq_nx s0, seq_nx s1, seq_nx s2, seq_nx s3, seq_nx s4, seq_nx s5, seq_nx s6, seq_nx s7]
  exact s8
theorem law_ok : LawOk m_law 63 := by
  refine law_blk (k := 3) (r := 9) fun scr n hs => ?_
  obtain ⟨δ1, c1, h1, h2, h3⟩ := k01_body (scr := scr) (n := n)
  exact ⟨δ1, c1, .inl h1, h2, h3⟩
end Law
end Nw

set_option Elab.async false
set_option linter.all false
set_option maxRecDepth 100000
set_option maxHeartbeats 0
namespace Nw
namespace Law
open PySem PySem.Spec
open PyProof.Rows hiding St
open L2
theorem fx {K : Frag} {h : Heap} {mg : Str → Option Value} (X : K.In h) (G : h.Ns mainGlobals mg) (c : SaysN fa ck fn K) : Fx K mg where
  f_enumerate := He.free_ok X G (c.fact 0 (f := .free ("enumerate" : Str)) rfl)
  xis_NoBack := ck_xis (c.cka 0 (f := .any (xisT (Cl.gl ("NoBack" : Str)) [(("WalkError" : Str), false), (("NoTree" : Str), false), (("NoNode" : Str), false), (("BadText" : Str), false), (("NoPath" : Str), false), (("NoOwner" : Str), false), (("NoDeed" : Str), false), (("NoRow" : Str), false), (("NoWeaving" : Str), false), (("Large" : Str), false), (("Busy" : Str), false), (("Idle" : Str), false), (("Forbidden" : Str), false), (("NoBack" : Str), true)])) rfl)
  f_isinstance := He.free_ok X G (c.fact 1 (f := .free ("isinstance" : Str)) rfl)
  g_NoBack := He.glo_ok X G (c.fact 2 (f := .glo ("NoBack" : Str)) rfl)
  xis_Forbidden := ck_xis (c.cka 1 (f := .any (xisT (Cl.gl ("Forbidden" : Str)) [(("WalkError" : Str), false), (("NoTree" : Str), false), (("NoNode" : Str), false), (("BadText" : Str), false), (("NoPath" : Str), false), (("NoOwner" : Str), false), (("NoDeed" : Str), false), (("NoRow" : Str), false), (("NoWeaving" : Str), false), (("Large" : Str), false), (("Busy" : Str), false), (("Idle" : Str), false), (("Forbidden" : Str), true), (("NoBack" : Str), false)])) rfl)
  g_Forbidden := He.glo_ok X G (c.fact 3 (f := .glo ("Forbidden" : Str)) rfl)
  xis_Idle := ck_xis (c.cka 2 (f := .any (xisT (Cl.gl ("Idle" : Str)) [(("WalkError" : Str), false), (("NoTree" : Str), false), (("NoNode" : Str), false), (("BadText" : Str), false), (("NoPath" : Str), false), (("NoOwner" : Str), false), (("NoDeed" : Str), false), (("NoRow" : Str), false), (("NoWeaving" : Str), false), (("Large" : Str), false), (("Busy" : Str), false), (("Idle" : Str), true), (("Forbidden" : Str), false), (("NoBack" : Str), false)])) rfl)
  g_Idle := He.glo_ok X G (c.fact 4 (f := .glo ("Idle" : Str)) rfl)
  xis_Busy := ck_xis (c.cka 3 (f := .any (xisT (Cl.gl ("Busy" : Str)) [(("WalkError" : Str), false), (("NoTree" : Str), false), (("NoNode" : Str), false), (("BadText" : Str), false), (("NoPath" : Str), false), (("NoOwner" : Str), false), (("NoDeed" : Str), false), (("NoRow" : Str), false), (("NoWeaving" : Str), false), (("Large" : Str), false), (("Busy" : Str), true), (("Idle" : Str), false), (("Forbidden" : Str), false), (("NoBack" : Str), false)])) rfl)
  g_Busy := He.glo_ok X G (c.fact 5 (f := .glo ("Busy" : Str)) rfl)
  xis_Large := ck_xis (c.cka 4 (f := .any (xisT (Cl.gl ("Large" : Str)) [(("WalkError" : Str), false), (("NoTree" : Str), false), (("NoNode" : Str), false), (("BadText" : Str), false), (("NoPath" : Str), false), (("NoOwner" : Str), false), (("NoDeed" : Str), false), (("NoRow" : Str), false), (("NoWeaving" : Str), false), (("Large" : Str), true), (("Busy" : Str), false), (("Idle" : Str), false), (("Forbidden" : Str), false), (("NoBack" : Str), false)])) rfl)
  g_Large := He.glo_ok X G (c.fact 6 (f := .glo ("Large" : Str)) rfl)
  xis_NoWeaving := ck_xis (c.cka 5 (f := .any (xisT (Cl.gl ("NoWeaving" : Str)) [(("WalkError" : Str), false), (("NoTree" : Str), false), (("NoNode" : Str), false), (("BadText" : Str), false), (("NoPath" : Str), false), (("NoOwner" : Str), false), (("NoDeed" : Str), false), (("NoRow" : Str), false), (("NoWeaving" : Str), true), (("Large" : Str), false), (("Busy" : Str), false), (("Idle" : Str), false), (("Forbidden" : Str), false), (("NoBack" : Str), false)])) rfl)
  g_NoWeaving := He.glo_ok X G (c.fact 7 (f := .glo ("NoWeaving" : Str)) rfl)
  xis_NoRow := ck_xis (c.cka 6 (f := .any (xisT (Cl.gl ("NoRow" : Str)) [(("WalkError" : Str), false), (("NoTree" : Str), false), (("NoNode" : Str), false), (("BadText" : Str), false), (("NoPath" : Str), false), (("NoOwner" : Str), false), (("NoDeed" : Str), false), (("NoRow" : Str), true), (("NoWeaving" : Str), false), (("Large" : Str), false), (("Busy" : Str), false), (("Idle" : Str), false), (("Forbidden" : Str), false), (("NoBack" : Str), false)])) rfl)
  g_NoRow := He.glo_ok X G (c.fact 8 (f := .glo ("NoRow" : Str)) rfl)
  xis_NoDeed := ck_xis (c.cka 7 (f := .any (xisT (Cl.gl ("NoDeed" : Str)) [(("WalkError" : Str), false), (("NoTree" : Str), false), (("NoNode" : Str), false), (("BadText" : Str), false), (("NoPath" : Str), false), (("NoOwner" : Str), false), (("NoDeed" : Str), true), (("NoRow" : Str), false), (("NoWeaving" : Str), false), (("Large" : Str), false), (("Busy" : Str), false), (("Idle" : Str), false), (("Forbidden" : Str), false), (("NoBack" : Str), false)])) rfl)
  g_NoDeed := He.glo_ok X G (c.fact 9 (f := .glo ("NoDeed" : Str)) rfl)
  xis_NoOwner := ck_xis (c.cka 8 (f := .any (xisT (Cl.gl ("NoOwner" : Str)) [(("WalkError" : Str), false), (("NoTree" : Str), false), (("NoNode" : Str), false), (("BadText" : Str), false), (("NoPath" : Str), false), (("NoOwner" : Str), true), (("NoDeed" : Str), false), (("NoRow" : Str), false), (("NoWeaving" : Str), false), (("Large" : Str), false), (("Busy" : Str), false), (("Idle" : Str), false), (("Forbidden" : Str), false), (("NoBack" : Str), false)])) rfl)
  g_NoOwner := He.glo_ok X G (c.fact 10 (f := .glo ("NoOwner" : Str)) rfl)
  xis_NoPath := ck_xis (c.cka 9 (f := .any (xisT (Cl.gl ("NoPath" : Str)) [(("WalkError" : Str), false), (("NoTree" : Str), false), (("NoNode" : Str), false), (("BadText" : Str), false), (("NoPath" : Str), true), (("NoOwner" : Str), false), (("NoDeed" : Str), false), (("NoRow" : Str), false), (("NoWeaving" : Str), false), (("Large" : Str), false), (("Busy" : Str), false), (("Idle" : Str), false), (("Forbidden" : Str), false), (("NoBack" : Str), false)])) rfl)
  g_NoPath := He.glo_ok X G (c.fact 11 (f := .glo ("NoPath" : Str)) rfl)
  xis_BadText := ck_xis (c.cka 10 (f := .any (xisT (Cl.gl ("BadText" : Str)) [(("WalkError" : Str), false), (("NoTree" : Str), false), (("NoNode" : Str), false), (("BadText" : Str), true), (("NoPath" : Str), false), (("NoOwner" : Str), false), (("NoDeed" : Str), false), (("NoRow" : Str), false), (("NoWeaving" : Str), false), (("Large" : Str), false), (("Busy" : Str), false), (("Idle" : Str), false), (("Forbidden" : Str), false), (("NoBack" : Str), false)])) rfl)
  g_BadText := He.glo_ok X G (c.fact 12 (f := .glo ("BadText" : Str)) rfl)
  xis_NoNode := ck_xis (c.cka 11 (f := .any (xisT (Cl.gl ("NoNode" : Str)) [(("WalkError" : Str), false), (("NoTree" : Str), false), (("NoNode" : Str), true), (("BadText" : Str), false), (("NoPath" : Str), false), (("NoOwner" : Str), false), (("NoDeed" : Str), false), (("NoRow" : Str), false), (("NoWeaving" : Str), false), (("Large" : Str), false), (("Busy" : Str), false), (("Idle" : Str), false), (("Forbidden" : Str), false), (("NoBack" : Str), false)])) rfl)
  g_NoNode := He.glo_ok X G (c.fact 13 (f := .glo ("NoNode" : Str)) rfl)
  xis_NoTree := ck_xis (c.cka 12 (f := .any (xisT (Cl.gl ("NoTree" : Str)) [(("WalkError" : Str), false), (("NoTree" : Str), true), (("NoNode" : Str), false), (("BadText" : Str), false), (("NoPath" : Str), false), (("NoOwner" : Str), false), (("NoDeed" : Str), false), (("NoRow" : Str), false), (("NoWeaving" : Str), false), (("Large" : Str), false), (("Busy" : Str), false), (("Idle" : Str), false), (("Forbidden" : Str), false), (("NoBack" : Str), false)])) rfl)
  g_NoTree := He.glo_ok X G (c.fact 14 (f := .glo ("NoTree" : Str)) rfl)
  g__law_classes := He.glo_ok X G (c.fact 15 (f := .glo ("_law_classes" : Str)) rfl)
  f_len := He.free_ok X G (c.fact 16 (f := .free ("len" : Str)) rfl)
  f_range := He.free_ok X G (c.fact 17 (f := .free ("range" : Str)) rfl)
  xis_ValueError := ck_xis (c.cka 13 (f := .any (xisT (Cl.ty "ValueError") [(("WalkError" : Str), true), (("NoTree" : Str), true), (("NoNode" : Str), true), (("BadText" : Str), true), (("NoPath" : Str), true), (("NoOwner" : Str), true), (("NoDeed" : Str), true), (("NoRow" : Str), true), (("NoWeaving" : Str), true), (("Large" : Str), true), (("Busy" : Str), true), (("Idle" : Str), true), (("Forbidden" : Str), true), (("NoBack" : Str), true)])) rfl)
  f_ValueError := He.free_ok X G (c.fact 18 (f := .free ("ValueError" : Str)) rfl)
  xis_WalkError := ck_xis (c.cka 14 (f := .any (xisT (Cl.gl ("WalkError" : Str)) [(("WalkError" : Str), true), (("NoTree" : Str), true), (("NoNode" : Str), true), (("BadText" : Str), true), (("NoPath" : Str), true), (("NoOwner" : Str), true), (("NoDeed" : Str), true), (("NoRow" : Str), true), (("NoWeaving" : Str), true), (("Large" : Str), true), (("Busy" : Str), true), (("Idle" : Str), true), (("Forbidden" : Str), true), (("NoBack" : Str), true)])) rfl)
  g_WalkError := He.glo_ok X G (c.fact 19 (f := .glo ("WalkError" : Str)) rfl)
  xf_count := xf_cons (c.cka 15 (f := .xf ("Large" : Str) [("count" : Str)]) rfl) (xf_nil)
  xf_why := xf_cons (c.cka 18 (f := .xf ("NoTree" : Str) [("why" : Str)]) rfl) (xf_cons (c.cka 17 (f := .xf ("NoDeed" : Str) [("why" : Str)]) rfl) (xf_cons (c.cka 16 (f := .xf ("NoRow" : Str) [("why" : Str)]) rfl) (xf_nil)))
  xf_index := xf_cons (c.cka 19 (f := .xf ("NoRow" : Str) [("index" : Str)]) rfl) (xf_nil)
  xf_owner := xf_cons (c.cka 20 (f := .xf ("NoOwner" : Str) [("owner" : Str)]) rfl) (xf_nil)
  xf_place := xf_cons (c.cka 21 (f := .xf ("BadText" : Str) [("place" : Str)]) rfl) (xf_nil)
  xf_node := xf_cons (c.cka 23 (f := .xf ("NoTree" : Str) [("node" : Str)]) rfl) (xf_cons (c.cka 22 (f := .xf ("NoNode" : Str) [("node" : Str)]) rfl) (xf_nil))
  g__law_fields := He.glo_ok X G (c.fact 20 (f := .glo ("_law_fields" : Str)) rfl)
  mt_WalkError_told := He.meth_ok (c.fact 21 (f := .meth ("WalkError" : Str) ("told" : Str)) rfl)
  xc_WalkError := ck_xc (c.cka 24 (f := .xf ("WalkError" : Str) []) rfl)
  mt_NoTree_told := He.meth_ok (c.fact 22 (f := .meth ("NoTree" : Str) ("told" : Str)) rfl)
  xc_NoTree := ck_xc (c.cka 25 (f := .xf ("NoTree" : Str) []) rfl)
  mt_NoNode_told := He.meth_ok (c.fact 23 (f := .meth ("NoNode" : Str) ("told" : Str)) rfl)
  xc_NoNode := ck_xc (c.cka 26 (f := .xf ("NoNode" : Str) []) rfl)
  mt_BadText_told := He.meth_ok (c.fact 24 (f := .meth ("BadText" : Str) ("told" : Str)) rfl)
  xc_BadText := ck_xc (c.cka 27 (f := .xf ("BadText" : Str) []) rfl)
  mt_NoPath_told := He.meth_ok (c.fact 25 (f := .meth ("NoPath" : Str) ("told" : Str)) rfl)
  xc_NoPath := ck_xc (c.cka 28 (f := .xf ("NoPath" : Str) []) rfl)
  mt_NoOwner_told := He.meth_ok (c.fact 26 (f := .meth ("NoOwner" : Str) ("told" : Str)) rfl)
  xc_NoOwner := ck_xc (c.cka 29 (f := .xf ("NoOwner" : Str) []) rfl)
  mt_NoDeed_told := He.meth_ok (c.fact 27 (f := .meth ("NoDeed" : Str) ("told" : Str)) rfl)
  xc_NoDeed := ck_xc (c.cka 30 (f := .xf ("NoDeed" : Str) []) rfl)
  mt_NoRow_told := He.meth_ok (c.fact 28 (f := .meth ("NoRow" : Str) ("told" : Str)) rfl)
  xc_NoRow := ck_xc (c.cka 31 (f := .xf ("NoRow" : Str) []) rfl)
  mt_NoWeaving_told := He.meth_ok (c.fact 29 (f := .meth ("NoWeaving" : Str) ("told" : Str)) rfl)
  xc_NoWeaving := ck_xc (c.cka 32 (f := .xf ("NoWeaving" : Str) []) rfl)
  mt_Large_told := He.meth_ok (c.fact 30 (f := .meth ("Large" : Str) ("told" : Str)) rfl)
  xc_Large := ck_xc (c.cka 33 (f := .xf ("Large" : Str) []) rfl)
  mt_Busy_told := He.meth_ok (c.fact 31 (f := .meth ("Busy" : Str) ("told" : Str)) rfl)
  xc_Busy := ck_xc (c.cka 34 (f := .xf ("Busy" : Str) []) rfl)
  mt_Idle_told := He.meth_ok (c.fact 32 (f := .meth ("Idle" : Str) ("told" : Str)) rfl)
  xc_Idle := ck_xc (c.cka 35 (f := .xf ("Idle" : Str) []) rfl)
  mt_Forbidden_told := He.meth_ok (c.fact 33 (f := .meth ("Forbidden" : Str) ("told" : Str)) rfl)
  xc_Forbidden := ck_xc (c.cka 36 (f := .xf ("Forbidden" : Str) []) rfl)
  mt_NoBack_told := He.meth_ok (c.fact 34 (f := .meth ("NoBack" : Str) ("told" : Str)) rfl)
  xc_NoBack := ck_xc (c.cka 37 (f := .xf ("NoBack" : Str) []) rfl)
  x0_NoBack := ck_exc0 X G (c.fact 2 (f := .glo ("NoBack" : Str)) rfl) (c.fact 35 (f := .exc ("NoBack" : Str)) rfl)
  x0_Forbidden := ck_exc0 X G (c.fact 3 (f := .glo ("Forbidden" : Str)) rfl) (c.fact 36 (f := .exc ("Forbidden" : Str)) rfl)
  x0_Idle := ck_exc0 X G (c.fact 4 (f := .glo ("Idle" : Str)) rfl) (c.fact 37 (f := .exc ("Idle" : Str)) rfl)
  x0_Busy := ck_exc0 X G (c.fact 5 (f := .glo ("Busy" : Str)) rfl) (c.fact 38 (f := .exc ("Busy" : Str)) rfl)
  oex_Large := ck_oex1 (c.cka 38 (f := .oex ("Large" : Str) [("count" : Str)]) rfl)
  fnt_Large := ck_fnT (c.cka 39 (f := .fnT ("Large" : Str) ("__init__" : Str)) rfl)
  x0_NoWeaving := ck_exc0 X G (c.fact 7 (f := .glo ("NoWeaving" : Str)) rfl) (c.fact 39 (f := .exc ("NoWeaving" : Str)) rfl)
  oex_NoRow := ck_oex2 (c.cka 40 (f := .oex ("NoRow" : Str) [("index" : Str), ("why" : Str)]) rfl)
  fnt_NoRow := ck_fnT (c.cka 41 (f := .fnT ("NoRow" : Str) ("__init__" : Str)) rfl)
  oex_NoDeed := ck_oex1 (c.cka 42 (f := .oex ("NoDeed" : Str) [("why" : Str)]) rfl)
  fnt_NoDeed := ck_fnT (c.cka 43 (f := .fnT ("NoDeed" : Str) ("__init__" : Str)) rfl)
  oex_NoOwner := ck_oex1 (c.cka 44 (f := .oex ("NoOwner" : Str) [("owner" : Str)]) rfl)
  fnt_NoOwner := ck_fnT (c.cka 45 (f := .fnT ("NoOwner" : Str) ("__init__" : Str)) rfl)
  x0_NoPath := ck_exc0 X G (c.fact 11 (f := .glo ("NoPath" : Str)) rfl) (c.fact 40 (f := .exc ("NoPath" : Str)) rfl)
  oex_BadText := ck_oex1 (c.cka 46 (f := .oex ("BadText" : Str) [("place" : Str)]) rfl)
  fnt_BadText := ck_fnT (c.cka 47 (f := .fnT ("BadText" : Str) ("__init__" : Str)) rfl)
  oex_NoNode := ck_oex1 (c.cka 48 (f := .oex ("NoNode" : Str) [("node" : Str)]) rfl)
  fnt_NoNode := ck_fnT (c.cka 49 (f := .fnT ("NoNode" : Str) ("__init__" : Str)) rfl)
  oex_NoTree := ck_oex2 (c.cka 50 (f := .oex ("NoTree" : Str) [("why" : Str), ("node" : Str)]) rfl)
  fnt_NoTree := ck_fnT (c.cka 51 (f := .fnT ("NoTree" : Str) ("__init__" : Str)) rfl)
  f_int := He.free_ok X G (c.fact 41 (f := .free ("int" : Str)) rfl)
  g__law_digit := He.glo_ok X G (c.fact 42 (f := .glo ("_law_digit" : Str)) rfl)
  f_abs := He.free_ok X G (c.fact 43 (f := .free ("abs" : Str)) rfl)
  g__law_state := He.glo_ok X G (c.fact 44 (f := .glo ("_law_state" : Str)) rfl)
  g_law := He.glo_ok X G (c.fact 45 (f := .glo ("law" : Str)) rfl)
theorem facts {P : Program} {w : World} {K : Frag} {h : Heap} {mg : Str → Option Value} {f : Addr} (X : K.In h) (G : h.Ns mainGlobals mg) (hfa : mg ("law" : Str) = some (.ref f)) (c : SaysN fa ck fn K) :
    ∃ fd : FuncData, (∀ (s : Shared) (v : Value), BindsTo s fd ⟨[v], []⟩ [(("_law_script" : Str), v)]) ∧ ∀ base : Heap, FnOk P w K mg base (L2.CX P w) 3 f fd [("_law_script" : Str)] (@spOf ⟨some w, []⟩ K m_law) := by
  letI : TheW := ⟨some w, []⟩
  have hW : TheW.w = some w := rfl
  have T := fx X G c
  obtain ⟨fd__law_classes, F__law_classes⟩ := c.def_ 0 (d := d__law_classes) rfl
  obtain ⟨fd__law_fields, F__law_fields⟩ := c.def_ 1 (d := d__law_fields) rfl
  obtain ⟨fd_WalkError_told, F_WalkError_told⟩ := c.def_ 2 (d := d_WalkError_told) rfl
  obtain ⟨fd_NoTree_told, F_NoTree_told⟩ := c.def_ 3 (d := d_NoTree_told) rfl
  obtain ⟨fd_NoNode_told, F_NoNode_told⟩ := c.def_ 4 (d := d_NoNode_told) rfl
  obtain ⟨fd_BadText_told, F_BadText_told⟩ := c.def_ 5 (d := d_BadText_told) rfl
  obtain ⟨fd_NoPath_told, F_NoPath_told⟩ := c.def_ 6 (d := d_NoPath_told) rfl
  obtain ⟨fd_NoOwner_told, F_NoOwner_told⟩ := c.def_ 7 (d := d_NoOwner_told) rfl
  obtain ⟨fd_NoDeed_told, F_NoDeed_told⟩ := c.def_ 8 (d := d_NoDeed_told) rfl
  obtain ⟨fd_NoRow_told, F_NoRow_told⟩ := c.def_ 9 (d := d_NoRow_told) rfl
  obtain ⟨fd_NoWeaving_told, F_NoWeaving_told⟩ := c.def_ 10 (d := d_NoWeaving_told) rfl
  obtain ⟨fd_Large_told, F_Large_told⟩ := c.def_ 11 (d := d_Large_told) rfl
  obtain ⟨fd_Busy_told, F_Busy_told⟩ := c.def_ 12 (d := d_Busy_told) rfl
  obtain ⟨fd_Idle_told, F_Idle_told⟩ := c.def_ 13 (d := d_Idle_told) rfl
  obtain ⟨fd_Forbidden_told, F_Forbidden_told⟩ := c.def_ 14 (d := d_Forbidden_told) rfl
  obtain ⟨fd_NoBack_told, F_NoBack_told⟩ := c.def_ 15 (d := d_NoBack_told) rfl
  obtain ⟨fd_Large___init__, F_Large___init__⟩ := c.def_ 16 (d := d_Large___init__) rfl
  obtain ⟨fd_NoRow___init__, F_NoRow___init__⟩ := c.def_ 17 (d := d_NoRow___init__) rfl
  obtain ⟨fd_NoDeed___init__, F_NoDeed___init__⟩ := c.def_ 18 (d := d_NoDeed___init__) rfl
  obtain ⟨fd_NoOwner___init__, F_NoOwner___init__⟩ := c.def_ 19 (d := d_NoOwner___init__) rfl
  obtain ⟨fd_BadText___init__, F_BadText___init__⟩ := c.def_ 20 (d := d_BadText___init__) rfl
  obtain ⟨fd_NoNode___init__, F_NoNode___init__⟩ := c.def_ 21 (d := d_NoNode___init__) rfl
  obtain ⟨fd_NoTree___init__, F_NoTree___init__⟩ := c.def_ 22 (d := d_NoTree___init__) rfl
  obtain ⟨fd__law_digit, F__law_digit⟩ := c.def_ 23 (d := d__law_digit) rfl
  obtain ⟨fd__law_state, F__law_state⟩ := c.def_ 24 (d := d__law_state) rfl
  obtain ⟨fd_law, F_law⟩ := c.def_ 25 (d := d_law) rfl
  have e := hfa.symm.trans T.g_law
  cases e
  have b := FunD.bindsA (ps := [("_law_script" : Str)]) F_law fun _ _ _ _ _ _ us hl => match us, hl with | [_], _ => rfl
  refine ⟨fd_law, fun s v => b s [v] rfl, fun base => ?_⟩
  have hE : EqAll P w K mg base 2 EQ := fun _ _ _ _ _ _ => eqX_P
  have h__law_classes := ok__law_classes (P := P) (w := w) (base := base) T  F__law_classes
  have h__law_fields := ok__law_fields (P := P) (w := w) (base := base) T  F__law_fields
  have ht_WalkError_told := ok_WalkError_told (P := P) (w := w) (base := base) T  F_WalkError_told
  have ht_NoTree_told := ok_NoTree_told (P := P) (w := w) (base := base) T  F_NoTree_told
  have ht_NoNode_told := ok_NoNode_told (P := P) (w := w) (base := base) T  F_NoNode_told
  have ht_BadText_told := ok_BadText_told (P := P) (w := w) (base := base) T  F_BadText_told
  have ht_NoPath_told := ok_NoPath_told (P := P) (w := w) (base := base) T  F_NoPath_told
  have ht_NoOwner_told := ok_NoOwner_told (P := P) (w := w) (base := base) T  F_NoOwner_told
  have ht_NoDeed_told := ok_NoDeed_told (P := P) (w := w) (base := base) T  F_NoDeed_told
  have ht_NoRow_told := ok_NoRow_told (P := P) (w := w) (base := base) T  F_NoRow_told
  have ht_NoWeaving_told := ok_NoWeaving_told (P := P) (w := w) (base := base) T  F_NoWeaving_told
  have ht_Large_told := ok_Large_told (P := P) (w := w) (base := base) T  F_Large_told
  have ht_Busy_told := ok_Busy_told (P := P) (w := w) (base := base) T  F_Busy_told
  have ht_Idle_told := ok_Idle_told (P := P) (w := w) (base := base) T  F_Idle_told
  have ht_Forbidden_told := ok_Forbidden_told (P := P) (w := w) (base := base) T  F_Forbidden_told
  have ht_NoBack_told := ok_NoBack_told (P := P) (w := w) (base := base) T  F_NoBack_told
  have hx_Large := ok_Large___init__ (P := P) (w := w) (base := base) T F_Large___init__
  have hx_NoRow := ok_NoRow___init__ (P := P) (w := w) (base := base) T F_NoRow___init__
  have hx_NoDeed := ok_NoDeed___init__ (P := P) (w := w) (base := base) T F_NoDeed___init__
  have hx_NoOwner := ok_NoOwner___init__ (P := P) (w := w) (base := base) T F_NoOwner___init__
  have hx_BadText := ok_BadText___init__ (P := P) (w := w) (base := base) T F_BadText___init__
  have hx_NoNode := ok_NoNode___init__ (P := P) (w := w) (base := base) T F_NoNode___init__
  have hx_NoTree := ok_NoTree___init__ (P := P) (w := w) (base := base) T F_NoTree___init__
  have h__law_digit := ok__law_digit (P := P) (w := w) (base := base) T  F__law_digit
  have h__law_state := ok__law_state (P := P) (w := w) (base := base) T  F__law_state
  exact ok_law T h__law_classes hE h__law_fields ht_NoBack_told ht_Forbidden_told ht_Idle_told ht_Busy_told ht_Large_told ht_NoWeaving_told ht_NoRow_told ht_NoDeed_told ht_NoOwner_told ht_NoPath_told ht_BadText_told ht_NoNode_told ht_NoTree_told ht_WalkError_told hx_Large hx_NoRow hx_NoDeed hx_NoOwner hx_BadText hx_NoNode hx_NoTree h__law_digit h__law_state F_law
end Law
end Nw

set_option Elab.async false
set_option linter.all false
set_option maxRecDepth 100000
set_option maxHeartbeats 0
open PySem PySem.W PySem.Calls PyProof.Rows
theorem PySem.Challenge.cw_namewalk_k01_errors_holds : PySem.Challenge.rw_namewalk_k01_errors.Holds := by
  w_on; o_law
  refine HandSHeadRun.head_any (r := OpenLaw.row PySem.Challenge.rw_namewalk_k01_errors) (q := view (OpenLaw.row PySem.Challenge.rw_namewalk_k01_errors).prog [21]) (H := Nw.Law.hk) (ob := Nw.Law.ob) (M := 9000) (loose := Nw.Law.loose) (d := HandSHeadRun.topDef (OpenLaw.row PySem.Challenge.rw_namewalk_k01_errors).prog 21) (kwd := []) Nw.Law.ob_eq
    (by kernel_rfl) (fun s => by kernel_rfl) Nw.Law.run (by kernel_rfl) (by kernel_rfl) (by kernel_rfl) (by rfl) (by first | assumption | decide +kernel) (by decide +kernel) ⟨rfl, rfl, rfl, rfl, rfl, by decide +kernel⟩ ?hw ?hc
  case hw => w_witness2
  case hc =>
    refine Nw.walkW (l := PySem.Challenge.rw_namewalk_k01_errors) (n := 63) (k := 3) (x := ("_law_script" : Str)) rfl (by decide) (by kernel_rfl) ⟨rfl, by decide, by decide⟩ Nw.Law.law_ok ?_
    intro w mg f h Y G hmg0
    obtain ⟨K, KX, c⟩ := Y
    have hmg : mg ("law" : PySem.Str) = some (.ref f) := by
      have e : (HandSHeadRun.topDef (OpenLaw.row PySem.Challenge.rw_namewalk_k01_errors).prog 21).name = ("law" : PySem.Str) := by kernel_rfl
      rw [← e]
      exact hmg0
    obtain ⟨fd, hb, hG⟩ := Nw.Law.facts (P := (PySem.Challenge.rw_namewalk_k01_errors).prog) (w := w) KX G hmg c
    exact ⟨K, fd, KX, hb, hG⟩

