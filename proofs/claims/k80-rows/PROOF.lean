import PyProof.Rows.All
import Wide.All
import OpenK.AllK
import Wide.FinOn
import HandS.ForMost
import HandS.Head0
import HandS.Head1
import HandS.Head2
import HandS.HeadEnd
import HandS.HeadHook1
import HandS.HeadHook2
import PySem.Challenge.RW_namewalk_k80_texts_of_rows_and_results
import HandS.ForExc
import HandS.IsInst
import HandS.OwnEq
import HandS.TryMany
import HandS.TryOnly
import HandS.ExcInit
import HandS.Flow
import HandS.Style
import HandS.ExcField
import HandS.TupAny
import HandS.Text
import KE.DataEq
import HandS.List
import HandS.Zip0
import PyProof.Draws
import HandS.SetFor
import HandS.ListItems
import HandS.More
import PyProof.Rows.StrMeet
import HandS.CallLocal
import HandS.Conv
import HandS.Call
import KE.KUnpackStar
import HandS.FStr
import HandS.RaiseMore
set_option Elab.async false
set_option linter.all false
set_option maxRecDepth 100000
set_option maxHeartbeats 0
namespace Nw
namespace Law
open PySem PySem.Spec
open PyProof.Rows hiding St
open L2
abbrev R : PySem.W.OpenRow := PySem.W.OpenLaw.row PySem.Challenge.rw_namewalk_k80_texts_of_rows_and_results
abbrev Qtop : Program := PySem.W.view R.prog [52]
def loose : List Str := (["_wall", "WalkError", "BadText", "NoPath", "Thing", "UP", "HERE", "MOST_LETTERS", "LETTERS", "is_name", "Path", "read_path"] : List Str) ++ (["is_path_text", "MakeFolder", "MakeFile", "MakeLink", "Put", "Take", "Move", "Done", "Made", "Came", "Refused", "New"] : List Str) ++ (["FIGURES", "MOST_FIGURES", "BETWEEN_DEEDS", "NOTHING", "read_number", "asked_name", "asked_path", "deed_text", "read_making", "read_deed", "row_text", "read_row"] : List Str) ++ (["result_text", "_law_source", "_law_draw", "_law_pick", "_law_deed", "_law_deed_row", "_law_results_right"] : List Str)
noncomputable abbrev ER (w : World) (os : OsState) : Option PySem.W.SharedT := HandSHeadRun.endF (HandSHeadRun.stepQ (HandSHeadRun.denQ HandSHeadRun.tabQ) R.prog w) 9000 R.prog w os
theorem run0 (w : World) (os : OsState) : (ER w os).map (fun s => (HandSHeadRun.looksF R.prog (PySem.W.boot_heap w.params) s.abs, HandSHeadRun.seenQ Qtop loose (importedModules R.prog.main.body) (fun s => PySem.W.xlAt Qtop [] s && PySem.W.recOk R.toRowW.records s) s.abs)) = some (true, PySem.W.openGood Qtop loose) := by
  kernel_rfl
end Law
end Nw

set_option Elab.async false
set_option linter.all false
set_option maxRecDepth 100000
set_option maxHeartbeats 4000000
/-! Nw0: plain data over the hand layer. Values that never change are data; lists, dicts and instances under construction are numbered cells. -/
namespace Nw
open PySem PySem.Spec
open PyProof.Rows hiding St
open L2
abbrev Frag := PySem.W.Frag

/-- plain data -/
inductive D where
  | non | bl (b : Bool) | int (i : Int) | str (x : Str) | ty (n : String) | gl (x : Str)
  | tup (l : List D) | lst (l : List D) | scr (l : List D) | obj (c : Str) (ns : List Str) (ds : List D) | cell (i : Nat)
  | exo (a : Addr) (x : Option Addr) (k : Str) (ns : List Str) (ds : List D)
  | dic (ks : List Key) (ds : List D) | dit (ks : List (List Key)) (ds : List D)
  deriving Inhabited
inductive Cell where
  | lst (l : List D) | ins (c : Str) (ns : List Str) (ds : List D) | dct (ks : List Key) (ds : List D) | dtt (ks : List (List Key)) (ds : List D)
  deriving Inhabited
abbrev Cells := List Cell
abbrev En := List (Option D)

/-! ### equality of data, to be computed -/
mutual
def D.beq : D → D → Bool
  | .non, .non => true
  | .bl a, .bl b => a == b
  | .int i, .int j => i == j
  | .str x, .str y => x == y
  | .ty n, .ty m => n == m
  | .gl x, .gl y => x == y
  | .tup l, .tup m => D.beqL l m
  | .lst l, .lst m => D.beqL l m
  | .scr l, .scr m => D.beqL l m
  | .obj c ns l, .obj c' ns' m => c == c' && (ns == ns' && D.beqL l m)
  | .cell i, .cell j => i == j
  | .exo a x k ns l, .exo a' x' k' ns' m => (a == a' && (x == x' && (k == k' && ns == ns'))) && D.beqL l m
  | .dic ks l, .dic ks' m => decide (ks = ks') && D.beqL l m
  | .dit ks l, .dit ks' m => decide (ks = ks') && D.beqL l m
  | _, _ => false
def D.beqL : List D → List D → Bool
  | [], [] => true
  | d :: r, e :: s => D.beq d e && D.beqL r s
  | _, _ => false
end
mutual
theorem D.beq_eq : ∀ {d e : D}, D.beq d e = true → d = e
  | .non, e, h => by cases e <;> first | rfl | (unfold D.beq at h; cases h)
  | .bl _, e, h => by cases e <;> first | (unfold D.beq at h; cases h; done) | (unfold D.beq at h; rw [eq_of_beq h])
  | .int _, e, h => by cases e <;> first | (unfold D.beq at h; cases h; done) | (unfold D.beq at h; rw [eq_of_beq h])
  | .str _, e, h => by cases e <;> first | (unfold D.beq at h; cases h; done) | (unfold D.beq at h; rw [eq_of_beq h])
  | .ty _, e, h => by cases e <;> first | (unfold D.beq at h; cases h; done) | (unfold D.beq at h; rw [eq_of_beq h])
  | .gl _, e, h => by cases e <;> first | (unfold D.beq at h; cases h; done) | (unfold D.beq at h; rw [eq_of_beq h])
  | .cell _, e, h => by cases e <;> first | (unfold D.beq at h; cases h; done) | (unfold D.beq at h; rw [eq_of_beq h])
  | .tup l, e, h => by cases e <;> first | (unfold D.beq at h; cases h; done) | (unfold D.beq at h; rw [D.beqL_eq h])
  | .lst l, e, h => by cases e <;> first | (unfold D.beq at h; cases h; done) | (unfold D.beq at h; rw [D.beqL_eq h])
  | .scr l, e, h => by cases e <;> first | (unfold D.beq at h; cases h; done) | (unfold D.beq at h; rw [D.beqL_eq h])
  | .obj _ _ _, e, h => by
    cases e with
    | obj c' ns' m =>
      unfold D.beq at h
      simp only [Bool.and_eq_true] at h
      rw [eq_of_beq h.1, eq_of_beq h.2.1, D.beqL_eq h.2.2]
    | _ => unfold D.beq at h; cases h
  | .exo _ _ _ _ _, e, h => by
    cases e with
    | exo a' x' k' ns' m =>
      unfold D.beq at h
      simp only [Bool.and_eq_true] at h
      rw [eq_of_beq h.1.1, eq_of_beq h.1.2.1, eq_of_beq h.1.2.2.1, eq_of_beq h.1.2.2.2, D.beqL_eq h.2]
    | _ => unfold D.beq at h; cases h
  | .dic _ _, e, h => by
    cases e with
    | dic ks' m =>
      unfold D.beq at h
      simp only [Bool.and_eq_true] at h
      rw [of_decide_eq_true h.1, D.beqL_eq h.2]
    | _ => unfold D.beq at h; cases h
  | .dit _ _, e, h => by
    cases e with
    | dit ks' m =>
      unfold D.beq at h
      simp only [Bool.and_eq_true] at h
      rw [of_decide_eq_true h.1, D.beqL_eq h.2]
    | _ => unfold D.beq at h; cases h
theorem D.beqL_eq : ∀ {l m : List D}, D.beqL l m = true → l = m
  | [], [], _ => rfl
  | [], _ :: _, h => by unfold D.beqL at h; cases h
  | _ :: _, [], h => by unfold D.beqL at h; cases h
  | d :: r, e :: s, h => by
    unfold D.beqL at h
    simp only [Bool.and_eq_true] at h
    rw [D.beq_eq h.1, D.beqL_eq h.2]
end
mutual
theorem D.beq_refl : ∀ d : D, D.beq d d = true
  | .non => by unfold D.beq; rfl
  | .bl _ => by unfold D.beq; exact beq_self_eq_true _
  | .int _ => by unfold D.beq; exact beq_self_eq_true _
  | .str _ => by unfold D.beq; exact beq_self_eq_true _
  | .ty _ => by unfold D.beq; exact beq_self_eq_true _
  | .gl _ => by unfold D.beq; exact beq_self_eq_true _
  | .cell _ => by unfold D.beq; exact beq_self_eq_true _
  | .tup l => by unfold D.beq; exact D.beqL_refl l
  | .lst l => by unfold D.beq; exact D.beqL_refl l
  | .scr l => by unfold D.beq; exact D.beqL_refl l
  | .obj _ _ l => by unfold D.beq; simp [D.beqL_refl l]
  | .exo _ _ _ _ l => by unfold D.beq; simp [D.beqL_refl l]
  | .dic _ l => by unfold D.beq; simp [D.beqL_refl l]
  | .dit _ l => by unfold D.beq; simp [D.beqL_refl l]
theorem D.beqL_refl : ∀ l : List D, D.beqL l l = true
  | [] => by unfold D.beqL; rfl
  | d :: r => by unfold D.beqL; rw [D.beq_refl d, D.beqL_refl r]; rfl
end
instance : DecidableEq D := fun d e => if h : D.beq d e = true then isTrue (D.beq_eq h) else isFalse fun z => h (by rw [z]; exact D.beq_refl e)
def Cell.beq : Cell → Cell → Bool
  | .lst l, .lst m => D.beqL l m
  | .ins c ns l, .ins c' ns' m => c == c' && (ns == ns' && D.beqL l m)
  | .dct ks l, .dct ks' m => decide (ks = ks') && D.beqL l m
  | .dtt ks l, .dtt ks' m => decide (ks = ks') && D.beqL l m
  | _, _ => false
theorem Cell.beq_eq {a b : Cell} (h : Cell.beq a b = true) : a = b := by
  cases a with
  | lst l =>
    cases b with
    | lst m => rw [D.beqL_eq h]
    | _ => cases h
  | ins c ns l =>
    cases b with
    | ins c' ns' m =>
      have h : (c == c' && (ns == ns' && D.beqL l m)) = true := h
      simp only [Bool.and_eq_true] at h
      rw [eq_of_beq h.1, eq_of_beq h.2.1, D.beqL_eq h.2.2]
    | _ => cases h
  | dct ks l =>
    cases b with
    | dct ks' m =>
      have h : (decide (ks = ks') && D.beqL l m) = true := h
      simp only [Bool.and_eq_true] at h
      rw [of_decide_eq_true h.1, D.beqL_eq h.2]
    | _ => cases h
  | dtt ks l =>
    cases b with
    | dtt ks' m =>
      have h : (decide (ks = ks') && D.beqL l m) = true := h
      simp only [Bool.and_eq_true] at h
      rw [of_decide_eq_true h.1, D.beqL_eq h.2]
    | _ => cases h
theorem Cell.beq_refl (a : Cell) : Cell.beq a a = true := by
  cases a <;> simp [Cell.beq, D.beqL_refl]
instance : DecidableEq Cell := fun d e => if h : Cell.beq d e = true then isTrue (Cell.beq_eq h) else isFalse fun z => h (by rw [z]; exact Cell.beq_refl e)

/-! ### data and values -/
theorem Rd.ext {H H' : Hp} {a : Addr} {u : HO} (h : Rd H a u) (e : Same H H') : Rd H' a u := by
  rcases h with h | ⟨o, h⟩
  · exact .inl (e _ _ h)
  · exact .inr ⟨o, e _ _ h⟩
theorem Rd.sqL {K : Frag} {H : Hp} {a : Addr} {xs : List V} (h : Rd H a (.lst xs)) : SqL K H a xs := .inl h
mutual
inductive Rel (K : Frag) (R : List Addr) (F : Hp) : V → D → Prop where
  | non : Rel K R F .non .non
  | bl (b : Bool) : Rel K R F (.bl b) (.bl b)
  | int (i : Int) : Rel K R F (.int i) (.int i)
  | str (x : Str) : Rel K R F (.str x) (.str x)
  | ty (n : String) : Rel K R F (.ty n) (.ty n)
  | gl (x : Str) : Rel K R F (.ref (He.ga K x)) (.gl x)
  | tup {a : Addr} {vs : List V} {ds : List D} (h : SqT K F a vs) (l : RelL K R F vs ds) : Rel K R F (.ref a) (.tup ds)
  | lst {a : Addr} {vs : List V} {ds : List D} (h : F a = some (.lst vs)) (l : RelL K R F vs ds) : Rel K R F (.ref a) (.lst ds)
  | scr {a : Addr} {vs : List V} {ds : List D} (h : SqL K F a vs) (l : RelL K R F vs ds) : Rel K R F (.ref a) (.scr ds)
  | obj {a dx : Addr} {c : Str} {ns : List Str} {vs : List V} {ds : List D} (h : F a = some (.ins (He.ga K c) dx (ns.zip vs))) (z : ns.length = vs.length) (l : RelL K R F vs ds) : Rel K R F (.ref a) (.obj c ns ds)
  | cell {i : Nat} {a : Addr} (h : R[i]? = some a) : Rel K R F (.ref a) (.cell i)
  | exo {a d : Addr} {k : Str} {ns : List Str} {vs : List V} {ds : List D} (h : F d = some (.xd (ns.zip vs))) (z : ns.length = vs.length) (l : RelL K R F vs ds) : Rel K R F (.ref a) (.exo a (some d) k ns ds)
  | exo0 {a : Addr} {k : Str} : Rel K R F (.ref a) (.exo a none k [] [])
  | dic {a : Addr} {ks : List Key} {vs : List V} {ds : List D} (h : F a = some (.dK (ks.zip vs))) (z : ks.length = vs.length) (l : RelL K R F vs ds) : Rel K R F (.ref a) (.dic ks ds)
  | dit {a : Addr} {ks : List (List Key)} {vs : List V} {ds : List D} (h : F a = some (.dT (ks.zip vs))) (z : ks.length = vs.length) (l : RelL K R F vs ds) : Rel K R F (.ref a) (.dit ks ds)
inductive RelL (K : Frag) (R : List Addr) (F : Hp) : List V → List D → Prop where
  | nil : RelL K R F [] []
  | cons {v : V} {d : D} {vs : List V} {ds : List D} (h : Rel K R F v d) (t : RelL K R F vs ds) : RelL K R F (v :: vs) (d :: ds)
end

theorem Same.sqT {K : Frag} {H H' : Hp} {a : Addr} {xs : List V} (e : Same H H') (h : SqT K H a xs) : SqT K H' a xs := SqT.ext h e
theorem pre_get {α : Type} {R R' : List α} {i : Nat} {a : α} (p : R <+: R') (h : R[i]? = some a) : R'[i]? = some a := by
  obtain ⟨t, rfl⟩ := p
  have hi := (List.getElem?_eq_some_iff.mp h).1
  rw [List.getElem?_append_left hi]
  exact h
mutual
theorem Rel.mono {K : Frag} {R R' : List Addr} {F F' : Hp} (p : R <+: R') (e : Same F F') : ∀ {v : V} {d : D}, Rel K R F v d → Rel K R' F' v d
  | _, _, .non => .non
  | _, _, .bl b => .bl b
  | _, _, .int i => .int i
  | _, _, .str x => .str x
  | _, _, .ty n => .ty n
  | _, _, .gl x => .gl x
  | _, _, .tup h l => .tup (SqT.ext h e) (RelL.mono p e l)
  | _, _, .lst h l => .lst (e _ _ h) (RelL.mono p e l)
  | _, _, .scr h l => .scr (SqL.ext h e) (RelL.mono p e l)
  | _, _, .obj h z l => .obj (e _ _ h) z (RelL.mono p e l)
  | _, _, .cell h => .cell (pre_get p h)
  | _, _, .exo h z l => .exo (e _ _ h) z (RelL.mono p e l)
  | _, _, .exo0 => .exo0
  | _, _, .dic h z l => .dic (e _ _ h) z (RelL.mono p e l)
  | _, _, .dit h z l => .dit (e _ _ h) z (RelL.mono p e l)
theorem RelL.mono {K : Frag} {R R' : List Addr} {F F' : Hp} (p : R <+: R') (e : Same F F') : ∀ {vs : List V} {ds : List D}, RelL K R F vs ds → RelL K R' F' vs ds
  | _, _, .nil => .nil
  | _, _, .cons h t => .cons (Rel.mono p e h) (RelL.mono p e t)
end
section
variable {K : Frag} {R : List Addr} {F : Hp}
theorem RelL.length : ∀ {vs : List V} {ds : List D}, RelL K R F vs ds → vs.length = ds.length
  | _, _, .nil => rfl
  | _, _, .cons _ t => by rw [List.length_cons, List.length_cons, t.length]
theorem RelL.get : ∀ {vs : List V} {ds : List D} {i : Nat} {d : D}, RelL K R F vs ds → ds[i]? = some d → ∃ v, vs[i]? = some v ∧ Rel K R F v d
  | _, _, _, _, .nil, e => by simp at e
  | _, _, 0, _, .cons h _, e => by simp at e; subst e; exact ⟨_, rfl, h⟩
  | _, _, i + 1, _, .cons _ t, e => by
    obtain ⟨v, h1, h2⟩ := RelL.get (i := i) t (by simpa using e)
    exact ⟨v, by simpa using h1, h2⟩
theorem RelL.getV : ∀ {vs : List V} {ds : List D} {i : Nat} {v : V}, RelL K R F vs ds → vs[i]? = some v → ∃ d, ds[i]? = some d ∧ Rel K R F v d
  | _, _, _, _, .nil, e => by simp at e
  | _, _, 0, _, .cons h _, e => by simp at e; subst e; exact ⟨_, rfl, h⟩
  | _, _, i + 1, _, .cons _ t, e => by
    obtain ⟨v, h1, h2⟩ := RelL.getV (i := i) t (by simpa using e)
    exact ⟨v, by simpa using h1, h2⟩
theorem RelL.append : ∀ {vs us : List V} {ds es : List D}, RelL K R F vs ds → RelL K R F us es → RelL K R F (vs ++ us) (ds ++ es)
  | _, _, _, _, .nil, s => s
  | _, _, _, _, .cons h t, s => .cons h (t.append s)
theorem RelL.set {v : V} {d : D} (r : Rel K R F v d) : ∀ {vs : List V} {ds : List D} (i : Nat), RelL K R F vs ds → RelL K R F (vs.set i v) (ds.set i d)
  | _, _, _, .nil => .nil
  | _, _, 0, .cons _ t => .cons r t
  | _, _, i + 1, .cons h t => .cons h (t.set r i)
theorem RelL.take : ∀ {vs : List V} {ds : List D} (n : Nat), RelL K R F vs ds → RelL K R F (vs.take n) (ds.take n)
  | _, _, 0, _ => .nil
  | _, _, _ + 1, .nil => .nil
  | _, _, n + 1, .cons r t => .cons r (t.take n)
theorem RelL.drop : ∀ {vs : List V} {ds : List D} (n : Nat), RelL K R F vs ds → RelL K R F (vs.drop n) (ds.drop n)
  | _, _, 0, r => r
  | _, _, _ + 1, .nil => .nil
  | _, _, n + 1, .cons _ t => t.drop n
theorem RelL.one {v : V} {ds : List D} (h : RelL K R F [v] ds) : ∃ d, ds = [d] ∧ Rel K R F v d := by
  cases h with
  | cons h t => cases t; exact ⟨_, rfl, h⟩
theorem RelL.two {v u : V} {ds : List D} (h : RelL K R F [v, u] ds) : ∃ d e, ds = [d, e] ∧ Rel K R F v d ∧ Rel K R F u e := by
  cases h with
  | cons h t => obtain ⟨e, rfl, h2⟩ := t.one; exact ⟨_, _, rfl, h, h2⟩
end

/-! ### cells -/
inductive RelC (K : Frag) (R : List Addr) (F : Hp) : Cell → HO → Prop where
  | lst {vs : List V} {ds : List D} (l : RelL K R F vs ds) : RelC K R F (.lst ds) (.lst vs)
  | ins {dx : Addr} {c : Str} {ns : List Str} {vs : List V} {ds : List D} (z : ns.length = vs.length) (l : RelL K R F vs ds) : RelC K R F (.ins c ns ds) (.ins (He.ga K c) dx (ns.zip vs))
  | dct {ks : List Key} {vs : List V} {ds : List D} (z : ks.length = vs.length) (l : RelL K R F vs ds) : RelC K R F (.dct ks ds) (.dK (ks.zip vs))
  | dtt {ks : List (List Key)} {vs : List V} {ds : List D} (z : ks.length = vs.length) (l : RelL K R F vs ds) : RelC K R F (.dtt ks ds) (.dT (ks.zip vs))
theorem RelC.mono {K : Frag} {R R' : List Addr} {F F' : Hp} (p : R <+: R') (e : Same F F') {k : Cell} {o : HO} (h : RelC K R F k o) : RelC K R' F' k o := by
  cases h with
  | lst l => exact .lst (l.mono p e)
  | ins z l => exact .ins z (l.mono p e)
  | dct z l => exact .dct z (l.mono p e)
  | dtt z l => exact .dtt z (l.mono p e)
/-- the frame Z stands; the frozen part F stands in H, each cell stands at its own address, outside F -/
structure Wd (K : Frag) (Z : Hp) (R : List Addr) (F : Hp) (c : Cells) (H : Hp) : Prop where
  zs : Same Z H
  zf : ∀ a o, Z a = some o → F a = none ∧ a ∉ R
  same : Same F H
  len : R.length = c.length
  nd : R.Nodup
  cel : ∀ (i : Nat) (k : Cell), c[i]? = some k → ∃ a o, R[i]? = some a ∧ H a = some o ∧ RelC K R F k o ∧ F a = none
/-- the slots -/
def RelS (K : Frag) (R : List Addr) (F : Hp) (δ : En) (σ : St) : Prop := δ.length = σ.length ∧ ∀ (i : Nat) (d : D), δ[i]? = some (some d) → ∃ v, σ[i]? = some (some v) ∧ Rel K R F v d
theorem RelS.mono {K : Frag} {R R' : List Addr} {F F' : Hp} {δ : En} {σ : St} (p : R <+: R') (e : Same F F') (h : RelS K R F δ σ) : RelS K R' F' δ σ :=
  ⟨h.1, fun i d q => let ⟨v, h1, h2⟩ := h.2 i d q; ⟨v, h1, h2.mono p e⟩⟩
theorem RelS.set {K : Frag} {R : List Addr} {F : Hp} {δ : En} {σ : St} {i : Nat} {v : V} {d : D} (h : RelS K R F δ σ) (r : Rel K R F v d) : RelS K R F (δ.set i (some d)) (σ.set i (some v)) := by
  refine ⟨by rw [List.length_set, List.length_set]; exact h.1, fun j e q => ?_⟩
  by_cases hj : i = j
  · subst hj
    have hi : i < δ.length := by
      have := (List.getElem?_eq_some_iff.mp q).1
      rwa [List.length_set] at this
    rw [List.getElem?_set_self hi] at q
    cases q
    exact ⟨v, List.getElem?_set_self (by rw [← h.1]; exact hi), r⟩
  · rw [List.getElem?_set_ne hj] at q
    obtain ⟨u, h1, h2⟩ := h.2 j e q
    exact ⟨u, by rw [List.getElem?_set_ne hj]; exact h1, h2⟩
theorem RelS.del {K : Frag} {R : List Addr} {F : Hp} {δ : En} {σ : St} {i : Nat} {v : Option V} (h : RelS K R F δ σ) : RelS K R F (δ.set i none) (σ.set i v) := by
  refine ⟨by rw [List.length_set, List.length_set]; exact h.1, fun j e q => ?_⟩
  by_cases hj : i = j
  · subst hj
    have hi : i < δ.length := by
      have := (List.getElem?_eq_some_iff.mp q).1
      rwa [List.length_set] at this
    rw [List.getElem?_set_self hi] at q
    cases q
  · rw [List.getElem?_set_ne hj] at q
    obtain ⟨u, h1, h2⟩ := h.2 j e q
    exact ⟨u, by rw [List.getElem?_set_ne hj]; exact h1, h2⟩

section
variable {K : Frag} {Z : Hp} {R : List Addr} {F : Hp} {c : Cells} {H : Hp}
theorem Wd.none_of (h : Wd K Z R F c H) {p : Addr} (n : H p = none) : F p = none := h.same.free n
theorem Wd.notin (h : Wd K Z R F c H) {p : Addr} (n : H p = none) : p ∉ R := fun hm => by
  obtain ⟨i, hi, e⟩ := List.mem_iff_getElem.mp hm
  have hc : i < c.length := by rw [← h.len]; exact hi
  obtain ⟨a, o, h1, h2, _⟩ := h.cel i c[i] (List.getElem?_eq_getElem hc)
  rw [List.getElem?_eq_getElem hi, e] at h1
  cases h1
  rw [n] at h2
  cases h2
/-- a new frozen object -/
theorem Wd.frozen (h : Wd K Z R F c H) {p : Addr} (n : H p = none) (o : HO) : Wd K Z R (upd F p o) c (upd H p o) ∧ Same F (upd F p o) := by
  have s : Same F (upd F p o) := Ext.upd (h.none_of n)
  refine ⟨⟨h.zs.trans (Ext.upd n), fun a o e => ⟨?_, (h.zf a o e).2⟩, fun b u e => ?_, h.len, h.nd, fun i k q => ?_⟩, s⟩
  · rw [upd_ne (ne_of_none (h.zs a o e) n)]; exact (h.zf a o e).1
  · by_cases hb : b = p
    · subst hb; rw [upd_same] at e ⊢; exact e
    · rw [upd_ne hb] at e ⊢; exact h.same b u e
  · obtain ⟨a, u, h1, h2, h3, h4⟩ := h.cel i k q
    have ha : a ≠ p := ne_of_none h2 n
    exact ⟨a, u, h1, by rw [upd_ne ha]; exact h2, h3.mono (List.prefix_refl _) s, by rw [upd_ne ha]; exact h4⟩
/-- something new that is not looked at -/
theorem Wd.more (h : Wd K Z R F c H) {H' : Hp} (e : Same H H') : Wd K Z R F c H' := ⟨h.zs.trans e, h.zf, h.same.trans e, h.len, h.nd, fun i k q => let ⟨a, u, h1, h2, h3, h4⟩ := h.cel i k q; ⟨a, u, h1, e _ _ h2, h3, h4⟩⟩
/-- a new cell -/
theorem Wd.alloc (h : Wd K Z R F c H) {p : Addr} (n : H p = none) {k : Cell} {o : HO} (r : RelC K R F k o) : Wd K Z (R ++ [p]) F (c ++ [k]) (upd H p o) := by
  have pr : R <+: R ++ [p] := List.prefix_append _ _
  refine ⟨h.zs.trans (Ext.upd n), fun a o e => ⟨(h.zf a o e).1, fun hm => ?_⟩, fun b u e => ?_, by rw [List.length_append, List.length_append, h.len]; rfl, ?_, fun i q e => ?_⟩
  · rcases List.mem_append.mp hm with hm | hm
    · exact (h.zf a o e).2 hm
    · rw [List.mem_singleton] at hm
      subst hm
      have := h.zs _ _ e
      rw [n] at this
      cases this
  · rw [upd_ne (ne_of_none (h.same b u e) n)]; exact h.same b u e
  · rw [List.nodup_append]
    refine ⟨h.nd, by simp, fun a ha b hb => ?_⟩
    rw [List.mem_singleton] at hb
    subst hb
    intro e
    subst e
    exact h.notin n ha
  · rcases Nat.lt_trichotomy i c.length with hi | hi | hi
    · rw [List.getElem?_append_left hi] at e
      obtain ⟨a, u, h1, h2, h3, h4⟩ := h.cel i q e
      have ha : a ≠ p := ne_of_none h2 n
      exact ⟨a, u, pre_get pr h1, by rw [upd_ne ha]; exact h2, h3.mono pr (Same.refl _), h4⟩
    · subst hi
      rw [List.getElem?_append_right (Nat.le_refl _), Nat.sub_self] at e
      have e2 : k = q := Option.some.inj e
      subst e2
      refine ⟨p, o, ?_, upd_same, r.mono pr (Same.refl _), h.none_of n⟩
      rw [← h.len, List.getElem?_append_right (Nat.le_refl _), Nat.sub_self]
      rfl
    · rw [List.getElem?_eq_none (by rw [List.length_append]; simp; omega)] at e
      cases e
/-- a cell is written -/
theorem Wd.write (h : Wd K Z R F c H) {i : Nat} {a : Addr} (ha : R[i]? = some a) {k : Cell} {o : HO} (r : RelC K R F k o) : Wd K Z R F (c.set i k) (upd H a o) := by
  have hi : i < c.length := by rw [← h.len]; exact (List.getElem?_eq_some_iff.mp ha).1
  obtain ⟨a', o', h1', _, _, h4'⟩ := h.cel i c[i] (List.getElem?_eq_getElem hi)
  rw [ha] at h1'
  cases h1'
  have hmem : a ∈ R := List.mem_of_getElem? ha
  refine ⟨fun b u e => ?_, h.zf, fun b u e => ?_, by rw [List.length_set]; exact h.len, h.nd, fun j q e => ?_⟩
  · have hb : b ≠ a := fun z => by subst z; exact (h.zf _ _ e).2 hmem
    rw [upd_ne hb]; exact h.zs b u e
  · have hb : b ≠ a := fun z => by subst z; rw [h4'] at e; cases e
    rw [upd_ne hb]; exact h.same b u e
  · by_cases hj : i = j
    · subst hj
      rw [List.getElem?_set_self hi] at e
      cases e
      exact ⟨a, o, ha, upd_same, r, h4'⟩
    · rw [List.getElem?_set_ne hj] at e
      obtain ⟨b, u, h1, h2, h3, h4⟩ := h.cel j q e
      have hb : b ≠ a := fun z => by
        subst z
        obtain ⟨l1, e1⟩ := List.getElem?_eq_some_iff.mp ha
        obtain ⟨l2, e2⟩ := List.getElem?_eq_some_iff.mp h1
        exact hj ((List.getElem_inj h.nd).mp (e1.trans e2.symm))
      exact ⟨b, u, h1, by rw [upd_ne hb]; exact h2, h3, h4⟩
end
end Nw

set_option Elab.async false
set_option linter.all false
set_option maxRecDepth 100000
set_option maxHeartbeats 4000000
/-! Nw1: judgements: a piece of syntax does what a plain function says. -/
namespace Nw
open PySem PySem.Spec
open PyProof.Rows hiding St
open L2

inductive Out (α : Type) where
  | ok (a : α) (c : Cells) | exc (k : Str) (ns : List Str) (ds : List D) (c : Cells) | bad
def Out.bind {α β : Type} (o : Out α) (f : α → Cells → Out β) : Out β := match o with
  | .ok a c => f a c
  | .exc k ns ds c => .exc k ns ds c
  | .bad => .bad
theorem Out.bind_ok {α β : Type} {a : α} {c : Cells} {f : α → Cells → Out β} : (Out.ok a c).bind f = f a c := rfl
theorem Out.bind_exc {α β : Type} {k : Str} {ns : List Str} {ds : List D} {c : Cells} {f : α → Cells → Out β} : (Out.exc k ns ds c : Out α).bind f = .exc k ns ds c := rfl
theorem Out.bind_bad {α β : Type} {f : α → Cells → Out β} : (Out.bad : Out α).bind f = .bad := rfl
inductive Fl where
  | nx (δ : En) (c : Cells) | rt (d : D) (c : Cells) | bk (δ : En) (c : Cells) | ct (δ : En) (c : Cells) | exc (k : Str) (ns : List Str) (ds : List D) (δ : En) (c : Cells) | bad
abbrev ME := En → Cells → Out D
abbrev MT := En → Cells → Out Bool
abbrev MA := En → Cells → Out (List D)
abbrev MS := En → Cells → Fl
abbrev MF := List D → Cells → Out D
/-- an exception's own dict -/
inductive XR (K : Frag) (R : List Addr) (F : Hp) : List Str → List D → Option Addr → Prop where
  | none : XR K R F [] [] none
  | some {d : Addr} {ns : List Str} {vs : List V} {ds : List D} (h : F d = Option.some (.xd (ns.zip vs))) (z : ns.length = vs.length) (l : RelL K R F vs ds) : XR K R F ns ds (Option.some d)
theorem XR.mono {K : Frag} {R R' : List Addr} {F F' : Hp} (p : R <+: R') (e : Same F F') {ns : List Str} {ds : List D} {x : Option Addr} (h : XR K R F ns ds x) : XR K R' F' ns ds x := by
  cases h with
  | none => exact .none
  | some h z l => exact .some (e _ _ h) z (l.mono p e)
/-- what is wanted behind -/
def Aft {α : Type} (K : Frag) (Z : Hp) (W : WX) (R : List Addr) (F : Hp) (σ : St) (o : Out α) (Q : List Addr → Hp → α → Cells → Hp → Prop) : Prop := match o with
  | .ok a c => ∀ R' F' H', R <+: R' → Same F F' → Wd K Z R' F' c H' → Q R' F' a c H'
  | .exc k ns ds c => ∀ R' F' H' x, R <+: R' → Same F F' → Wd K Z R' F' c H' → XR K R' F' ns ds x → W (.ref (He.ga K k)) x σ H'
  | .bad => False
section
variable {α β : Type} {K : Frag} {Z : Hp} {W : WX} {R R1 : List Addr} {F F1 : Hp} {σ : St} {o : Out α} {Q Q' : List Addr → Hp → α → Cells → Hp → Prop}
theorem Aft.mono (p : R <+: R1) (e : Same F F1) (h : Aft K Z W R F σ o Q) : Aft K Z W R1 F1 σ o Q := by
  cases o with
  | ok a c => exact fun R' F' H' p' e' w => h R' F' H' (p.trans p') (e.trans e') w
  | exc k ns ds c => exact fun R' F' H' x p' e' w => h R' F' H' x (p.trans p') (e.trans e') w
  | bad => exact h
theorem Aft.bind {f : α → Cells → Out β} {Q : List Addr → Hp → β → Cells → Hp → Prop} (h : Aft K Z W R F σ (o.bind f) Q) : Aft K Z W R F σ o (fun R1 F1 a c1 H1 => R <+: R1 ∧ Same F F1 ∧ Wd K Z R1 F1 c1 H1 ∧ Aft K Z W R1 F1 σ (f a c1) Q) := by
  cases o with
  | ok a c => exact fun R' F' H' p e w => ⟨p, e, w, Aft.mono p e h⟩
  | exc k ns ds c => exact h
  | bad => exact h
theorem Aft.imp (h : Aft K Z W R F σ o Q) (hq : ∀ R' F' a c H', R <+: R' → Same F F' → Wd K Z R' F' c H' → Q R' F' a c H' → Q' R' F' a c H') : Aft K Z W R F σ o Q' := by
  cases o with
  | ok a c => exact fun R' F' H' p e w => hq _ _ _ _ _ p e w (h R' F' H' p e w)
  | exc k ns ds c => exact h
  | bad => exact h
theorem Aft.ok {a : α} {c : Cells} {H : Hp} (h : Aft K Z W R F σ (.ok a c) Q) (w : Wd K Z R F c H) : Q R F a c H := h R F H (List.prefix_refl _) (Same.refl _) w
end
abbrev QV (K : Frag) (Q : VK) : List Addr → Hp → D → Cells → Hp → Prop := fun R' F' d _ H' => ∀ v, Rel K R' F' v d → Q v H'
abbrev QL (K : Frag) (Q : List V → Hp → Prop) : List Addr → Hp → List D → Cells → Hp → Prop := fun R' F' ds _ H' => ∀ vs, RelL K R' F' vs ds → Q vs H'
abbrev QB (Q : Bool → Hp → Prop) : List Addr → Hp → Bool → Cells → Hp → Prop := fun _ _ b _ H' => Q b H'
/-- the judgements -/
structure DE (X : Cx) (W : WX) (e : Expr) (m : ME) : Prop where
  ex : ∃ t, PE X e t ∧ ∀ Z R F δ c σ H Q, Wd X.K Z R F c H → RelS X.K R F δ σ → Aft X.K Z W R F σ (m δ c) (QV X.K Q) → t σ H Q
structure DT (X : Cx) (W : WX) (e : Expr) (m : MT) : Prop where
  ex : ∃ t, PT X e t ∧ ∀ Z R F δ c σ H Q, Wd X.K Z R F c H → RelS X.K R F δ σ → Aft X.K Z W R F σ (m δ c) (QB Q) → t σ H Q
structure DW (X : Cx) (W : WX) (e : Expr) (m : MT) : Prop where
  ex : ∃ t, PW X e t ∧ ∀ Z R F δ c σ H Q, Wd X.K Z R F c H → RelS X.K R F δ σ → Aft X.K Z W R F σ (m δ c) (QB Q) → t σ H Q
structure DA (X : Cx) (W : WX) (es : List Expr) (m : MA) : Prop where
  ex : ∃ t, PA X es t ∧ ∀ Z R F δ c σ H Q, Wd X.K Z R F c H → RelS X.K R F δ σ → Aft X.K Z W R F σ (m δ c) (QL X.K Q) → t σ H Q
def AftS (K : Frag) (Z : Hp) (W : WX) (R : List Addr) (F : Hp) (o : Fl) (E : Ends) : Prop := match o with
  | .nx δ c => ∀ R' F' H' σ, R <+: R' → Same F F' → Wd K Z R' F' c H' → RelS K R' F' δ σ → E.nx σ H'
  | .bk δ c => ∀ R' F' H' σ, R <+: R' → Same F F' → Wd K Z R' F' c H' → RelS K R' F' δ σ → E.bk σ H'
  | .ct δ c => ∀ R' F' H' σ, R <+: R' → Same F F' → Wd K Z R' F' c H' → RelS K R' F' δ σ → E.ct σ H'
  | .rt d c => ∀ R' F' H' v, R <+: R' → Same F F' → Wd K Z R' F' c H' → Rel K R' F' v d → E.rt v H'
  | .exc k ns ds δ c => ∀ R' F' H' σ x, R <+: R' → Same F F' → Wd K Z R' F' c H' → RelS K R' F' δ σ → XR K R' F' ns ds x → W (.ref (He.ga K k)) x σ H'
  | .bad => False
theorem AftS.mono {K : Frag} {Z : Hp} {W : WX} {R R1 : List Addr} {F F1 : Hp} {o : Fl} {E : Ends} (p : R <+: R1) (e : Same F F1) (h : AftS K Z W R F o E) : AftS K Z W R1 F1 o E := by
  cases o with
  | nx δ c => exact fun R' F' H' σ p' e' => h R' F' H' σ (p.trans p') (e.trans e')
  | bk δ c => exact fun R' F' H' σ p' e' => h R' F' H' σ (p.trans p') (e.trans e')
  | ct δ c => exact fun R' F' H' σ p' e' => h R' F' H' σ (p.trans p') (e.trans e')
  | rt d c => exact fun R' F' H' v p' e' => h R' F' H' v (p.trans p') (e.trans e')
  | exc k ns ds δ c => exact fun R' F' H' σ x p' e' => h R' F' H' σ x (p.trans p') (e.trans e')
  | bad => exact h
structure DS (X : Cx) (W : WX) (st : Stmt) (m : MS) : Prop where
  ex : ∃ t, PS X st t ∧ ∀ Z R F δ c σ H E, Wd X.K Z R F c H → RelS X.K R F δ σ → AftS X.K Z W R F (m δ c) E → t E σ H
structure DSs (X : Cx) (W : WX) (st : List Stmt) (m : MS) : Prop where
  ex : ∃ t, PSs X st t ∧ ∀ Z R F δ c σ H E, Wd X.K Z R F c H → RelS X.K R F δ σ → AftS X.K Z W R F (m δ c) E → t E σ H
/-- from an expression's outcome to a statement's -/
def Out.fl (δ : En) {α : Type} (o : Out α) (f : α → Cells → Fl) : Fl := match o with
  | .ok a c => f a c
  | .exc k ns ds c => .exc k ns ds δ c
  | .bad => .bad
theorem Out.fl_ok {α : Type} {δ : En} {a : α} {c : Cells} {f : α → Cells → Fl} : (Out.ok a c).fl δ f = f a c := rfl
theorem Out.fl_exc {α : Type} {δ : En} {k : Str} {ns : List Str} {ds : List D} {c : Cells} {f : α → Cells → Fl} : (Out.exc k ns ds c : Out α).fl δ f = .exc k ns ds δ c := rfl
theorem AftS.fl {K : Frag} {Z : Hp} {W : WX} {R : List Addr} {F : Hp} {α : Type} {o : Out α} {f : α → Cells → Fl} {δ : En} {σ : St} {E : Ends} (rs : RelS K R F δ σ) (h : AftS K Z W R F (o.fl δ f) E) :
    Aft K Z W R F σ o (fun R1 F1 a c1 H1 => R <+: R1 ∧ Same F F1 ∧ Wd K Z R1 F1 c1 H1 ∧ AftS K Z W R1 F1 (f a c1) E) := by
  cases o with
  | ok a c => exact fun R' F' H' p e w => ⟨p, e, w, AftS.mono p e h⟩
  | exc k ns ds c => exact fun R' F' H' x p e w xr => h R' F' H' σ x p e w (rs.mono p e) xr
  | bad => exact h

/-! ### names, constants -/
section
variable {X : Cx} {W : WX} {pos : Pos}
def mVar (i : Nat) : ME := fun δ c => match δ[i]? with
  | some (some d) => .ok d c
  | _ => .bad
def mC (d : D) : ME := fun _ c => .ok d c
theorem Aft.var {K : Frag} {Z : Hp} {R : List Addr} {F : Hp} {σ : St} {δ : En} {c : Cells} {i : Nat} {Q : List Addr → Hp → D → Cells → Hp → Prop} (h : Aft K Z W R F σ (mVar i δ c) Q) : ∃ d, δ[i]? = some (some d) ∧ Aft K Z W R F σ (.ok d c) Q := by
  unfold mVar at h
  split at h
  · rename_i d e
    exact ⟨d, e, h⟩
  · exact h.elim
theorem de_pe {e : Expr} {i : Nat} (h : PE X e (tVar i)) : DE X W e (mVar i) := ⟨_, h, fun Z R F δ c σ H Q w rs h => by
  obtain ⟨d, e, h⟩ := h.var
  obtain ⟨v, hv, r⟩ := rs.2 i d e
  exact ⟨v, hv, h.ok w v r⟩⟩
theorem de_v (i : Nat) {x : Str} (hN : X.N[i]? = some x := by rfl) (hv : Vis X.env.scope x := by first | exact Or.inl rfl | exact Or.inr (Or.inl rfl) | exact Or.inr (Or.inr rfl)) (hd : (x == ("__debug__" : Str)) = false := by decide)
    (hcd : (x == ("__classdict__" : Str)) = false := by decide) : DE X W (.Name x pos) (mVar i) := de_pe (pe_var hN hv hd hcd)
theorem de_c {e : Expr} {v : V} {d : D} (h : PE X e (tC v)) (r : ∀ K R F, Rel K R F v d) : DE X W e (mC d) := ⟨_, h, fun Z R F δ c σ H Q w rs h => h.ok w v (r _ _ _)⟩
theorem de_int {i j} : DE X W (.Constant (.int i) j pos) (mC (.int i)) := de_c pe_int fun _ _ _ => .int i
theorem de_bl {b j} : DE X W (.Constant (.bool b) j pos) (mC (.bl b)) := de_c pe_bl fun _ _ _ => .bl b
theorem de_non {j} : DE X W (.Constant .none j pos) (mC .non) := de_c pe_non fun _ _ _ => .non
theorem de_str {x j} : DE X W (.Constant (.str x) j pos) (mC (.str x)) := de_c pe_str fun _ _ _ => .str x
/-- a module's text, number -/
theorem de_gstr {x z : Str} (hm : ∃ t, X.mg x = some (.str z t)) (hg : Gl X x := by rfl) (hd : (x == ("__debug__" : Str)) = false := by decide) : DE X W (.Name x pos) (mC (.str z)) := by
  obtain ⟨t, hm⟩ := hm
  exact de_c (pe_glob hg hm (v := .str z) ⟨t, rfl⟩ hd) fun _ _ _ => .str z
theorem de_gint {x : Str} {i : Int} (hm : ∃ t, X.mg x = some (.int i t)) (hg : Gl X x := by rfl) (hd : (x == ("__debug__" : Str)) = false := by decide) : DE X W (.Name x pos) (mC (.int i)) := by
  obtain ⟨t, hm⟩ := hm
  exact de_c (pe_glob hg hm (v := .int i) ⟨t, rfl⟩ hd) fun _ _ _ => .int i
/-- a module's own object (a class, a def) -/
theorem de_gl {x : Str} (hm : X.mg x = some (.ref (He.ga X.K x))) (hg : Gl X x := by rfl) (hd : (x == ("__debug__" : Str)) = false := by decide) : DE X W (.Name x pos) (mC (.gl x)) :=
  ⟨_, pe_glob hg hm (v := .ref (He.ga X.K x)) rfl hd, fun Z R F δ c σ H Q w rs h => h.ok w _ (.gl x)⟩
/-- a built-in class -/
theorem de_ty {x : Str} {n : String} (hm : X.mg x = none) (hv : bootBuiltins x = some (.type n)) (hg : Gl X x := by rfl) (hn : x ≠ "__name__" := by decide) (hd : (x == ("__debug__" : Str)) = false := by decide) : DE X W (.Name x pos) (mC (.ty n)) :=
  de_c (pe_bltn hg hm hv (v := .ty n) rfl hn hd) fun _ _ _ => .ty n
end

/-! ### operators -/
abbrev O2 := D → D → Cells → Out D
/-- an operator by values does what f says -/
def OpS (X : Cx) (g : Value → Value → Sem Value) (f : O2) : Prop := ∃ r, OpR X g r ∧ ∀ Z W R F c σ H x y d e Q, Wd X.K Z R F c H → Rel X.K R F x d → Rel X.K R F y e → Aft X.K Z W R F σ (f d e c) (QV X.K Q) → r x y H Q
def mOp (f : O2) (ma mb : ME) : ME := fun δ c => (ma δ c).bind fun x c1 => (mb δ c1).bind fun y c2 => f x y c2
section
variable {X : Cx} {W : WX} {pos : Pos} {a b : Expr} {ma mb : ME} {f : O2}
theorem op_read {ta tb : TE} {r : R2}
    (sa : ∀ Z R F δ c σ H Q, Wd X.K Z R F c H → RelS X.K R F δ σ → Aft X.K Z W R F σ (ma δ c) (QV X.K Q) → ta σ H Q)
    (sb : ∀ Z R F δ c σ H Q, Wd X.K Z R F c H → RelS X.K R F δ σ → Aft X.K Z W R F σ (mb δ c) (QV X.K Q) → tb σ H Q)
    (so : ∀ Z W R F c σ H x y d e Q, Wd X.K Z R F c H → Rel X.K R F x d → Rel X.K R F y e → Aft X.K Z W R F σ (f d e c) (QV X.K Q) → r x y H Q) :
    ∀ Z R F δ c σ H Q, Wd X.K Z R F c H → RelS X.K R F δ σ → Aft X.K Z W R F σ (mOp f ma mb δ c) (QV X.K Q) → tOp r ta tb σ H Q := by
  intro Z R F δ c σ H Q w rs h
  refine sa Z R F δ c σ H _ w rs ((Aft.bind h).imp ?_)
  rintro R1 F1 d c1 H1 p1 e1 w1 ⟨_, _, _, h1⟩ x rx
  refine sb Z R1 F1 δ c1 σ H1 _ w1 (rs.mono p1 e1) ((Aft.bind h1).imp ?_)
  rintro R2 F2 e c2 H2 p2 e2 w2 ⟨_, _, _, h2⟩ y ry
  exact so Z W R2 F2 c2 σ H2 x y d e Q w2 (rx.mono p2 e2) ry h2
theorem de_op {op : Operator} (ho : OpS X (binaryOp op) f) (ha : DE X W a ma) (hb : DE X W b mb) : DE X W (.BinOp a op b pos) (mOp f ma mb) := by
  obtain ⟨ta, pa, sa⟩ := ha.ex
  obtain ⟨tb, pb, sb⟩ := hb.ex
  obtain ⟨r, po, so⟩ := ho
  exact ⟨_, pe_op po pa pb, op_read sa sb so⟩
theorem de_cmp {op : CmpOp} (ho : OpS X (compareOp op) f) (ha : DE X W a ma) (hb : DE X W b mb) (hm : behindInMarks op b = false := by first | exact nomark _ | rfl) : DE X W (.Compare a [op] [b] pos) (mOp f ma mb) := by
  obtain ⟨ta, pa, sa⟩ := ha.ex
  obtain ⟨tb, pb, sb⟩ := hb.ex
  obtain ⟨r, po, so⟩ := ho
  exact ⟨_, pe_cmpR po pa pb hm, op_read sa sb so⟩
def asB : D → Cells → Out Bool := fun d c => match d with
  | .bl b => .ok b c
  | _ => .bad
def mB (m : ME) : MT := fun δ c => (m δ c).bind asB
theorem Aft.asB {K : Frag} {Z : Hp} {R : List Addr} {F : Hp} {σ : St} {d : D} {c : Cells} {Q : List Addr → Hp → Bool → Cells → Hp → Prop} (h : Aft K Z W R F σ (asB d c) Q) : ∃ b, d = .bl b ∧ Aft K Z W R F σ (.ok b c) Q := by
  cases d with
  | bl b => exact ⟨b, rfl, h⟩
  | _ => exact h.elim
theorem b_read {ta : TE} (sa : ∀ Z R F δ c σ H Q, Wd X.K Z R F c H → RelS X.K R F δ σ → Aft X.K Z W R F σ (ma δ c) (QV X.K Q) → ta σ H Q) :
    ∀ Z R F δ c σ H Q, Wd X.K Z R F c H → RelS X.K R F δ σ → Aft X.K Z W R F σ (mB ma δ c) (QB Q) → tB ta σ H Q := by
  intro Z R F δ c σ H Q w rs h
  refine sa Z R F δ c σ H _ w rs ((Aft.bind h).imp ?_)
  rintro R1 F1 d c1 H1 p1 e1 w1 ⟨_, _, _, h1⟩ x rx
  obtain ⟨b, rfl, h1⟩ := h1.asB
  cases rx
  exact ⟨b, rfl, h1.ok w1⟩
/-- an expression that gives True or False, as a test -/
theorem dt_val (ha : DE X W a ma) (he : ∀ whole, isTrue a X.env whole = (do let v ← whole; standAt a.pos; holding [v] (truthy v)) := by intro _; rfl) : DT X W a (mB ma) := by
  obtain ⟨ta, pa, sa⟩ := ha.ex
  exact ⟨_, pt_val pa he, b_read sa⟩
theorem dt_cmp {op : CmpOp} (ho : OpS X (compareOp op) f) (ha : DE X W a ma) (hb : DE X W b mb) (hm : behindInMarks op b = false := by first | exact nomark _ | rfl) : DT X W (.Compare a [op] [b] pos) (mB (mOp f ma mb)) := by
  obtain ⟨ta, pa, sa⟩ := ha.ex
  obtain ⟨tb, pb, sb⟩ := hb.ex
  obtain ⟨r, po, so⟩ := ho
  exact ⟨_, pt_cmpR po pa pb hm, b_read (op_read sa sb so)⟩
end
/-! ### a < b < c -/
def mChain (f g : O2) (ma mb mc : ME) : ME := fun δ c => (ma δ c).bind fun x c1 => (mb δ c1).bind fun y c2 => (f x y c2).bind fun z c3 => (asB z c3).bind fun k c4 => if k = true then (mc δ c4).bind fun u c5 => g y u c5 else .ok (.bl false) c4
section
variable {X : Cx} {W : WX} {pos : Pos} {a b d : Expr} {ma mb md : ME} {f g : O2}
theorem chain_read {ta tb td : TE} {r r' : R2}
    (sa : ∀ Z R F δ c σ H Q, Wd X.K Z R F c H → RelS X.K R F δ σ → Aft X.K Z W R F σ (ma δ c) (QV X.K Q) → ta σ H Q)
    (sb : ∀ Z R F δ c σ H Q, Wd X.K Z R F c H → RelS X.K R F δ σ → Aft X.K Z W R F σ (mb δ c) (QV X.K Q) → tb σ H Q)
    (sd : ∀ Z R F δ c σ H Q, Wd X.K Z R F c H → RelS X.K R F δ σ → Aft X.K Z W R F σ (md δ c) (QV X.K Q) → td σ H Q)
    (so : ∀ Z W R F c σ H x y d e Q, Wd X.K Z R F c H → Rel X.K R F x d → Rel X.K R F y e → Aft X.K Z W R F σ (f d e c) (QV X.K Q) → r x y H Q)
    (so' : ∀ Z W R F c σ H x y d e Q, Wd X.K Z R F c H → Rel X.K R F x d → Rel X.K R F y e → Aft X.K Z W R F σ (g d e c) (QV X.K Q) → r' x y H Q) :
    ∀ Z R F δ c σ H Q, Wd X.K Z R F c H → RelS X.K R F δ σ → Aft X.K Z W R F σ (mChain f g ma mb md δ c) (QV X.K Q) → tChain r r' ta tb td σ H Q := by
  intro Z R F δ c σ H Q w rs h
  refine sa Z R F δ c σ H _ w rs ((Aft.bind h).imp ?_)
  rintro R1 F1 d c1 H1 p1 e1 w1 ⟨_, _, _, h1⟩ x rx
  refine sb Z R1 F1 δ c1 σ H1 _ w1 (rs.mono p1 e1) ((Aft.bind h1).imp ?_)
  rintro R2 F2 e c2 H2 p2 e2 w2 ⟨_, _, _, h2⟩ y ry
  refine so Z W R2 F2 c2 σ H2 x y d e _ w2 (rx.mono p2 e2) ry ((Aft.bind h2).imp ?_)
  rintro R3 F3 z c3 H3 p3 e3 w3 ⟨_, _, _, h3⟩ v rv
  have h4 := Aft.bind h3
  obtain ⟨k, rfl, h4⟩ := h4.asB
  obtain ⟨_, _, _, h4⟩ := h4.ok w3
  cases rv
  refine ⟨k, rfl, ?_⟩
  cases k with
  | false =>
    rw [if_neg (by decide)] at h4 ⊢
    exact h4.ok w3 _ (.bl false)
  | true =>
    rw [if_pos rfl] at h4 ⊢
    refine sd Z R3 F3 δ c3 σ H3 _ w3 (((rs.mono p1 e1).mono p2 e2).mono p3 e3) ((Aft.bind h4).imp ?_)
    rintro R4 F4 u c4 H4 p4 e4 w4 ⟨_, _, _, h5⟩ v rv
    exact so' Z W R4 F4 c4 σ H4 y v e u Q w4 ((ry.mono p3 e3).mono p4 e4) rv h5
theorem de_chain {op op' : CmpOp} (ho : OpS X (compareOp op) f) (ho' : OpS X (compareOp op') g) (ha : DE X W a ma) (hb : DE X W b mb) (hd : DE X W d md) (hm : lastMarks [op, op'] [b, d] = false := by with_unfolding_all rfl) :
    DE X W (.Compare a [op, op'] [b, d] pos) (mChain f g ma mb md) := by
  obtain ⟨ta, pa, sa⟩ := ha.ex
  obtain ⟨tb, pb, sb⟩ := hb.ex
  obtain ⟨td, pd, sd⟩ := hd.ex
  obtain ⟨r, po, so⟩ := ho
  obtain ⟨r', po', so'⟩ := ho'
  exact ⟨_, pe_chain po po' pa pb pd hm, chain_read sa sb sd so so'⟩
theorem dt_chain {op op' : CmpOp} (ho : OpS X (compareOp op) f) (ho' : OpS X (compareOp op') g) (ha : DE X W a ma) (hb : DE X W b mb) (hd : DE X W d md) (hm : lastMarks [op, op'] [b, d] = false := by with_unfolding_all rfl) :
    DT X W (.Compare a [op, op'] [b, d] pos) (mB (mChain f g ma mb md)) := by
  obtain ⟨ta, pa, sa⟩ := ha.ex
  obtain ⟨tb, pb, sb⟩ := hb.ex
  obtain ⟨td, pd, sd⟩ := hd.ex
  obtain ⟨r, po, so⟩ := ho
  obtain ⟨r', po', so'⟩ := ho'
  exact ⟨_, pt_chain po po' pa pb pd hm, b_read (chain_read sa sb sd so so')⟩

/-! ### and, or, not, if -/
def mAndT (ma mb : MT) : MT := fun δ c => (ma δ c).bind fun k c1 => if k = true then mb δ c1 else .ok false c1
def mOrT (ma mb : MT) : MT := fun δ c => (ma δ c).bind fun k c1 => if k = true then .ok true c1 else mb δ c1
def mNotT (ma : MT) : MT := fun δ c => (ma δ c).bind fun k c1 => .ok (!k) c1
variable {na nb : MT} {rest : List Expr}
theorem dw_and1 (ha : DT X W a na) : DW X W (.BoolOp .And [a] pos) na := by
  obtain ⟨ta, pa, sa⟩ := ha.ex
  exact ⟨_, pw_and1 pa, sa⟩
theorem dw_or1 (ha : DT X W a na) : DW X W (.BoolOp .Or [a] pos) na := by
  obtain ⟨ta, pa, sa⟩ := ha.ex
  exact ⟨_, pw_or1 pa, sa⟩
theorem dw_and (ha : DT X W a na) (hb : DW X W (.BoolOp .And (b :: rest) pos) nb) : DW X W (.BoolOp .And (a :: b :: rest) pos) (mAndT na nb) := by
  obtain ⟨ta, pa, sa⟩ := ha.ex
  obtain ⟨tb, pb, sb⟩ := hb.ex
  refine ⟨_, pw_and pa pb, fun Z R F δ c σ H Q w rs h => sa Z R F δ c σ H _ w rs ((Aft.bind h).imp ?_)⟩
  rintro R1 F1 k c1 H1 p1 e1 w1 ⟨_, _, _, h1⟩
  cases k with
  | false =>
    rw [if_neg (by decide)] at h1
    show if false = true then _ else _
    rw [if_neg (by decide)]
    exact h1.ok w1
  | true =>
    rw [if_pos rfl] at h1
    show if true = true then _ else _
    rw [if_pos rfl]
    exact sb Z R1 F1 δ c1 σ H1 _ w1 (rs.mono p1 e1) h1
theorem dw_or (ha : DT X W a na) (hb : DW X W (.BoolOp .Or (b :: rest) pos) nb) : DW X W (.BoolOp .Or (a :: b :: rest) pos) (mOrT na nb) := by
  obtain ⟨ta, pa, sa⟩ := ha.ex
  obtain ⟨tb, pb, sb⟩ := hb.ex
  refine ⟨_, pw_or pa pb, fun Z R F δ c σ H Q w rs h => sa Z R F δ c σ H _ w rs ((Aft.bind h).imp ?_)⟩
  rintro R1 F1 k c1 H1 p1 e1 w1 ⟨_, _, _, h1⟩
  cases k with
  | true =>
    rw [if_pos rfl] at h1
    show if true = true then _ else _
    rw [if_pos rfl]
    exact h1.ok w1
  | false =>
    rw [if_neg (by decide)] at h1
    show if false = true then _ else _
    rw [if_neg (by decide)]
    exact sb Z R1 F1 δ c1 σ H1 _ w1 (rs.mono p1 e1) h1
theorem DW.dt {e : Expr} (h : DW X W e na) : DT X W e na := by
  obtain ⟨ta, pa, sa⟩ := h.ex
  exact ⟨_, pa.pt, sa⟩
theorem dt_not (ha : DT X W a na) : DT X W (.UnaryOp .Not a pos) (mNotT na) := by
  obtain ⟨ta, pa, sa⟩ := ha.ex
  refine ⟨_, pt_not pa, fun Z R F δ c σ H Q w rs h => sa Z R F δ c σ H _ w rs ((Aft.bind h).imp ?_)⟩
  rintro R1 F1 k c1 H1 p1 e1 w1 ⟨_, _, _, h1⟩
  exact h1.ok w1
/-- as values: True, False alone -/
def mAnd (ma mb : ME) : ME := fun δ c => (mB ma δ c).bind fun k c1 => if k = true then mb δ c1 else .ok (.bl false) c1
def mOr (ma mb : ME) : ME := fun δ c => (mB ma δ c).bind fun k c1 => if k = true then .ok (.bl true) c1 else mb δ c1
def mNot (ma : ME) : ME := fun δ c => (mB ma δ c).bind fun k c1 => .ok (.bl (!k)) c1
theorem de_one {op} (h : DE X W a ma) : DE X W (.BoolOp op [a] pos) ma := by
  obtain ⟨ta, pa, sa⟩ := h.ex
  exact ⟨_, pe_one pa, sa⟩
theorem mB_of {K : Frag} {Z : Hp} {R : List Addr} {F : Hp} {σ : St} {o : Out D} {α : Type} {f : Bool → Cells → Out α} {Q : List Addr → Hp → α → Cells → Hp → Prop} (h : Aft K Z W R F σ ((o.bind asB).bind f) Q) :
    Aft K Z W R F σ o (fun R1 F1 d c1 H1 => ∃ k, d = .bl k ∧ Aft K Z W R1 F1 σ (f k c1) Q) := by
  have h2 := Aft.bind (Aft.bind h)
  refine h2.imp ?_
  rintro R1 F1 d c1 H1 p1 e1 w1 ⟨_, _, _, h1⟩
  obtain ⟨k, rfl, h1⟩ := h1.asB
  obtain ⟨_, _, _, h1⟩ := h1.ok w1
  exact ⟨k, rfl, h1⟩
theorem de_and (ha : DE X W a ma) (hb : DE X W (.BoolOp .And (b :: rest) pos) mb) : DE X W (.BoolOp .And (a :: b :: rest) pos) (mAnd ma mb) := by
  obtain ⟨ta, pa, sa⟩ := ha.ex
  obtain ⟨tb, pb, sb⟩ := hb.ex
  refine ⟨_, pe_and pa pb, fun Z R F δ c σ H Q w rs h => sa Z R F δ c σ H _ w rs ((mB_of h).imp ?_)⟩
  rintro R1 F1 d c1 H1 p1 e1 w1 ⟨k, rfl, h1⟩ x rx
  cases rx
  refine ⟨k, rfl, ?_⟩
  cases k with
  | false =>
    rw [if_neg (by decide)] at h1 ⊢
    exact h1.ok w1 _ (.bl false)
  | true =>
    rw [if_pos rfl] at h1 ⊢
    exact sb Z R1 F1 δ c1 σ H1 _ w1 (rs.mono p1 e1) h1
theorem de_or (ha : DE X W a ma) (hb : DE X W (.BoolOp .Or (b :: rest) pos) mb) : DE X W (.BoolOp .Or (a :: b :: rest) pos) (mOr ma mb) := by
  obtain ⟨ta, pa, sa⟩ := ha.ex
  obtain ⟨tb, pb, sb⟩ := hb.ex
  refine ⟨_, pe_or pa pb, fun Z R F δ c σ H Q w rs h => sa Z R F δ c σ H _ w rs ((mB_of h).imp ?_)⟩
  rintro R1 F1 d c1 H1 p1 e1 w1 ⟨k, rfl, h1⟩ x rx
  cases rx
  refine ⟨k, rfl, ?_⟩
  cases k with
  | true =>
    rw [if_pos rfl] at h1 ⊢
    exact h1.ok w1 _ (.bl true)
  | false =>
    rw [if_neg (by decide)] at h1 ⊢
    exact sb Z R1 F1 δ c1 σ H1 _ w1 (rs.mono p1 e1) h1
theorem de_not (ha : DE X W a ma) : DE X W (.UnaryOp .Not a pos) (mNot ma) := by
  obtain ⟨ta, pa, sa⟩ := ha.ex
  refine ⟨_, pe_not pa, fun Z R F δ c σ H Q w rs h => sa Z R F δ c σ H _ w rs ((mB_of h).imp ?_)⟩
  rintro R1 F1 d c1 H1 p1 e1 w1 ⟨k, rfl, h1⟩ x rx
  cases rx
  exact ⟨k, rfl, h1.ok w1 _ (.bl _)⟩
def mIf (mc : MT) (ma mb : ME) : ME := fun δ c => (mc δ c).bind fun k c1 => if k = true then ma δ c1 else mb δ c1
theorem de_if {t : Expr} (hc : DT X W t na) (ha : DE X W a ma) (hb : DE X W b mb) : DE X W (.IfExp t a b pos) (mIf na ma mb) := by
  obtain ⟨tc, pc, sc⟩ := hc.ex
  obtain ⟨ta, pa, sa⟩ := ha.ex
  obtain ⟨tb, pb, sb⟩ := hb.ex
  refine ⟨_, pe_ifExp pc pa pb, fun Z R F δ c σ H Q w rs h => sc Z R F δ c σ H _ w rs ((Aft.bind h).imp ?_)⟩
  rintro R1 F1 k c1 H1 p1 e1 w1 ⟨_, _, _, h1⟩
  cases k with
  | true =>
    rw [if_pos rfl] at h1
    show if true = true then _ else _
    rw [if_pos rfl]
    exact sa Z R1 F1 δ c1 σ H1 _ w1 (rs.mono p1 e1) h1
  | false =>
    rw [if_neg (by decide)] at h1
    show if false = true then _ else _
    rw [if_neg (by decide)]
    exact sb Z R1 F1 δ c1 σ H1 _ w1 (rs.mono p1 e1) h1

/-! ### argument lists, displays -/
def mNil : MA := fun _ c => .ok [] c
def mCons (m : ME) (ms : MA) : MA := fun δ c => (m δ c).bind fun x c1 => (ms δ c1).bind fun xs c2 => .ok (x :: xs) c2
variable {es : List Expr} {ms : MA}
theorem da_nil : DA X W [] mNil := ⟨_, pa_nil, fun Z R F δ c σ H Q w rs h => h.ok w _ .nil⟩
theorem da_cons (ha : DE X W a ma) (hr : DA X W es ms) (hs : starEach (a :: es) X.env = (false, eval a X.env) :: starEach es X.env := by rfl) : DA X W (a :: es) (mCons ma ms) := by
  obtain ⟨ta, pa, sa⟩ := ha.ex
  obtain ⟨tr, pr, sr⟩ := hr.ex
  refine ⟨_, pa_cons pa pr hs, fun Z R F δ c σ H Q w rs h => sa Z R F δ c σ H _ w rs ((Aft.bind h).imp ?_)⟩
  rintro R1 F1 d c1 H1 p1 e1 w1 ⟨_, _, _, h1⟩ x rx
  refine sr Z R1 F1 δ c1 σ H1 _ w1 (rs.mono p1 e1) ((Aft.bind h1).imp ?_)
  rintro R2 F2 ds c2 H2 p2 e2 w2 ⟨_, _, _, h2⟩ xs rxs
  exact h2.ok w2 _ (.cons (rx.mono p2 e2) rxs)
def tupD (ds : List D) (c : Cells) : Out D := if ds.length ≤ sizeLine then .ok (.tup ds) c else .bad
def lstD (ds : List D) (c : Cells) : Out D := if ds.length ≤ sizeLine then .ok (.lst ds) c else .bad
/-- a new list that will change: a cell -/
def lstC (ds : List D) (c : Cells) : Out D := if ds.length ≤ sizeLine then .ok (.cell c.length) (c ++ [.lst ds]) else .bad
def mTup (ms : MA) : ME := fun δ c => (ms δ c).bind tupD
def mLst (ms : MA) : ME := fun δ c => (ms δ c).bind lstD
def mLstC (ms : MA) : ME := fun δ c => (ms δ c).bind lstC
theorem new_tup {K : Frag} {Z : Hp} {R : List Addr} {F : Hp} {σ : St} {c : Cells} {H : Hp} {ds : List D} {vs : List V} {Q : VK} (w : Wd K Z R F c H) (r : RelL K R F vs ds) (h : Aft K Z W R F σ (tupD ds c) (QV K Q)) :
    vs.length ≤ sizeLine ∧ ∀ p, H p = none → Q (.ref p) (upd H p (.tup vs)) := by
  unfold tupD at h
  by_cases hz : ds.length ≤ sizeLine
  · rw [if_pos hz] at h
    refine ⟨by rw [r.length]; exact hz, fun p n => ?_⟩
    obtain ⟨w2, s2⟩ := w.frozen n (.tup vs)
    exact h _ _ _ (List.prefix_refl _) s2 w2 _ (.tup (SqT.of upd_same) (r.mono (List.prefix_refl _) s2))
  · rw [if_neg hz] at h
    exact h.elim
theorem new_lst {K : Frag} {Z : Hp} {R : List Addr} {F : Hp} {σ : St} {c : Cells} {H : Hp} {ds : List D} {vs : List V} {Q : VK} (w : Wd K Z R F c H) (r : RelL K R F vs ds) (h : Aft K Z W R F σ (lstD ds c) (QV K Q)) :
    vs.length ≤ sizeLine ∧ ∀ p, H p = none → Q (.ref p) (upd H p (.lst vs)) := by
  unfold lstD at h
  by_cases hz : ds.length ≤ sizeLine
  · rw [if_pos hz] at h
    refine ⟨by rw [r.length]; exact hz, fun p n => ?_⟩
    obtain ⟨w2, s2⟩ := w.frozen n (.lst vs)
    exact h _ _ _ (List.prefix_refl _) s2 w2 _ (.lst upd_same (r.mono (List.prefix_refl _) s2))
  · rw [if_neg hz] at h
    exact h.elim
theorem new_lstC {K : Frag} {Z : Hp} {R : List Addr} {F : Hp} {σ : St} {c : Cells} {H : Hp} {ds : List D} {vs : List V} {Q : VK} (w : Wd K Z R F c H) (r : RelL K R F vs ds) (h : Aft K Z W R F σ (lstC ds c) (QV K Q)) :
    vs.length ≤ sizeLine ∧ ∀ p, H p = none → Q (.ref p) (upd H p (.lst vs)) := by
  unfold lstC at h
  by_cases hz : ds.length ≤ sizeLine
  · rw [if_pos hz] at h
    refine ⟨by rw [r.length]; exact hz, fun p n => ?_⟩
    have w2 := w.alloc n (.lst r)
    refine h _ _ _ (List.prefix_append _ _) (Same.refl _) w2 _ (.cell ?_)
    rw [← w.len, List.getElem?_append_right (Nat.le_refl _), Nat.sub_self]
    rfl
  · rw [if_neg hz] at h
    exact h.elim
theorem de_tup {x1} (h : DA X W es ms) : DE X W (.Tuple es x1 pos) (mTup ms) := by
  obtain ⟨ta, pa, sa⟩ := h.ex
  refine ⟨_, pe_tup pa, fun Z R F δ c σ H Q w rs h => sa Z R F δ c σ H _ w rs ((Aft.bind h).imp ?_)⟩
  rintro R1 F1 ds c1 H1 p1 e1 w1 ⟨_, _, _, h1⟩ vs rv
  exact new_tup w1 rv h1
theorem de_lst (h : DA X W es ms) : DE X W (.List es pos) (mLst ms) := by
  obtain ⟨ta, pa, sa⟩ := h.ex
  refine ⟨_, pe_lst pa, fun Z R F δ c σ H Q w rs h => sa Z R F δ c σ H _ w rs ((Aft.bind h).imp ?_)⟩
  rintro R1 F1 ds c1 H1 p1 e1 w1 ⟨_, _, _, h1⟩ vs rv
  exact new_lst w1 rv h1
theorem de_lstC (h : DA X W es ms) : DE X W (.List es pos) (mLstC ms) := by
  obtain ⟨ta, pa, sa⟩ := h.ex
  refine ⟨_, pe_lst pa, fun Z R F δ c σ H Q w rs h => sa Z R F δ c σ H _ w rs ((Aft.bind h).imp ?_)⟩
  rintro R1 F1 ds c1 H1 p1 e1 w1 ⟨_, _, _, h1⟩ vs rv
  exact new_lstC w1 rv h1
end

/-! ### statements -/
section
variable {X : Cx} {W : WX} {pos : Pos} {e : Expr} {m : ME} {st : Stmt} {rest : List Stmt} {ms mr : MS}
def mSkip : MS := fun δ c => .nx δ c
def mSeq (m1 m2 : MS) : MS := fun δ c => match m1 δ c with
  | .nx δ' c' => m2 δ' c'
  | o => o
theorem AftS.seq {K : Frag} {Z : Hp} {R : List Addr} {F : Hp} {o : Fl} {f : En → Cells → Fl} {E : Ends} {N : L2.St → Hp → Prop} (h : AftS K Z W R F (match o with | .nx δ' c' => f δ' c' | o => o) E)
    (hN : ∀ δ c R' F' H' σ, R <+: R' → Same F F' → Wd K Z R' F' c H' → RelS K R' F' δ σ → AftS K Z W R' F' (f δ c) E → N σ H') : AftS K Z W R F o { E with nx := N } := by
  cases o with
  | nx δ c => exact fun R' F' H' σ p e w rs => hN δ c R' F' H' σ p e w rs (AftS.mono p e h)
  | rt d c => exact h
  | bk δ c => exact h
  | ct δ c => exact h
  | exc k ns ds δ c => exact h
  | bad => exact h
theorem dss_nil : DSs X W [] mSkip := ⟨_, pss_nil, fun Z R F δ c σ H E w rs h => h R F H σ (List.prefix_refl _) (Same.refl _) w rs⟩
theorem dss_one (h : DS X W st ms) : DSs X W [st] ms := by
  obtain ⟨t, p, s⟩ := h.ex
  exact ⟨_, pss_one p, s⟩
theorem dss_cons (h : DS X W st ms) (h2 : DSs X W rest mr) : DSs X W (st :: rest) (mSeq ms mr) := by
  obtain ⟨t, p, s⟩ := h.ex
  obtain ⟨u, q, s2⟩ := h2.ex
  refine ⟨_, pss_cons p q, fun Z R F δ c σ H E w rs h => s Z R F δ c σ H _ w rs (AftS.seq h ?_)⟩
  intro δ' c' R' F' H' σ' p' e' w' rs' h'
  exact s2 Z R' F' δ' c' σ' H' E w' rs' h'
theorem ds_pass : DS X W (.Pass pos) mSkip := ⟨_, ps_pass, fun Z R F δ c σ H E w rs h => h R F H σ (List.prefix_refl _) (Same.refl _) w rs⟩
theorem ds_break : DS X W (.Break pos) (fun δ c => .bk δ c) := ⟨_, ps_break, fun Z R F δ c σ H E w rs h => h R F H σ (List.prefix_refl _) (Same.refl _) w rs⟩
theorem ds_continue : DS X W (.Continue pos) (fun δ c => .ct δ c) := ⟨_, ps_continue, fun Z R F δ c σ H E w rs h => h R F H σ (List.prefix_refl _) (Same.refl _) w rs⟩
theorem ds_never : DS X W st (fun _ _ => .bad) := ⟨_, ps_never, fun Z R F δ c σ H E w rs h => h.elim⟩
theorem dss_never {sts : List Stmt} : DSs X W sts (fun _ _ => .bad) := ⟨_, pss_never, fun Z R F δ c σ H E w rs h => h.elim⟩
def mExpr (m : ME) : MS := fun δ c => (m δ c).fl δ fun _ c1 => .nx δ c1
theorem ds_expr (h : DE X W e m) (hs : swapsWith e none pos.line X.env = pure false := by rfl) : DS X W (.Expr e pos) (mExpr m) := by
  obtain ⟨t, p, s⟩ := h.ex
  refine ⟨_, ps_expr p hs, fun Z R F δ c σ H E w rs h => s Z R F δ c σ H _ w rs ((AftS.fl rs h).imp ?_)⟩
  rintro R1 F1 d c1 H1 p1 e1 w1 ⟨_, _, _, h1⟩ x rx
  exact h1 R1 F1 H1 σ (List.prefix_refl _) (Same.refl _) w1 (rs.mono p1 e1)
def mRet (m : ME) : MS := fun δ c => (m δ c).fl δ fun d c1 => .rt d c1
theorem ds_ret (h : DE X W e m) : DS X W (.Return (some e) pos) (mRet m) := by
  obtain ⟨t, p, s⟩ := h.ex
  refine ⟨_, ps_ret p, fun Z R F δ c σ H E w rs h => s Z R F δ c σ H _ w rs ((AftS.fl rs h).imp ?_)⟩
  rintro R1 F1 d c1 H1 p1 e1 w1 ⟨_, _, _, h1⟩ x rx
  exact h1 R1 F1 H1 x (List.prefix_refl _) (Same.refl _) w1 rx
theorem ds_retN : DS X W (.Return none pos) (fun _ c => .rt .non c) := ⟨_, ps_retN, fun Z R F δ c σ H E w rs h => h R F H .non (List.prefix_refl _) (Same.refl _) w .non⟩
def mIfS (mc : MT) (ma mb : MS) : MS := fun δ c => (mc δ c).fl δ fun k c1 => if k = true then ma δ c1 else mb δ c1
theorem ds_if {t : Expr} {a b : List Stmt} {mc : MT} {ma mb : MS} (hc : DT X W t mc) (ha : DSs X W a ma) (hb : DSs X W b mb) : DS X W (.If t a b pos) (mIfS mc ma mb) := by
  obtain ⟨tc, pc, sc⟩ := hc.ex
  obtain ⟨ta, pa, sa⟩ := ha.ex
  obtain ⟨tb, pb, sb⟩ := hb.ex
  refine ⟨_, ps_if pc pa pb, fun Z R F δ c σ H E w rs h => sc Z R F δ c σ H _ w rs ((AftS.fl rs h).imp ?_)⟩
  rintro R1 F1 k c1 H1 p1 e1 w1 ⟨_, _, _, h1⟩
  cases k with
  | true =>
    rw [if_pos rfl] at h1
    show if true = true then _ else _
    rw [if_pos rfl]
    exact sa Z R1 F1 δ c1 σ H1 _ w1 (rs.mono p1 e1) h1
  | false =>
    rw [if_neg (by decide)] at h1
    show if false = true then _ else _
    rw [if_neg (by decide)]
    exact sb Z R1 F1 δ c1 σ H1 _ w1 (rs.mono p1 e1) h1
def mSet (i : Nat) (m : ME) : MS := fun δ c => (m δ c).fl δ fun d c1 => .nx (δ.set i (some d)) c1
theorem ds_set {i : Nat} {x : Str} {pos' : Pos} (hN : X.N.Nodup) (hi : X.N[i]? = some x) (hx : Loc X.env.scope x) (he : DE X W e m) (hs : swapsWith e (some (.Name x pos')) pos.line X.env = pure false := by rfl)
    (hf : X.fn x = true ∨ X.env.scope.names.lookup x = some .local := by first | exact .inl rfl | exact .inr rfl | assumption) : DS X W (.Assign [.Name x pos'] e pos) (mSet i m) := by
  obtain ⟨t, p, s⟩ := he.ex
  refine ⟨_, ps_set hN hi hx p hs hf, fun Z R F δ c σ H E w rs h => s Z R F δ c σ H _ w rs ((AftS.fl rs h).imp ?_)⟩
  rintro R1 F1 d c1 H1 p1 e1 w1 ⟨_, _, _, h1⟩ v rv
  exact h1 R1 F1 H1 _ (List.prefix_refl _) (Same.refl _) w1 ((rs.mono p1 e1).set rv)
end
end Nw

set_option Elab.async false
set_option linter.all false
set_option maxRecDepth 100000
set_option maxHeartbeats 4000000
/-! Nw2: targets, loops, comprehensions. -/
namespace Nw
open PySem PySem.Spec
open PyProof.Rows hiding St
open L2

/-! ### targets -/
abbrev MG := D → En → Option En
/-- only the slots sl are changed -/
def Out_ (sl : List Nat) (σ σ' : St) : Prop := σ'.length = σ.length ∧ ∀ j, j ∉ sl → σ'[j]? = σ[j]?
structure DG (X : Cx) (tg : Expr) (sl : List Nat) (g : MG) : Prop where
  ex : ∃ t, PG X tg t ∧ ∀ Z R F δ c σ H v d δ' (Q : St → Hp → Prop), Wd X.K Z R F c H → RelS X.K R F δ σ → Rel X.K R F v d → g d δ = some δ' → (∀ σ', RelS X.K R F δ' σ' → Out_ sl σ σ' → Q σ' H) → t v σ H Q
abbrev MGs := List D → En → Option En
structure DGs (X : Cx) (tg : List Expr) (sl : List Nat) (g : MGs) : Prop where
  ex : ∃ t, PGs X tg t ∧ ∀ Z R F δ c σ H v d δ' (Q : St → Hp → Prop), Wd X.K Z R F c H → RelS X.K R F δ σ → RelL X.K R F v d → g d δ = some δ' → (∀ σ', RelS X.K R F δ' σ' → Out_ sl σ σ' → Q σ' H) → t v σ H Q
def gN (i : Nat) : MG := fun d δ => some (δ.set i (some d))
def gsNil : MGs := fun ds δ => match ds with
  | [] => some δ
  | _ => none
def gsCons (g : MG) (gs : MGs) : MGs := fun ds δ => match ds with
  | d :: r => (g d δ).bind fun δ1 => gs r δ1
  | [] => none
def gT (n : Nat) (gs : MGs) : MG := fun d δ => match d with
  | .tup ds => if ds.length = n then gs ds δ else none
  | _ => none
section
variable {X : Cx} {W : WX} {pos : Pos}
theorem dg_name {i : Nat} {x : Str} (hN : X.N.Nodup) (hi : X.N[i]? = some x) (hx : Loc X.env.scope x) (hf : X.fn x = true ∨ X.env.scope.names.lookup x = some .local := by first | exact .inl rfl | exact .inr rfl | assumption) : DG X (.Name x pos) [i] (gN i) := by
  refine ⟨_, pg_name hN hi hx hf, fun Z R F δ c σ H v d δ' Q w rs r e h => ?_⟩
  cases e
  exact h _ (rs.set r) ⟨List.length_set, fun j hj => List.getElem?_set_ne (fun e => hj (by rw [e]; exact List.mem_singleton.mpr rfl))⟩
theorem dgs_nil : DGs X [] [] gsNil := by
  refine ⟨_, pgs_nil, fun Z R F δ c σ H v d δ' Q w rs r e h => ?_⟩
  cases r with
  | nil =>
    cases e
    exact ⟨rfl, h _ rs ⟨rfl, fun _ _ => rfl⟩⟩
  | cons _ _ => cases e
theorem dgs_cons {e : Expr} {es : List Expr} {g : MG} {gs : MGs} {sl sm : List Nat} (h1 : DG X e sl g) (h2 : DGs X es sm gs) (hs : (assignEach (e :: es) X.env).map (·.2) = assign e X.env :: (assignEach es X.env).map (·.2) := by rfl) : DGs X (e :: es) (sl ++ sm) (gsCons g gs) := by
  obtain ⟨t, p, s⟩ := h1.ex
  obtain ⟨u, q, s2⟩ := h2.ex
  refine ⟨_, pgs_cons p q hs, fun Z R F δ c σ H v d δ' Q w rs r e h => ?_⟩
  cases r with
  | nil => cases e
  | @cons v0 d0 vr dr r rr =>
    cases e1 : g d0 δ with
    | none =>
      have : (g d0 δ).bind (fun δ1 => gs dr δ1) = some δ' := e
      rw [e1] at this
      cases this
    | some δ1 =>
      have e2 : (g d0 δ).bind (fun δ1 => gs dr δ1) = some δ' := e
      rw [e1] at e2
      exact ⟨_, _, rfl, s Z R F δ c σ H _ _ δ1 _ w rs r e1 fun σ1 rs1 o1 => s2 Z R F δ1 c σ1 H _ _ δ' Q w rs1 rr e2 fun σ2 rs2 o2 => h σ2 rs2 ⟨o2.1.trans o1.1, fun j hj => (o2.2 j fun z => hj (List.mem_append_right _ z)).trans (o1.2 j fun z => hj (List.mem_append_left _ z))⟩⟩
theorem dg_tup {es : List Expr} {k : Nat} {gs : MGs} {n : Nat} {sl : List Nat} (hc : X.calm = true) (h : DGs X es sl gs) (hn : (assignEach es X.env).length = n := by rfl) (hst : (assignEach es X.env).findIdx? (·.1) = none := by rfl) : DG X (.Tuple es k pos) sl (gT n gs) := by
  obtain ⟨t, p, s⟩ := h.ex
  refine ⟨_, pg_tup hc p hn hst, fun Z R F δ c σ H v d δ' Q w rs r e h => ?_⟩
  cases r with
  | @tup a vs ds hq l =>
    have e2 : (if ds.length = n then gs ds δ else none) = some δ' := e
    by_cases hl : ds.length = n
    · rw [if_pos hl] at e2
      exact ⟨a, vs, rfl, hq.ext w.same, by rw [l.length]; exact hl, s Z R F δ c σ H vs ds δ' Q w rs l e2 h⟩
    · rw [if_neg hl] at e2
      cases e2
  | _ => cases e
def mAsg (g : MG) (m : ME) : MS := fun δ c => (m δ c).fl δ fun d c1 => match g d δ with
  | some δ' => .nx δ' c1
  | none => .bad
theorem ds_asg {tg e : Expr} {g : MG} {m : ME} {sl : List Nat} (he : DE X W e m) (hg : DG X tg sl g) (hs : swapsWithSole [tg] e pos.line X.env = pure false := by rfl) (hw : swappedStores [tg] e X.env = pure none := by rfl)
    (h1 : (assignEach [tg] X.env).map (·.2) = [assign tg X.env] := by rfl) : DS X W (.Assign [tg] e pos) (mAsg g m) := by
  obtain ⟨t, p, s⟩ := he.ex
  obtain ⟨u, q, s2⟩ := hg.ex
  refine ⟨_, ps_asg p q hs hw h1, fun Z R F δ c σ H E w rs h => s Z R F δ c σ H _ w rs ((AftS.fl rs h).imp ?_)⟩
  rintro R1 F1 d c1 H1 p1 e1 w1 ⟨_, _, _, h1⟩ v rv
  cases eg : g d δ with
  | none => rw [eg] at h1; exact h1.elim
  | some δ' =>
    rw [eg] at h1
    exact s2 Z R1 F1 δ c1 σ H1 v d δ' _ w1 (rs.mono p1 e1) rv eg fun σ' rs' _ => h1 R1 F1 H1 σ' (List.prefix_refl _) (Same.refl _) w1 rs'
/-- a, b = x, y with two, three local names -/
def mPar (is : List Nat) (ms : MA) : MS := fun δ c => (ms δ c).fl δ fun ds c1 => if ds.length = is.length then .nx ((is.zip ds).foldl (fun δ p => δ.set p.1 (some p.2)) δ) c1 else .bad
theorem ds_par {i j : Nat} {x y : Str} {a b : Expr} {ms : MA} {px py pt : Pos} {kt k2 pt2} (hc : X.calm = true) (hN : X.N.Nodup) (hi : X.N[i]? = some x) (hj : X.N[j]? = some y) (hij : i ≠ j)
    (hx : X.env.scope.names.lookup x = some .local) (hy : X.env.scope.names.lookup y = some .local) (ha : DA X W [a, b] ms)
    (hw : swappedStores [.Tuple [.Name x px, .Name y py] kt pt] (.Tuple [a, b] k2 pt2) X.env = pure (some [x, y]))
    (hs : swapsWithSole [.Tuple [.Name x px, .Name y py] kt pt] (.Tuple [a, b] k2 pt2) pos.line X.env = pure false := by rfl) :
    DS X W (.Assign [.Tuple [.Name x px, .Name y py] kt pt] (.Tuple [a, b] k2 pt2) pos) (mPar [i, j] ms) := by
  obtain ⟨t, p, s⟩ := ha.ex
  refine ⟨_, ps_par hc hN hi hj hij hx hy p hw hs, fun Z R F δ c σ H E w rs h => s Z R F δ c σ H _ w rs ((AftS.fl rs h).imp ?_)⟩
  rintro R1 F1 ds c1 H1 p1 e1 w1 ⟨_, _, _, h1⟩ vs rv
  by_cases hl : ds.length = [i, j].length
  · rw [if_pos hl] at h1
    match ds, hl, rv, h1 with
    | [d, e], _, .cons (v := v) rd (.cons (v := u) re .nil), h1 =>
      exact ⟨v, u, rfl, h1 R1 F1 H1 _ (List.prefix_refl _) (Same.refl _) w1 (((rs.mono p1 e1).set rd).set re)⟩
  · rw [if_neg hl] at h1
    exact h1.elim
theorem ds_par3 {i j l : Nat} {x y z : Str} {a b d : Expr} {ms : MA} {px py pz pt : Pos} {kt k2 pt2} (hc : X.calm = true) (hN : X.N.Nodup) (hi : X.N[i]? = some x) (hj : X.N[j]? = some y) (hl : X.N[l]? = some z) (hij : i ≠ j) (hil : i ≠ l) (hjl : j ≠ l)
    (hx : X.env.scope.names.lookup x = some .local) (hy : X.env.scope.names.lookup y = some .local) (hz : X.env.scope.names.lookup z = some .local) (ha : DA X W [a, b, d] ms)
    (hw : swappedStores [.Tuple [.Name x px, .Name y py, .Name z pz] kt pt] (.Tuple [a, b, d] k2 pt2) X.env = pure (some [x, y, z]))
    (hs : swapsWithSole [.Tuple [.Name x px, .Name y py, .Name z pz] kt pt] (.Tuple [a, b, d] k2 pt2) pos.line X.env = pure false := by rfl) :
    DS X W (.Assign [.Tuple [.Name x px, .Name y py, .Name z pz] kt pt] (.Tuple [a, b, d] k2 pt2) pos) (mPar [i, j, l] ms) := by
  obtain ⟨t, p, s⟩ := ha.ex
  refine ⟨_, ps_par3 hc hN hi hj hl hij hil hjl hx hy hz p hw hs, fun Z R F δ c σ H E w rs h => s Z R F δ c σ H _ w rs ((AftS.fl rs h).imp ?_)⟩
  rintro R1 F1 ds c1 H1 p1 e1 w1 ⟨_, _, _, h1⟩ vs rv
  by_cases hl : ds.length = [i, j, l].length
  · rw [if_pos hl] at h1
    match ds, hl, rv, h1 with
    | [d, e, f], _, .cons (v := v) rd (.cons (v := u) re (.cons (v := t) rf .nil)), h1 =>
      exact ⟨v, u, t, rfl, h1 R1 F1 H1 _ (List.prefix_refl _) (Same.refl _) w1 ((((rs.mono p1 e1).set rd).set re).set rf)⟩
  · rw [if_neg hl] at h1
    exact h1.elim
end

/-! ### what a loop walks -/
/-- the items of a sequence -/
def items (c : Cells) : D → Option (List D)
  | .tup ds => some ds
  | .lst ds => some ds
  | .scr ds => some ds
  | .cell i => match c[i]? with
    | some (.lst ds) => some ds
    | _ => none
  | _ => none
structure Seq where
  ds : List D
  chk : Cells → Bool
/-- an iterator that gives ds, as long as chk holds -/
def ItS (K : Frag) (Z : Hp) (R1 : List Addr) (F1 : Hp) (J : It) (q : Seq) : Prop := ∀ (Z' : Hp) (k : Nat) R F c H, Same Z Z' → R1 <+: R → Same F1 F → Wd K Z' R F c H → q.chk c = true →
  (∀ d, q.ds[k]? = some d → J.go k H ∧ ∀ x H', J.yld k H x H' → ∃ F', Same F F' ∧ Wd K Z' R F' c H' ∧ Rel K R F' x d) ∧ (q.ds.length ≤ k → J.stop k H)
structure DI (X : Cx) (W : WX) (tg iter : Expr) (m : En → Cells → Out Seq) : Prop where
  ex : ∃ t, PI X tg iter t ∧ ∀ Z R F δ c σ H Q, Wd X.K Z R F c H → RelS X.K R F δ σ → Aft X.K Z W R F σ (m δ c) (fun R' F' q _ H' => ∀ J, ItS X.K Z R' F' J q → Q J H') → t σ H Q
theorem items_cell {c : Cells} {i : Nat} {ds : List D} (h : items c (.cell i) = some ds) : c[i]? = some (.lst ds) := by
  simp only [items] at h
  split at h
  · rename_i ds' q
    cases h
    exact q
  · cases h
theorem Wd.atList {K : Frag} {Z : Hp} {R : List Addr} {F : Hp} {c : Cells} {H : Hp} {i : Nat} {a : Addr} {ds : List D} (w : Wd K Z R F c H) (h : R[i]? = some a) (e : c[i]? = some (.lst ds)) : ∃ vs, H a = some (.lst vs) ∧ RelL K R F vs ds := by
  obtain ⟨a', o, h1, h2, h3, h4⟩ := w.cel i _ e
  rw [h] at h1
  cases h1
  cases h3 with
  | lst l => exact ⟨_, h2, l⟩
theorem seqAt_list {K : Frag} {Z : Hp} {R : List Addr} {F : Hp} {c : Cells} {H : Hp} {v : V} {d : D} {ds : List D} (w : Wd K Z R F c H) (r : Rel K R F v d) (e : items c d = some ds) :
    ∃ a vs, v = .ref a ∧ RelL K R F vs ds ∧ (SqL K H a vs ∨ SqT K H a vs) := by
  cases r with
  | tup h l => cases e; exact ⟨_, _, rfl, l, .inr (h.ext w.same)⟩
  | lst h l => cases e; exact ⟨_, _, rfl, l, .inl (SqL.of (w.same _ _ h))⟩
  | scr h l => cases e; exact ⟨_, _, rfl, l, .inl (h.ext w.same)⟩
  | @cell i a h =>
    obtain ⟨vs, q, l⟩ := w.atList h (items_cell e)
    exact ⟨a, vs, rfl, l, .inl (SqL.of q)⟩
  | _ => cases e
/-- the list in a cell stays as it is -/
def chkI (d : D) (ds : List D) (c : Cells) : Bool := match d with
  | .cell i => (match c[i]? with
    | some (.lst l) => D.beqL l ds
    | _ => false)
  | _ => true
theorem chkI_cell {c : Cells} {i : Nat} {ds : List D} (h : chkI (.cell i) ds c = true) : c[i]? = some (.lst ds) := by
  unfold chkI at h
  dsimp only at h
  split at h
  · rename_i l hl
    rw [hl, D.beqL_eq h]
  · cases h
theorem chkI_of {c : Cells} {i : Nat} {ds : List D} (h : c[i]? = some (.lst ds)) : chkI (.cell i) ds c = true := by
  unfold chkI
  dsimp only
  rw [h]
  exact D.beqL_refl ds
def seqOf (d : D) (c : Cells) : Out Seq := match items c d with
  | some ds => .ok ⟨ds, chkI d ds⟩ c
  | none => .bad
def mSq (m : ME) : En → Cells → Out Seq := fun δ c => (m δ c).bind seqOf
def isTup : D → Bool
  | .tup _ => true
  | _ => false
theorem its_tup {K : Frag} {Z : Hp} {R : List Addr} {F : Hp} {a : Addr} {vs : List V} {ds : List D} (h : SqT K F a vs) (l : RelL K R F vs ds) : ItS K Z R F (Itt K a) ⟨ds, chkI (.tup ds) ds⟩ := by
  intro Z' k R' F' c H zz p e w _
  have q : SqT K H a vs := (h.ext e).ext w.same
  refine ⟨fun d hd => ?_, fun hk => ⟨vs, q, by rw [l.length]; exact hk⟩⟩
  obtain ⟨v, hv, rv⟩ := l.get hd
  refine ⟨⟨vs, v, q, hv⟩, fun x H' y => ?_⟩
  obtain ⟨rfl, y⟩ := y
  have := y vs q
  rw [hv] at this
  cases this
  exact ⟨F', Same.refl _, w, rv.mono p e⟩
theorem its_lst {K : Frag} {Z : Hp} {R : List Addr} {F : Hp} {a : Addr} {vs : List V} {ds : List D} (h : SqL K F a vs) (l : RelL K R F vs ds) (P : Cells → Bool) : ItS K Z R F (Itl K a) ⟨ds, P⟩ := by
  intro Z' k R' F' c H zz p e w _
  have q : SqL K H a vs := SqL.ext (SqL.ext h e) w.same
  refine ⟨fun d hd => ?_, fun hk => ⟨vs, q, by rw [l.length]; exact hk⟩⟩
  obtain ⟨v, hv, rv⟩ := l.get hd
  refine ⟨⟨vs, v, q, hv⟩, fun x H' y => ?_⟩
  obtain ⟨rfl, y⟩ := y
  have := y vs q
  rw [hv] at this
  cases this
  exact ⟨F', Same.refl _, w, rv.mono p e⟩
theorem its_cell {K : Frag} {Z : Hp} {R : List Addr} {F : Hp} {a : Addr} {i : Nat} {ds : List D} (h : R[i]? = some a) : ItS K Z R F (Itl K a) ⟨ds, chkI (.cell i) ds⟩ := by
  intro Z' k R' F' c H zz p e w hc
  obtain ⟨vs, q, l⟩ := w.atList (pre_get p h) (chkI_cell hc)
  have q : SqL K H a vs := SqL.of q
  refine ⟨fun d hd => ?_, fun hk => ⟨vs, q, by rw [l.length]; exact hk⟩⟩
  obtain ⟨v, hv, rv⟩ := l.get hd
  refine ⟨⟨vs, v, q, hv⟩, fun x H' y => ?_⟩
  obtain ⟨rfl, y⟩ := y
  have := y vs q
  rw [hv] at this
  cases this
  exact ⟨F', Same.refl _, w, rv⟩
section
variable {X : Cx} {W : WX} {pos : Pos} {tg : Expr}
/-- over a list, a tuple -/
theorem di_seq {l : Expr} {m : ME} (hl : DE X W l m) : DI X W tg l (mSq m) := by
  obtain ⟨t, p, s⟩ := hl.ex
  have p1 : PI X tg l (fun σ H R => iList X.K t σ H R ∨ iTup X.K t σ H R) := ⟨fun pins s σ H R I h => by
    rcases h with h | h
    · exact (pi_list p).run pins s σ H R I h
    · exact (pi_tup p).run pins s σ H R I h⟩
  refine ⟨_, p1, fun Z R F δ c σ H Q w rs h => ?_⟩
  have h := Aft.bind h
  cases e : m δ c with
  | bad => rw [e] at h; exact h.elim
  | exc k ns ds c1 =>
    rw [e] at h
    refine .inl (s Z R F δ c σ H _ w rs ?_)
    rw [e]
    exact h
  | ok d c1 =>
    rw [e] at h
    cases d with
    | tup ds =>
      refine .inr (s Z R F δ c σ H _ w rs ?_)
      rw [e]
      intro R1 F1 H1 p1 e1 w1 v rv
      obtain ⟨_, _, _, h1⟩ := h R1 F1 H1 p1 e1 w1
      cases rv with
      | tup hq l => exact ⟨_, rfl, ⟨_, hq.ext w1.same⟩, h1.ok w1 _ (its_tup hq l)⟩
    | lst ds =>
      refine .inl (s Z R F δ c σ H _ w rs ?_)
      rw [e]
      intro R1 F1 H1 p1 e1 w1 v rv
      obtain ⟨_, _, _, h1⟩ := h R1 F1 H1 p1 e1 w1
      cases rv with
      | lst hq l => exact ⟨_, rfl, ⟨_, SqL.of (w1.same _ _ hq)⟩, h1.ok w1 _ (its_lst (SqL.of hq) l _)⟩
    | scr ds =>
      refine .inl (s Z R F δ c σ H _ w rs ?_)
      rw [e]
      intro R1 F1 H1 p1 e1 w1 v rv
      obtain ⟨_, _, _, h1⟩ := h R1 F1 H1 p1 e1 w1
      cases rv with
      | scr hq l => exact ⟨_, rfl, ⟨_, hq.ext w1.same⟩, h1.ok w1 _ (its_lst hq l _)⟩
    | cell i =>
      refine .inl (s Z R F δ c σ H _ w rs ?_)
      rw [e]
      intro R1 F1 H1 p1 e1 w1 v rv
      obtain ⟨_, _, _, h1⟩ := h R1 F1 H1 p1 e1 w1
      cases rv with
      | cell hq =>
        unfold seqOf at h1
        split at h1
        · rename_i ds q
          obtain ⟨vs, q2, l⟩ := w1.atList hq (items_cell q)
          exact ⟨_, rfl, ⟨_, SqL.of q2⟩, h1.ok w1 _ (its_cell hq)⟩
        · exact h1.elim
    | _ =>
      refine .inl (s Z R F δ c σ H _ w rs ?_)
      rw [e]
      intro R1 F1 H1 p1 e1 w1 v rv
      obtain ⟨_, _, _, h1⟩ := h R1 F1 H1 p1 e1 w1
      exact h1.elim
def rangeD (lo : Int) (n : Nat) : Seq := ⟨(List.range n).map fun (i : Nat) => .int (lo + (i : Int)), fun _ => true⟩
theorem its_range {K : Frag} {Z : Hp} {R : List Addr} {F : Hp} {lo : Int} {n : Nat} : ItS K Z R F (Itr lo n) (rangeD lo n) := by
  intro Z' k R' F' c H zz p e w _
  refine ⟨fun d hd => ?_, fun hk => show n ≤ k by simpa [rangeD] using hk⟩
  have hk : k < n := by
    have := (List.getElem?_eq_some_iff.mp hd).1
    simpa [rangeD] using this
  refine ⟨hk, fun x H' y => ?_⟩
  obtain ⟨rfl, rfl⟩ := y
  refine ⟨F', Same.refl _, w, ?_⟩
  have : d = .int (lo + (k : Int)) := by
    have := hd
    simp [rangeD, hk] at this
    exact this.symm
  subst this
  exact .int _
def rng1 (ds : List D) (c : Cells) : Out Seq := match ds with
  | [.int j] => if -(2 ^ 62) ≤ j ∧ j < 2 ^ 62 then .ok (rangeD 0 j.toNat) c else .bad
  | _ => .bad
def rng2 (ds : List D) (c : Cells) : Out Seq := match ds with
  | [.int i, .int j] => if -(2 ^ 62) ≤ i ∧ i < 2 ^ 62 ∧ -(2 ^ 62) ≤ j ∧ j < 2 ^ 62 then .ok (rangeD i (j - i).toNat) c else .bad
  | _ => .bad
theorem di_range1 {a : Expr} {ms : MA} {p pos : Pos} (hm : X.mg "range" = none) (ha : DA X W [a] ms) (hg : Gl X "range" := by rfl) (hs : starEach [a] X.env = [(false, eval a X.env)] := by rfl) : DI X W tg (.Call (.Name "range" p) [a] [] pos) (fun δ c => (ms δ c).bind rng1) := by
  obtain ⟨t, p, s⟩ := ha.ex
  refine ⟨_, pi_range1 hg hm p hs, fun Z R F δ c σ H Q w rs h => s Z R F δ c σ H _ w rs ((Aft.bind h).imp ?_)⟩
  rintro R1 F1 ds c1 H1 p1 e1 w1 ⟨_, _, _, h1⟩ vs rv
  unfold rng1 at h1
  split at h1
  · rename_i j
    obtain ⟨d, e, r⟩ : ∃ d, vs = [d] ∧ Rel X.K R1 F1 d (.int j) := by
      cases rv with
      | cons r t => cases t; exact ⟨_, rfl, r⟩
    subst e
    cases r
    by_cases hj : -(2 ^ 62) ≤ j ∧ j < 2 ^ 62
    · rw [if_pos hj] at h1
      exact ⟨j, rfl, hj.1, hj.2, h1.ok w1 _ its_range⟩
    · rw [if_neg hj] at h1
      exact h1.elim
  · exact h1.elim
theorem di_range2 {a b : Expr} {ms : MA} {p pos : Pos} (hm : X.mg "range" = none) (ha : DA X W [a, b] ms) (hg : Gl X "range" := by rfl) (hs : starEach [a, b] X.env = [(false, eval a X.env), (false, eval b X.env)] := by rfl) (hs2 : starEach [b] X.env = [(false, eval b X.env)] := by rfl) :
    DI X W tg (.Call (.Name "range" p) [a, b] [] pos) (fun δ c => (ms δ c).bind rng2) := by
  obtain ⟨t, p, s⟩ := ha.ex
  refine ⟨_, pi_range2 hg hm p hs hs2, fun Z R F δ c σ H Q w rs h => s Z R F δ c σ H _ w rs ((Aft.bind h).imp ?_)⟩
  rintro R1 F1 ds c1 H1 p1 e1 w1 ⟨_, _, _, h1⟩ vs rv
  unfold rng2 at h1
  split at h1
  · rename_i i j
    obtain ⟨d, e, r, q, z⟩ : ∃ d, ∃ e, Rel X.K R1 F1 d (.int i) ∧ Rel X.K R1 F1 e (.int j) ∧ vs = [d, e] := by
      cases rv with
      | cons r t => cases t with | cons q t => cases t; exact ⟨_, _, r, q, rfl⟩
    subst z
    cases r
    cases q
    by_cases hj : -(2 ^ 62) ≤ i ∧ i < 2 ^ 62 ∧ -(2 ^ 62) ≤ j ∧ j < 2 ^ 62
    · rw [if_pos hj] at h1
      exact ⟨i, j, rfl, hj, h1.ok w1 _ its_range⟩
    · rw [if_neg hj] at h1
      exact h1.elim
  · exact h1.elim
/-- over a text, sign by sign -/
def strSeq (x : Str) : Seq := ⟨x.cps.toList.map fun k => .str ⟨#[k]⟩, fun _ => true⟩
def seqStr (d : D) (c : Cells) : Out Seq := match d with
  | .str x => .ok (strSeq x) c
  | _ => .bad
theorem its_str {K : Frag} {Z : Hp} {R : List Addr} {F : Hp} {x : Str} : ItS K Z R F (Its x) (strSeq x) := by
  intro Z' k R' F' c H zz p e w _
  refine ⟨fun d hd => ?_, fun hk => show x.cps.size ≤ k by simpa [strSeq] using hk⟩
  have hd2 : (x.cps.toList.map fun k => D.str ⟨#[k]⟩)[k]? = some d := hd
  rw [List.getElem?_map] at hd2
  have hk : k < x.cps.size := by
    have := (List.getElem?_eq_some_iff.mp hd).1
    simpa [strSeq] using this
  refine ⟨hk, fun v H' y => ?_⟩
  obtain ⟨rfl, c0, hc, rfl⟩ := y
  refine ⟨F', Same.refl _, w, ?_⟩
  rw [Array.getElem?_toList, hc] at hd2
  cases hd2
  exact .str _
theorem di_str {l : Expr} {m : ME} (hl : DE X W l m) : DI X W tg l (fun δ c => (m δ c).bind seqStr) := by
  obtain ⟨t, p, s⟩ := hl.ex
  refine ⟨_, pi_str p, fun Z R F δ c σ H Q w rs h => s Z R F δ c σ H _ w rs ((Aft.bind h).imp ?_)⟩
  rintro R1 F1 d c1 H1 p1 e1 w1 ⟨_, _, _, h1⟩ v rv
  unfold seqStr at h1
  split at h1
  · cases rv
    exact ⟨_, rfl, h1.ok w1 _ its_str⟩
  · exact h1.elim
end

/-! ### for -/
def loopGo (chk : Cells → Bool) (g : MG) (mb : MS) : List D → En → Cells → Fl
  | [], δ, c => if chk c = true then .nx δ c else .bad
  | d :: r, δ, c => if chk c = true then (match g d δ with
    | none => .bad
    | some δ1 => match mb δ1 c with
      | .nx δ2 c2 => loopGo chk g mb r δ2 c2
      | .ct δ2 c2 => loopGo chk g mb r δ2 c2
      | .bk δ2 c2 => .nx δ2 c2
      | o => o) else .bad
def mFor (mi : En → Cells → Out Seq) (g : MG) (mb : MS) : MS := fun δ c => (mi δ c).fl δ fun q c1 => loopGo q.chk g mb q.ds δ c1
section
variable {X : Cx} {W : WX} {pos : Pos} {tg : Expr}
theorem ds_for {iter : Expr} {body : List Stmt} {mi : En → Cells → Out Seq} {g : MG} {mb : MS} (hp : PassesOwn (model X.prog X.w) X.A X.env X.xe) (hc : X.calm = true) {sl : List Nat} (hi : DI X W tg iter mi) (hg : DG X tg sl g) (hb : DSs X W body mb)
    (hs : ∀ x, foldedSetIterable iter X.env x = pure x := by intro _; rfl) : DS X W (.For tg iter body [] pos) (mFor mi g mb) := by
  obtain ⟨ti, pi, si⟩ := hi.ex
  obtain ⟨tg', pg, sg⟩ := hg.ex
  obtain ⟨tb, pb, sb⟩ := hb.ex
  refine ⟨_, ps_for hp hc pi pg pb hs, fun Z R F δ c σ H E w rs h => si Z R F δ c σ H _ w rs ((AftS.fl rs h).imp ?_)⟩
  rintro R1 F1 q c1 H1 p1 e1 w1 ⟨_, _, _, h1⟩ J hJ
  refine ⟨fun i m σ H => ∃ R F δ c, m = q.ds.length - i ∧ R1 <+: R ∧ Same F1 F ∧ Wd X.K Z R F c H ∧ RelS X.K R F δ σ ∧ AftS X.K Z W R F (loopGo q.chk g mb (q.ds.drop i) δ c) E, ⟨_, R1, F1, δ, c1, rfl, List.prefix_refl _, Same.refl _, w1, rs.mono p1 e1, h1⟩, ?_⟩
  rintro i m σ H ⟨R, F, δ, c, rfl, p, e, w, rs, h⟩
  by_cases hi : i < q.ds.length
  · rw [List.drop_eq_getElem_cons hi] at h
    unfold loopGo at h
    split at h
    · rename_i hck
      obtain ⟨hgo, _⟩ := hJ Z i R F c H (Same.refl _) p e w hck
      obtain ⟨go, y⟩ := hgo _ (List.getElem?_eq_getElem hi)
      refine .inr ⟨go, fun σ' H' => ∃ R' F' δ' c', R1 <+: R' ∧ Same F1 F' ∧ Wd X.K Z R' F' c' H' ∧ RelS X.K R' F' δ' σ' ∧ AftS X.K Z W R' F' (loopGo q.chk g mb (q.ds.drop (i + 1)) δ' c') E, ?_, ?_⟩
      · rintro σ' H' ⟨R', F', δ', c', h1, h2, h3, h4, h5⟩
        exact ⟨q.ds.length - (i + 1), by omega, R', F', δ', c', rfl, h1, h2, h3, h4, h5⟩
      · intro x H' hy
        obtain ⟨F', s', w', r'⟩ := y x H' hy
        split at h
        · exact h.elim
        · rename_i δ1 eg
          refine sg Z R F' δ c σ H' x _ δ1 _ w' (rs.mono (List.prefix_refl _) s') r' eg fun σ1 rs1 _ => ?_
          refine sb Z R F' δ1 c σ1 H' _ w' rs1 ?_
          have h := AftS.mono (List.prefix_refl _) s' h
          cases eb : mb δ1 c with
          | nx δ2 c2 => rw [eb] at h; exact fun R2 F2 H2 σ2 p2 e2 w2 rs2 => ⟨R2, F2, δ2, c2, p.trans p2, (e.trans s').trans e2, w2, rs2, AftS.mono p2 e2 h⟩
          | ct δ2 c2 => rw [eb] at h; exact fun R2 F2 H2 σ2 p2 e2 w2 rs2 => ⟨R2, F2, δ2, c2, p.trans p2, (e.trans s').trans e2, w2, rs2, AftS.mono p2 e2 h⟩
          | bk δ2 c2 => rw [eb] at h; exact h
          | rt d c2 => rw [eb] at h; exact h
          | exc k ns ds δ2 c2 => rw [eb] at h; exact h
          | bad => rw [eb] at h; exact h.elim
    · exact h.elim
  · rw [List.drop_eq_nil_of_le (Nat.le_of_not_lt hi)] at h
    unfold loopGo at h
    split at h
    · rename_i hck
      obtain ⟨_, hst⟩ := hJ Z i R F c H (Same.refl _) p e w hck
      exact .inl ⟨hst (Nat.le_of_not_lt hi), h R F H σ (List.prefix_refl _) (Same.refl _) w rs⟩
    · exact h.elim

/-! ### while -/
/-- n turns at most -/
def whileGo (mc : MT) (mb : MS) : Nat → En → Cells → Fl
  | 0, _, _ => .bad
  | n + 1, δ, c => (mc δ c).fl δ fun k c1 => if k = true then (match mb δ c1 with
      | .nx δ2 c2 => whileGo mc mb n δ2 c2
      | .ct δ2 c2 => whileGo mc mb n δ2 c2
      | .bk δ2 c2 => .nx δ2 c2
      | o => o) else .nx δ c1
def mWhile (n : Nat) (mc : MT) (mb : MS) : MS := fun δ c => whileGo mc mb n δ c
theorem ds_while {t : Expr} {body : List Stmt} {mc : MT} {mb : MS} (n : Nat) (hp : PassesOwn (model X.prog X.w) X.A X.env X.xe) (hc : DT X W t mc) (hb : DSs X W body mb) : DS X W (.While t body [] pos) (mWhile n mc mb) := by
  obtain ⟨tc, pc, sc⟩ := hc.ex
  obtain ⟨tb, pb, sb⟩ := hb.ex
  refine ⟨_, ps_while hp pc pb, fun Z R1 F1 δ c σ H E w rs h => ?_⟩
  refine ⟨fun m σ H => ∃ R F δ c, R1 <+: R ∧ Same F1 F ∧ Wd X.K Z R F c H ∧ RelS X.K R F δ σ ∧ AftS X.K Z W R F (whileGo mc mb m δ c) E, ⟨n, R1, F1, δ, c, List.prefix_refl _, Same.refl _, w, rs, h⟩, ?_⟩
  rintro m σ H ⟨R, F, δ, c, p, e, w, rs, h⟩
  cases m with
  | zero => exact h.elim
  | succ m =>
    unfold whileGo at h
    refine sc Z R F δ c σ H _ w rs ((AftS.fl rs h).imp ?_)
    rintro R1' F1' k c1 H1 p1 e1 w1 ⟨_, _, _, h1⟩
    cases k with
    | false =>
      rw [if_neg (by decide)] at h1
      show if false = true then _ else _
      rw [if_neg (by decide)]
      exact h1 R1' F1' H1 σ (List.prefix_refl _) (Same.refl _) w1 (rs.mono p1 e1)
    | true =>
      rw [if_pos rfl] at h1
      show if true = true then _ else _
      rw [if_pos rfl]
      refine ⟨fun σ' H' => ∃ R' F' δ' c', R1 <+: R' ∧ Same F1 F' ∧ Wd X.K Z R' F' c' H' ∧ RelS X.K R' F' δ' σ' ∧ AftS X.K Z W R' F' (whileGo mc mb m δ' c') E, ?_, ?_⟩
      · rintro σ' H' ⟨R', F', δ', c', h1, h2, h3, h4, h5⟩
        exact ⟨m, Nat.lt_succ_self m, R', F', δ', c', h1, h2, h3, h4, h5⟩
      · refine sb Z R1' F1' δ c1 σ H1 _ w1 (rs.mono p1 e1) ?_
        cases eb : mb δ c1 with
        | nx δ2 c2 => rw [eb] at h1; exact fun R2 F2 H2 σ2 p2 e2 w2 rs2 => ⟨R2, F2, δ2, c2, (p.trans p1).trans p2, (e.trans e1).trans e2, w2, rs2, AftS.mono p2 e2 h1⟩
        | ct δ2 c2 => rw [eb] at h1; exact fun R2 F2 H2 σ2 p2 e2 w2 rs2 => ⟨R2, F2, δ2, c2, (p.trans p1).trans p2, (e.trans e1).trans e2, w2, rs2, AftS.mono p2 e2 h1⟩
        | bk δ2 c2 => rw [eb] at h1; exact h1
        | rt d c2 => rw [eb] at h1; exact h1
        | exc k ns ds δ2 c2 => rw [eb] at h1; exact h1
        | bad => rw [eb] at h1; exact h1.elim
end
end Nw

set_option Elab.async false
set_option linter.all false
set_option maxRecDepth 100000
set_option maxHeartbeats 4000000
/-! Nw3: comprehensions. -/
namespace Nw
open PySem PySem.Spec
open PyProof.Rows hiding St
open L2

section
variable {K : Frag} {Z : Hp} {R : List Addr} {F : Hp} {c : Cells} {H : Hp}
/-- something of one's own is put into the frame -/
theorem Wd.hold (w : Wd K Z R F c H) {p : Addr} {o : HO} (h : H p = some o) (f : F p = none) (n : p ∉ R) : Wd K (upd Z p o) R F c H := by
  refine ⟨fun b u e => ?_, fun b u e => ?_, w.same, w.len, w.nd, w.cel⟩
  · by_cases hb : b = p
    · subst hb; rw [upd_same] at e; cases e; exact h
    · rw [upd_ne hb] at e; exact w.zs b u e
  · by_cases hb : b = p
    · subst hb; exact ⟨f, n⟩
    · rw [upd_ne hb] at e; exact w.zf b u e
/-- it is written and taken out of the frame -/
theorem Wd.unhold {p : Addr} {o o' : HO} (w : Wd K (upd Z p o) R F c H) (z : Z p = none) : Wd K Z R F c (upd H p o') := by
  have hp := w.zf p o upd_same
  have zs : Same Z (upd Z p o) := Ext.upd z
  refine ⟨fun b u e => ?_, fun b u e => w.zf b u (zs b u e), fun b u e => ?_, w.len, w.nd, fun i k q => ?_⟩
  · rw [upd_ne (ne_of_none e z)]
    exact w.zs b u (zs b u e)
  · have hb : b ≠ p := fun q => by subst q; rw [hp.1] at e; cases e
    rw [upd_ne hb]
    exact w.same b u e
  · obtain ⟨a, u, h1, h2, h3, h4⟩ := w.cel i k q
    have ha : a ≠ p := fun q => by subst q; exact hp.2 (List.mem_of_getElem? h1)
    exact ⟨a, u, h1, by rw [upd_ne ha]; exact h2, h3, h4⟩
theorem Wd.unframe {Z' : Hp} (w : Wd K Z' R F c H) (e : Same Z Z') : Wd K Z R F c H := ⟨e.trans w.zs, fun a o q => w.zf a o (e a o q), w.same, w.len, w.nd, w.cel⟩
/-- what stands by itself is frozen -/
theorem Wd.freeze (w : Wd K Z R F c H) {p : Addr} {o : HO} (z : Z p = none) (h : H p = some o) (f : F p = none) (n : p ∉ R) : Wd K Z R (upd F p o) c H ∧ Same F (upd F p o) := by
  have s : Same F (upd F p o) := Ext.upd f
  refine ⟨⟨w.zs, fun a u e => ⟨?_, (w.zf a u e).2⟩, fun b u e => ?_, w.len, w.nd, fun i k q => ?_⟩, s⟩
  · rw [upd_ne (ne_of_none e z)]; exact (w.zf a u e).1
  · by_cases hb : b = p
    · subst hb; rw [upd_same] at e; cases e; exact h
    · rw [upd_ne hb] at e; exact w.same b u e
  · obtain ⟨a, u, h1, h2, h3, h4⟩ := w.cel i k q
    have ha : a ≠ p := fun q => by subst q; exact n (List.mem_of_getElem? h1)
    exact ⟨a, u, h1, h2, h3.mono (List.prefix_refl _) s, by rw [upd_ne ha]; exact h4⟩
/-- what stands by itself becomes a cell -/
theorem Wd.adopt (w : Wd K Z R F c H) {p : Addr} {o : HO} {k : Cell} (z : Z p = none) (h : H p = some o) (f : F p = none) (n : p ∉ R) (r : RelC K R F k o) : Wd K Z (R ++ [p]) F (c ++ [k]) H := by
  have pr : R <+: R ++ [p] := List.prefix_append _ _
  refine ⟨w.zs, fun a u e => ⟨(w.zf a u e).1, fun hm => ?_⟩, w.same, by rw [List.length_append, List.length_append, w.len]; rfl, ?_, fun i q e => ?_⟩
  · rcases List.mem_append.mp hm with hm | hm
    · exact (w.zf a u e).2 hm
    · rw [List.mem_singleton] at hm
      subst hm
      rw [z] at e
      cases e
  · rw [List.nodup_append]
    refine ⟨w.nd, by simp, fun a ha b hb => ?_⟩
    rw [List.mem_singleton] at hb
    subst hb
    intro e
    subst e
    exact n ha
  · rcases Nat.lt_trichotomy i c.length with hi | hi | hi
    · rw [List.getElem?_append_left hi] at e
      obtain ⟨a, u, h1, h2, h3, h4⟩ := w.cel i q e
      exact ⟨a, u, pre_get pr h1, h2, h3.mono pr (Same.refl _), h4⟩
    · subst hi
      rw [List.getElem?_append_right (Nat.le_refl _), Nat.sub_self] at e
      have e2 : k = q := Option.some.inj e
      subst e2
      refine ⟨p, o, ?_, h, r.mono pr (Same.refl _), f⟩
      rw [← w.len, List.getElem?_append_right (Nat.le_refl _), Nat.sub_self]
      rfl
    · rw [List.getElem?_eq_none (by rw [List.length_append]; simp; omega)] at e
      cases e
end

/-! ### tests of a clause -/
abbrev W0 : WX := fun _ _ _ _ => False
structure DTs (X : Cx) (ifs : List Expr) (m : MT) : Prop where
  ex : ∃ t, PTs X ifs t ∧ ∀ Z R F δ c σ H Q, Wd X.K Z R F c H → RelS X.K R F δ σ → Aft X.K Z W0 R F σ (m δ c) (QB Q) → t σ H Q
theorem dts_nil {X : Cx} : DTs X [] (fun _ c => .ok true c) := ⟨_, pts_nil, fun Z R F δ c σ H Q w rs h => h.ok w⟩
theorem dts_one {X : Cx} {e : Expr} {m : MT} (h : DT X W0 e m) : DTs X [e] m := by
  obtain ⟨t, p, s⟩ := h.ex
  exact ⟨_, pts_one p, s⟩
/-- the comprehension's own names forgotten -/
def wipeE (δ : En) : List Nat → En
  | [] => δ
  | v :: vs => (wipeE δ vs).set v none
theorem RelS.wipe {K : Frag} {R : List Addr} {F : Hp} {δ : En} {σ : St} (h : RelS K R F δ σ) : ∀ vs : List Nat, RelS K R F (wipeE δ vs) (wipe σ vs)
  | [] => h
  | v :: vs => (RelS.wipe h vs).del
theorem wipe_get {σ : St} : ∀ {vs : List Nat} {j : Nat}, j ∉ vs → (wipe σ vs)[j]? = σ[j]?
  | [], _, _ => rfl
  | v :: vs, j, h => by
    unfold wipe
    rw [List.getElem?_set_ne (fun e => h (by rw [e]; exact List.mem_cons_self)), wipe_get (fun z => h (List.mem_cons_of_mem _ z))]
theorem wipe_none {σ : St} : ∀ {vs : List Nat} {j : Nat}, j ∈ vs → j < σ.length → (wipe σ vs)[j]? = some none
  | v :: vs, j, h, hl => by
    unfold wipe
    by_cases e : v = j
    · subst e
      exact List.getElem?_set_self (by rw [wipe_length]; exact hl)
    · rw [List.getElem?_set_ne e]
      rcases List.mem_cons.mp h with h | h
      · exact absurd h.symm e
      · exact wipe_none h hl
theorem wipe_eq {σ σ2 : St} {vs sl : List Nat} (hs : ∀ j ∈ sl, j ∈ vs) (o : Out_ sl (wipe σ vs) σ2) : wipe σ2 vs = wipe σ vs := by
  obtain ⟨hl, ho⟩ := o
  rw [wipe_length] at hl
  refine List.ext_getElem? fun j => ?_
  by_cases hj : j ∈ vs
  · by_cases hk : j < σ.length
    · rw [wipe_none hj hk, wipe_none hj (by rw [hl]; exact hk)]
    · rw [List.getElem?_eq_none (by rw [wipe_length]; omega), List.getElem?_eq_none (by rw [wipe_length]; omega)]
  · rw [wipe_get hj, ho j fun z => hj (hs j z)]
def lcGo (chk : Cells → Bool) (g : MG) (mt : MT) (me : ME) (δ : En) : List D → List D → Cells → Out (List D)
  | [], acc, c => if chk c = true then .ok acc c else .bad
  | d :: r, acc, c => if chk c = true then (match g d δ with
    | none => .bad
    | some δ1 => match mt δ1 c with
      | .ok true c1 => (match me δ1 c1 with
        | .ok y c2 => if acc.length < sizeLine then lcGo chk g mt me δ r (acc ++ [y]) c2 else .bad
        | _ => .bad)
      | .ok false c1 => lcGo chk g mt me δ r acc c1
      | _ => .bad) else .bad
def mLcL (mi : En → Cells → Out Seq) (g : MG) (mt : MT) (me : ME) (own : List Nat) : MA := fun δ c => (mi δ c).bind fun q c1 => lcGo q.chk g mt me (wipeE δ own) q.ds [] c1
def mLc (mi : En → Cells → Out Seq) (g : MG) (mt : MT) (me : ME) (own : List Nat) : ME := fun δ c => (mLcL mi g mt me own δ c).bind fun ds c1 => .ok (.lst ds) c1
/-- .. as a cell -/
def mLcC (mi : En → Cells → Out Seq) (g : MG) (mt : MT) (me : ME) (own : List Nat) : ME := fun δ c => (mLcL mi g mt me own δ c).bind fun ds c1 => .ok (.cell c1.length) (c1 ++ [.lst ds])
section
variable {X : Cx} {W : WX}
abbrev Blk (X : Cx) (scope : Scope) (P : Cx → Prop) : Prop := ∀ (s : Shared) (H : Hp) (C : Addr) (cl : List (Str × Addr)) (fp : List Addr), P (X.blk s H scope (compEnvC scope cl C X.env) fp)
theorem blk_g {scope : Scope} {tg : Expr} {sl : List Nat} {g : MG} (h : Blk X scope fun Y => DG Y tg sl g) : ∃ t, (Blk X scope fun Y => PG Y tg t) ∧ ∀ Z R F δ c σ H v d δ' (Q : St → Hp → Prop), Wd X.K Z R F c H → RelS X.K R F δ σ → Rel X.K R F v d → g d δ = some δ' → (∀ σ', RelS X.K R F δ' σ' → Out_ sl σ σ' → Q σ' H) → t v σ H Q := by
  refine ⟨fun v σ H Q => ∀ s H0 C cl fp, Classical.choose (h s H0 C cl fp).ex v σ H Q, fun s H0 C cl fp => ⟨fun pins s' σ H v u Q I r z => (Classical.choose_spec (h s H0 C cl fp).ex).1.run pins s' σ H v u Q I r (z s H0 C cl fp)⟩, ?_⟩
  intro Z R F δ c σ H v d δ' Q w rs r e k s H0 C cl fp
  exact (Classical.choose_spec (h s H0 C cl fp).ex).2 Z R F δ c σ H v d δ' Q w rs r e k
theorem blk_t {scope : Scope} {ifs : List Expr} {m : MT} (h : Blk X scope fun Y => DTs Y ifs m) : ∃ t, (Blk X scope fun Y => PTs Y ifs t) ∧ ∀ Z R F δ c σ H Q, Wd X.K Z R F c H → RelS X.K R F δ σ → Aft X.K Z W0 R F σ (m δ c) (QB Q) → t σ H Q := by
  refine ⟨fun σ H Q => ∀ s H0 C cl fp, Classical.choose (h s H0 C cl fp).ex σ H Q, fun s H0 C cl fp => ⟨fun pins s' σ H Q I z => (Classical.choose_spec (h s H0 C cl fp).ex).1.run pins s' σ H Q I (z s H0 C cl fp)⟩, ?_⟩
  intro Z R F δ c σ H Q w rs k s H0 C cl fp
  exact (Classical.choose_spec (h s H0 C cl fp).ex).2 Z R F δ c σ H Q w rs k
theorem blk_e {scope : Scope} {e : Expr} {m : ME} (h : Blk X scope fun Y => DE Y W0 e m) : ∃ t, (Blk X scope fun Y => PE Y e t) ∧ ∀ Z R F δ c σ H Q, Wd X.K Z R F c H → RelS X.K R F δ σ → Aft X.K Z W0 R F σ (m δ c) (QV X.K Q) → t σ H Q := by
  refine ⟨fun σ H Q => ∀ s H0 C cl fp, Classical.choose (h s H0 C cl fp).ex σ H Q, fun s H0 C cl fp => ⟨fun pins s' σ H Q I z => (Classical.choose_spec (h s H0 C cl fp).ex).1.run pins s' σ H Q I (z s H0 C cl fp)⟩, ?_⟩
  intro Z R F δ c σ H Q w rs k s H0 C cl fp
  exact (Classical.choose_spec (h s H0 C cl fp).ex).2 Z R F δ c σ H Q w rs k
theorem lc_read {wi : TI} {tg' : TG} {tt : TT} {te : TE} {mi : En → Cells → Out Seq} {g : MG} {mt : MT} {me : ME} {vs sl : List Nat} (hsl : ∀ j ∈ sl, j ∈ vs)
    (si : ∀ Z R F δ c σ H Q, Wd X.K Z R F c H → RelS X.K R F δ σ → Aft X.K Z W R F σ (mi δ c) (fun R' F' q _ H' => ∀ J, ItS X.K Z R' F' J q → Q J H') → wi σ H Q)
    (sg : ∀ Z R F δ c σ H v d δ' (Q : St → Hp → Prop), Wd X.K Z R F c H → RelS X.K R F δ σ → Rel X.K R F v d → g d δ = some δ' → (∀ σ', RelS X.K R F δ' σ' → Out_ sl σ σ' → Q σ' H) → tg' v σ H Q)
    (st : ∀ Z R F δ c σ H Q, Wd X.K Z R F c H → RelS X.K R F δ σ → Aft X.K Z W0 R F σ (mt δ c) (QB Q) → tt σ H Q)
    (se : ∀ Z R F δ c σ H Q, Wd X.K Z R F c H → RelS X.K R F δ σ → Aft X.K Z W0 R F σ (me δ c) (QV X.K Q) → te σ H Q) :
    ∀ Z R F δ c σ H (Q : VK), Wd X.K Z R F c H → RelS X.K R F δ σ →
      Aft X.K Z W R F σ (mLcL mi g mt me vs δ c) (fun R' F' ds c' H' => ∀ p accV, Z p = none → H' p = some (.lst accV) → F' p = none → p ∉ R' → RelL X.K R' F' accV ds → Q (.ref p) H') → tLc wi tg' tt te vs σ H Q := by
  intro Z R F δ c σ H Q w rs h
  refine si Z R F δ c σ H _ w rs ((Aft.bind h).imp ?_)
  rintro R1 F1 q c1 H1 p1 e1 w1 ⟨_, _, _, h1⟩ J hJ D hD
  have rs1 := rs.mono p1 e1
  have zD : Z D = none := w1.zs.free hD
  have fD : F1 D = none := w1.same.free hD
  have nD : D ∉ R1 := w1.notin hD
  have w1' : Wd X.K Z R1 F1 c1 (upd H1 D (.lst [])) := w1.more (Ext.upd hD)
  refine ⟨fun i m H => ∃ R F c acc accV, m = q.ds.length - i ∧ R1 <+: R ∧ Same F1 F ∧ Wd X.K Z R F c H ∧ H D = some (.lst accV) ∧ F D = none ∧ D ∉ R ∧ RelL X.K R F accV acc ∧
      Aft X.K Z W R F σ (lcGo q.chk g mt me (wipeE δ vs) (q.ds.drop i) acc c) (fun R' F' ds c' H' => ∀ p accV, Z p = none → H' p = some (.lst accV) → F' p = none → p ∉ R' → RelL X.K R' F' accV ds → Q (.ref p) H'),
    ⟨_, R1, F1, c1, [], [], rfl, List.prefix_refl _, Same.refl _, w1', upd_same, fD, nD, .nil, h1⟩, ?_⟩
  rintro i m H ⟨R, F, c, acc, accV, rfl, p, e, w, hH, hF, hR, rl, h⟩
  by_cases hi : i < q.ds.length
  · rw [List.drop_eq_getElem_cons hi] at h
    unfold lcGo at h
    split at h
    · rename_i hck
      have wh : Wd X.K (upd Z D (.lst accV)) R F c H := w.hold hH hF hR
      obtain ⟨hgo, _⟩ := hJ _ i R F c H (Ext.upd zD) p e wh hck
      obtain ⟨go, y⟩ := hgo _ (List.getElem?_eq_getElem hi)
      refine .inr ⟨go, fun H' => ∃ R F c acc accV, R1 <+: R ∧ Same F1 F ∧ Wd X.K Z R F c H' ∧ H' D = some (.lst accV) ∧ F D = none ∧ D ∉ R ∧ RelL X.K R F accV acc ∧
        Aft X.K Z W R F σ (lcGo q.chk g mt me (wipeE δ vs) (q.ds.drop (i + 1)) acc c) (fun R' F' ds c' H' => ∀ p accV, Z p = none → H' p = some (.lst accV) → F' p = none → p ∉ R' → RelL X.K R' F' accV ds → Q (.ref p) H'), ?_, ?_⟩
      · rintro H' ⟨R', F', c', acc', accV', hh⟩
        exact ⟨q.ds.length - (i + 1), by omega, R', F', c', acc', accV', rfl, hh⟩
      · intro x H' hy
        obtain ⟨F', s', w', r'⟩ := y x H' hy
        split at h
        · exact h.elim
        · rename_i δ1 eg
          have rsw : RelS X.K R F' (wipeE δ vs) (wipe σ vs) := ((rs1.mono p e).mono (List.prefix_refl _) s').wipe vs
          refine sg _ R F' (wipeE δ vs) c (wipe σ vs) H' x _ δ1 _ w' rsw r' eg fun σ2 rs2 o2 => ⟨wipe_eq hsl o2, ?_⟩
          refine st _ R F' δ1 c σ2 H' _ w' rs2 ?_
          have h := Aft.mono (List.prefix_refl _) s' h
          cases et : mt δ1 c with
          | bad => rw [et] at h; exact h.elim
          | exc k ns ds c2 => rw [et] at h; exact h.elim
          | ok b c2 =>
            rw [et] at h
            intro R3 F3 H3 p3 e3 w3
            have h := Aft.mono p3 e3 h
            cases b with
            | false =>
              show if false = true then _ else _
              rw [if_neg (by decide)]
              exact ⟨R3, F3, c2, acc, accV, p.trans p3, (e.trans s').trans e3, w3.unframe (Ext.upd zD), w3.zs _ _ upd_same, (w3.zf _ _ upd_same).1, (w3.zf _ _ upd_same).2, ((rl.mono (List.prefix_refl _) s').mono p3 e3), h⟩
            | true =>
              show if true = true then _ else _
              rw [if_pos rfl]
              dsimp only at h
              refine se _ R3 F3 δ1 c2 σ2 H3 _ w3 (rs2.mono p3 e3) ?_
              cases ee : me δ1 c2 with
              | bad => rw [ee] at h; exact h.elim
              | exc k ns ds c3 => rw [ee] at h; exact h.elim
              | ok yv c3 =>
                rw [ee] at h
                intro R4 F4 H4 p4 e4 w4 v rv
                have h : Aft X.K Z W R3 F3 σ (if acc.length < sizeLine then lcGo q.chk g mt me (wipeE δ vs) (q.ds.drop (i + 1)) (acc ++ [yv]) c3 else .bad) _ := h
                have h := Aft.mono p4 e4 h
                have rl4 := ((rl.mono (List.prefix_refl _) s').mono p3 e3).mono p4 e4
                by_cases hz : acc.length < sizeLine
                · rw [if_pos hz] at h
                  refine ⟨accV, w4.zs _ _ upd_same, by rw [rl.length]; exact hz, R4, F4, c3, acc ++ [yv], accV ++ [v], (p.trans p3).trans p4, ((e.trans s').trans e3).trans e4, w4.unhold zD, upd_same, (w4.zf _ _ upd_same).1, (w4.zf _ _ upd_same).2, rl4.append (.cons rv .nil), h⟩
                · rw [if_neg hz] at h
                  exact h.elim
    · exact h.elim
  · rw [List.drop_eq_nil_of_le (Nat.le_of_not_lt hi)] at h
    unfold lcGo at h
    split at h
    · rename_i hck
      obtain ⟨_, hst⟩ := hJ Z i R F c H (Same.refl _) p e w hck
      exact .inl ⟨hst (Nat.le_of_not_lt hi), h.ok w D accV zD hH hF hR rl⟩
    · exact h.elim
variable {elt tg iter : Expr} {ifs : List Expr} {scope : Scope} {own : List (Str × Nat)} {pos : Pos} {mi : En → Cells → Out Seq} {g : MG} {mt : MT} {me : ME} {sl : List Nat}
theorem lc_fin {Z : Hp} {R : List Addr} {F : Hp} {σ : St} {o : Out (List D)} {Q : VK} (h : Aft X.K Z W R F σ (o.bind fun ds c1 => .ok (.lst ds) c1) (QV X.K Q)) :
    Aft X.K Z W R F σ o (fun R' F' ds c' H' => ∀ p accV, Z p = none → H' p = some (.lst accV) → F' p = none → p ∉ R' → RelL X.K R' F' accV ds → Q (.ref p) H') := by
  refine (Aft.bind h).imp ?_
  rintro R1 F1 ds c1 H1 p1 e1 w1 ⟨_, _, _, h1⟩ p accV z hh hf hr rl
  obtain ⟨w2, s2⟩ := w1.freeze z hh hf hr
  exact h1 _ _ _ (List.prefix_refl _) s2 w2 _ (.lst upd_same (rl.mono (List.prefix_refl _) s2))
theorem lc_finC {Z : Hp} {R : List Addr} {F : Hp} {σ : St} {o : Out (List D)} {Q : VK} (h : Aft X.K Z W R F σ (o.bind fun ds c1 => .ok (.cell c1.length) (c1 ++ [.lst ds])) (QV X.K Q)) :
    Aft X.K Z W R F σ o (fun R' F' ds c' H' => ∀ p accV, Z p = none → H' p = some (.lst accV) → F' p = none → p ∉ R' → RelL X.K R' F' accV ds → Q (.ref p) H') := by
  refine (Aft.bind h).imp ?_
  rintro R1 F1 ds c1 H1 p1 e1 w1 ⟨_, _, _, h1⟩ p accV z hh hf hr rl
  have w2 := w1.adopt z hh hf hr (.lst rl)
  refine h1 _ _ _ (List.prefix_append _ _) (Same.refl _) w2 _ (.cell ?_)
  rw [← w1.len, List.getElem?_append_right (Nat.le_refl _), Nat.sub_self]
  rfl
theorem de_lc (hc : X.calm = true) (hN : X.N.Nodup) (hi : DI X W tg iter mi) (ok : blkC X.N X.env.scope scope own = true) (hsl : sl.all (fun j => (own.map (·.2)).contains j) = true)
    (hg : Blk X scope fun Y => DG Y tg sl g) (ht : Blk X scope fun Y => DTs Y ifs mt) (he : Blk X scope fun Y => DE Y W0 elt me) (hs : ∀ x, foldedSetIterable iter X.env x = pure x := by intro _; rfl) :
    DE X W (.ListComp elt [⟨tg, iter, ifs, 0⟩] scope pos) (mLc mi g mt me (own.map (·.2))) := by
  obtain ⟨ti, pi, si⟩ := hi.ex
  obtain ⟨tg', pg, sg⟩ := blk_g hg
  obtain ⟨tt, pt, st⟩ := blk_t ht
  obtain ⟨te, pe, se⟩ := blk_e he
  have hsl' : ∀ j ∈ sl, j ∈ own.map (·.2) := fun j hj => by simpa using List.all_eq_true.mp hsl j hj
  exact ⟨_, pe_lc hc hN pi (blkOk_by ok) pg pt pe hs, fun Z R F δ c σ H Q w rs h => lc_read hsl' si sg st se Z R F δ c σ H Q w rs (lc_fin h)⟩
theorem de_lcC (hc : X.calm = true) (hN : X.N.Nodup) (hi : DI X W tg iter mi) (ok : blkC X.N X.env.scope scope own = true) (hsl : sl.all (fun j => (own.map (·.2)).contains j) = true)
    (hg : Blk X scope fun Y => DG Y tg sl g) (ht : Blk X scope fun Y => DTs Y ifs mt) (he : Blk X scope fun Y => DE Y W0 elt me) (hs : ∀ x, foldedSetIterable iter X.env x = pure x := by intro _; rfl) :
    DE X W (.ListComp elt [⟨tg, iter, ifs, 0⟩] scope pos) (mLcC mi g mt me (own.map (·.2))) := by
  obtain ⟨ti, pi, si⟩ := hi.ex
  obtain ⟨tg', pg, sg⟩ := blk_g hg
  obtain ⟨tt, pt, st⟩ := blk_t ht
  obtain ⟨te, pe, se⟩ := blk_e he
  have hsl' : ∀ j ∈ sl, j ∈ own.map (·.2) := fun j hj => by simpa using List.all_eq_true.mp hsl j hj
  exact ⟨_, pe_lc hc hN pi (blkOk_by ok) pg pt pe hs, fun Z R F δ c σ H Q w rs h => lc_read hsl' si sg st se Z R F δ c σ H Q w rs (lc_finC h)⟩
/-- y = [..] -/
theorem ds_setLc {i : Nat} {y : Str} {py spos : Pos} (hc : X.calm = true) (hN : X.N.Nodup) (hy : X.N[i]? = some y) (hyl : X.env.scope.names.lookup y = some .local)
    (hsw : swapsWith (.ListComp elt [⟨tg, iter, ifs, 0⟩] scope pos) (some (.Name y py)) spos.line X.env = pure true) (hi : DI X W tg iter mi) (ok : blkC X.N X.env.scope scope own = true) (hsl : sl.all (fun j => (own.map (·.2)).contains j) = true)
    (hg : Blk X scope fun Y => DG Y tg sl g) (ht : Blk X scope fun Y => DTs Y ifs mt) (he : Blk X scope fun Y => DE Y W0 elt me) (hs : ∀ x, foldedSetIterable iter X.env x = pure x := by intro _; rfl) :
    DS X W (.Assign [.Name y py] (.ListComp elt [⟨tg, iter, ifs, 0⟩] scope pos) spos) (mSet i (mLc mi g mt me (own.map (·.2)))) := by
  obtain ⟨ti, pi, si⟩ := hi.ex
  obtain ⟨tg', pg, sg⟩ := blk_g hg
  obtain ⟨tt, pt, st⟩ := blk_t ht
  obtain ⟨te, pe, se⟩ := blk_e he
  have hsl' : ∀ j ∈ sl, j ∈ own.map (·.2) := fun j hj => by simpa using List.all_eq_true.mp hsl j hj
  refine ⟨_, ps_setLc hc hN hy hyl hsw pi (blkOk_by ok) pg pt pe hs, fun Z R F δ c σ H E w rs h => lc_read hsl' si sg st se Z R F δ c σ H _ w rs (lc_fin (Q := fun x H1 => gName i x σ H1 E.nx) ((AftS.fl rs h).imp ?_))⟩
  rintro R1 F1 d c1 H1 p1 e1 w1 ⟨_, _, _, h1⟩ v rv
  exact h1 R1 F1 H1 _ (List.prefix_refl _) (Same.refl _) w1 ((rs.mono p1 e1).set rv)
theorem ds_setLcC {i : Nat} {y : Str} {py spos : Pos} (hc : X.calm = true) (hN : X.N.Nodup) (hy : X.N[i]? = some y) (hyl : X.env.scope.names.lookup y = some .local)
    (hsw : swapsWith (.ListComp elt [⟨tg, iter, ifs, 0⟩] scope pos) (some (.Name y py)) spos.line X.env = pure true) (hi : DI X W tg iter mi) (ok : blkC X.N X.env.scope scope own = true) (hsl : sl.all (fun j => (own.map (·.2)).contains j) = true)
    (hg : Blk X scope fun Y => DG Y tg sl g) (ht : Blk X scope fun Y => DTs Y ifs mt) (he : Blk X scope fun Y => DE Y W0 elt me) (hs : ∀ x, foldedSetIterable iter X.env x = pure x := by intro _; rfl) :
    DS X W (.Assign [.Name y py] (.ListComp elt [⟨tg, iter, ifs, 0⟩] scope pos) spos) (mSet i (mLcC mi g mt me (own.map (·.2)))) := by
  obtain ⟨ti, pi, si⟩ := hi.ex
  obtain ⟨tg', pg, sg⟩ := blk_g hg
  obtain ⟨tt, pt, st⟩ := blk_t ht
  obtain ⟨te, pe, se⟩ := blk_e he
  have hsl' : ∀ j ∈ sl, j ∈ own.map (·.2) := fun j hj => by simpa using List.all_eq_true.mp hsl j hj
  refine ⟨_, ps_setLc hc hN hy hyl hsw pi (blkOk_by ok) pg pt pe hs, fun Z R F δ c σ H E w rs h => lc_read hsl' si sg st se Z R F δ c σ H _ w rs (lc_finC (Q := fun x H1 => gName i x σ H1 E.nx) ((AftS.fl rs h).imp ?_))⟩
  rintro R1 F1 d c1 H1 p1 e1 w1 ⟨_, _, _, h1⟩ v rv
  exact h1 R1 F1 H1 _ (List.prefix_refl _) (Same.refl _) w1 ((rs.mono p1 e1).set rv)
end
end Nw

set_option Elab.async false
set_option linter.all false
set_option maxRecDepth 100000
set_option maxHeartbeats 4000000
/-! Nw4: defs, calls, methods, instances. -/
namespace Nw
open PySem PySem.Spec
open PyProof.Rows hiding St
open L2

/-! ### no cell from n on -/
mutual
def nc (n : Nat) : D → Bool
  | .cell i => decide (i < n)
  | .tup l => ncL n l
  | .lst l => ncL n l
  | .scr l => ncL n l
  | .obj _ _ l => ncL n l
  | .exo _ _ _ _ l => ncL n l
  | .dic _ l => ncL n l
  | .dit _ l => ncL n l
  | .non => true
  | .bl _ => true
  | .int _ => true
  | .str _ => true
  | .ty _ => true
  | .gl _ => true
def ncL (n : Nat) : List D → Bool
  | [] => true
  | d :: r => nc n d && ncL n r
end
def ncC (n : Nat) : Cell → Bool
  | .lst l => ncL n l
  | .ins _ _ l => ncL n l
  | .dct _ l => ncL n l
  | .dtt _ l => ncL n l
section
variable {K : Frag} {R : List Addr} {F : Hp}
mutual
theorem Rel.cut {n : Nat} : ∀ {v : V} {d : D}, Rel K R F v d → nc n d = true → Rel K (R.take n) F v d
  | _, _, .non, _ => .non
  | _, _, .bl b, _ => .bl b
  | _, _, .int i, _ => .int i
  | _, _, .str x, _ => .str x
  | _, _, .ty n, _ => .ty n
  | _, _, .gl x, _ => .gl x
  | _, _, .tup h l, e => .tup h (RelL.cut l (by unfold nc at e; exact e))
  | _, _, .lst h l, e => .lst h (RelL.cut l (by unfold nc at e; exact e))
  | _, _, .scr h l, e => .scr h (RelL.cut l (by unfold nc at e; exact e))
  | _, _, .obj h z l, e => .obj h z (RelL.cut l (by unfold nc at e; exact e))
  | _, _, .exo h z l, e => .exo h z (RelL.cut l (by unfold nc at e; exact e))
  | _, _, .exo0, e => .exo0
  | _, _, .dic h z l, e => .dic h z (RelL.cut l (by unfold nc at e; exact e))
  | _, _, .dit h z l, e => .dit h z (RelL.cut l (by unfold nc at e; exact e))
  | _, _, .cell h, e => .cell (by
      unfold nc at e
      rw [List.getElem?_take_of_lt (of_decide_eq_true e)]
      exact h)
theorem RelL.cut {n : Nat} : ∀ {vs : List V} {ds : List D}, RelL K R F vs ds → ncL n ds = true → RelL K (R.take n) F vs ds
  | _, _, .nil, _ => .nil
  | _, _, .cons h t, e => by
    unfold ncL at e
    have e := Bool.and_eq_true_iff.mp e
    exact .cons (h.cut e.1) (t.cut e.2)
end
mutual
theorem Rel.nc : ∀ {v : V} {d : D}, Rel K R F v d → Nw.nc R.length d = true
  | _, _, .non => by unfold Nw.nc; rfl
  | _, _, .bl b => by unfold Nw.nc; rfl
  | _, _, .int i => by unfold Nw.nc; rfl
  | _, _, .str x => by unfold Nw.nc; rfl
  | _, _, .ty n => by unfold Nw.nc; rfl
  | _, _, .gl x => by unfold Nw.nc; rfl
  | _, _, .tup h l => by unfold Nw.nc; exact l.nc
  | _, _, .lst h l => by unfold Nw.nc; exact l.nc
  | _, _, .scr h l => by unfold Nw.nc; exact l.nc
  | _, _, .obj h z l => by unfold Nw.nc; exact l.nc
  | _, _, .exo h z l => by unfold Nw.nc; exact l.nc
  | _, _, .exo0 => by unfold Nw.nc ncL; rfl
  | _, _, .dic h z l => by unfold Nw.nc; exact l.nc
  | _, _, .dit h z l => by unfold Nw.nc; exact l.nc
  | _, _, .cell h => by unfold Nw.nc; exact decide_eq_true (List.getElem?_eq_some_iff.mp h).1
theorem RelL.nc : ∀ {vs : List V} {ds : List D}, RelL K R F vs ds → ncL R.length ds = true
  | _, _, .nil => by unfold ncL; rfl
  | _, _, .cons h t => by unfold ncL; exact Bool.and_eq_true_iff.mpr ⟨h.nc, t.nc⟩
end
theorem RelC.nc {k : Cell} {o : HO} (h : RelC K R F k o) : ncC R.length k = true := by
  cases h with
  | lst l => exact l.nc
  | ins z l => exact l.nc
  | dct z l => exact l.nc
  | dtt z l => exact l.nc
theorem RelC.cut {n : Nat} {k : Cell} {o : HO} (h : RelC K R F k o) (e : ncC n k = true) : RelC K (R.take n) F k o := by
  cases h with
  | lst l => exact .lst (l.cut e)
  | ins z l => exact .ins z (l.cut e)
  | dct z l => exact .dct z (l.cut e)
  | dtt z l => exact .dtt z (l.cut e)
end
/-- the cells of a callee become plain data -/
def frz (c : Cells) (n : Nat) : Nat → D → Option D
  | 0, _ => none
  | f + 1, d => if nc n d = true then some d else match d with
    | .cell i => (match c[i]? with
      | some (.lst l) => (l.mapM (frz c n f)).map .lst
      | some (.ins k ns l) => (l.mapM (frz c n f)).map (.obj k ns)
      | some (.dct ks l) => (l.mapM (frz c n f)).map (.dic ks)
      | some (.dtt ks l) => (l.mapM (frz c n f)).map (.dit ks)
      | none => none)
    | .tup l => (l.mapM (frz c n f)).map .tup
    | .lst l => (l.mapM (frz c n f)).map .lst
    | .obj k ns l => (l.mapM (frz c n f)).map (.obj k ns)
    | .dic ks l => (l.mapM (frz c n f)).map (.dic ks)
    | .dit ks l => (l.mapM (frz c n f)).map (.dit ks)
    | _ => none
/-- at a callee's end: its own cells go -/
def fin (c c' : Cells) (d : D) : Out D := if (c'.take c.length).all (ncC c.length) = true ∨ c'.take c.length = c then (match frz c' c.length 30 d with
  | some d' => .ok d' (c'.take c.length)
  | none => .bad) else .bad
section
variable {K : Frag} {Z : Hp}
theorem mapM_rel {f : D → Option D} {P : V → D → Prop} : ∀ {vs : List V} {ds es : List D} {R : List Addr} {F : Hp}, RelL K R F vs ds → ds.mapM f = some es → (∀ v d e, Rel K R F v d → f d = some e → P v e) → ∀ {R' : List Addr} {F' : Hp}, (∀ v e, P v e → Rel K R' F' v e) → RelL K R' F' vs es
  | _, _, _, _, _, .nil, h, _, _, _, _ => by
    simp at h
    subst h
    exact .nil
  | _, _, _, _, _, .cons (d := d) (ds := ds) r t, h, hp, _, _, hq => by
    rw [List.mapM_cons] at h
    cases e1 : f d with
    | none => rw [e1] at h; simp at h
    | some e =>
      rw [e1] at h
      cases e2 : List.mapM f ds with
      | none => rw [e2] at h; simp at h
      | some es' =>
        rw [e2] at h
        simp at h
        subst h
        exact .cons (hq _ _ (hp _ _ _ r e1)) (mapM_rel t e2 hp hq)
theorem frz_rel {n : Nat} {R : List Addr} {F F' : Hp} {c : Cells} {H : Hp} (w : Wd K Z R F c H) (sF : Same F F') (hF : ∀ i a o, n ≤ i → R[i]? = some a → H a = some o → F' a = some o) : ∀ (f : Nat) (v : V) (d e : D), Rel K R F v d → frz c n f d = some e → Rel K (R.take n) F' v e
  | 0, _, _, _, _, h => by cases h
  | f + 1, v, d, e, r, h => by
    unfold frz at h
    split at h
    · rename_i hn
      cases h
      exact (r.cut hn).mono (List.prefix_refl _) sF
    · rename_i hn
      have ih := fun v d e r h => frz_rel w sF hF f v d e r h
      split at h
      · rename_i i
        cases r with
        | cell hi =>
          rename_i a
          have hle : n ≤ i := by
            have : ¬ i < n := fun z => hn (by unfold nc; exact decide_eq_true z)
            omega
          split at h
          · rename_i l hc
            obtain ⟨vs, q, rl⟩ := w.atList hi hc
            cases e1 : List.mapM (frz c n f) l with
            | none => rw [e1] at h; simp at h
            | some es =>
              rw [e1] at h
              simp at h
              subst h
              exact .lst (hF i a _ hle hi q) (mapM_rel rl e1 ih fun v e z => z)
          · rename_i k ns l hc
            obtain ⟨a', o, h1, h2, h3, h4⟩ := w.cel i _ hc
            rw [hi] at h1
            cases h1
            cases h3 with
            | ins z rl =>
              cases e1 : List.mapM (frz c n f) l with
              | none => rw [e1] at h; simp at h
              | some es =>
                rw [e1] at h
                simp at h
                subst h
                exact .obj (hF i a _ hle hi h2) z (mapM_rel rl e1 ih fun v e z => z)
          · rename_i ks l hc
            obtain ⟨a', o, h1, h2, h3, h4⟩ := w.cel i _ hc
            rw [hi] at h1
            cases h1
            cases h3 with
            | dct z rl =>
              cases e1 : List.mapM (frz c n f) l with
              | none => rw [e1] at h; simp at h
              | some es =>
                rw [e1] at h
                simp at h
                subst h
                exact .dic (hF i a _ hle hi h2) z (mapM_rel rl e1 ih fun v e z => z)
          · rename_i ks l hc
            obtain ⟨a', o, h1, h2, h3, h4⟩ := w.cel i _ hc
            rw [hi] at h1
            cases h1
            cases h3 with
            | dtt z rl =>
              cases e1 : List.mapM (frz c n f) l with
              | none => rw [e1] at h; simp at h
              | some es =>
                rw [e1] at h
                simp at h
                subst h
                exact .dit (hF i a _ hle hi h2) z (mapM_rel rl e1 ih fun v e z => z)
          · cases h
      · rename_i l
        cases r with
        | tup hq rl =>
          cases e1 : List.mapM (frz c n f) l with
          | none => rw [e1] at h; simp at h
          | some es =>
            rw [e1] at h
            simp at h
            subst h
            exact .tup (hq.ext sF) (mapM_rel rl e1 ih fun v e z => z)
      · rename_i l
        cases r with
        | lst hq rl =>
          cases e1 : List.mapM (frz c n f) l with
          | none => rw [e1] at h; simp at h
          | some es =>
            rw [e1] at h
            simp at h
            subst h
            exact .lst (sF _ _ hq) (mapM_rel rl e1 ih fun v e z => z)
      · rename_i k ns l
        cases r with
        | obj hq z rl =>
          cases e1 : List.mapM (frz c n f) l with
          | none => rw [e1] at h; simp at h
          | some es =>
            rw [e1] at h
            simp at h
            subst h
            exact .obj (sF _ _ hq) z (mapM_rel rl e1 ih fun v e z => z)
      · rename_i ks l
        cases r with
        | dic hq z rl =>
          cases e1 : List.mapM (frz c n f) l with
          | none => rw [e1] at h; simp at h
          | some es =>
            rw [e1] at h
            simp at h
            subst h
            exact .dic (sF _ _ hq) z (mapM_rel rl e1 ih fun v e z => z)
      · rename_i ks l
        cases r with
        | dit hq z rl =>
          cases e1 : List.mapM (frz c n f) l with
          | none => rw [e1] at h; simp at h
          | some es =>
            rw [e1] at h
            simp at h
            subst h
            exact .dit (sF _ _ hq) z (mapM_rel rl e1 ih fun v e z => z)
      · cases h
open Classical in
/-- the callee's own cells' addresses join the frozen part -/
theorem Wd.drop {R0 R : List Addr} {F0 F : Hp} {c0 c : Cells} {H0 H : Hp} (w0 : Wd K Z R0 F0 c0 H0) (p : R0 <+: R) (e : Same F0 F) (w : Wd K Z R F c H) (hc : (c.take c0.length).all (ncC c0.length) = true ∨ c.take c0.length = c0) :
    ∃ F', Same F F' ∧ (∀ i a o, c0.length ≤ i → R[i]? = some a → H a = some o → F' a = some o) ∧ Wd K Z (R.take c0.length) F' (c.take c0.length) H ∧ R.take c0.length = R0 := by
  have hR : R.take c0.length = R0 := by
    obtain ⟨t, rfl⟩ := p
    rw [← w0.len, List.take_left]
  have hcl : ∀ (i : Nat) (k : Cell), (c.take c0.length)[i]? = some k → ncC c0.length k = true := by
    intro i k q
    rcases hc with hc | hc
    · exact List.all_eq_true.mp hc k (List.mem_of_getElem? q)
    · rw [hc] at q
      obtain ⟨a, o, h1, h2, h3, h4⟩ := w0.cel i k q
      rw [← w0.len]
      exact h3.nc
  refine ⟨fun a => if a ∈ R.drop c0.length then H a else F a, ?_, ?_, ?_, hR⟩
  · intro a o q
    have hn : a ∉ R.drop c0.length := fun hm => by
      obtain ⟨i, hi, ei⟩ := List.mem_iff_getElem.mp hm
      rw [List.getElem_drop] at ei
      have hil : c0.length + i < R.length := by rw [List.length_drop] at hi; omega
      obtain ⟨a', o', h1, h2, h3, h4⟩ := w.cel (c0.length + i) (c[c0.length + i]'(by rw [← w.len]; exact hil)) (List.getElem?_eq_getElem _)
      rw [List.getElem?_eq_getElem hil, ei] at h1
      cases h1
      rw [h4] at q
      cases q
    show (if a ∈ R.drop c0.length then H a else F a) = some o
    rw [if_neg hn]
    exact q
  · intro i a o hi ha ho
    have hm : a ∈ R.drop c0.length := List.mem_of_getElem? (i := i - c0.length) (by rw [List.getElem?_drop]; rw [show c0.length + (i - c0.length) = i from by omega]; exact ha)
    show (if a ∈ R.drop c0.length then H a else F a) = some o
    rw [if_pos hm]
    exact ho
  · have sF : Same F (fun a => if a ∈ R.drop c0.length then H a else F a) := by
      intro a o q
      have hn : a ∉ R.drop c0.length := fun hm => by
        obtain ⟨i, hi, ei⟩ := List.mem_iff_getElem.mp hm
        rw [List.getElem_drop] at ei
        have hil : c0.length + i < R.length := by rw [List.length_drop] at hi; omega
        obtain ⟨a', o', h1, h2, h3, h4⟩ := w.cel (c0.length + i) (c[c0.length + i]'(by rw [← w.len]; exact hil)) (List.getElem?_eq_getElem _)
        rw [List.getElem?_eq_getElem hil, ei] at h1
        cases h1
        rw [h4] at q
        cases q
      show (if a ∈ R.drop c0.length then H a else F a) = some o
      rw [if_neg hn]
      exact q
    refine ⟨w.zs, fun a o q => ⟨?_, fun hm => (w.zf a o q).2 (List.mem_of_mem_take hm)⟩, fun a o q => ?_, by rw [List.length_take, List.length_take, w.len], w.nd.sublist (List.take_sublist _ _), fun i k q => ?_⟩
    · have hn : a ∉ R.drop c0.length := fun hm => (w.zf a o q).2 (List.mem_of_mem_drop hm)
      show (if a ∈ R.drop c0.length then H a else F a) = none
      rw [if_neg hn]
      exact (w.zf a o q).1
    · have q : (if a ∈ R.drop c0.length then H a else F a) = some o := q
      by_cases hm : a ∈ R.drop c0.length
      · rw [if_pos hm] at q; exact q
      · rw [if_neg hm] at q; exact w.same a o q
    · have hi : i < c0.length := by
        have := (List.getElem?_eq_some_iff.mp q).1
        rw [List.length_take] at this
        omega
      have hk := hcl i k q
      rw [List.getElem?_take_of_lt hi] at q
      obtain ⟨a, o, h1, h2, h3, h4⟩ := w.cel i k q
      refine ⟨a, o, by rw [List.getElem?_take_of_lt hi]; exact h1, h2, (h3.mono (List.prefix_refl _) sF).cut hk, ?_⟩
      have hn : a ∉ R.drop c0.length := fun hm => by
        obtain ⟨j, hj, ej⟩ := List.mem_iff_getElem.mp hm
        rw [List.getElem_drop] at ej
        have hjl : c0.length + j < R.length := by rw [List.length_drop] at hj; omega
        obtain ⟨l1, e1⟩ := List.getElem?_eq_some_iff.mp h1
        have := (List.getElem_inj w.nd).mp (e1.trans ej.symm)
        omega
      show (if a ∈ R.drop c0.length then H a else F a) = none
      rw [if_neg hn]
      exact h4
theorem fin_read {W : WX} {R0 R : List Addr} {F0 F : Hp} {c0 c : Cells} {H0 H : Hp} {σ : St} {v : V} {d : D} {Q : VK} (w0 : Wd K Z R0 F0 c0 H0) (p : R0 <+: R) (e : Same F0 F) (w : Wd K Z R F c H) (r : Rel K R F v d) (h : Aft K Z W R0 F0 σ (fin c0 c d) (QV K Q)) : Q v H := by
  unfold fin at h
  split at h
  · rename_i hc
    split at h
    · rename_i d' hz
      obtain ⟨F', sF, hF, w', eR⟩ := w0.drop p e w hc
      refine h _ F' H (by rw [eR]; exact List.prefix_refl _) (e.trans sF) w' v ?_
      exact frz_rel w sF hF 30 v d d' r hz
    · exact h.elim
  · exact h.elim
end

/-! ### defs -/
/-- a def's promise: it does what m says -/
def spOf (K : Frag) (m : MF) : Sp := fun vs H Q E => ∃ Z R F c ds, Wd K Z R F c H ∧ RelL K R F vs ds ∧ Aft K Z (fun cls x _ H' => E cls x H') R F [] (m ds c) (QV K Q)
/-- np parameters, nl names in all -/
def mkFn (np nl : Nat) (mb : MS) : MF := fun ds c => if ds.length = np then (match mb (ds.map some ++ List.replicate (nl - np) none) c with
  | .nx _ c' => .ok .non c'
  | .rt d c' => .ok d c'
  | .exc k ns es _ c' => .exc k ns es c'
  | _ => .bad) else .bad
/-- a def that makes cells of its own -/
def mkFnB (np nl : Nat) (mb : MS) : MF := fun ds c => if ds.length = np then (match mb (ds.map some ++ List.replicate (nl - np) none) c with
  | .nx _ c' => fin c c' .non
  | .rt d c' => fin c c' d
  | .exc k ns es _ c' => (match fin c c' (.tup es) with
    | .ok (.tup es') c2 => .exc k ns es' c2
    | _ => .bad)
  | _ => .bad) else .bad
theorem relS_start {K : Frag} {R : List Addr} {F : Hp} : ∀ {vs : List V} {ds : List D} (n : Nat), RelL K R F vs ds → RelS K R F (ds.map some ++ List.replicate n none) (vs.map some ++ List.replicate n none) := by
  intro vs ds n h
  refine ⟨by rw [List.length_append, List.length_append, List.length_map, List.length_map, h.length]; simp, fun i d q => ?_⟩
  by_cases hi : i < ds.length
  · rw [List.getElem?_append_left (by simpa using hi), List.getElem?_map] at q
    cases e : ds[i]? with
    | none => rw [e] at q; cases q
    | some d' =>
      rw [e] at q
      cases q
      obtain ⟨v, h1, h2⟩ := h.get e
      exact ⟨v, by rw [List.getElem?_append_left (by rw [List.length_map, h.length]; exact hi), List.getElem?_map, h1]; rfl, h2⟩
  · rw [List.getElem?_append_right (by simpa using hi), List.getElem?_replicate] at q
    split at q
    · cases q
    · cases q
section
variable {P : Program} {w : World} {K : PySem.W.Frag} {mg : Str → Option Value} {base : Heap} {x qual : Str} {params : Arguments} {body : List Stmt} {scope : Scope} {f : Addr} {fd : FuncData} {N ps : List Str} {k : Nat} {mb : MS}
abbrev WE' (E : XK) : WX := fun cls x _ H' => E cls x H'
/-- the context of a def's body -/
abbrev Cxf (P : Program) (w : World) (K : PySem.W.Frag) (mg : Str → Option Value) (base : Heap) (N : List Str) (qual : Str) (scope : Scope) (f : Addr) (cdv : Value) (A : Around) (outer : List Env) (s : Shared) (H : Hp) (E : XK) : Cx := cxOf (L2.CX P w) P w K mg base N qual scope f cdv A outer s H E
abbrev BodyOk (P : Program) (w : World) (K : PySem.W.Frag) (mg : Str → Option Value) (base : Heap) (N : List Str) (qual : Str) (scope : Scope) (f : Addr) (k : Nat) (body : List Stmt) (mb : MS) : Prop :=
  ∀ (cdv : Value) (A : Around) (outer : List Env) (s : Shared) (H : Hp) (E : XK), Room k (A.deeper (envOfC qual scope s.heap.objs.size f cdv)) →
    Takes (Cxf P w K mg base N qual scope f cdv A outer s H E) (WE' E) →
    PassesOwn (model P w) (Cxf P w K mg base N qual scope f cdv A outer s H E).A (Cxf P w K mg base N qual scope f cdv A outer s H E).env (Cxf P w K mg base N qual scope f cdv A outer s H E).xe →
    DSs (Cxf P w K mg base N qual scope f cdv A outer s H E) (WE' E) body mb
theorem mk_read {K : Frag} {Z : Hp} {R : List Addr} {F : Hp} {E : XK} {Q : VK} {o : Fl} (h : Aft K Z (WE' E) R F [] (match o with
    | .nx _ c' => .ok .non c'
    | .rt d c' => .ok d c'
    | .exc k ns es _ c' => .exc k ns es c'
    | _ => .bad) (QV K Q)) : AftS K Z (WE' E) R F o { nx := fun _ H' => Q .non H', rt := Q } := by
  cases o with
  | nx δ c' => exact fun R' F' H' σ p e w rs => h R' F' H' p e w .non .non
  | rt d c' => exact fun R' F' H' v p e w r => h R' F' H' p e w v r
  | exc k ns es δ c' => exact fun R' F' H' σ x p e w rs xr => h R' F' H' x p e w xr
  | bk δ c' => exact h.elim
  | ct δ c' => exact h.elim
  | bad => exact h.elim
theorem fn_ok (Fn : FunD K x qual params body scope [] [] f fd) (S : FnScope N ps scope) (hb : BodyOk P w K mg base N qual scope f k body mb) : FnOk P w K mg base (L2.CX P w) (k + 1) f fd ps (spOf K (mkFn ps.length N.length mb)) := by
  refine Fn.ok S ?_ ?_
  · rintro vs H Q E ⟨Z, R, F, c, ds, wd, r, h⟩
    unfold mkFn at h
    split at h
    · rename_i hl
      rw [r.length]; exact hl
    · exact h.elim
  · rintro cdv A outer s H vs Q E hr ⟨Z, R, F, c, ds, wd, r, h⟩
    obtain ⟨t, p, sd⟩ := (hb cdv A outer s H E hr (takes_of rfl rfl rfl rfl) (passes_of rfl)).ex
    refine ⟨t, p, ?_⟩
    unfold mkFn at h
    split at h
    · rename_i hl
      have e : L2.start N vs = vs.map some ++ List.replicate (N.length - ps.length) none := by unfold L2.start; rw [r.length, hl]
      rw [e]
      exact sd Z R F _ c _ H _ wd (relS_start _ r) (mk_read h)
    · exact h.elim
theorem fn_okB (Fn : FunD K x qual params body scope [] [] f fd) (S : FnScope N ps scope) (hb : BodyOk P w K mg base N qual scope f k body mb) : FnOk P w K mg base (L2.CX P w) (k + 1) f fd ps (spOf K (mkFnB ps.length N.length mb)) := by
  refine Fn.ok S ?_ ?_
  · rintro vs H Q E ⟨Z, R, F, c, ds, wd, r, h⟩
    unfold mkFnB at h
    split at h
    · rename_i hl
      rw [r.length]; exact hl
    · exact h.elim
  · rintro cdv A outer s H vs Q E hr ⟨Z, R, F, c, ds, wd, r, h⟩
    obtain ⟨t, p, sd⟩ := (hb cdv A outer s H E hr (takes_of rfl rfl rfl rfl) (passes_of rfl)).ex
    refine ⟨t, p, ?_⟩
    unfold mkFnB at h
    split at h
    · rename_i hl
      have e : L2.start N vs = vs.map some ++ List.replicate (N.length - ps.length) none := by unfold L2.start; rw [r.length, hl]
      rw [e]
      refine sd Z R F _ c _ H _ wd (relS_start _ r) ?_
      generalize mb (ds.map some ++ List.replicate (N.length - ps.length) none) c = o at h
      cases o with
      | nx δ c' => exact fun R' F' H' σ p e w' rs => fin_read wd p e w' .non h
      | rt d c' => exact fun R' F' H' v p e w' rv => fin_read wd p e w' rv h
      | exc k ns es δ c' =>
        intro R' F' H' σ x p e w' rs xr
        dsimp only at h
        unfold fin at h
        split at h
        · rename_i es' c2 hz
          split at hz
          · rename_i hc
            split at hz
            · rename_i d' hd
              injection hz with hz1 hz2
              subst hz1
              subst hz2
              obtain ⟨F2, sF, hF, w2, eR⟩ := wd.drop p e w' hc
              refine h _ F2 H' x (by rw [eR]; exact List.prefix_refl _) (e.trans sF) w2 ?_
              -- the fields one by one
              have key : ∀ (f : Nat) (vs : List V) (ds : List D) (e' : D), RelL K R' F' vs ds → frz c' c.length (f + 1) (.tup ds) = some e' → ∃ ds', e' = .tup ds' ∧ RelL K (R'.take c.length) F2 vs ds' := by
                intro f vs ds e' rl hf
                unfold frz at hf
                split at hf
                · rename_i hn
                  cases hf
                  unfold nc at hn
                  exact ⟨ds, rfl, (rl.cut hn).mono (List.prefix_refl _) sF⟩
                · have hf : (ds.mapM (frz c' c.length f)).map D.tup = some e' := hf
                  cases e1 : List.mapM (frz c' c.length f) ds with
                  | none => rw [e1] at hf; simp at hf
                  | some es2 =>
                    rw [e1] at hf
                    simp at hf
                    subst hf
                    exact ⟨es2, rfl, mapM_rel rl e1 (fun v d e r h => frz_rel w' sF hF f v d e r h) fun v e z => z⟩
              cases xr with
              | none =>
                obtain ⟨ds', e1, rl'⟩ := key 29 [] [] _ .nil hd
                cases e1
                cases rl'
                exact .none
              | some hx z rl =>
                obtain ⟨ds', e1, rl'⟩ := key 29 _ _ _ rl hd
                cases e1
                exact .some (sF _ _ hx) z rl'
            · cases hz
          · cases hz
        · exact h.elim
      | bk δ c' => exact h.elim
      | ct δ c' => exact h.elim
      | bad => exact h.elim
    · exact h.elim
end
end Nw

set_option Elab.async false
set_option linter.all false
set_option maxRecDepth 100000
set_option maxHeartbeats 4000000
/-! Nw5: calls, methods, instances, attributes. -/
namespace Nw
open PySem PySem.Spec
open PyProof.Rows hiding St
open L2

section
variable {X : Cx} {W : WX} {k : Nat} {fa C : Addr} {fd : FuncData} {ps : List Str} {m : MF} {x mn : Str} {p pos apos : Pos} {e o : Expr} {es : List Expr} {ma : MA} {mo : ME}
/-- a call's promise, used -/
theorem sp_of {Z : Hp} {R : List Addr} {F : Hp} {c : Cells} {σ : St} {H : Hp} {vs : List V} {ds : List D} {Q : VK} (w : Wd X.K Z R F c H) (r : RelL X.K R F vs ds) (h : Aft X.K Z W R F σ (m ds c) (QV X.K Q)) : spOf X.K m vs H Q (WE W σ) := by
  refine ⟨Z, R, F, c, ds, w, r, ?_⟩
  cases q : m ds c with
  | ok d c' => rw [q] at h; exact h
  | exc k ns es c' => rw [q] at h; exact h
  | bad => rw [q] at h; exact h
def mCall (m : MF) (ma : MA) : ME := fun δ c => (ma δ c).bind fun ds c1 => m ds c1
/-- f(e, ..) -/
theorem de_call (G : FnOk X.prog X.w X.K X.mg X.base (L2.CX X.prog X.w) k fa fd ps (spOf X.K m)) (hr : Room k X.A) (tk : Takes X W) (hm : X.mg x = some (.ref fa)) (hk : PySem.W.keepIn X.K (.ref fa) = true) (hb : Binds X.K fd ps []) (ha : DA X W (e :: es) ma)
    (hg : Gl X x := by rfl) (hdb : (x == ("__debug__" : Str)) = false := by decide) (he : starEach (e :: es) X.env = (false, eval e X.env) :: starEach es X.env := by rfl) (hpl : (backTo pos (starEach es X.env)).any (·.1) = false := by rfl) :
    DE X W (.Call (.Name x p) (e :: es) [] pos) (mCall m ma) := by
  obtain ⟨t, pa, sa⟩ := ha.ex
  refine ⟨_, pe_callS G hr hg hm hk hb (passAt tk) pa hdb he hpl, fun Z R F δ c σ H Q w rs h => sa Z R F δ c σ H _ w rs ((Aft.bind h).imp ?_)⟩
  rintro R1 F1 ds c1 H1 p1 e1 w1 ⟨_, _, _, h1⟩ vs rv
  exact sp_of w1 rv h1
/-- f() -/
theorem pe_callS0 {CX : CXT} {sp : Sp} {E : St → XK} (G : FnOk X.prog X.w X.K X.mg X.base CX k fa fd ps sp) (hr : Room k X.A) (hg : Gl X x) (hm : X.mg x = some (.ref fa)) (hk : PySem.W.keepIn X.K (.ref fa) = true) (hb : Binds X.K fd ps [])
    (hx : ∀ σ, PassesAt CX X σ (E σ)) (hdb : (x == ("__debug__" : Str)) = false) : PE X (.Call (.Name x p) [] [] pos) (fun σ H Q => sp [] H Q (E σ)) :=
  ⟨fun pins s σ H Q I z => wpAny_Call_Name_kw (ld_glob I hg hm (PySem.W.callWith_K0 I.kIn hk (run_fnS (E := E) (us := []) G hr hb (hx σ) I .nil z)) hdb)⟩
theorem de_call0 (G : FnOk X.prog X.w X.K X.mg X.base (L2.CX X.prog X.w) k fa fd ps (spOf X.K m)) (hr : Room k X.A) (tk : Takes X W) (hm : X.mg x = some (.ref fa)) (hk : PySem.W.keepIn X.K (.ref fa) = true) (hb : Binds X.K fd ps [])
    (hg : Gl X x := by rfl) (hdb : (x == ("__debug__" : Str)) = false := by decide) : DE X W (.Call (.Name x p) [] [] pos) (mCall m mNil) :=
  ⟨_, pe_callS0 G hr hg hm hk hb (passAt tk) hdb, fun Z R F δ c σ H Q w rs h => sp_of w .nil h⟩

/-! ### methods of the text's own classes, by the instance's class -/
/-- the class named cn has the method mn, which does what m says -/
structure MethOk (X : Cx) (k : Nat) (mn cn : Str) (m : MF) : Prop where
  cl : Cls X.K (He.ga X.K cn)
  ex : ∃ f fd ps, Meth X.K (He.ga X.K cn) mn f ∧ FnOk X.prog X.w X.K X.mg X.base (L2.CX X.prog X.w) k f fd ps (spOf X.K m) ∧ Binds X.K fd ps []
inductive Disp (X : Cx) (k : Nat) (mn : Str) : List (Str × MF) → Prop where
  | nil : Disp X k mn []
  | cons {cn : Str} {m : MF} {r : List (Str × MF)} (h : MethOk X k mn cn m) (t : Disp X k mn r) : Disp X k mn ((cn, m) :: r)
theorem Disp.look : ∀ {ds : List (Str × MF)} {cn : Str} {m : MF}, Disp X k mn ds → ds.lookup cn = some m → MethOk X k mn cn m
  | _, cn, m, .nil, e => by cases e
  | _, cn, m, .cons (cn := c0) h t, e => by
    rw [List.lookup_cons] at e
    cases q : cn == c0 with
    | true =>
      rw [q] at e
      cases e
      rw [eq_of_beq q]
      exact h
    | false =>
      rw [q] at e
      exact t.look e
/-- the class and the attributes' names of an instance -/
def insOf (c : Cells) : D → Option (Str × List Str × List D)
  | .obj cn ns ds => some (cn, ns, ds)
  | .cell i => match c[i]? with
    | some (.ins cn ns ds) => some (cn, ns, ds)
    | _ => none
  | _ => none
theorem insOf_cell {c : Cells} {i : Nat} {q : Str × List Str × List D} (h : insOf c (.cell i) = some q) : c[i]? = some (.ins q.1 q.2.1 q.2.2) := by
  simp only [insOf] at h
  split at h
  · rename_i e
    cases h
    exact e
  · cases h
theorem Wd.inst {K : Frag} {Z : Hp} {R : List Addr} {F : Hp} {c : Cells} {H : Hp} {v : V} {d : D} {cn : Str} {ns : List Str} {ds : List D} (w : Wd K Z R F c H) (r : Rel K R F v d) (e : insOf c d = some (cn, ns, ds)) :
    ∃ a dx vs, v = .ref a ∧ H a = some (.ins (He.ga K cn) dx (ns.zip vs)) ∧ ns.length = vs.length ∧ RelL K R F vs ds := by
  cases r with
  | obj h z l =>
    cases e
    exact ⟨_, _, _, rfl, w.same _ _ h, z, l⟩
  | cell h =>
    have e := insOf_cell e
    obtain ⟨a, o, h1, h2, h3, h4⟩ := w.cel _ _ e
    rw [h] at h1
    cases h1
    cases h3 with
    | ins z l => exact ⟨_, _, _, rfl, h2, z, l⟩
  | _ => cases e
theorem zip_lookup_none {f : Str} : ∀ {ns : List Str} {vs : List V}, ns.contains f = false → (ns.zip vs).lookup f = none
  | [], _, _ => rfl
  | _ :: _, [], _ => rfl
  | n :: ns, v :: vs, h => by
    rw [List.contains_cons] at h
    have h := Bool.or_eq_false_iff.mp h
    show ((n, v) :: ns.zip vs).lookup f = none
    rw [List.lookup_cons, h.1]
    exact zip_lookup_none h.2
/-- o.m(e, ..): the instance's class chooses among ds -/
def methOf (mn : Str) (ds : List (Str × MF)) (c : Cells) (d : D) : Option MF := match insOf c d with
  | some q => if q.2.1.contains mn = true then none else ds.lookup q.1
  | none => none
def mMeth (mn : Str) (ds : List (Str × MF)) (mo : ME) (ma : MA) : ME := fun δ c => (mo δ c).bind fun d c1 => match methOf mn ds c1 d with
  | some m => (ma δ c1).bind fun args c2 => m (d :: args) c2
  | none => .bad
theorem methOf_some {mn : Str} {ds : List (Str × MF)} {c : Cells} {d : D} {m : MF} (h : methOf mn ds c d = some m) : ∃ cn ns fs, insOf c d = some (cn, ns, fs) ∧ ns.contains mn = false ∧ ds.lookup cn = some m := by
  unfold methOf at h
  split at h
  · rename_i q hq
    obtain ⟨cn, ns, fs⟩ := q
    by_cases hn : ns.contains mn = true
    · rw [if_pos hn] at h
      cases h
    · rw [if_neg hn] at h
      exact ⟨cn, ns, fs, hq, by simpa using hn, h⟩
  · cases h
theorem pe_methD {pl : Sem Bool} {CX : CXT} {ta : TE} {t : TA} {ι : Type} {Cf : ι → Addr} {spf : ι → Sp} {E : St → XK} (he : PE X o ta)
    (hi : ∀ i, Cls X.K (Cf i) ∧ ∃ f fd ps, Meth X.K (Cf i) mn f ∧ FnOk X.prog X.w X.K X.mg X.base CX k f fd ps (spf i) ∧ Binds X.K fd ps []) (hr : Room k X.A) (hx : ∀ σ, PassesAt CX X σ (E σ)) (ha : PA X (e :: es) t)
    (hst : starEach (e :: es) X.env = (false, eval e X.env) :: starEach es X.env) (hpl : (backTo pos (starEach es X.env)).any (·.1) = false)
    (ht : eval (.Call (.Attribute o mn apos) (e :: es) [] pos) X.env = (do
      let ov ← eval o X.env
      standAt apos.atName
      let (f, first) ← holding [ov] (getMethod ov mn pl)
      callWith pos f first (backTo pos (starEach (e :: es) X.env)) (backToKw pos (keywordEach [] X.env)))) :
    PE X (.Call (.Attribute o mn apos) (e :: es) [] pos) (fun σ H Q => ta σ H fun v H1 => ∃ i a dx fs, v = .ref a ∧ H1 a = some (.ins (Cf i) dx fs) ∧ fs.lookup mn = none ∧ t σ H1 fun vs H2 => spf i (v :: vs) H2 Q (E σ)) := by
  refine ⟨fun pins s σ H Q I z => PySem.W.methodCall_KW (pl := pl) (thn (he.run pins s σ H _ I z) ?_) ht⟩
  rintro u s1 ⟨v, H1, I1, rv, i, a, dx, fs, rfl, ea, l, q⟩
  obtain ⟨c, f, fd, ps, hm, G, hb⟩ := hi i
  obtain rfl : u = Value.ref a := rv
  refine getmeth_ok I1 ea c hm l (PySem.W.callWith_K (first := [.ref a]) (h₀ := X.base) I.ok.mod.kin hm.kp (thn (ha.run pos pins s1 σ H1 _ I1 q) ?_) hst hpl)
  rintro us s2 ⟨vs, H2, I2, r, q2⟩
  exact ⟨I2.kIn, run_fnS (E := E) (us := .ref a :: us) (vs := .ref a :: vs) G hr hb (hx σ) I2 (.cons rfl r) q2⟩
theorem pe_methD0 {pl : Sem Bool} {CX : CXT} {ta : TE} {ι : Type} {Cf : ι → Addr} {spf : ι → Sp} {E : St → XK} (he : PE X o ta)
    (hi : ∀ i, Cls X.K (Cf i) ∧ ∃ f fd ps, Meth X.K (Cf i) mn f ∧ FnOk X.prog X.w X.K X.mg X.base CX k f fd ps (spf i) ∧ Binds X.K fd ps []) (hr : Room k X.A) (hx : ∀ σ, PassesAt CX X σ (E σ))
    (ht : eval (.Call (.Attribute o mn apos) [] [] pos) X.env = (do
      let ov ← eval o X.env
      standAt apos.atName
      let (f, first) ← holding [ov] (getMethod ov mn pl)
      callWith pos f first (backTo pos (starEach [] X.env)) (backToKw pos (keywordEach [] X.env)))) :
    PE X (.Call (.Attribute o mn apos) [] [] pos) (fun σ H Q => ta σ H fun v H1 => ∃ i a dx fs, v = .ref a ∧ H1 a = some (.ins (Cf i) dx fs) ∧ fs.lookup mn = none ∧ spf i [v] H1 Q (E σ)) := by
  refine ⟨fun pins s σ H Q I z => PySem.W.methodCall_KW (pl := pl) (thn (he.run pins s σ H _ I z) ?_) ht⟩
  rintro u s1 ⟨v, H1, I1, rv, i, a, dx, fs, rfl, ea, l, q⟩
  obtain ⟨c, f, fd, ps, hm, G, hb⟩ := hi i
  obtain rfl : u = Value.ref a := rv
  refine getmeth_ok I1 ea c hm l ?_
  exact PySem.W.callWith_K0 (first := [.ref a]) I1.kIn hm.kp (run_fnS (E := E) (us := [.ref a]) (vs := [.ref a]) G hr hb (hx σ) I1 (.cons rfl .nil) q)
theorem de_meth {pl : Sem Bool} {ds : List (Str × MF)} (ho : DE X W o mo) (hd : Disp X k mn ds) (hr : Room k X.A) (tk : Takes X W) (ha : DA X W (e :: es) ma)
    (hst : starEach (e :: es) X.env = (false, eval e X.env) :: starEach es X.env := by rfl) (hpl : (backTo pos (starEach es X.env)).any (·.1) = false := by rfl)
    (ht : eval (.Call (.Attribute o mn apos) (e :: es) [] pos) X.env = (do
      let ov ← eval o X.env
      standAt apos.atName
      let (f, first) ← holding [ov] (getMethod ov mn pl)
      callWith pos f first (backTo pos (starEach (e :: es) X.env)) (backToKw pos (keywordEach [] X.env))) := by rfl) :
    DE X W (.Call (.Attribute o mn apos) (e :: es) [] pos) (mMeth mn ds mo ma) := by
  obtain ⟨ta, pa, sa⟩ := ho.ex
  obtain ⟨t, pt, st⟩ := ha.ex
  let ι := { q : Str × MF // ds.lookup q.1 = some q.2 }
  refine ⟨_, pe_methD (ι := ι) (Cf := fun i => He.ga X.K i.1.1) (spf := fun i => spOf X.K i.1.2) (E := WE W) pa (fun i => let g := hd.look i.2; ⟨g.cl, g.ex⟩) hr (passAt tk) pt hst hpl ht, fun Z R F δ c σ H Q w rs h => sa Z R F δ c σ H _ w rs ((Aft.bind h).imp ?_)⟩
  rintro R1 F1 d c1 H1 p1 e1 w1 ⟨_, _, _, h1⟩ v rv
  split at h1
  · rename_i mf hq
    obtain ⟨cn, ns, fs, hq, hn, hl⟩ := methOf_some hq
    obtain ⟨a, dx, vs, rfl, ea, z, rl⟩ := w1.inst rv hq
    refine ⟨⟨(cn, mf), hl⟩, a, dx, _, rfl, ea, zip_lookup_none hn, st Z R1 F1 δ c1 σ H1 _ w1 (rs.mono p1 e1) ((Aft.bind h1).imp ?_)⟩
    rintro R2 F2 as c2 H2 p2 e2 w2 ⟨_, _, _, h2⟩ us ru
    exact sp_of w2 (.cons (rv.mono p2 e2) ru) h2
  · exact h1.elim
def mMeth0 (mn : Str) (ds : List (Str × MF)) (mo : ME) : ME := fun δ c => (mo δ c).bind fun d c1 => match methOf mn ds c1 d with
  | some m => m [d] c1
  | none => .bad
theorem de_meth0 {pl : Sem Bool} {ds : List (Str × MF)} (ho : DE X W o mo) (hd : Disp X k mn ds) (hr : Room k X.A) (tk : Takes X W)
    (ht : eval (.Call (.Attribute o mn apos) [] [] pos) X.env = (do
      let ov ← eval o X.env
      standAt apos.atName
      let (f, first) ← holding [ov] (getMethod ov mn pl)
      callWith pos f first (backTo pos (starEach [] X.env)) (backToKw pos (keywordEach [] X.env))) := by rfl) :
    DE X W (.Call (.Attribute o mn apos) [] [] pos) (mMeth0 mn ds mo) := by
  obtain ⟨ta, pa, sa⟩ := ho.ex
  let ι := { q : Str × MF // ds.lookup q.1 = some q.2 }
  refine ⟨_, pe_methD0 (ι := ι) (Cf := fun i => He.ga X.K i.1.1) (spf := fun i => spOf X.K i.1.2) (E := WE W) pa (fun i => let g := hd.look i.2; ⟨g.cl, g.ex⟩) hr (passAt tk) ht, fun Z R F δ c σ H Q w rs h => sa Z R F δ c σ H _ w rs ((Aft.bind h).imp ?_)⟩
  rintro R1 F1 d c1 H1 p1 e1 w1 ⟨_, _, _, h1⟩ v rv
  split at h1
  · rename_i mf hq
    obtain ⟨cn, ns, fs, hq, hn, hl⟩ := methOf_some hq
    obtain ⟨a, dx, vs, rfl, ea, z, rl⟩ := w1.inst rv hq
    exact ⟨⟨(cn, mf), hl⟩, a, dx, _, rfl, ea, zip_lookup_none hn, sp_of w1 (.cons rv .nil) h1⟩
  · exact h1.elim

/-! ### instances -/
theorem mkS {CX : CXT} {sp : Sp} {E : XK} {pins : List (Addr × Obj)} {σ : St} {H : Hp} {s : Shared} {Q : VK} {us : List Value} {vs : List V} (M : Mk X.K C fa) (G : FnOk X.prog X.w X.K X.mg X.base CX k fa fd ps sp) (hr : Room (k + 1) X.A) (hb : Binds X.K fd ps [])
    (hx : PassesAt CX X σ E) (I : Inv X pins σ H s) (r : Vals vs us)
    (h : ∀ y dy, H y = none → H dy = none → dy ≠ y → sp (.ref y :: vs) (upd (upd H dy (.own y)) y (.ins C dy [])) (fun v H2 => v = .non ∧ Q (.ref y) H2) E) :
    wpAny (model X.prog X.w) X.A (call (.ref C) us) (EP X pins σ Q) X.xe s := by
  have n0 := I.hok.fresh (Nat.le_refl s.heap.objs.size)
  have n1 := I.hok.fresh (Nat.le_succ s.heap.objs.size)
  have J := Inv.made (C := C) I
  have hq := h _ _ n1 n0 (Nat.ne_of_lt (Nat.lt_succ_self _))
  have rr : Vals (V.ref (s.heap.objs.size + 1) :: vs) (Value.ref (s.heap.objs.size + 1) :: us) := .cons rfl r
  have hl : (Value.ref (s.heap.objs.size + 1) :: us).length = ps.length := rr.length.symm.trans (G.len _ _ _ _ hq)
  have bb := hb _ (Value.ref (s.heap.objs.size + 1) :: us) J.kIn (by rw [List.append_nil]; exact hl)
  rw [List.append_nil] at bb
  have run := G.run _ X.stack _ _ _ _ _ _ E (hr.make C us []) (J.env0.make C us []) bb rr hq
  refine wpAny_call (make_map (f := fa) I.kIn M.makes M.init (beq_iff_eq.mp M.fn) (codeAny_mono run ?_))
  rintro (er | fl) s' q
  · exact hx pins _ _ er s' J q
  · cases fl with
    | ret u =>
      obtain ⟨v, H', I3, rv, ev, q3⟩ := J.after q
      subst ev
      exact ⟨rv, ⟨.ref (s.heap.objs.size + 1), H', I3, rfl, q3⟩⟩
    | _ => exact q.elim
theorem pe_makeS {CX : CXT} {sp : Sp} {E : St → XK} {t : TA} (M : Mk X.K C fa) (G : FnOk X.prog X.w X.K X.mg X.base CX k fa fd ps sp) (hr : Room (k + 1) X.A) (hg : Gl X x) (hm : X.mg x = some (.ref C)) (hb : Binds X.K fd ps []) (hx : ∀ σ, PassesAt CX X σ (E σ))
    (ha : PA X (e :: es) t) (hdb : (x == ("__debug__" : Str)) = false) (he : starEach (e :: es) X.env = (false, eval e X.env) :: starEach es X.env) (hpl : (backTo pos (starEach es X.env)).any (·.1) = false) :
    PE X (.Call (.Name x p) (e :: es) [] pos) (fun σ H Q => t σ H fun vs H1 => ∀ y dy, H1 y = none → H1 dy = none → dy ≠ y → sp (.ref y :: vs) (upd (upd H1 dy (.own y)) y (.ins C dy [])) (fun v H2 => v = .non ∧ Q (.ref y) H2) (E σ)) := by
  refine ⟨fun pins s σ H Q I z => wpAny_Call_Name_kw (ld_glob I hg hm (PySem.W.callWith_K (h₀ := X.base) I.ok.mod.kin M.kp (thn (ha.run pos pins s σ H _ I z) ?_) he hpl) hdb)⟩
  rintro us s1 ⟨vs, H1, I1, r, q⟩
  exact ⟨I1.kIn, mkS M G hr hb (hx σ) I1 r q⟩
theorem pe_makeS0 {CX : CXT} {sp : Sp} {E : St → XK} (M : Mk X.K C fa) (G : FnOk X.prog X.w X.K X.mg X.base CX k fa fd ps sp) (hr : Room (k + 1) X.A) (hg : Gl X x) (hm : X.mg x = some (.ref C)) (hb : Binds X.K fd ps []) (hx : ∀ σ, PassesAt CX X σ (E σ)) (hdb : (x == ("__debug__" : Str)) = false) :
    PE X (.Call (.Name x p) [] [] pos) (fun σ H Q => ∀ y dy, H y = none → H dy = none → dy ≠ y → sp [.ref y] (upd (upd H dy (.own y)) y (.ins C dy [])) (fun v H2 => v = .non ∧ Q (.ref y) H2) (E σ)) :=
  ⟨fun pins s σ H Q I z => wpAny_Call_Name_kw (ld_glob I hg hm (PySem.W.callWith_K0 I.kIn M.kp (mkS (us := []) (vs := []) M G hr hb (hx σ) I .nil z)) hdb)⟩
/-- C(e, ..): the new instance is a cell while __init__ runs, then plain data -/
def makeGo (cn : Str) (m : MF) (ds : List D) (c : Cells) : Out D := (m (.cell c.length :: ds) (c ++ [.ins cn [] []])).bind fun r c2 => match r with
  | .non => fin c c2 (.cell c.length)
  | _ => .bad
def mMake (cn : Str) (m : MF) (ma : MA) : ME := fun δ c => (ma δ c).bind fun ds c1 => makeGo cn m ds c1
theorem make_sp {Z : Hp} {R : List Addr} {F : Hp} {c : Cells} {σ : St} {H : Hp} {vs : List V} {ds : List D} {Q : VK} {cn : Str} (w : Wd X.K Z R F c H) (r : RelL X.K R F vs ds) (h : Aft X.K Z W R F σ (makeGo cn m ds c) (QV X.K Q)) :
    ∀ y dy, H y = none → H dy = none → dy ≠ y → spOf X.K m (.ref y :: vs) (upd (upd H dy (.own y)) y (.ins (He.ga X.K cn) dy [])) (fun v H2 => v = .non ∧ Q (.ref y) H2) (WE W σ) := by
  intro y dy hy hdy ne
  have w1 : Wd X.K Z R F c (upd H dy (.own y)) := w.more (Ext.upd hdy)
  have hy1 : upd H dy (.own y) y = none := by rw [upd_ne (Ne.symm ne)]; exact hy
  have w2 : Wd X.K Z (R ++ [y]) F (c ++ [.ins cn [] []]) (upd (upd H dy (.own y)) y (.ins (He.ga X.K cn) dy [])) := w1.alloc hy1 (.ins (ns := []) (vs := []) (ds := []) rfl .nil)
  have pr : R <+: R ++ [y] := List.prefix_append _ _
  have hc : Rel X.K (R ++ [y]) F (.ref y) (.cell c.length) := .cell (by
    rw [← w.len, List.getElem?_append_right (Nat.le_refl _), Nat.sub_self]
    rfl)
  refine sp_of (σ := σ) (W := W) w2 (.cons hc (r.mono pr (Same.refl _))) ?_
  unfold makeGo at h
  cases q : m (.cell c.length :: ds) (c ++ [.ins cn [] []]) with
  | bad => rw [q] at h; exact h.elim
  | exc k ns es c2 => rw [q] at h; exact fun R1 F1 H1 x p1 e1 w3 xr => h R1 F1 H1 x (pr.trans p1) e1 w3 xr
  | ok d c2 =>
    rw [q] at h
    intro R1 F1 H1 p1 e1 w3 v rv
    cases rv with
    | non => exact ⟨rfl, fin_read (W := W) (σ := σ) w1 (pr.trans p1) e1 w3 (hc.mono p1 e1) h⟩
    | _ => exact h.elim
theorem de_make (M : Mk X.K (He.ga X.K x) fa) (G : FnOk X.prog X.w X.K X.mg X.base (L2.CX X.prog X.w) k fa fd ps (spOf X.K m)) (hr : Room (k + 1) X.A) (tk : Takes X W) (hm : X.mg x = some (.ref (He.ga X.K x))) (hb : Binds X.K fd ps []) (ha : DA X W (e :: es) ma)
    (hg : Gl X x := by rfl) (hdb : (x == ("__debug__" : Str)) = false := by decide) (he : starEach (e :: es) X.env = (false, eval e X.env) :: starEach es X.env := by rfl) (hpl : (backTo pos (starEach es X.env)).any (·.1) = false := by rfl) :
    DE X W (.Call (.Name x p) (e :: es) [] pos) (mMake x m ma) := by
  obtain ⟨t, pa, sa⟩ := ha.ex
  refine ⟨_, pe_makeS M G hr hg hm hb (passAt tk) pa hdb he hpl, fun Z R F δ c σ H Q w rs h => sa Z R F δ c σ H _ w rs ((Aft.bind h).imp ?_)⟩
  rintro R1 F1 ds c1 H1 p1 e1 w1 ⟨_, _, _, h1⟩ vs rv
  exact make_sp w1 rv h1
theorem de_make0 (M : Mk X.K (He.ga X.K x) fa) (G : FnOk X.prog X.w X.K X.mg X.base (L2.CX X.prog X.w) k fa fd ps (spOf X.K m)) (hr : Room (k + 1) X.A) (tk : Takes X W) (hm : X.mg x = some (.ref (He.ga X.K x))) (hb : Binds X.K fd ps [])
    (hg : Gl X x := by rfl) (hdb : (x == ("__debug__" : Str)) = false := by decide) : DE X W (.Call (.Name x p) [] [] pos) (mMake x m mNil) :=
  ⟨_, pe_makeS0 M G hr hg hm hb (passAt tk) hdb, fun Z R F δ c σ H Q w rs h => make_sp w .nil h⟩

/-! ### attributes -/
/-- instances of the classes cs have the attribute f in their own dict -/
def FldOk (K : Frag) (f : Str) (cs : List Str) : Prop := ∀ cn ∈ cs, Cls K (He.ga K cn) ∧ NoAttr K (He.ga K cn) f
def lookF (f : Str) : List Str → List D → Option D
  | n :: ns, d :: ds => if f = n then some d else lookF f ns ds
  | _, _ => none
theorem lookF_rel {K : Frag} {R : List Addr} {F : Hp} {f : Str} : ∀ {ns : List Str} {vs : List V} {ds : List D} {d : D}, RelL K R F vs ds → lookF f ns ds = some d → ∃ v, (ns.zip vs).lookup f = some v ∧ Rel K R F v d
  | [], _, _, _, _, h => by unfold lookF at h; cases h
  | _ :: _, _, _, _, .nil, h => by unfold lookF at h; cases h
  | n :: ns, v :: vs, e :: ds, d, .cons r t, h => by
    unfold lookF at h
    show ∃ u, ((n, v) :: ns.zip vs).lookup f = some u ∧ _
    rw [List.lookup_cons]
    by_cases hf : f = n
    · rw [if_pos hf] at h
      cases h
      rw [beq_iff_eq.mpr hf]
      exact ⟨v, rfl, r⟩
    · rw [if_neg hf] at h
      rw [beq_eq_false_iff_ne.mpr hf]
      exact lookF_rel t h
def fldGo (f : Str) (cs : List Str) (d : D) (c : Cells) : Out D := match insOf c d with
  | some q => if cs.contains q.1 = true then (match lookF f q.2.1 q.2.2 with
    | some v => .ok v c
    | none => .bad) else .bad
  | none => .bad
def mFld (f : Str) (cs : List Str) (mo : ME) : ME := fun δ c => (mo δ c).bind fun d c1 => fldGo f cs d c1
theorem de_fld {f : Str} {cs : List Str} (hf : FldOk X.K f cs) (ho : DE X W o mo) (hb : attributeBase o f X.env (eval o X.env) = eval o X.env := by rfl) : DE X W (.Attribute o f pos) (mFld f cs mo) := by
  obtain ⟨t, po, so⟩ := ho.ex
  refine ⟨_, pe_fld po hb, fun Z R F δ c σ H Q w rs h => so Z R F δ c σ H _ w rs ((Aft.bind h).imp ?_)⟩
  rintro R1 F1 d c1 H1 p1 e1 w1 ⟨_, _, _, h1⟩ v rv
  unfold fldGo at h1
  split at h1
  · rename_i q hq
    obtain ⟨cn, ns, fs⟩ := q
    by_cases hc : cs.contains cn = true
    · rw [if_pos hc] at h1
      split at h1
      · rename_i u hu
        obtain ⟨a, dx, vs, rfl, ea, z, rl⟩ := w1.inst rv hq
        obtain ⟨y, hy, ry⟩ := lookF_rel rl hu
        obtain ⟨hC, hN⟩ := hf cn (by simpa using hc)
        exact ⟨a, _, dx, _, y, rfl, ea, hC, hN, hy, h1.ok w1 y ry⟩
      · exact h1.elim
    · rw [if_neg hc] at h1
      exact h1.elim
  · exact h1.elim
/-- o.f = e, o a cell -/
def putN (f : Str) : List Str → List Str
  | [] => [f]
  | n :: ns => if n = f then n :: ns else n :: putN f ns
def putL {α : Type} (f : Str) (y : α) : List Str → List α → List α
  | [], _ => [y]
  | n :: ns, v :: vs => if n = f then y :: vs else v :: putL f y ns vs
  | _ :: _, [] => []
theorem put_zip {f : Str} {y : V} : ∀ {ns : List Str} {vs : List V}, ns.length = vs.length → putF f y (ns.zip vs) = (putN f ns).zip (putL f y ns vs) ∧ (putN f ns).length = (putL f y ns vs).length
  | [], [], _ => ⟨rfl, rfl⟩
  | n :: ns, v :: vs, h => by
    obtain ⟨i1, i2⟩ := put_zip (f := f) (y := y) (ns := ns) (vs := vs) (by simpa using h)
    show putF f y ((n, v) :: ns.zip vs) = _ ∧ _
    unfold putF putN putL
    by_cases hn : n = f
    · rw [if_pos hn, if_pos hn, if_pos hn]
      exact ⟨rfl, by simpa using h⟩
    · rw [if_neg hn, if_neg hn, if_neg hn, i1]
      exact ⟨rfl, by rw [List.length_cons, List.length_cons, i2]⟩
theorem putL_rel {K : Frag} {R : List Addr} {F : Hp} {f : Str} {y : V} {d : D} (r : Rel K R F y d) : ∀ {ns : List Str} {vs : List V} {ds : List D}, RelL K R F vs ds → RelL K R F (putL f y ns vs) (putL f d ns ds)
  | [], _, _, _ => .cons r .nil
  | n :: ns, _, _, .nil => .nil
  | n :: ns, _, _, .cons h t => by
    unfold putL
    by_cases hn : n = f
    · rw [if_pos hn, if_pos hn]
      exact .cons r t
    · rw [if_neg hn, if_neg hn]
      exact .cons h (putL_rel r t)
def setFGo (f : Str) (cs : List Str) (y d : D) (c : Cells) : Option Cells := match d with
  | .cell i => (match c[i]? with
    | some (.ins cn ns ds) => if cs.contains cn = true ∧ ns.length < 1000 then some (c.set i (.ins cn (putN f ns) (putL f y ns ds))) else none
    | _ => none)
  | _ => none
def mSetF (f : Str) (cs : List Str) (mo mv : ME) : MS := fun δ c => (mv δ c).fl δ fun y c1 => (mo δ c1).fl δ fun d c2 => match setFGo f cs y d c2 with
  | some c3 => .nx δ c3
  | none => .bad
theorem ds_setF {f : Str} {cs : List Str} {value : Expr} {mv : ME} {pos' : Pos} (hf : FldOk X.K f cs) (ho : DE X W o mo) (hv : DE X W value mv) (hs : swapsWith value (some (.Attribute o f pos')) pos.line X.env = pure false := by rfl) :
    DS X W (.Assign [.Attribute o f pos'] value pos) (mSetF f cs mo mv) := by
  obtain ⟨t, po, so⟩ := ho.ex
  obtain ⟨u, pv, sv⟩ := hv.ex
  refine ⟨_, ps_fld po pv hs, fun Z R F δ c σ H E w rs h => sv Z R F δ c σ H _ w rs ((AftS.fl rs h).imp ?_)⟩
  rintro R1 F1 y c1 H1 p1 e1 w1 ⟨_, _, _, h1⟩ v rv
  have rs1 := rs.mono p1 e1
  refine so Z R1 F1 δ c1 σ H1 _ w1 rs1 ((AftS.fl rs1 h1).imp ?_)
  rintro R2 F2 d c2 H2 p2 e2 w2 ⟨_, _, _, h2⟩ z rz
  split at h2
  · rename_i c3 hc3
    unfold setFGo at hc3
    split at hc3
    · rename_i i
      split at hc3
      · rename_i cn ns ds hi
        split at hc3
        · rename_i hcs
          cases hc3
          cases rz with
          | cell hR =>
            rename_i a
            obtain ⟨a', o', q1, q2, q3, q4⟩ := w2.cel i _ hi
            rw [hR] at q1
            cases q1
            cases q3 with
            | @ins dx _ _ vs _ hz rl =>
              obtain ⟨hC, hN⟩ := hf cn (by simpa using hcs.1)
              obtain ⟨z1, z2⟩ := put_zip (f := f) (y := v) hz
              refine ⟨a, _, dx, _, rfl, q2, hC, hN, by rw [List.length_zip, ← hz, Nat.min_self]; exact hcs.2, ?_⟩
              rw [z1]
              exact h2 R2 F2 _ σ (List.prefix_refl _) (Same.refl _) (w2.write hR (.ins z2 (putL_rel (rv.mono p2 e2) rl))) (rs1.mono p2 e2)
        · cases hc3
      · cases hc3
    · cases hc3
  · exact h2.elim
end
end Nw

set_option Elab.async false
set_option linter.all false
set_option maxRecDepth 100000
set_option maxHeartbeats 4000000
/-! Nw6: exceptions. -/
namespace Nw
open PySem PySem.Spec
open PyProof.Rows hiding St
open L2

/-! ### raise C() -/
section
variable {X : Cx} {W : WX} {x : Str} {p pos : Pos}
theorem pmk_own0 {C : Addr} {bmB : List Value} {B newId initId : String} (F : ExcBaseFacts B newId initId bmB) (q : PySem.W.excIn X.K C bmB newId = true) (gC : X.mg x = some (.ref C)) (kC : PySem.W.keepIn X.K (.ref C) = true) (r : Raises X (.ref C)) (hg : Gl X x)
    (hdb : (x == ("__debug__" : Str)) = false) : PMk X (.Call (.Name x p) [] [] pos) (fun _ H Q => Q (.ref C) none H) := by
  intro pins s σ H Q I h
  refine wpAny_Call_Name_kw (ld_glob I hg gC (PySem.W.callWith_K0 I.kIn kC ?_) hdb)
  obtain ⟨bm, N, nm, qn, bs, hdct, sn, sub, ab, col, dd, k0, k1, k2, k3, k5, mN, hC, hN, hni, T⟩ := exc_obj I.kIn q
  exact wpAny_call_exc_subT F T hC hN hni (fun h' e hm => mk_of I hm r h (I.hok.gone hm.new)) (by simp)
/-- a class of errors without an __init__ of its own -/
structure Exc0 (K : Frag) (mg : Str → Option Value) (x : Str) : Prop where
  g : mg x = some (.ref (He.ga K x))
  ex : PySem.W.excIn K (He.ga K x) He.veBase "ValueError.__new__" = true
  kp : PySem.W.keepIn K (.ref (He.ga K x)) = true
  sub : PySem.W.subIn K (.ref (He.ga K x)) (.type "BaseException") = some true
  ty : PySem.W.typeIn K (.ref (He.ga K x)) = some (.type "type")
theorem ds_raise0 {pos' : Pos} (T : Exc0 X.K X.mg x) (hc : X.calm = true) (tk : Takes X W) (hg : Gl X x := by rfl) (hdb : (x == ("__debug__" : Str)) = false := by decide) : DS X W (.Raise (some (.Call (.Name x p) [] [] pos)) none pos') (fun δ c => .exc x [] [] δ c) :=
  ⟨_, ps_raise hc tk (pmk_own0 PySem.F.excBase_ValueError T.ex T.g T.kp (raises_own T.sub T.ty) hg hdb), fun Z R F δ c σ H E w rs h => h R F H σ none (List.prefix_refl _) (Same.refl _) w rs .none⟩
end

/-! ### an error class whose __init__ keeps its arguments -/
def spX (C : Addr) (ns : List Str) : Sp := fun vs H Q _ => ∃ a ws, vs = .ref a :: ws ∧ ws.length = ns.length ∧ H a = some (exo a C none) ∧
  ∀ d H', H d = none → d ≠ a → H' a = some (exo a C (some d)) → H' d = some (exd d (ns.zip ws).reverse) → (∀ b, b ≠ a → b ≠ d → H' b = H b) → Q .non H'
section
variable {P : Program} {w : World} {K : PySem.W.Frag} {mg : Str → Option Value} {base : Heap} {qual : Str} {params : Arguments} {scope : Scope} {f C : Addr} {fd : FuncData} {CX : CXT} {y z : Str} {p1 p2 p3 p4 q1 q2 q3 q4 : Pos}
theorem vis_of {N ps : List Str} {sc : Scope} (S : FnScope N ps sc) {u : Str} (h : u ∈ ps) : Vis sc u := by
  rcases S.par u h with e | e
  · exact .inl e
  · exact .inr (.inl e)
theorem exc_init1 (Fn : FunD K "__init__" qual params [.Assign [.Attribute (.Name "self" p1) y p2] (.Name y p3) p4] scope [] [] f fd) (S : FnScope ["self", y] ["self", y] scope) (T : OexC K C) (hno : PySem.W.findIn K (.ref C) y = some none)
    (hd : (y == ("__debug__" : Str)) = false := by decide) (hc : (y == ("__classdict__" : Str)) = false := by decide) : FnOk P w K mg base CX 1 f fd ["self", y] (spX C [y]) := by
  refine Fn.ok S ?_ ?_
  · rintro vs H Q E ⟨a, ws, rfl, hl, _⟩
    rw [List.length_cons, hl]; rfl
  · rintro cdv A outer s H vs Q E hr ⟨a, ws, rfl, hl, ha, k⟩
    match ws, hl with
    | [v], _ =>
      refine ⟨_, pss_one (ps_ost (pe_var (i := 0) rfl (vis_of S (by simp)) (by decide) (by decide)) (pe_var (i := 1) rfl (vis_of S (by simp)) hd hc)), ?_⟩
      refine ⟨_, rfl, _, rfl, a, C, rfl, T, hno, .inl ⟨ha, fun d hd' ne => ?_⟩⟩
      refine k d _ hd' ne upd_same (by rw [upd_ne ne, upd_same]; rfl) fun b h1 h2 => ?_
      rw [upd_ne h1, upd_ne h2]
theorem exc_init2 (Fn : FunD K "__init__" qual params [.Assign [.Attribute (.Name "self" p1) y p2] (.Name y p3) p4, .Assign [.Attribute (.Name "self" q1) z q2] (.Name z q3) q4] scope [] [] f fd) (S : FnScope ["self", y, z] ["self", y, z] scope) (T : OexC K C)
    (hno : PySem.W.findIn K (.ref C) y = some none) (hnz : PySem.W.findIn K (.ref C) z = some none) (hd : (y == ("__debug__" : Str)) = false := by decide) (hc : (y == ("__classdict__" : Str)) = false := by decide)
    (hd2 : (z == ("__debug__" : Str)) = false := by decide) (hc2 : (z == ("__classdict__" : Str)) = false := by decide) : FnOk P w K mg base CX 1 f fd ["self", y, z] (spX C [y, z]) := by
  refine Fn.ok S ?_ ?_
  · rintro vs H Q E ⟨a, ws, rfl, hl, _⟩
    rw [List.length_cons, hl]; rfl
  · rintro cdv A outer s H vs Q E hr ⟨a, ws, rfl, hl, ha, k⟩
    match ws, hl with
    | [v, u], _ =>
      refine ⟨_, pss_cons (ps_ost (pe_var (i := 0) rfl (vis_of S (by simp)) (by decide) (by decide)) (pe_var (i := 1) rfl (vis_of S (by simp)) hd hc))
        (pss_one (ps_ost (pe_var (i := 0) rfl (vis_of S (by simp)) (by decide) (by decide)) (pe_var (i := 2) rfl (vis_of S (by simp)) hd2 hc2))), ?_⟩
      refine ⟨_, rfl, _, rfl, a, C, rfl, T, hno, .inl ⟨ha, fun d hd' ne => ?_⟩⟩
      refine ⟨_, rfl, _, rfl, a, C, rfl, T, hnz, .inr ⟨d, [(y, v)], upd_same, by rw [upd_ne ne, upd_same], by show 1 ≤ 900; decide, ?_⟩⟩
      refine k d _ hd' ne (by rw [upd_ne (Ne.symm ne), upd_same]) (by rw [upd_same]; rfl) fun b h1 h2 => ?_
      rw [upd_ne h2, upd_ne h1, upd_ne h2]
end
/-- the class of errors named x, its fields ns in the order of its parameters -/
structure ExcN (X : Cx) (k : Nat) (x : Str) (ns : List Str) : Prop where
  g : X.mg x = some (.ref (He.ga X.K x))
  T : OexC X.K (He.ga X.K x)
  ini : ∃ f fd ps, PySem.W.findIn X.K (.ref (He.ga X.K x)) "__init__" = some (some (.ref f)) ∧ PySem.W.typeIn X.K (.ref f) = some (.type "function") ∧ FnOk X.prog X.w X.K X.mg X.base (L2.CX X.prog X.w) k f fd ps (spX (He.ga X.K x) ns) ∧ Binds X.K fd ps []
theorem zip_reverse {α β : Type} : ∀ {l : List α} {m : List β}, l.length = m.length → (l.zip m).reverse = l.reverse.zip m.reverse
  | [], [], _ => rfl
  | a :: l, b :: m, h => by
    have h : l.length = m.length := by simpa using h
    show ((a, b) :: l.zip m).reverse = (a :: l).reverse.zip (b :: m).reverse
    rw [List.reverse_cons, List.reverse_cons, List.reverse_cons, List.zip_append (by rw [List.length_reverse, List.length_reverse]; exact h), zip_reverse h]
    rfl
theorem RelL.reverse {K : Frag} {R : List Addr} {F : Hp} : ∀ {vs : List V} {ds : List D}, RelL K R F vs ds → RelL K R F vs.reverse ds.reverse
  | _, _, .nil => .nil
  | _, _, .cons h t => by
    rw [List.reverse_cons, List.reverse_cons]
    exact t.reverse.append (.cons h .nil)
section
variable {X : Cx} {W : WX} {x : Str} {k : Nat} {p pos pos' : Pos} {e : Expr} {es : List Expr} {ma : MA} {ns : List Str}
def mRaise (x : Str) (ns : List Str) (ma : MA) : MS := fun δ c => (ma δ c).fl δ fun ds c1 => if ds.length = ns.length ∧ ds.length ≤ 1000 then .exc x ns.reverse ds.reverse δ c1 else .bad
theorem ds_raise (T : ExcN X k x ns) (hr : Room (k + 1) X.A) (hc : X.calm = true) (tk : Takes X W) (ha : DA X W (e :: es) ma) (hg : Gl X x := by rfl) (hdb : (x == ("__debug__" : Str)) = false := by decide)
    (he : starEach (e :: es) X.env = (false, eval e X.env) :: starEach es X.env := by rfl) (hpl : (backTo pos (starEach es X.env)).any (·.1) = false := by rfl) :
    DS X W (.Raise (some (.Call (.Name x p) (e :: es) [] pos)) none pos') (mRaise x ns ma) := by
  obtain ⟨t, pa, sa⟩ := ha.ex
  obtain ⟨f, fd, ps, h1, h2, G, hb⟩ := T.ini
  refine ⟨_, ps_raise hc tk (pmk_oex T.T h1 h2 G hr hb .nil passL hg T.g pa hdb he hpl), fun Z R F δ c σ H E w rs h => sa Z R F δ c σ H _ w rs ((AftS.fl rs h).imp ?_)⟩
  rintro R1 F1 ds c1 H1 p1 e1 w1 ⟨_, _, _, h1⟩ vs rv
  split at h1
  · rename_i hl
    refine ⟨by rw [rv.length]; exact hl.2, fun a na => ⟨a, vs, by rw [List.append_nil], by rw [rv.length]; exact hl.1, upd_same, fun d H' nd ne h3 h4 h5 => ?_⟩⟩
    have nd1 : H1 d = none := by rw [upd_ne ne] at nd; exact nd
    refine ⟨rfl, d, _, h3, h4, nd1, ?_⟩
    have eH : upd (del H' a) d (.xd (ns.zip vs).reverse) = upd H1 d (.xd (ns.zip vs).reverse) := by
      funext b
      by_cases hb : b = d
      · subst hb; rw [upd_same, upd_same]
      · rw [upd_ne hb, upd_ne hb]
        by_cases hba : b = a
        · subst hba; rw [del_same, na]
        · rw [del_ne hba, h5 b hba hb, upd_ne hba]
    rw [eH]
    obtain ⟨w2, s2⟩ := w1.frozen nd1 (.xd (ns.zip vs).reverse)
    have hlv : ns.length = vs.length := by rw [rv.length]; exact hl.1.symm
    refine h1 _ _ _ σ (some d) (List.prefix_refl _) s2 w2 ((rs.mono p1 e1).mono (List.prefix_refl _) s2) (.some (vs := vs.reverse) ?_ (by rw [List.length_reverse, List.length_reverse]; exact hlv) ((rv.mono (List.prefix_refl _) s2).reverse))
    rw [upd_same, zip_reverse hlv]
  · exact h1.elim
end

/-! ### try -/
def noExc : Fl → Fl
  | .exc _ _ _ _ _ => .bad
  | o => o
theorem noExc_aft {K : Frag} {Z : Hp} {W : WX} {R : List Addr} {F : Hp} {o : Fl} {E : Ends} (h : AftS K Z W R F (noExc o) E) : AftS K Z W0 R F o E := by
  cases o with
  | exc => exact h.elim
  | nx => exact h
  | rt => exact h
  | bk => exact h
  | ct => exact h
  | bad => exact h
/-- the clauses: which classes each takes (told class by class), what its suite does -/
def tryGo : List (List (Str × Bool) × MS) → Str → List Str → List D → MS
  | [], k, ns, ds, δ, c => .exc k ns ds δ c
  | (t, ms) :: r, k, ns, ds, δ, c => match t.lookup k with
    | some true => noExc (ms δ c)
    | some false => tryGo r k ns ds δ c
    | none => .bad
def mTry (mb : MS) (hs : List (List (Str × Bool) × MS)) : MS := fun δ c => match mb δ c with
  | .exc k ns ds δ1 c1 => tryGo hs k ns ds δ1 c1
  | o => o
/-- the class named x in a clause takes, or does not take, the classes of t -/
def ExmOk (K : Frag) (x : Str) (t : List (Str × Bool)) : Prop := ∀ k b, t.lookup k = some b → PySem.W.exmOne K (.ref (He.ga K k)) (.ref (He.ga K x)) = some b
section
variable {X : Cx} {W : WX} {body : List Stmt} {mb : MS} {pos : Pos}
theorem tr_body (h : ∀ (W' : WX) (pn : List (Addr × Obj)) (xe : Value → Shared → Prop), Takes (X.tr pn xe) W' → PassesOwn (model X.prog X.w) X.A X.env xe → DSs (X.tr pn xe) W' body mb) :
    ∃ tb : WX → TS, (∀ (W' : WX) (pn : List (Addr × Obj)) (xe : Value → Shared → Prop), Takes (X.tr pn xe) W' → PassesOwn (model X.prog X.w) X.A X.env xe → PSs (X.tr pn xe) body (tb W')) ∧
      ∀ W' Z R F δ c σ H E, Wd X.K Z R F c H → RelS X.K R F δ σ → AftS X.K Z W' R F (mb δ c) E → tb W' E σ H := by
  refine ⟨fun W' E σ H => ∀ pn xe (h1 : Takes (X.tr pn xe) W') (h2 : PassesOwn (model X.prog X.w) X.A X.env xe), Classical.choose (h W' pn xe h1 h2).ex E σ H,
    fun W' pn xe h1 h2 => ⟨fun pins s σ H E I z => (Classical.choose_spec (h W' pn xe h1 h2).ex).1.run pins s σ H E I (z pn xe h1 h2)⟩, ?_⟩
  intro W' Z R F δ c σ H E w rs a pn xe h1 h2
  exact (Classical.choose_spec (h W' pn xe h1 h2).ex).2 Z R F δ c σ H E w rs a
inductive HdsD (X : Cx) : List ExceptHandler → List (List (Str × Bool) × MS) → Prop
  | nil : HdsD X [] []
  | cons {x : Str} {t : List (Str × Bool)} {ms : MS} {b₀ : Stmt} {suite : List Stmt} {np pos' : Pos} {hds : List ExceptHandler} {l : List (List (Str × Bool) × MS)} (hg : Gl X x) (hdb : (x == ("__debug__" : Str)) = false) (hm : X.mg x = some (.ref (He.ga X.K x))) (ht : ExmOk X.K x t)
      (hsu : ∀ (a : Addr) (oe : Obj) (pn : List (Addr × Obj)), DSs (X.suite a ((a, oe) :: pn)) W0 (b₀ :: suite) ms) (r : HdsD X hds l) :
      HdsD X (.ExceptHandler (some (.Name x np)) none (b₀ :: suite) pos' :: hds) ((t, ms) :: l)
theorem hds_read {hds : List ExceptHandler} {l : List (List (Str × Bool) × MS)} (h : HdsD X hds l) : ∃ l', HdsOk X hds l' ∧ ∀ (Z : Hp) (R : List Addr) (F : Hp) (δ : En) (c : Cells) (σ : St) (H : Hp) (E : Ends) (k : Str) (ns : List Str) (ds : List D) (x : Option Addr), Wd X.K Z R F c H → RelS X.K R F δ σ → XR X.K R F ns ds x →
    AftS X.K Z W R F (tryGo l k ns ds δ c) E → wMany X.K W E l' (.ref (He.ga X.K k)) x σ H := by
  induction h with
  | nil => exact ⟨[], .nil, fun Z R F δ c σ H E k ns ds x w rs xr h => h R F H σ x (List.prefix_refl _) (Same.refl _) w rs xr⟩
  | @cons x t ms b₀ suite np pos' hds l hg hdb hm ht hsu r ih =>
    obtain ⟨l', ok, ih⟩ := ih
    have su : ∃ ts : TS, (∀ (a : Addr) (oe : Obj) (pn : List (Addr × Obj)), PSs (X.suite a ((a, oe) :: pn)) (b₀ :: suite) ts) ∧ ∀ Z R F δ c σ H E, Wd X.K Z R F c H → RelS X.K R F δ σ → AftS X.K Z W0 R F (ms δ c) E → ts E σ H := by
      refine ⟨fun E σ H => ∀ a oe pn, Classical.choose (hsu a oe pn).ex E σ H, fun a oe pn => ⟨fun pins s σ H E I z => (Classical.choose_spec (hsu a oe pn).ex).1.run pins s σ H E I (z a oe pn)⟩, ?_⟩
      intro Z R F δ c σ H E w rs q a oe pn
      exact (Classical.choose_spec (hsu a oe pn).ex).2 Z R F δ c σ H E w rs q
    obtain ⟨ts, pts, sts⟩ := su
    refine ⟨(.ref (He.ga X.K x), fun _ _ _ => ts) :: l', .cons ⟨hg, hdb, .inl hm⟩ (fun a oe cls d pn _ _ => pts a oe pn) ok, ?_⟩
    intro Z R F δ c σ H E k ns ds y w rs xr h
    unfold tryGo at h
    cases e : t.lookup k with
    | none => rw [e] at h; exact h.elim
    | some b =>
      rw [e] at h
      refine ⟨b, ht k b e, fun hb a na => ?_, fun hb => ?_⟩
      · subst hb
        exact sts Z R F δ c σ H E w rs (noExc_aft h)
      · subst hb
        exact ih Z R F δ c σ H E k ns ds y w rs xr h
/-- try .. except C: .. (clauses without 'as') -/
theorem ds_try {h₀ : ExceptHandler} {hds : List ExceptHandler} {l : List (List (Str × Bool) × MS)} (hs : X.stack = X.env :: X.outer) (hf : X.env.frame = some X.env.locals) (tk : Takes X W)
    (hb : ∀ (W' : WX) (pn : List (Addr × Obj)) (xe : Value → Shared → Prop), Takes (X.tr pn xe) W' → PassesOwn (model X.prog X.w) X.A X.env xe → DSs (X.tr pn xe) W' body mb) (hh : HdsD X (h₀ :: hds) l) :
    DS X W (.Try body (h₀ :: hds) [] [] pos) (mTry mb l) := by
  obtain ⟨tb, ptb, stb⟩ := tr_body hb
  obtain ⟨l', ok, sl⟩ := hds_read (W := W) hh
  refine ⟨_, ps_try_many hs hf tk ptb ok, fun Z R F δ c σ H E w rs h => stb _ Z R F δ c σ H E w rs ?_⟩
  unfold mTry at h
  cases e : mb δ c with
  | exc k ns ds δ1 c1 =>
    rw [e] at h
    intro R' F' H' σ' x p1 e1 w1 rs1 xr
    exact sl Z R' F' δ1 c1 σ' H' E k ns ds x w1 rs1 xr (AftS.mono p1 e1 h)
  | nx => rw [e] at h; exact h
  | rt => rw [e] at h; exact h
  | bk => rw [e] at h; exact h
  | ct => rw [e] at h; exact h
  | bad => rw [e] at h; exact h
end
end Nw

set_option Elab.async false
set_option linter.all false
set_option maxRecDepth 100000
set_option maxHeartbeats 4000000
/-! Nw7: operators, built-in calls, subscripts. -/
namespace Nw
open PySem PySem.Spec
open PyProof.Rows hiding St
open L2

section
variable {K : Frag} {Z : Hp} {R : List Addr} {F : Hp} {c : Cells} {H : Hp} {v : V} {d : D}
/-- the items of a list -/
def lstOf (c : Cells) : D → Option (List D)
  | .lst ds => some ds
  | .scr ds => some ds
  | .cell i => match c[i]? with
    | some (.lst ds) => some ds
    | _ => none
  | _ => none
theorem lstOf_cell {i : Nat} {ds : List D} (h : lstOf c (.cell i) = some ds) : c[i]? = some (.lst ds) := by
  simp only [lstOf] at h
  split at h
  · rename_i q
    cases h
    exact q
  · cases h
theorem Wd.list {ds : List D} (w : Wd K Z R F c H) (r : Rel K R F v d) (e : lstOf c d = some ds) : ∃ a vs, v = .ref a ∧ SqL K H a vs ∧ RelL K R F vs ds := by
  cases r with
  | lst h l => cases e; exact ⟨_, _, rfl, SqL.of (w.same _ _ h), l⟩
  | scr h l => cases e; exact ⟨_, _, rfl, h.ext w.same, l⟩
  | cell h =>
    obtain ⟨vs, q, l⟩ := w.atList h (lstOf_cell e)
    exact ⟨_, vs, rfl, SqL.of q, l⟩
  | _ => cases e
theorem Wd.seq {ds : List D} (w : Wd K Z R F c H) (r : Rel K R F v d) (e : items c d = some ds) : ∃ a vs, v = .ref a ∧ RelL K R F vs ds ∧ (SqL K H a vs ∨ SqT K H a vs) := seqAt_list w r e
end

/-! ### operators that give ints, bools, texts -/
section
variable {X : Cx}
theorem opI_s {g : Value → Value → Sem Value} {C : Int → Int → Prop} [∀ i j, Decidable (C i j)] {f : Int → Int → V} {h : Int → Int → D} (ho : OpR X g (rI C f)) (hr : ∀ i j K R F, Rel K R F (f i j) (h i j)) :
    OpS X g (fun d e c => match d, e with
      | .int i, .int j => if C i j then .ok (h i j) c else .bad
      | _, _ => .bad) := by
  refine ⟨_, ho, fun Z W R F c σ H x y d e Q w rx ry q => ?_⟩
  cases rx with
  | int i =>
    cases ry with
    | int j =>
      by_cases hc : C i j
      · have q : Aft X.K Z W R F σ (if C i j then .ok (h i j) c else .bad) (QV X.K Q) := q
        rw [if_pos hc] at q
        exact ⟨i, j, rfl, rfl, hc, q.ok w _ (hr i j _ _ _)⟩
      · have q : Aft X.K Z W R F σ (if C i j then .ok (h i j) c else .bad) (QV X.K Q) := q
        rw [if_neg hc] at q
        exact q.elim
    | _ => exact q.elim
  | _ => exact q.elim
theorem opI0_s {g : Value → Value → Sem Value} {f : Int → Int → V} {h : Int → Int → D} (ho : OpR X g (rI0 f)) (hr : ∀ i j K R F, Rel K R F (f i j) (h i j)) :
    OpS X g (fun d e c => match d, e with
      | .int i, .int j => .ok (h i j) c
      | _, _ => .bad) := by
  refine ⟨_, ho, fun Z W R F c σ H x y d e Q w rx ry q => ?_⟩
  cases rx with
  | int i =>
    cases ry with
    | int j =>
      have q : Aft X.K Z W R F σ (.ok (h i j) c) (QV X.K Q) := q
      exact ⟨i, j, rfl, rfl, q.ok w _ (hr i j _ _ _)⟩
    | _ => exact q.elim
  | _ => exact q.elim
def subD : O2 := fun d e c => match d, e with
  | .int i, .int j => .ok (.int (i - j)) c
  | _, _ => .bad
theorem os_sub : OpS X (binaryOp .Sub) subD := opI0_s (h := fun i j => .int (i - j)) op_sub fun _ _ _ _ _ => .int _
instance : ∀ i j, Decidable (CDiv i j) := fun i j => by unfold CDiv; infer_instance
instance : ∀ i j, Decidable (CPow i j) := fun i j => by unfold CPow; infer_instance
instance : ∀ i j, Decidable (CMul i j) := fun i j => by unfold CMul; infer_instance
def fdivD : O2 := fun d e c => match d, e with
  | .int i, .int j => if CDiv i j then .ok (.int (i / j)) c else .bad
  | _, _ => .bad
theorem os_fdiv : OpS X (binaryOp .FloorDiv) fdivD := opI_s (h := fun i j => .int (i / j)) op_fdiv fun _ _ _ _ _ => .int _
def modD : O2 := fun d e c => match d, e with
  | .int i, .int j => if 0 < j then .ok (.int (i % j)) c else .bad
  | _, _ => .bad
theorem os_mod : OpS X (binaryOp .Mod) modD := opI_s (C := fun _ j => 0 < j) (h := fun i j => .int (i % j)) op_mod fun _ _ _ _ _ => .int _
def powD : O2 := fun d e c => match d, e with
  | .int i, .int j => if CPow i j then .ok (.int (i ^ j.toNat)) c else .bad
  | _, _ => .bad
theorem os_pow : OpS X (binaryOp .Pow) powD := opI_s (h := fun i j => .int (i ^ j.toNat)) op_pow fun _ _ _ _ _ => .int _
def ltD : O2 := fun d e c => match d, e with
  | .int i, .int j => .ok (.bl (decide (i < j))) c
  | _, _ => .bad
theorem os_lt : OpS X (compareOp .Lt) ltD := opI0_s (h := fun i j => .bl (decide (i < j))) op_lt fun _ _ _ _ _ => .bl _
def leD : O2 := fun d e c => match d, e with
  | .int i, .int j => .ok (.bl (decide (i ≤ j))) c
  | _, _ => .bad
theorem os_le : OpS X (compareOp .LtE) leD := opI0_s (h := fun i j => .bl (decide (i ≤ j))) op_le fun _ _ _ _ _ => .bl _
def gtD : O2 := fun d e c => match d, e with
  | .int i, .int j => .ok (.bl (decide (j < i))) c
  | _, _ => .bad
theorem os_gt : OpS X (compareOp .Gt) gtD := opI0_s (h := fun i j => .bl (decide (j < i))) op_gt fun _ _ _ _ _ => .bl _
def geD : O2 := fun d e c => match d, e with
  | .int i, .int j => .ok (.bl (decide (j ≤ i))) c
  | _, _ => .bad
theorem os_ge : OpS X (compareOp .GtE) geD := opI0_s (h := fun i j => .bl (decide (j ≤ i))) op_ge fun _ _ _ _ _ => .bl _
/-! is None -/
def isN (d : D) : Bool := match d with
  | .non => true
  | _ => false
theorem isN_rel {K : Frag} {R : List Addr} {F : Hp} {v : V} {d : D} (r : Rel K R F v d) : decide (v = .non) = isN d := by
  cases r <;> first | rfl | (simp [isN])
def isD : O2 := fun d e c => match e with
  | .non => .ok (.bl (isN d)) c
  | _ => .bad
def isnotD : O2 := fun d e c => match e with
  | .non => .ok (.bl (!isN d)) c
  | _ => .bad
theorem os_is : OpS X (compareOp .Is) isD := by
  refine ⟨_, op_isN, fun Z W R F c σ H x y d e Q w rx ry q => ?_⟩
  cases ry with
  | non =>
    refine ⟨rfl, ?_⟩
    rw [isN_rel rx]
    have q : Aft X.K Z W R F σ (.ok (.bl (isN d)) c) (QV X.K Q) := q
    exact q.ok w _ (.bl _)
  | _ => exact q.elim
theorem os_isnot : OpS X (compareOp .IsNot) isnotD := by
  refine ⟨_, op_notN, fun Z W R F c σ H x y d e Q w rx ry q => ?_⟩
  cases ry with
  | non =>
    refine ⟨rfl, ?_⟩
    rw [isN_rel rx]
    have q : Aft X.K Z W R F σ (.ok (.bl (!isN d)) c) (QV X.K Q) := q
    exact q.ok w _ (.bl _)
  | _ => exact q.elim

/-! ### + -/
def rCatS (K : Frag) : R2 := fun x y H Q => ∃ l b xs zs, x = .ref l ∧ y = .ref b ∧ SqL K H l xs ∧ SqL K H b zs ∧ xs.length + zs.length ≤ sizeLine ∧ ∀ p, H p = none → Q (.ref p) (upd H p (.lst (xs ++ zs)))
open MeetsSeq MeetsSeq2 MeetsSeq3 SeqRoads2 in
theorem meets_cat (l : Addr) (items : Array Value) (n : Nat) (sl : Array (Option Value)) (b : Addr) (items2 : Array Value) (n2 : Nat) (sl2 : Array (Option Value)) (hc0 : items.size + items2.size ≤ sizeLine) :
    Meets (Builtin.«list.__add__» ⟨[.ref l, .ref b], []⟩) (fun _ R s => s.heap.get? l = some { cls := .type "list", dict := none, data := .seq items n, slots := sl } ∧ s.heap.get? b = some { cls := .type "list", dict := none, data := .seq items2 n2, slots := sl2 } ∧ R (.ok (.ret (.ref s.heap.objs.size))) { s with heap := s.heap.push { cls := .type "list", data := .seq (items ++ items2) } }) :=
  .of_wp fun prog w A R s h => by
    obtain ⟨hp, g, d, tk, os⟩ := s
    obtain ⟨hl, hb, h⟩ := h
    have f3 := AutoSeq1.sub_list_list
    wp_walk using AutoSeq1.wpAny_loadPart' hl, AutoSeq1.wpAny_loadPart' hb
    exact ⟨_, rfl, h⟩
theorem op_catS : OpR X (binaryOp .Add) (rCatS X.K) := by
  intro pins s σ H x y v u Q I rx ry h
  obtain ⟨l, b, xs, zs, rfl, rfl, hl, hb, hz, q⟩ := h
  cases rx
  cases ry
  obtain ⟨its, r1, ⟨⟨c1, d1, k1, s1⟩, n1, g1, j1, j2, j3⟩, _⟩ := I.list hl
  obtain ⟨its2, r2, ⟨⟨c2, d2, k2, s2⟩, n2, g2, j4, j5, j6⟩, _⟩ := I.list hb
  dsimp only at j1 j2 j3 j4 j5 j6
  subst j1 j2 j3 j4 j5 j6
  have e1 := r1.length
  have e2 := r2.length
  refine PySem.concat_meets ⟨_, g1, rfl⟩ ⟨_, g2, rfl⟩ PySem.noFill_list_add PySem.seq_list_add PySem.F.slot_list_add PySem.F.entry_list_add (PySem.F.args_list_add_2 _ _) (meets_cat l its.toArray n1 s1 b its2.toArray n2 s2 (by rw [List.size_toArray, List.size_toArray, ← e1, ← e2]; exact hz)) ⟨g1, g2, ?_⟩
  rw [show its.toArray ++ its2.toArray = (its ++ its2).toArray by simp]
  exact ⟨.ref _, _, I.lnew (t' := s.toks) (r1.append r2) (by rw [List.length_append]; exact hz), rfl, q _ I.fresh⟩
/-- what a sum of two sequences is; new: how a new list is laid -/
def addG (new : List D → Cells → Out D) : O2 := fun d e c => match d, e with
  | .int i, .int j => .ok (.int (i + j)) c
  | .str a, .str b => if a.length + b.length ≤ sizeLine then .ok (.str (a ++ b)) c else .bad
  | .tup l, .tup m => if l.length + m.length ≤ sizeLine then .ok (.tup (l ++ m)) c else .bad
  | d, e => match lstOf c d, lstOf c e with
    | some l, some m => new (l ++ m) c
    | _, _ => .bad
def addD : O2 := addG lstD
def addC : O2 := addG lstC
def NewL (X : Cx) (new : List D → Cells → Out D) : Prop := ∀ (Z : Hp) (W : WX) (R : List Addr) (F : Hp) (σ : St) (c : Cells) (H : Hp) (ds : List D) (vs : List V) (Q : VK), Wd X.K Z R F c H → RelL X.K R F vs ds → Aft X.K Z W R F σ (new ds c) (QV X.K Q) → vs.length ≤ sizeLine ∧ ∀ p, H p = none → Q (.ref p) (upd H p (.lst vs))
theorem newL : NewL X lstD := fun Z W R F σ c H ds vs Q w r h => new_lst w r h
theorem newC : NewL X lstC := fun Z W R F σ c H ds vs Q w r h => new_lstC w r h
theorem RelL.nil_iff {K : Frag} {R : List Addr} {F : Hp} {vs : List V} {ds : List D} (r : RelL K R F vs ds) : vs = [] ↔ ds = [] := by
  cases r with
  | nil => simp
  | cons => simp
theorem os_addG {new : List D → Cells → Out D} (hn : NewL X new) : OpS X (binaryOp .Add) (addG new) := by
  refine ⟨_, OpR.or (OpR.or op_add op_add_str) (OpR.or op_catA op_catS), fun Z W R F c σ H x y d e Q w rx ry q => ?_⟩
  by_cases hl : ∃ l m, lstOf c d = some l ∧ lstOf c e = some m
  · obtain ⟨l, m, h1, h2⟩ := hl
    obtain ⟨a, vs, rfl, q1, r1⟩ := w.list rx h1
    obtain ⟨b, us, rfl, q2, r2⟩ := w.list ry h2
    have q' : Aft X.K Z W R F σ (new (l ++ m) c) (QV X.K Q) := by
      unfold addG at q
      cases d with
      | lst => simpa [h1, h2] using q
      | scr => simpa [h1, h2] using q
      | cell => simpa [h1, h2] using q
      | _ => cases h1
    obtain ⟨z1, z2⟩ := hn Z W R F σ c H _ _ Q w (r1.append r2) q'
    exact .inr (.inr ⟨a, b, vs, us, rfl, rfl, q1, q2, by rw [← List.length_append]; exact z1, z2⟩)
  · have hb : (match lstOf c d, lstOf c e with
        | some l, some m => new (l ++ m) c
        | _, _ => .bad) = .bad := by
      cases h1 : lstOf c d with
      | none => rfl
      | some l =>
        cases h2 : lstOf c e with
        | none => rfl
        | some m => exact absurd ⟨l, m, h1, h2⟩ hl
    unfold addG at q
    split at q
    · cases rx; cases ry
      exact .inl (.inl ⟨_, _, rfl, rfl, q.ok w _ (.int _)⟩)
    · cases rx; cases ry
      split at q
      · rename_i hz
        exact .inl (.inr ⟨_, _, rfl, rfl, hz, q.ok w _ (.str _)⟩)
      · exact q.elim
    · rename_i l m
      cases rx with
      | @tup a vs _ h1 r1 =>
        cases ry with
        | @tup b us _ h2 r2 =>
          split at q
          · rename_i hz
            refine .inr (.inl ⟨a, b, vs, us, rfl, rfl, h1.ext w.same, h2.ext w.same, by rw [r1.length, r2.length]; exact hz, fun e1 => ?_, fun e1 e2 => ?_, fun e1 e2 p n => ?_⟩)
            · have := r1.nil_iff.mp e1
              subst this
              exact q.ok w _ (.tup h2 r2)
            · have := r2.nil_iff.mp e2
              subst this
              rw [List.append_nil] at q
              exact q.ok w _ (.tup h1 r1)
            · obtain ⟨w2, s2⟩ := w.frozen n (.tup (vs ++ us))
              exact q _ _ _ (List.prefix_refl _) s2 w2 _ (.tup (SqT.of upd_same) ((r1.append r2).mono (List.prefix_refl _) s2))
          · exact q.elim
    · rw [hb] at q
      exact q.elim
theorem os_add : OpS X (binaryOp .Add) addD := os_addG newL
theorem os_addC : OpS X (binaryOp .Add) addC := os_addG newC

/-! ### * -/
theorem fold_size (a : Array Nat) : ∀ (n : Nat) (b : Array Nat), ((List.replicate n a).foldl (· ++ ·) b).size = b.size + n * a.size
  | 0, b => by simp
  | n + 1, b => by
    rw [List.replicate_succ, List.foldl_cons, fold_size a n, Array.size_append, Nat.succ_mul]
    omega
def repS (x : Str) (n : Nat) : Str := ⟨(List.replicate n x.cps).foldl (· ++ ·) #[]⟩
theorem op_mul_str : OpR X (binaryOp .Mult) (fun x y H Q => ∃ a i, x = .str a ∧ y = .int i ∧ 2 ≤ i ∧ i < 1000000 ∧ 0 < a.length ∧ a.length < 10 ∧ Q (.str (repS a i.toNat)) H) := by
  intro pins s σ H x y v u Q I rx ry h
  obtain ⟨a, i, rfl, rfl, h1, h2, h3, h4, q⟩ := h
  obtain ⟨t, rfl⟩ := rx
  obtain ⟨t2, rfl⟩ := ry
  refine PySem.P.mul_str (by rw [decide_eq_false (by omega), decide_eq_false (by omega)]; rfl) (fun _ _ => ?_) (fun _ _ => ?_) ?_
  · have hd : (10 : Int) ≤ (2 ^ 63 - 1) / i := by
      rw [Int.le_ediv_iff_mul_le (by omega)]
      omega
    omega
  · show decide (a.length * i.toNat > sizeLine) = false
    refine decide_eq_false ?_
    rw [sizeLine_eq]
    have : a.length * i.toNat ≤ 9 * i.toNat := Nat.mul_le_mul_right _ (by omega)
    omega
  · have h6 : (i == 1 || a.length == 0) = false := by
      rw [Bool.or_eq_false_iff]
      exact ⟨beq_eq_false_iff_ne.mpr (by omega), beq_eq_false_iff_ne.mpr (by omega)⟩
    rw [if_neg (by omega), if_neg (by rw [h6]; decide)]
    refine ⟨?_, .str _, H, I.tok _, ⟨_, rfl⟩, q⟩
    show (Str.length ⟨(List.replicate i.toNat a.cps).foldl (· ++ ·) #[]⟩) ≤ sizeLine
    show ((List.replicate i.toNat a.cps).foldl (· ++ ·) #[]).size ≤ sizeLine
    rw [fold_size, sizeLine_eq]
    have h7 : a.cps.size < 10 := h4
    have : i.toNat * a.cps.size ≤ i.toNat * 9 := Nat.mul_le_mul_left _ (by omega)
    have h8 : (#[] : Array Nat).size = 0 := rfl
    omega
def mulD : O2 := fun d e c => match d, e with
  | .int i, .int j => if CMul i j then .ok (.int (i * j)) c else .bad
  | .str a, .int i => if 2 ≤ i ∧ i < 1000000 ∧ 0 < a.length ∧ a.length < 10 then .ok (.str (repS a i.toNat)) c else .bad
  | _, _ => .bad
theorem os_mul : OpS X (binaryOp .Mult) mulD := by
  refine ⟨_, OpR.or op_mul op_mul_str, fun Z W R F c σ H x y d e Q w rx ry q => ?_⟩
  unfold mulD at q
  split at q
  · cases rx; cases ry
    split at q
    · rename_i hc
      exact .inl ⟨_, _, rfl, rfl, hc, q.ok w _ (.int _)⟩
    · exact q.elim
  · cases rx; cases ry
    split at q
    · rename_i hc
      exact .inr ⟨_, _, rfl, rfl, hc.1, hc.2.1, hc.2.2.1, hc.2.2.2, q.ok w _ (.str _)⟩
    · exact q.elim
  · exact q.elim

/-! ### in, not in -/
def flatD : D → Bool
  | .non => true
  | .bl _ => true
  | .int _ => true
  | .str _ => true
  | _ => false
def eqFl : D → D → Bool
  | .non, .non => true
  | .bl a, .bl b => a == b
  | .bl a, .int b => (if a then 1 else 0) == b
  | .int a, .bl b => a == (if b then 1 else 0)
  | .int a, .int b => a == b
  | .str a, .str b => a == b
  | _, _ => false
theorem flat_rel {K : Frag} {R : List Addr} {F : Hp} {v : V} {d : D} (r : Rel K R F v d) : flatV v = flatD d := by cases r <;> rfl
theorem eqFl_rel {K : Frag} {R : List Addr} {F : Hp} {v u : V} {d e : D} (r : Rel K R F v d) (q : Rel K R F u e) : eqV v u = eqFl d e := by cases r <;> cases q <;> rfl
theorem allFlat_rel {K : Frag} {R : List Addr} {F : Hp} : ∀ {vs : List V} {ds : List D}, RelL K R F vs ds → vs.all flatV = ds.all flatD
  | _, _, .nil => rfl
  | _, _, .cons h t => by rw [List.all_cons, List.all_cons, flat_rel h, allFlat_rel t]
theorem inV_rel {K : Frag} {R : List Addr} {F : Hp} {u : V} {e : D} (q : Rel K R F u e) : ∀ {vs : List V} {ds : List D}, RelL K R F vs ds → inV u vs = ds.any (fun d => eqFl d e)
  | _, _, .nil => rfl
  | _, _, .cons h t => by
    unfold inV
    rw [List.any_cons, List.any_cons, eqFl_rel h q, ← inV_rel q t]
    rfl
/-- neg: not in -/
def inD (neg : Bool) : O2 := fun d e c => match d, e with
  | .str x, .str z => match x.cps.toList with
    | [k] => .ok (.bl (neg != decide (k ∈ z.cps.toList))) c
    | _ => .bad
  | d, e => match items c e with
    | some ds => if flatD d = true ∧ ds.all flatD = true then .ok (.bl (neg != ds.any fun y => eqFl y d)) c else .bad
    | none => .bad
theorem str_one {x : Str} {k : Nat} (h : x.cps.toList = [k]) : x = ⟨#[k]⟩ := by
  cases x with
  | mk a =>
    have : a = #[k] := by
      apply Array.ext'
      exact h
    rw [this]
theorem os_in : OpS X (compareOp .In) (inD false) := by
  refine ⟨_, OpR.or op_in_sign op_in_seq, fun Z W R F c σ H x y d e Q w rx ry q => ?_⟩
  unfold inD at q
  split at q
  · cases rx; cases ry
    split at q
    · rename_i k hk
      have := str_one hk
      subst this
      refine .inl ⟨k, _, rfl, rfl, ?_⟩
      have q := q.ok w _ (.bl _)
      simpa using q
    · exact q.elim
  · split at q
    · rename_i ds hi
      split at q
      · rename_i hf
        obtain ⟨a, vs, rfl, rl, hq⟩ := w.seq ry hi
        refine .inr ⟨a, vs, rfl, hq, by rw [flat_rel rx]; exact hf.1, by rw [allFlat_rel rl]; exact hf.2, ?_⟩
        have q := q.ok w _ (.bl _)
        rw [inV_rel rx rl]
        simpa using q
      · exact q.elim
    · exact q.elim
theorem os_notIn : OpS X (compareOp .NotIn) (inD true) := by
  refine ⟨_, OpR.or op_notIn_sign op_notIn_seq, fun Z W R F c σ H x y d e Q w rx ry q => ?_⟩
  unfold inD at q
  split at q
  · cases rx; cases ry
    split at q
    · rename_i k hk
      have := str_one hk
      subst this
      refine .inl ⟨k, _, rfl, rfl, ?_⟩
      have q := q.ok w _ (.bl _)
      simpa using q
    · exact q.elim
  · split at q
    · rename_i ds hi
      split at q
      · rename_i hf
        obtain ⟨a, vs, rfl, rl, hq⟩ := w.seq ry hi
        refine .inr ⟨a, vs, rfl, hq, by rw [flat_rel rx]; exact hf.1, by rw [allFlat_rel rl]; exact hf.2, ?_⟩
        have q := q.ok w _ (.bl _)
        rw [inV_rel rx rl]
        simpa using q
      · exact q.elim
    · exact q.elim
end

/-! ### subscripts -/
section
variable {X : Cx} {W : WX} {pos : Pos} {a b o e : Expr} {ma mb mo me : ME}
def ixD : O2 := fun d e c => match d, e with
  | .str z, .int i => if z.length ≤ sizeLine then (match atI z.cps.toList i with
    | some k => .ok (.str ⟨#[k]⟩) c
    | none => .bad) else .bad
  | d, .int i => match items c d with
    | some ds => (match atI ds i with
      | some v => .ok v c
      | none => .bad)
    | none => .bad
  | _, _ => .bad
theorem atI_rel {K : Frag} {R : List Addr} {F : Hp} {vs : List V} {ds : List D} {i : Int} {d : D} (r : RelL K R F vs ds) (h : atI ds i = some d) : ∃ v, atI vs i = some v ∧ Rel K R F v d := by
  unfold atI at h ⊢
  rw [r.length]
  cases q : ixN ds.length i with
  | none => rw [q] at h; cases h
  | some j =>
    rw [q] at h
    exact r.get h
theorem de_ix (ha : DE X W a ma) (hb : DE X W b mb) (hs : PlainIx b := by exact fun _ _ => rfl) : DE X W (.Subscript a b pos) (mOp ixD ma mb) := by
  obtain ⟨ta, pa, sa⟩ := ha.ex
  obtain ⟨tb, pb, sb⟩ := hb.ex
  refine ⟨_, pe_ix ix_seq pa pb hs, op_read sa sb fun Z W R F c σ H x y d e Q w rx ry q => ?_⟩
  unfold ixD at q
  split at q
  · cases rx; cases ry
    split at q
    · rename_i hz
      split at q
      · rename_i k hk
        exact .inr (.inr ⟨_, _, k, rfl, rfl, hz, hk, q.ok w _ (.str _)⟩)
      · exact q.elim
    · exact q.elim
  · cases ry
    split at q
    · rename_i ds hi
      split at q
      · rename_i v hv
        obtain ⟨p, vs, rfl, rl, hq⟩ := w.seq rx hi
        obtain ⟨u, hu, ru⟩ := atI_rel rl hv
        rcases hq with hq | hq
        · exact .inl ⟨p, vs, _, u, rfl, rfl, hq, hu, q.ok w _ ru⟩
        · exact .inr (.inl ⟨p, vs, _, u, rfl, rfl, hq, hu, q.ok w _ ru⟩)
      · exact q.elim
    · exact q.elim
  · exact q.elim
/-- the parts of a slice -/
structure DO (X : Cx) (W : WX) (e : Option Expr) (m : En → Cells → Out (Option Int)) : Prop where
  ex : ∃ t, PO X e t ∧ ∀ Z R F δ c σ H Q, Wd X.K Z R F c H → RelS X.K R F δ σ → Aft X.K Z W R F σ (m δ c) (fun _ _ i _ H' => Q i H') → t σ H Q
theorem do_none : DO X W none (fun _ c => .ok none c) := ⟨_, po_none, fun Z R F δ c σ H Q w rs h => h.ok w⟩
def asI (d : D) (c : Cells) : Out (Option Int) := match d with
  | .int i => .ok (some i) c
  | _ => .bad
theorem do_some (h : DE X W e me) : DO X W (some e) (fun δ c => (me δ c).bind asI) := by
  obtain ⟨t, p, s⟩ := h.ex
  refine ⟨_, po_some p, fun Z R F δ c σ H Q w rs h => s Z R F δ c σ H _ w rs ((Aft.bind h).imp ?_)⟩
  rintro R1 F1 d c1 H1 p1 e1 w1 ⟨_, _, _, h1⟩ v rv
  unfold asI at h1
  split at h1
  · cases rv
    exact ⟨_, rfl, h1.ok w1⟩
  · exact h1.elim
def cutD (xs : List D) (lo hi : Option Int) : List D := (xs.drop (HT.sIx xs.length 0 lo)).take (HT.sIx xs.length xs.length hi - HT.sIx xs.length 0 lo)
theorem cut_rel {K : Frag} {R : List Addr} {F : Hp} {vs : List V} {ds : List D} (r : RelL K R F vs ds) (lo hi : Option Int) : RelL K R F (cutV vs lo hi) (cutD ds lo hi) := by
  unfold cutV cutD
  rw [r.length]
  exact (r.drop _).take _
def slG (new : List D → Cells → Out D) (d : D) (lo hi : Option Int) (c : Cells) : Out D := match d with
  | .str z => if z.length ≤ sizeLine then .ok (.str (cutS z lo hi)) c else .bad
  | .tup ds => if HT.sIx ds.length 0 lo = 0 ∧ HT.sIx ds.length ds.length hi = ds.length then .ok (.tup ds) c else .ok (.tup (cutD ds lo hi)) c
  | d => match lstOf c d with
    | some ds => new (cutD ds lo hi) c
    | none => .bad
def mSl (new : List D → Cells → Out D) (mo : ME) (ml mh : En → Cells → Out (Option Int)) : ME := fun δ c => (mo δ c).bind fun d c1 => (ml δ c1).bind fun l c2 => (mh δ c2).bind fun u c3 => slG new d l u c3
theorem sl_read {new : List D → Cells → Out D} (hn : NewL X new) {Z : Hp} {R : List Addr} {F : Hp} {c : Cells} {σ : St} {H : Hp} {x : V} {d : D} {lo hi : Option Int} {Q : VK} (w : Wd X.K Z R F c H) (rx : Rel X.K R F x d) (q : Aft X.K Z W R F σ (slG new d lo hi c) (QV X.K Q)) :
    (rSlL X.K x lo hi H Q ∨ rSlS x lo hi H Q) ∨ rSlA X.K x lo hi H Q := by
  by_cases hl : ∃ ds, lstOf c d = some ds
  · obtain ⟨ds, h1⟩ := hl
    obtain ⟨a, vs, rfl, q1, r1⟩ := w.list rx h1
    have q' : Aft X.K Z W R F σ (new (cutD ds lo hi) c) (QV X.K Q) := by
      unfold slG at q
      cases d with
      | lst => simpa [h1] using q
      | scr => simpa [h1] using q
      | cell => simpa [h1] using q
      | _ => cases h1
    exact .inl (.inl ⟨a, vs, rfl, q1, (hn Z W R F σ c H _ _ Q w (cut_rel r1 lo hi) q').2⟩)
  · unfold slG at q
    split at q
    · cases rx
      split at q
      · rename_i hz
        exact .inl (.inr ⟨_, rfl, hz, q.ok w _ (.str _)⟩)
      · exact q.elim
    · rename_i ds
      cases rx with
      | @tup a vs _ h1 r1 =>
        refine .inr ⟨a, vs, rfl, h1.ext w.same, fun hw => ?_, fun hw p n => ?_⟩
        · rw [r1.length] at hw
          rw [if_pos hw] at q
          exact q.ok w _ (.tup h1 r1)
        · rw [r1.length] at hw
          rw [if_neg hw] at q
          obtain ⟨w2, s2⟩ := w.frozen n (.tup (cutV vs lo hi))
          exact q _ _ _ (List.prefix_refl _) s2 w2 _ (.tup (SqT.of upd_same) ((cut_rel r1 lo hi).mono (List.prefix_refl _) s2))
    · rename_i h1 h2
      split at q
      · rename_i ds hd
        exact absurd ⟨ds, hd⟩ hl
      · exact q.elim
theorem de_sl {lo hi : Option Expr} {p2 : Pos} {new : List D → Cells → Out D} {ml mh : En → Cells → Out (Option Int)} (hn : NewL X new) (ho : DE X W o mo) (hl : DO X W lo ml) (hh : DO X W hi mh) : DE X W (.Subscript o (.Slice lo hi none p2) pos) (mSl new mo ml mh) := by
  obtain ⟨t, p, s⟩ := ho.ex
  obtain ⟨tl, pl, sl⟩ := hl.ex
  obtain ⟨th, ph, sh⟩ := hh.ex
  refine ⟨_, pe_slice ((L2.SlR.or sl_list sl_str).or sl_tupA) p pl ph, fun Z R F δ c σ H Q w rs h => s Z R F δ c σ H _ w rs ((Aft.bind h).imp ?_)⟩
  rintro R1 F1 d c1 H1 p1 e1 w1 ⟨_, _, _, h1⟩ v rv
  refine sl Z R1 F1 δ c1 σ H1 _ w1 (rs.mono p1 e1) ((Aft.bind h1).imp ?_)
  rintro R2 F2 l c2 H2 p2 e2 w2 ⟨_, _, _, h2⟩
  refine sh Z R2 F2 δ c2 σ H2 _ w2 ((rs.mono p1 e1).mono p2 e2) ((Aft.bind h2).imp ?_)
  rintro R3 F3 u c3 H3 p3 e3 w3 ⟨_, _, _, h3⟩
  exact sl_read hn w3 ((rv.mono p2 e2).mono p3 e3) h3
/-! o[i] = e, o a cell -/
def setIGo (d i v : D) (c : Cells) : Option Cells := match d, i with
  | .cell k, .int j => (match c[k]? with
    | some (.lst ds) => (match ixN ds.length j with
      | some n => some (c.set k (.lst (ds.set n v)))
      | none => none)
    | _ => none)
  | _, _ => none
def mSetI (mo mi mv : ME) : MS := fun δ c => (mv δ c).fl δ fun v c1 => (mo δ c1).fl δ fun d c2 => (mi δ c2).fl δ fun i c3 => match setIGo d i v c3 with
  | some c4 => .nx δ c4
  | none => .bad
theorem ds_setI {i : Expr} {mi : ME} {pos' : Pos} (ho : DE X W o mo) (hi : DE X W i mi) (hv : DE X W e me) (hs : swapsWithSole [.Subscript o i pos'] e pos.line X.env = pure false := by rfl) (hw : swappedStores [.Subscript o i pos'] e X.env = pure none := by rfl)
    (h1 : (assignEach [.Subscript o i pos'] X.env).map (·.2) = [assign (.Subscript o i pos') X.env] := by rfl)
    (ha : ∀ v, assign (.Subscript o i pos') X.env v = (do
      let ov ← holding [v] (eval o X.env)
      let iv ← holding [v, ov] (eval i X.env)
      standAt pos'
      holding [v, ov, iv] (setItem ov iv v)
      release [v, ov, iv] []) := by intro _; rfl) : DS X W (.Assign [.Subscript o i pos'] e pos) (mSetI mo mi me) := by
  obtain ⟨t, p, s⟩ := ho.ex
  obtain ⟨ti, pi, si⟩ := hi.ex
  obtain ⟨tv, pv, sv⟩ := hv.ex
  refine ⟨_, ps_asg pv (pg_sub p pi set_list ha) hs hw h1, fun Z R F δ c σ H E w rs h => sv Z R F δ c σ H _ w rs ((AftS.fl rs h).imp ?_)⟩
  rintro R1 F1 v c1 H1 p1 e1 w1 ⟨_, _, _, h1⟩ y ry
  have rs1 := rs.mono p1 e1
  refine s Z R1 F1 δ c1 σ H1 _ w1 rs1 ((AftS.fl rs1 h1).imp ?_)
  rintro R2 F2 d c2 H2 p2 e2 w2 ⟨_, _, _, h2⟩ z rz
  have rs2 := rs1.mono p2 e2
  refine si Z R2 F2 δ c2 σ H2 _ w2 rs2 ((AftS.fl rs2 h2).imp ?_)
  rintro R3 F3 j c3 H3 p3 e3 w3 ⟨_, _, _, h3⟩ u ru
  have rs3 := rs2.mono p3 e3
  split at h3
  · rename_i c4 hc4
    unfold setIGo at hc4
    split at hc4
    · split at hc4
      · rename_i ds hk
        split at hc4
        · rename_i n hn
          cases hc4
          cases ru
          have rz := rz.mono p3 e3
          cases rz with
          | cell hR =>
            obtain ⟨vs, q, l⟩ := w3.atList hR hk
            refine ⟨_, vs, _, n, rfl, rfl, q, by rw [l.length]; exact hn, ?_⟩
            exact h3 R3 F3 _ σ (List.prefix_refl _) (Same.refl _) (w3.write hR (.lst (l.set ((ry.mono p2 e2).mono p3 e3) n))) rs3
        · cases hc4
      · cases hc4
    · cases hc4
  · exact h3.elim
end

/-! ### built-in functions and types, called -/
def CallS (X : Cx) (f : Value) (g : List D → Cells → Out D) : Prop := ∃ r, CallR X f r ∧ ∀ Z W R F c σ H vs ds Q, Wd X.K Z R F c H → RelL X.K R F vs ds → Aft X.K Z W R F σ (g ds c) (QV X.K Q) → r vs H Q
def mCB (g : List D → Cells → Out D) (ma : MA) : ME := fun δ c => (ma δ c).bind g
section
variable {X : Cx} {W : WX} {p pos : Pos} {x : Str} {e : Expr} {es : List Expr} {ma : MA} {g : List D → Cells → Out D}
theorem de_callB {id : String} (hc : CallS X (.builtin id) g) (hm : X.mg x = none) (hv : bootBuiltins x = some (.builtin id)) (ha : DA X W (e :: es) ma) (hg : Gl X x := by rfl) (hn : x ≠ "__name__" := by decide) (hdb : (x == ("__debug__" : Str)) = false := by decide)
    (he : starEach (e :: es) X.env = (false, eval e X.env) :: starEach es X.env := by rfl) (hpl : (backTo pos (starEach es X.env)).any (·.1) = false := by rfl) : DE X W (.Call (.Name x p) (e :: es) [] pos) (mCB g ma) := by
  obtain ⟨r, pr, sr⟩ := hc
  obtain ⟨t, pa, sa⟩ := ha.ex
  refine ⟨_, pe_callB pr hg hm hv pa hn hdb he hpl, fun Z R F δ c σ H Q w rs h => sa Z R F δ c σ H _ w rs ((Aft.bind h).imp ?_)⟩
  rintro R1 F1 ds c1 H1 p1 e1 w1 ⟨_, _, _, h1⟩ vs rv
  exact sr Z W R1 F1 c1 σ H1 vs ds Q w1 rv h1
theorem de_callTy {T : String} (hc : CallS X (.type T) g) (hm : X.mg x = none) (hv : bootBuiltins x = some (.type T)) (ha : DA X W (e :: es) ma) (hg : Gl X x := by rfl) (hn : x ≠ "__name__" := by decide) (hdb : (x == ("__debug__" : Str)) = false := by decide)
    (he : starEach (e :: es) X.env = (false, eval e X.env) :: starEach es X.env := by rfl) (hpl : (backTo pos (starEach es X.env)).any (·.1) = false := by rfl) : DE X W (.Call (.Name x p) (e :: es) [] pos) (mCB g ma) := by
  obtain ⟨r, pr, sr⟩ := hc
  obtain ⟨t, pa, sa⟩ := ha.ex
  refine ⟨_, pe_callTy pr hg hm hv pa hn hdb he hpl, fun Z R F δ c σ H Q w rs h => sa Z R F δ c σ H _ w rs ((Aft.bind h).imp ?_)⟩
  rintro R1 F1 ds c1 H1 p1 e1 w1 ⟨_, _, _, h1⟩ vs rv
  exact sr Z W R1 F1 c1 σ H1 vs ds Q w1 rv h1
def lenD (ds : List D) (c : Cells) : Out D := match ds with
  | [.str z] => if z.length ≤ sizeLine then .ok (.int z.length) c else .bad
  | [d] => match items c d with
    | some l => .ok (.int l.length) c
    | none => .bad
  | _ => .bad
theorem cs_len : CallS X (.builtin "len") lenD := by
  refine ⟨_, call_len, fun Z W R F c σ H vs ds Q w r h => ?_⟩
  unfold lenD at h
  split at h
  · obtain ⟨v, e1, rr⟩ : ∃ v, vs = [v] ∧ Rel X.K R F v (.str _) := by
      cases r with
      | cons r t => cases t; exact ⟨_, rfl, r⟩
    subst e1
    cases rr
    split at h
    · rename_i hz
      exact ⟨.str _, _, rfl, ⟨hz, rfl⟩, h.ok w _ (.int _)⟩
    · exact h.elim
  · obtain ⟨v, e1, rr⟩ : ∃ v, vs = [v] ∧ Rel X.K R F v _ := by
      cases r with
      | cons r t => cases t; exact ⟨_, rfl, r⟩
    subst e1
    split at h
    · rename_i l hl
      obtain ⟨a, us, rfl, rl, hq⟩ := w.seq rr hl
      refine ⟨_, us.length, rfl, ?_, by rw [rl.length]; exact h.ok w _ (.int _)⟩
      rcases hq with hq | hq
      · exact .inl ⟨_, hq, rfl⟩
      · exact .inr ⟨_, hq, rfl⟩
    · exact h.elim
  · exact h.elim
def absD (ds : List D) (c : Cells) : Out D := match ds with
  | [.int i] => .ok (.int (if i < 0 then -i else i)) c
  | _ => .bad
theorem cs_abs : CallS X (.builtin "abs") absD := by
  refine ⟨_, call_abs, fun Z W R F c σ H vs ds Q w r h => ?_⟩
  unfold absD at h
  split at h
  · cases r with
    | cons r t =>
      cases t
      cases r
      exact ⟨_, rfl, h.ok w _ (.int _)⟩
  · exact h.elim
def intD (ds : List D) (c : Cells) : Out D := match ds with
  | [.int i] => .ok (.int i) c
  | [.bl k] => .ok (.int (if k then 1 else 0)) c
  | _ => .bad
theorem cs_int : CallS X (.type "int") intD := by
  refine ⟨_, call_int1, fun Z W R F c σ H vs ds Q w r h => ?_⟩
  unfold intD at h
  split at h
  · cases r with
    | cons r t =>
      cases t
      cases r
      exact .inl ⟨_, rfl, h.ok w _ (.int _)⟩
  · cases r with
    | cons r t =>
      cases t
      cases r
      exact .inr ⟨_, rfl, h.ok w _ (.int _)⟩
  · exact h.elim
def tupleD (ds : List D) (c : Cells) : Out D := match ds with
  | [.tup l] => .ok (.tup l) c
  | [d] => match lstOf c d with
    | some l => .ok (.tup l) c
    | none => .bad
  | _ => .bad
theorem cs_tuple : CallS X (.type "tuple") tupleD := by
  refine ⟨_, call_tuple_of, fun Z W R F c σ H vs ds Q w r h => ?_⟩
  unfold tupleD at h
  split at h
  · cases r with
    | cons r t =>
      cases t
      cases r with
      | tup h1 r1 => exact ⟨_, _, rfl, .inr ⟨h1.ext w.same, h.ok w _ (.tup h1 r1)⟩⟩
  · obtain ⟨v, e1, rr⟩ : ∃ v, vs = [v] ∧ Rel X.K R F v _ := by
      cases r with
      | cons r t => cases t; exact ⟨_, rfl, r⟩
    subst e1
    split at h
    · rename_i l hl
      obtain ⟨a, us, rfl, q1, rl⟩ := w.list rr hl
      refine ⟨a, us, rfl, .inl ⟨q1, fun p n => ?_⟩⟩
      obtain ⟨w2, s2⟩ := w.frozen n (.tup us)
      exact h _ _ _ (List.prefix_refl _) s2 w2 _ (.tup (SqT.of upd_same) (rl.mono (List.prefix_refl _) s2))
    · exact h.elim
  · exact h.elim
def allBl : List D → Option (List Bool)
  | [] => some []
  | .bl b :: r => (allBl r).map (b :: ·)
  | _ :: _ => none
theorem allBl_rel {K : Frag} {R : List Addr} {F : Hp} : ∀ {vs : List V} {ds : List D} {bs : List Bool}, RelL K R F vs ds → allBl ds = some bs → vs = bs.map V.bl
  | _, _, _, .nil, h => by cases h; rfl
  | _, _, bs, .cons (d := .bl b) (ds := l) r t, h => by
    cases r
    have h : (allBl l).map (b :: ·) = some bs := h
    cases q : allBl l with
    | none => rw [q] at h; cases h
    | some cs =>
      rw [q] at h
      cases h
      rw [List.map_cons, allBl_rel t q]
def allD (ds : List D) (c : Cells) : Out D := match ds with
  | [d] => match lstOf c d with
    | some l => (match allBl l with
      | some bs => .ok (.bl (bs.all id)) c
      | none => .bad)
    | none => .bad
  | _ => .bad
theorem cs_all (hc : X.calm = true) : CallS X (.builtin "all") allD := by
  refine ⟨_, cr_all hc, fun Z W R F c σ H vs ds Q w r h => ?_⟩
  unfold allD at h
  split at h
  · obtain ⟨v, e1, rr⟩ : ∃ v, vs = [v] ∧ Rel X.K R F v _ := by
      cases r with
      | cons r t => cases t; exact ⟨_, rfl, r⟩
    subst e1
    split at h
    · rename_i l hl
      split at h
      · rename_i bs hbs
        obtain ⟨a, us, rfl, q1, rl⟩ := w.list rr hl
        have := allBl_rel rl hbs
        subst this
        exact ⟨a, bs, rfl, q1, h.ok w _ (.bl _)⟩
      · exact h.elim
    · exact h.elim
  · exact h.elim
end
end Nw

set_option Elab.async false
set_option linter.all false
set_option maxRecDepth 100000
set_option maxHeartbeats 4000000
/-! Nw8: methods of lists and texts, isinstance. -/
namespace Nw
open PySem PySem.Spec
open PyProof.Rows hiding St
open L2

section
variable {X : Cx} {W : WX} {apos pos : Pos} {o e : Expr} {es : List Expr} {mo : ME} {ma : MA}
/-- a built-in type's method does what g says -/
def MtS (X : Cx) (id : String) (g : D → List D → Cells → Out D) : Prop := ∃ r, MtR X id r ∧ ∀ Z W R F c σ H x d vs ds Q, Wd X.K Z R F c H → Rel X.K R F x d → RelL X.K R F vs ds → Aft X.K Z W R F σ (g d ds c) (QV X.K Q) → r x vs H Q
inductive Bt where
  | l | s
def Bt.n : Bt → String
  | .l => "list"
  | .s => "str"
def isBt : Bt → Cells → D → Bool
  | .l, c, d => (lstOf c d).isSome
  | .s, _, .str _ => true
  | .s, _, _ => false
theorem tyV_of {T : Bt} {Z : Hp} {R : List Addr} {F : Hp} {c : Cells} {H : Hp} {v : V} {d : D} (w : Wd X.K Z R F c H) (r : Rel X.K R F v d) (h : isBt T c d = true) : tyV X.K T.n v H := by
  cases T with
  | l =>
    obtain ⟨ds, hd⟩ := Option.isSome_iff_exists.mp h
    obtain ⟨a, vs, rfl, q, _⟩ := w.list r hd
    exact .inl ⟨rfl, _, q⟩
  | s =>
    cases r with
    | str x => exact rfl
    | _ => cases h
def mBM (T : Bt) (g : D → List D → Cells → Out D) (mo : ME) (ma : MA) : ME := fun δ c => (mo δ c).bind fun d c1 => if isBt T c1 d = true then (ma δ c1).bind fun ds c2 => g d ds c2 else .bad
def mBM0 (T : Bt) (g : D → List D → Cells → Out D) (mo : ME) : ME := fun δ c => (mo δ c).bind fun d c1 => if isBt T c1 d = true then g d [] c1 else .bad
theorem de_bm {T : Bt} {name : Str} {id : String} {g : D → List D → Cells → Out D} (pa : PlainAttrs T.n) (slot : Slot T.n name id) (hty : typeOf (.builtin id) = pure (.type "method_descriptor")) (hm : MtS X id g) (ho : DE X W o mo) (ha : DA X W (e :: es) ma)
    (hb : attributeBase o name X.env (eval o X.env) = eval o X.env := by rfl)
    (hfew : ((backTo pos (starEach (e :: es) X.env)).all (fun x => !x.1) && (backToKw pos (keywordEach [] X.env)).all (fun x => x.1.isSome) && decide ((e :: es).length + ([] : List Keyword).length + (if ([] : List Keyword).isEmpty then 0 else 1) < 30)) = true := by rfl)
    (hline : (apos.endLine == pos.line) = true := by rfl) (hst : starEach (e :: es) X.env = (false, eval e X.env) :: starEach es X.env := by rfl) (hpl : (backTo pos (starEach es X.env)).any (·.1) = false := by rfl) :
    DE X W (.Call (.Attribute o name apos) (e :: es) [] pos) (mBM T g mo ma) := by
  obtain ⟨r, pr, sr⟩ := hm
  obtain ⟨t, po, so⟩ := ho.ex
  obtain ⟨ta, pa', sa⟩ := ha.ex
  refine ⟨_, pe_bm pa slot hty pr po pa' hb hfew hline hst hpl, fun Z R F δ c σ H Q w rs h => so Z R F δ c σ H _ w rs ((Aft.bind h).imp ?_)⟩
  rintro R1 F1 d c1 H1 p1 e1 w1 ⟨_, _, _, h1⟩ v rv
  split at h1
  · rename_i ht
    refine ⟨tyV_of w1 rv ht, sa Z R1 F1 δ c1 σ H1 _ w1 (rs.mono p1 e1) ((Aft.bind h1).imp ?_)⟩
    rintro R2 F2 ds c2 H2 p2 e2 w2 ⟨_, _, _, h2⟩ vs rvs
    exact sr Z W R2 F2 c2 σ H2 v d vs ds Q w2 (rv.mono p2 e2) rvs h2
  · exact h1.elim
theorem de_bm0 {T : Bt} {name : Str} {id : String} {g : D → List D → Cells → Out D} (pa : PlainAttrs T.n) (slot : Slot T.n name id) (hty : typeOf (.builtin id) = pure (.type "method_descriptor")) (hm : MtS X id g) (ho : DE X W o mo)
    (hb : attributeBase o name X.env (eval o X.env) = eval o X.env := by rfl) (hline : (apos.endLine == pos.line) = true := by rfl) : DE X W (.Call (.Attribute o name apos) [] [] pos) (mBM0 T g mo) := by
  obtain ⟨r, pr, sr⟩ := hm
  obtain ⟨t, po, so⟩ := ho.ex
  refine ⟨_, pe_bm0 pa slot hty pr po hb hline, fun Z R F δ c σ H Q w rs h => so Z R F δ c σ H _ w rs ((Aft.bind h).imp ?_)⟩
  rintro R1 F1 d c1 H1 p1 e1 w1 ⟨_, _, _, h1⟩ v rv
  split at h1
  · rename_i ht
    exact ⟨tyV_of w1 rv ht, sr Z W R1 F1 c1 σ H1 v d [] [] Q w1 rv .nil h1⟩
  · exact h1.elim

/-! ### lists that change -/
def appendD (d : D) (ds : List D) (c : Cells) : Out D := match d, ds with
  | .cell i, [y] => (match c[i]? with
    | some (.lst l) => if l.length < sizeLine then .ok .non (c.set i (.lst (l ++ [y]))) else .bad
    | _ => .bad)
  | _, _ => .bad
theorem ms_append : MtS X "list.append" appendD := by
  refine ⟨_, mt_append, fun Z W R F c σ H x d vs ds Q w rx rv h => ?_⟩
  unfold appendD at h
  split at h
  · rename_i i y
    obtain ⟨u, e1, ru⟩ : ∃ u, vs = [u] ∧ Rel X.K R F u y := by
      cases rv with
      | cons r t => cases t; exact ⟨_, rfl, r⟩
    subst e1
    cases rx with
    | cell hR =>
      split at h
      · rename_i l hl
        split at h
        · rename_i hz
          obtain ⟨us, q, rl⟩ := w.atList hR hl
          exact ⟨_, us, u, rfl, rfl, q, by rw [rl.length]; exact hz, h _ _ _ (List.prefix_refl _) (Same.refl _) (w.write hR (.lst (rl.append (.cons ru .nil)))) _ .non⟩
        · exact h.elim
      · exact h.elim
  · exact h.elim
def popD (d : D) (ds : List D) (c : Cells) : Out D := match d, ds with
  | .cell i, [] => (match c[i]? with
    | some (.lst l) => (match l[l.length - 1]? with
      | some y => .ok y (c.set i (.lst l.dropLast))
      | none => .bad)
    | _ => .bad)
  | _, _ => .bad
theorem RelL.dropLast {K : Frag} {R : List Addr} {F : Hp} {vs : List V} {ds : List D} (r : RelL K R F vs ds) : RelL K R F vs.dropLast ds.dropLast := by
  rw [List.dropLast_eq_take, List.dropLast_eq_take, r.length]
  exact r.take _
theorem ms_pop : MtS X "list.pop" popD := by
  refine ⟨_, mt_pop, fun Z W R F c σ H x d vs ds Q w rx rv h => ?_⟩
  unfold popD at h
  split at h
  · rename_i i
    cases rv
    cases rx with
    | cell hR =>
      split at h
      · rename_i l hl
        split at h
        · rename_i y hy
          obtain ⟨us, q, rl⟩ := w.atList hR hl
          obtain ⟨u, hu, ru⟩ := rl.get hy
          exact ⟨_, us, u, rfl, rfl, q, by rw [rl.length]; exact hu, h _ _ _ (List.prefix_refl _) (Same.refl _) (w.write hR (.lst rl.dropLast)) _ ru⟩
        · exact h.elim
      · exact h.elim
  · exact h.elim
theorem RelL.eraseIdx {K : Frag} {R : List Addr} {F : Hp} : ∀ {vs : List V} {ds : List D} (k : Nat), RelL K R F vs ds → RelL K R F (vs.eraseIdx k) (ds.eraseIdx k)
  | _, _, _, .nil => .nil
  | _, _, 0, .cons _ t => t
  | _, _, k + 1, .cons h t => .cons h (t.eraseIdx k)
def popAtD (d : D) (ds : List D) (c : Cells) : Out D := match d, ds with
  | .cell i, [.int j] => (match c[i]? with
    | some (.lst l) => if -(2 ^ 63) ≤ j ∧ j < 2 ^ 63 then (match seqIndex? j l.length with
      | some k => (match l[k]? with
        | some y => .ok y (c.set i (.lst (l.eraseIdx k)))
        | none => .bad)
      | none => .bad) else .bad
    | _ => .bad)
  | _, _ => .bad
theorem ms_popAt : MtS X "list.pop" popAtD := by
  refine ⟨_, mt_popAt, fun Z W R F c σ H x d vs ds Q w rx rv h => ?_⟩
  unfold popAtD at h
  split at h
  · rename_i i j
    obtain ⟨u, e1, ru⟩ : ∃ u, vs = [u] ∧ Rel X.K R F u (.int j) := by
      cases rv with
      | cons r t => cases t; exact ⟨_, rfl, r⟩
    subst e1
    cases ru
    cases rx with
    | cell hR =>
      split at h
      · rename_i l hl
        split at h
        · rename_i hj
          split at h
          · rename_i k hk
            split at h
            · rename_i y hy
              obtain ⟨us, q, rl⟩ := w.atList hR hl
              obtain ⟨u, hu, ru⟩ := rl.get hy
              exact ⟨_, us, _, k, u, rfl, rfl, q, hj.1, hj.2, by rw [rl.length]; exact hk, hu, h _ _ _ (List.prefix_refl _) (Same.refl _) (w.write hR (.lst (rl.eraseIdx k))) _ ru⟩
            · exact h.elim
          · exact h.elim
        · exact h.elim
      · exact h.elim
  · exact h.elim
/-- a list that is not the script -/
def lstOwn (c : Cells) : D → Option (List D)
  | .lst ds => some ds
  | .cell i => match c[i]? with
    | some (.lst ds) => some ds
    | _ => none
  | _ => none
theorem Wd.own {K : Frag} {Z : Hp} {R : List Addr} {F : Hp} {c : Cells} {H : Hp} {v : V} {d : D} {ds : List D} (w : Wd K Z R F c H) (r : Rel K R F v d) (e : lstOwn c d = some ds) : ∃ a vs, v = .ref a ∧ H a = some (.lst vs) ∧ RelL K R F vs ds := by
  cases r with
  | lst h l => cases e; exact ⟨_, _, rfl, w.same _ _ h, l⟩
  | @cell i a h =>
    have e2 : lstOf c (.cell i) = some ds := e
    obtain ⟨vs, q, l⟩ := w.atList h (lstOf_cell e2)
    exact ⟨_, vs, rfl, q, l⟩
  | _ => cases e
def extendD (d : D) (ds : List D) (c : Cells) : Out D := match d, ds with
  | .cell i, [y] => (match c[i]?, lstOwn c y with
    | some (.lst l), some m => if l.length + m.length ≤ sizeLine then .ok .non (c.set i (.lst (l ++ m))) else .bad
    | _, _ => .bad)
  | _, _ => .bad
theorem ms_extend : MtS X "list.extend" extendD := by
  refine ⟨_, mt_extend, fun Z W R F c σ H x d vs ds Q w rx rv h => ?_⟩
  unfold extendD at h
  split at h
  · rename_i i y
    obtain ⟨u, e1, ru⟩ : ∃ u, vs = [u] ∧ Rel X.K R F u y := by
      cases rv with
      | cons r t => cases t; exact ⟨_, rfl, r⟩
    subst e1
    cases rx with
    | cell hR =>
      split at h
      · rename_i l m hl hm
        split at h
        · rename_i hz
          obtain ⟨us, q, rl⟩ := w.atList hR hl
          obtain ⟨b, ws, rfl, q2, rm⟩ := w.own ru hm
          exact ⟨_, b, us, ws, rfl, rfl, q, q2, by rw [rl.length, rm.length]; exact hz, h _ _ _ (List.prefix_refl _) (Same.refl _) (w.write hR (.lst (rl.append rm))) _ .non⟩
        · exact h.elim
      · exact h.elim
  · exact h.elim
/-! ### texts -/
def splitD (d : D) (ds : List D) (c : Cells) : Out D := match d, ds with
  | .str a, [.str b] => if (b.length == 0) = false ∧ a.length + 2 ≤ sizeLine then .ok (.lst ((Txt.split a b).map .str)) c else .bad
  | _, _ => .bad
theorem relL_strs {K : Frag} {R : List Addr} {F : Hp} : ∀ ys : List Str, RelL K R F (ys.map V.str) (ys.map D.str)
  | [] => .nil
  | y :: ys => .cons (.str y) (relL_strs ys)
theorem ms_split : MtS X "str.split" splitD := by
  refine ⟨_, mt_split, fun Z W R F c σ H x d vs ds Q w rx rv h => ?_⟩
  unfold splitD at h
  split at h
  · rename_i a b
    obtain ⟨u, e1, ru⟩ : ∃ u, vs = [u] ∧ Rel X.K R F u (.str b) := by
      cases rv with
      | cons r t => cases t; exact ⟨_, rfl, r⟩
    subst e1
    cases ru
    cases rx
    split at h
    · rename_i hz
      refine ⟨a, b, rfl, rfl, hz.1, hz.2, fun p n => ?_⟩
      obtain ⟨w2, s2⟩ := w.frozen n (.lst ((Txt.split a b).map V.str))
      exact h _ _ _ (List.prefix_refl _) s2 w2 _ (.lst upd_same (relL_strs _))
    · exact h.elim
  · exact h.elim
def allStr : List D → Option (List Str)
  | [] => some []
  | .str b :: r => (allStr r).map (b :: ·)
  | _ :: _ => none
theorem allStr_rel {K : Frag} {R : List Addr} {F : Hp} : ∀ {vs : List V} {ds : List D} {bs : List Str}, RelL K R F vs ds → allStr ds = some bs → vs = bs.map V.str
  | _, _, _, .nil, h => by cases h; rfl
  | _, _, bs, .cons (d := .str b) (ds := l) r t, h => by
    cases r
    have h : (allStr l).map (b :: ·) = some bs := h
    cases q : allStr l with
    | none => rw [q] at h; cases h
    | some cs =>
      rw [q] at h
      cases h
      rw [List.map_cons, allStr_rel t q]
theorem allStr_map : ∀ ys : List Str, allStr (ys.map D.str) = some ys
  | [] => rfl
  | y :: ys => by
    show (allStr (ys.map D.str)).map (y :: ·) = _
    rw [allStr_map ys]
    rfl
def joinD (d : D) (ds : List D) (c : Cells) : Out D := match d, ds with
  | .str a, [y] => (match items c y with
    | some l => (match allStr l with
      | some ys => if (ys.map (·.length)).sum + ys.length * a.length ≤ 16777216 then .ok (.str (Txt.join a ys)) c else .bad
      | none => .bad)
    | none => .bad)
  | _, _ => .bad
theorem ms_join : MtS X "str.join" joinD := by
  refine ⟨_, mt_join, fun Z W R F c σ H x d vs ds Q w rx rv h => ?_⟩
  unfold joinD at h
  split at h
  · rename_i a y
    obtain ⟨u, e1, ru⟩ : ∃ u, vs = [u] ∧ Rel X.K R F u y := by
      cases rv with
      | cons r t => cases t; exact ⟨_, rfl, r⟩
    subst e1
    cases rx
    split at h
    · rename_i l hl
      split at h
      · rename_i ys hys
        split at h
        · rename_i hz
          obtain ⟨p, us, rfl, rl, hq⟩ := w.seq ru hl
          have := allStr_rel rl hys
          subst this
          exact ⟨a, p, ys, rfl, rfl, hq, hz, h.ok w _ (.str _)⟩
        · exact h.elim
      · exact h.elim
    · exact h.elim
  · exact h.elim
end

/-! ### isinstance -/
inductive Ty where
  | b (n : String) | o (x : Str)
  deriving DecidableEq
def Ty.v (K : Frag) : Ty → Value
  | .b n => .type n
  | .o x => .ref (He.ga K x)
inductive Cl where
  | ty (n : String) | gl (x : Str)
  deriving DecidableEq
def Cl.v (K : Frag) : Cl → Value
  | .ty n => .type n
  | .gl x => .ref (He.ga K x)
def tyD (c : Cells) : D → Option Ty
  | .non => some (.b "NoneType")
  | .bl _ => some (.b "bool")
  | .int _ => some (.b "int")
  | .str _ => some (.b "str")
  | .tup _ => some (.b "tuple")
  | .lst _ => some (.b "list")
  | .scr _ => some (.b "list")
  | .obj x _ _ => some (.o x)
  | .cell i => match c[i]? with
    | some (.lst _) => some (.b "list")
    | some (.ins x _ _) => some (.o x)
    | some (.dct _ _) => some (.b "dict")
    | some (.dtt _ _) => some (.b "dict")
    | none => none
  | .dic _ _ => some (.b "dict")
  | .dit _ _ => some (.b "dict")
  | _ => none
/-- what isinstance asks of a class's instances -/
structure InsC (K : Frag) (x : Str) : Prop where
  cl : Cls K (He.ga K x)
  ha : PySem.W.findIn K (.ref (He.ga K x)) "__class__" = some (some (.builtin "object.__class__"))
  hn : PySem.W.specialIn K (.builtin "object.__class__") "__get__" = some (some (.builtin "getset_descriptor.__get__"))
  tk : PySem.W.takesIn K (.builtin "object.__class__") = some true
  hm : PySem.W.mroIn K (He.ga K x) (.type "object") = some true
theorem tyX_of {K : Frag} {Z : Hp} {R : List Addr} {F : Hp} {c : Cells} {H : Hp} {v : V} {d : D} {t : Ty} (w : Wd K Z R F c H) (r : Rel K R F v d) (h : tyD c d = some t) (hi : ∀ x, t = .o x → InsC K x) : TyX K H v (t.v K) := by
  cases r with
  | non => cases h; exact .base .non
  | bl b => cases h; exact .base (.bl b)
  | int i => cases h; exact .base (.int i)
  | str x => cases h; exact .base (.str x)
  | tup q l =>
    cases h
    rcases q with (q | ⟨o, q⟩) | ⟨o, its, n, hk, hc, _⟩
    · exact .base (.tup (w.same _ _ q))
    · exact .fTuple (w.same _ _ q)
    · exact .kTuple hk hc
  | lst q l => cases h; exact .base (.lst (w.same _ _ q))
  | scr q l =>
    cases h
    rcases q with (q | ⟨o, q⟩) | ⟨o, its, n, hk, hc, _⟩
    · exact .base (.lst (w.same _ _ q))
    · exact .base (.frz (w.same _ _ q))
    · exact .kList hk hc
  | obj q z l =>
    cases h
    have T := hi _ rfl
    exact .base (.ins (w.same _ _ q) T.cl T.ha T.hn T.tk T.hm)
  | @cell i a q =>
    simp only [tyD] at h
    split at h
    · rename_i l hl
      cases h
      obtain ⟨vs, q2, _⟩ := w.atList q hl
      exact .base (.lst q2)
    · rename_i x ns l hl
      cases h
      obtain ⟨a', o, h1, h2, h3, h4⟩ := w.cel i _ hl
      rw [q] at h1
      cases h1
      cases h3 with
      | ins z rl =>
        have T := hi _ rfl
        exact .base (.ins h2 T.cl T.ha T.hn T.tk T.hm)
    · rename_i ks l hl
      cases h
      obtain ⟨a', o, h1, h2, h3, h4⟩ := w.cel i _ hl
      rw [q] at h1
      cases h1
      cases h3 with
      | dct z rl => exact .base (.dK h2)
    · rename_i ks l hl
      cases h
      obtain ⟨a', o, h1, h2, h3, h4⟩ := w.cel i _ hl
      rw [q] at h1
      cases h1
      cases h3 with
      | dtt z rl => exact .base (.dT h2)
    · cases h
  | dic q z l => cases h; exact .base (.dK (w.same _ _ q))
  | dit q z l => cases h; exact .base (.dT (w.same _ _ q))
  | _ => cases h
/-- ts: the types that are asked about; f: the answers for the classes Cs -/
structure IsiOk (K : Frag) (ts : List Ty) (f : Ty → Bool) (Cs : List Cl) : Prop where
  ans : ∀ t ∈ ts, PySem.W.kitAny K (t.v K) (Cs.map (Cl.v K)) = some (f t)
  ins : ∀ x, Ty.o x ∈ ts → InsC K x
theorem kitOne_of {K : Frag} {t u : Value} {b : Bool} (h : PySem.W.kitAny K t [u] = some b) : PySem.W.kitOne K t u = some b := by
  unfold PySem.W.kitAny at h
  split at h
  · rename_i e; rw [e]; exact h
  · rename_i e; rw [e]; exact h
  · cases h
def isiD (ts : List Ty) (f : Ty → Bool) (d : D) (c : Cells) : Out D := match tyD c d with
  | some t => if t ∈ ts then .ok (.bl (f t)) c else .bad
  | none => .bad
def mIsi (ts : List Ty) (f : Ty → Bool) (m : ME) : ME := fun δ c => (m δ c).bind (isiD ts f)
section
variable {X : Cx} {W : WX} {p p2 pos : Pos} {e ce : Expr} {m : ME} {ts : List Ty} {f : Ty → Bool}
/-- the class as an expression -/
structure DC (X : Cx) (e : Expr) (C : Cl) : Prop where
  ex : ∃ v, PE X e (tC v) ∧ ClsV v (C.v X.K)
theorem dc_ty {x : Str} {n : String} (hm : X.mg x = none) (hv : bootBuiltins x = some (.type n)) (hg : Gl X x := by rfl) (hn : x ≠ "__name__" := by decide) (hd : (x == ("__debug__" : Str)) = false := by decide) : DC X (.Name x pos) (.ty n) :=
  ⟨.ty n, pe_bltn hg hm hv (v := .ty n) rfl hn hd, .ty n⟩
theorem dc_gl {x : Str} (hm : X.mg x = some (.ref (He.ga X.K x))) (hg : Gl X x := by rfl) (hd : (x == ("__debug__" : Str)) = false := by decide) : DC X (.Name x pos) (.gl x) :=
  ⟨.ref (He.ga X.K x), pe_glob hg hm (v := .ref (He.ga X.K x)) rfl hd, .own _⟩
theorem isi_of {Z : Hp} {R : List Addr} {F : Hp} {c : Cells} {σ : St} {H : Hp} {v : V} {d : D} {Cs : List Cl} {Q : VK} (T : IsiOk X.K ts f Cs) (w : Wd X.K Z R F c H) (r : Rel X.K R F v d) (h : Aft X.K Z W R F σ (isiD ts f d c) (QV X.K Q)) :
    ∃ t b, TyX X.K H v t ∧ PySem.W.kitAny X.K t (Cs.map (Cl.v X.K)) = some b ∧ Q (.bl b) H := by
  unfold isiD at h
  split at h
  · rename_i t ht
    split at h
    · rename_i hm
      refine ⟨_, f t, tyX_of w r ht (fun x e => T.ins x (e ▸ hm)), T.ans t hm, h.ok w _ (.bl _)⟩
    · exact h.elim
  · exact h.elim
theorem de_isi {C : Cl} (T : IsiOk X.K ts f [C]) (hm : X.mg "isinstance" = none) (he : DE X W e m) (hc : DC X ce C) (hg : Gl X "isinstance" := by rfl)
    (hs : starEach [e, ce] X.env = [(false, eval e X.env), (false, eval ce X.env)] := by rfl) (hs2 : starEach [ce] X.env = [(false, eval ce X.env)] := by rfl) (hpl : (backTo pos (starEach [ce] X.env)).any (·.1) = false := by rfl) :
    DE X W (.Call (.Name "isinstance" p) [e, ce] [] pos) (mIsi ts f m) := by
  obtain ⟨t, pe, se⟩ := he.ex
  obtain ⟨v, pc, kc⟩ := hc.ex
  refine ⟨_, pe_callB call_isi hg hm PyProof.Rows.boot_isinstance (pa_cons pe (pa_cons pc pa_nil hs2) (by rw [hs, hs2])) (by decide) (by decide) (by rw [hs, hs2]) hpl, fun Z R F δ c σ H Q w rs h => se Z R F δ c σ H _ w rs ((Aft.bind h).imp ?_)⟩
  rintro R1 F1 d c1 H1 p1 e1 w1 ⟨_, _, _, h1⟩ x rx
  obtain ⟨t, b, ty, k, q⟩ := isi_of T w1 rx h1
  exact ⟨x, v, t, _, b, rfl, kc, ty, kitOne_of k, q⟩
/-- classes in a tuple -/
inductive DCs (X : Cx) : List Expr → List Cl → Prop
  | nil : DCs X [] []
  | cons {e : Expr} {es : List Expr} {C : Cl} {Cs : List Cl} (h : DC X e C) (hs : starEach (e :: es) X.env = (false, eval e X.env) :: starEach es X.env) (t : DCs X es Cs) : DCs X (e :: es) (C :: Cs)
theorem dcs_pa : ∀ {es : List Expr} {Cs : List Cl}, DCs X es Cs → ∃ vs t, PA X es t ∧ Paired ClsV vs (Cs.map (Cl.v X.K)) ∧ vs.length = Cs.length ∧ ∀ σ H Q, Q vs H → t σ H Q
  | _, _, .nil => ⟨[], _, pa_nil, .nil, rfl, fun σ H Q h => h⟩
  | _, _, .cons h hs t => by
    obtain ⟨v, pv, kv⟩ := h.ex
    obtain ⟨vs, t', pt, kt, hl, st⟩ := dcs_pa t
    exact ⟨v :: vs, _, pa_cons pv pt hs, .cons kv kt, by rw [List.length_cons, List.length_cons, hl], fun σ H Q h => st σ H _ h⟩
theorem de_isiT {es : List Expr} {k : Nat} {Cs : List Cl} (T : IsiOk X.K ts f Cs) (hm : X.mg "isinstance" = none) (he : DE X W e m) (hc : DCs X es Cs) (hl : Cs.length ≤ 100 := by decide) (hg : Gl X "isinstance" := by rfl)
    (hs : starEach [e, .Tuple es k p2] X.env = [(false, eval e X.env), (false, eval (.Tuple es k p2) X.env)] := by rfl) (hs2 : starEach [.Tuple es k p2] X.env = [(false, eval (.Tuple es k p2) X.env)] := by rfl) (hpl : (backTo pos (starEach [.Tuple es k p2] X.env)).any (·.1) = false := by rfl) :
    DE X W (.Call (.Name "isinstance" p) [e, .Tuple es k p2] [] pos) (mIsi ts f m) := by
  obtain ⟨t, pe, se⟩ := he.ex
  obtain ⟨vs, t', pt, kt, hl', st⟩ := dcs_pa hc
  refine ⟨_, pe_callB call_isiT hg hm PyProof.Rows.boot_isinstance (pa_cons pe (pa_cons (pe_tup pt) pa_nil hs2) (by rw [hs, hs2])) (by decide) (by decide) (by rw [hs, hs2]) hpl, fun Z R F δ c σ H Q w rs h => se Z R F δ c σ H _ w rs ((Aft.bind h).imp ?_)⟩
  rintro R1 F1 d c1 H1 p1 e1 w1 ⟨_, _, _, h1⟩ x rx
  refine st σ H1 _ ⟨by rw [hl']; exact Nat.le_trans hl (by decide), fun a na => ?_⟩
  have w2 : Wd X.K Z R1 F1 c1 (upd H1 a (.tup vs)) := w1.more (Ext.upd na)
  obtain ⟨t, b, ty, k, q⟩ := isi_of T w2 rx h1
  exact ⟨x, a, vs, t, _, b, rfl, upd_same, kt, ty, k, q⟩
end
end Nw

set_option Elab.async false
set_option linter.all false
set_option maxRecDepth 100000
set_option maxHeartbeats 4000000
/-! Nw9: == and != of sequences whose items are compared by the text's own __eq__: both answers. -/
namespace NwQ
open PySem PySem.SeqAt
open AutoSeq1 (wpAny_loadPart')
open MeetsSeq MeetsSeq2 MeetsSeq3 SeqRoads2
open GQ (FinOf call_here)
section
variable {prog : Program} {w : World} {A : Around} {R : Result → Shared → Prop}

/-- tuples, item by item: I i: the first i are equal; J: two differ -/
theorem tuple_eq (l b : Addr) (xs ys : Array Value) (n m : Nat) (dl db : Option Addr) (sl sb : Array (Option Value)) (I : Nat → Shared → Prop) (J : Shared → Prop)
    (turn : ∀ i (h1 : i < xs.size) (h2 : i < ys.size) s, I i s → wpAny (model prog w) A.in1 (eqBool xs[i] ys[i]) (fun r s' => if r = true then I (i + 1) s' else J s') (fun e s' => R (.error e) s') s)
    (fin : ∀ s, I (min xs.size ys.size) s → R (.ok (.ret (.bool ((xs.size == ys.size))))) s) (stop : ∀ s, J s → R (.ok (.ret (.bool false))) s) {s : Shared}
    (hl : s.heap.get? l = some { cls := .type "tuple", dict := dl, data := .seq xs n, slots := sl }) (hb : s.heap.get? b = some { cls := .type "tuple", dict := db, data := .seq ys m, slots := sb }) (h : I 0 s) :
    wpAny (model prog w) A.in1 (Builtin.«tuple.__eq__» ⟨[.ref l, .ref b], []⟩) (FinOf prog w A R) (fun e s' => R (.error e) s') s := by
  have f2 := AutoSeq1.sub_tuple_tuple
  have hz : (xs.toList.zip ys.toList).length = min xs.size ys.size := by simp
  have h0 := h
  obtain ⟨hp, g, d, tk, os⟩ := s
  wp_walk using wpAny_loadPart' hl, wpAny_loadPart' hb, wpAny_forIn_list _ (fun rest q s' => q.1 = none ∧ ∃ i, rest = (xs.toList.zip ys.toList).drop i ∧ i ≤ min xs.size ys.size ∧ I i s') _
  case turn =>
    rintro ⟨x, y⟩ rest q s' ⟨hq, i, e, hi, hI⟩
    have lt : i < (xs.toList.zip ys.toList).length := Nat.lt_of_not_le fun z => by rw [List.drop_of_length_le z] at e; cases e
    have lt2 : i < min xs.size ys.size := hz ▸ lt
    have h1 : i < xs.size := Nat.lt_of_lt_of_le lt2 (Nat.min_le_left _ _)
    have h2 : i < ys.size := Nat.lt_of_lt_of_le lt2 (Nat.min_le_right _ _)
    rw [List.drop_eq_getElem_cons lt] at e
    injection e with exy er
    obtain rfl : x = xs[i] := by simpa using congrArg Prod.fst exy
    obtain rfl : y = ys[i] := by simpa using congrArg Prod.snd exy
    refine wpAny_bind (wpAny_mono (turn i h1 h2 s' hI) (fun r s2 q2 => ?_) fun _ _ z => z)
    cases r with
    | true =>
      rw [if_pos rfl] at q2
      wp_walk
      exact ⟨rfl, i + 1, er, lt2, q2⟩
    | false =>
      rw [if_neg (by decide)] at q2
      have hR := stop s2 q2
      wp_walk
      exact hR
  case fin =>
    rintro ⟨q1, q2⟩ s' ⟨hq, i, e, hi, hI⟩
    simp only at hq
    subst hq
    have ge : min xs.size ys.size ≤ i := Nat.le_of_not_lt fun z => by rw [List.drop_eq_getElem_cons (hz ▸ z)] at e; cases e
    obtain rfl : i = min xs.size ys.size := Nat.le_antisymm hi ge
    have hR := fin s' hI
    wp_walk
    simpa [Builtin.Tuple.tupleCompareSizes, bne] using hR
  case h => exact ⟨rfl, 0, rfl, Nat.zero_le _, h0⟩

/-- tuples, item by item: I i: the first i are equal; J: two differ -/
theorem tuple_ne (l b : Addr) (xs ys : Array Value) (n m : Nat) (dl db : Option Addr) (sl sb : Array (Option Value)) (I : Nat → Shared → Prop) (J : Shared → Prop)
    (turn : ∀ i (h1 : i < xs.size) (h2 : i < ys.size) s, I i s → wpAny (model prog w) A.in1 (eqBool xs[i] ys[i]) (fun r s' => if r = true then I (i + 1) s' else J s') (fun e s' => R (.error e) s') s)
    (fin : ∀ s, I (min xs.size ys.size) s → R (.ok (.ret (.bool (!(xs.size == ys.size))))) s) (stop : ∀ s, J s → R (.ok (.ret (.bool true))) s) {s : Shared}
    (hl : s.heap.get? l = some { cls := .type "tuple", dict := dl, data := .seq xs n, slots := sl }) (hb : s.heap.get? b = some { cls := .type "tuple", dict := db, data := .seq ys m, slots := sb }) (h : I 0 s) :
    wpAny (model prog w) A.in1 (Builtin.«tuple.__ne__» ⟨[.ref l, .ref b], []⟩) (FinOf prog w A R) (fun e s' => R (.error e) s') s := by
  have f2 := AutoSeq1.sub_tuple_tuple
  have hz : (xs.toList.zip ys.toList).length = min xs.size ys.size := by simp
  have h0 := h
  obtain ⟨hp, g, d, tk, os⟩ := s
  wp_walk using wpAny_loadPart' hl, wpAny_loadPart' hb, wpAny_forIn_list _ (fun rest q s' => q.1 = none ∧ ∃ i, rest = (xs.toList.zip ys.toList).drop i ∧ i ≤ min xs.size ys.size ∧ I i s') _
  case turn =>
    rintro ⟨x, y⟩ rest q s' ⟨hq, i, e, hi, hI⟩
    have lt : i < (xs.toList.zip ys.toList).length := Nat.lt_of_not_le fun z => by rw [List.drop_of_length_le z] at e; cases e
    have lt2 : i < min xs.size ys.size := hz ▸ lt
    have h1 : i < xs.size := Nat.lt_of_lt_of_le lt2 (Nat.min_le_left _ _)
    have h2 : i < ys.size := Nat.lt_of_lt_of_le lt2 (Nat.min_le_right _ _)
    rw [List.drop_eq_getElem_cons lt] at e
    injection e with exy er
    obtain rfl : x = xs[i] := by simpa using congrArg Prod.fst exy
    obtain rfl : y = ys[i] := by simpa using congrArg Prod.snd exy
    refine wpAny_bind (wpAny_mono (turn i h1 h2 s' hI) (fun r s2 q2 => ?_) fun _ _ z => z)
    cases r with
    | true =>
      rw [if_pos rfl] at q2
      wp_walk
      exact ⟨rfl, i + 1, er, lt2, q2⟩
    | false =>
      rw [if_neg (by decide)] at q2
      have hR := stop s2 q2
      wp_walk
      exact hR
  case fin =>
    rintro ⟨q1, q2⟩ s' ⟨hq, i, e, hi, hI⟩
    simp only at hq
    subst hq
    have ge : min xs.size ys.size ≤ i := Nat.le_of_not_lt fun z => by rw [List.drop_eq_getElem_cons (hz ▸ z)] at e; cases e
    obtain rfl : i = min xs.size ys.size := Nat.le_antisymm hi ge
    have hR := fin s' hI
    wp_walk
    simpa [Builtin.Tuple.tupleCompareSizes, bne] using hR
  case h => exact ⟨rfl, 0, rfl, Nat.zero_le _, h0⟩

/-- two lists of N items stand at l and b -/
def Two (l b : Addr) (N : Nat) (s : Shared) (k : Array Value → Array Value → Prop) : Prop := ∃ (xs ys : Array Value) (n m : Nat), s.heap.get? l = some { cls := .type "list", data := .seq xs n } ∧ s.heap.get? b = some { cls := .type "list", data := .seq ys m } ∧ xs.size = N ∧ ys.size = N ∧ k xs ys
def LstI (prog : Program) (w : World) (A : Around) (E : Value → Shared → Prop) (l b : Addr) (N : Nat) (I : Nat → Shared → Prop) (J : Shared → Prop) : Prop :=
  (∀ i s, I i s → Two l b N s fun xs ys => ∀ (h1 : i < xs.size) (h2 : i < ys.size), wpAny (model prog w) A.in1 (eqBool xs[i] ys[i]) (fun r s' => if r = true then I (i + 1) s' else J s') E s) ∧ ∀ s, J s → Two l b N s fun _ _ => True

theorem list_eq_loop (l b : Addr) (N : Nat) (I : Nat → Shared → Prop) (J : Shared → Prop) (hl : LstI prog w A (fun e s' => R (.error e) s') l b N I J) (fin : ∀ s, I N s → R (.ok (.ret (.bool true))) s) (stop : ∀ s, J s → R (.ok (.ret (.bool false))) s) (k : Nat) :
    ∀ i : Nat, N - i = k → i ≤ N → ∀ s, I i s → wpAny (model prog w) A.in1 (Builtin.«list.__eq__.loop» ⟨[.ref l, .ref b, rawInt i, rawInt 2], []⟩) (FinOf prog w A R) (fun e s' => R (.error e) s') s := by
  induction k with
  | zero =>
    intro i hk hi s h
    obtain ⟨xs, ys, n, m, gl, gb, zx, zy, _⟩ := hl.1 _ _ h
    obtain rfl : i = N := by omega
    have hR := fin s h
    obtain ⟨hp, g, d, tk, os⟩ := s
    wp_walk using wpAny_loadPart' gl, wpAny_loadPart' gb
    rw [show xs[((i : Nat) : Int).toNat]? = none by simp; omega, show ys[((i : Nat) : Int).toNat]? = none by simp; omega]
    wp_walk using wpAny_loadPart' gl, wpAny_loadPart' gb
    show R (.ok (.ret (.bool (xs.size == ys.size)))) _
    rw [zx, zy]
    simpa using hR
  | succ k ih =>
    intro i hk hi s h
    obtain ⟨xs, ys, n, m, gl, gb, zx, zy, turn⟩ := hl.1 _ _ h
    have h1 : i < xs.size := by omega
    have h2 : i < ys.size := by omega
    have ht := turn h1 h2
    obtain ⟨hp, g, d, tk, os⟩ := s
    wp_walk using wpAny_loadPart' gl, wpAny_loadPart' gb
    rw [show xs[((i : Nat) : Int).toNat]? = some xs[i] by simp [h1], show ys[((i : Nat) : Int).toNat]? = some ys[i] by simp [h2]]
    refine wpAny_bind (wpAny_mono ht (fun r s2 q2 => ?_) fun _ _ z => z)
    cases r with
    | true =>
      rw [if_pos rfl] at q2
      have hrec := ih (i + 1) (by omega) (by omega) s2 q2
      obtain ⟨hp2, g2, d2, tk2, os2⟩ := s2
      wp_walk
      rw [show ((i : Int) + 1) = ((i + 1 : Nat) : Int) by omega]
      refine ⟨plainId_quiet plain_eq_loop _, codeAny_builtin entry_eq_loop ?_⟩
      rw [Around.under_plainId plain_eq_loop _]
      exact hrec
    | false =>
      rw [if_neg (by decide)] at q2
      have hR := stop s2 q2
      obtain ⟨xs2, ys2, n2, m2, gl2, gb2, zx2, zy2, _⟩ := hl.2 s2 q2
      obtain ⟨hp2, g2, d2, tk2, os2⟩ := s2
      wp_walk using wpAny_loadPart' gl2, wpAny_loadPart' gb2
      rw [show xs2[((i : Nat) : Int).toNat]? = some (xs2[i]'(by omega)) by simp [zx2], show ys2[((i : Nat) : Int).toNat]? = some (ys2[i]'(by omega)) by simp [zy2]]
      wp_walk
      exact hR

theorem list_ne_loop (l b : Addr) (N : Nat) (I : Nat → Shared → Prop) (J : Shared → Prop) (hl : LstI prog w A (fun e s' => R (.error e) s') l b N I J) (fin : ∀ s, I N s → R (.ok (.ret (.bool false))) s) (stop : ∀ s, J s → R (.ok (.ret (.bool true))) s) (k : Nat) :
    ∀ i : Nat, N - i = k → i ≤ N → ∀ s, I i s → wpAny (model prog w) A.in1 (Builtin.«list.__eq__.loop» ⟨[.ref l, .ref b, rawInt i, rawInt 3], []⟩) (FinOf prog w A R) (fun e s' => R (.error e) s') s := by
  induction k with
  | zero =>
    intro i hk hi s h
    obtain ⟨xs, ys, n, m, gl, gb, zx, zy, _⟩ := hl.1 _ _ h
    obtain rfl : i = N := by omega
    have hR := fin s h
    obtain ⟨hp, g, d, tk, os⟩ := s
    wp_walk using wpAny_loadPart' gl, wpAny_loadPart' gb
    rw [show xs[((i : Nat) : Int).toNat]? = none by simp; omega, show ys[((i : Nat) : Int).toNat]? = none by simp; omega]
    wp_walk using wpAny_loadPart' gl, wpAny_loadPart' gb
    show R (.ok (.ret (.bool (xs.size != ys.size)))) _
    rw [zx, zy]
    simpa using hR
  | succ k ih =>
    intro i hk hi s h
    obtain ⟨xs, ys, n, m, gl, gb, zx, zy, turn⟩ := hl.1 _ _ h
    have h1 : i < xs.size := by omega
    have h2 : i < ys.size := by omega
    have ht := turn h1 h2
    obtain ⟨hp, g, d, tk, os⟩ := s
    wp_walk using wpAny_loadPart' gl, wpAny_loadPart' gb
    rw [show xs[((i : Nat) : Int).toNat]? = some xs[i] by simp [h1], show ys[((i : Nat) : Int).toNat]? = some ys[i] by simp [h2]]
    refine wpAny_bind (wpAny_mono ht (fun r s2 q2 => ?_) fun _ _ z => z)
    cases r with
    | true =>
      rw [if_pos rfl] at q2
      have hrec := ih (i + 1) (by omega) (by omega) s2 q2
      obtain ⟨hp2, g2, d2, tk2, os2⟩ := s2
      wp_walk
      rw [show ((i : Int) + 1) = ((i + 1 : Nat) : Int) by omega]
      refine ⟨plainId_quiet plain_eq_loop _, codeAny_builtin entry_eq_loop ?_⟩
      rw [Around.under_plainId plain_eq_loop _]
      exact hrec
    | false =>
      rw [if_neg (by decide)] at q2
      have hR := stop s2 q2
      obtain ⟨xs2, ys2, n2, m2, gl2, gb2, zx2, zy2, _⟩ := hl.2 s2 q2
      obtain ⟨hp2, g2, d2, tk2, os2⟩ := s2
      wp_walk using wpAny_loadPart' gl2, wpAny_loadPart' gb2
      rw [show xs2[((i : Nat) : Int).toNat]? = some (xs2[i]'(by omega)) by simp [zx2], show ys2[((i : Nat) : Int).toNat]? = some (ys2[i]'(by omega)) by simp [zy2]]
      wp_walk
      exact hR

theorem list_eq (l b : Addr) (N : Nat) (I : Nat → Shared → Prop) (J : Shared → Prop) (hl : LstI prog w A (fun e s' => R (.error e) s') l b N I J) (fin : ∀ s, I N s → R (.ok (.ret (.bool true))) s) (stop : ∀ s, J s → R (.ok (.ret (.bool false))) s) {s : Shared} (h : I 0 s) :
    wpAny (model prog w) A.in1 (Builtin.«list.__eq__» ⟨[.ref l, .ref b], []⟩) (FinOf prog w A R) (fun e s' => R (.error e) s') s := by
  obtain ⟨xs, ys, n, m, gl, gb, zx, zy, _⟩ := hl.1 _ _ h
  have hrec := list_eq_loop l b N I J hl fin stop _ 0 rfl (Nat.zero_le _) s h
  obtain ⟨hp, g, d, tk, os⟩ := s
  have f3 := AutoSeq1.sub_list_list
  have hne : ¬ (xs.size != ys.size) = true := by simp [zx, zy]
  wp_walk using wpAny_loadPart' gl, wpAny_loadPart' gb
  refine ⟨plainId_quiet plain_eq_loop _, codeAny_builtin entry_eq_loop ?_⟩
  rw [Around.under_plainId plain_eq_loop _]
  exact hrec
theorem list_eq_len (l b : Addr) {xs ys : Array Value} {n m : Nat} {s : Shared} (gl : s.heap.get? l = some { cls := .type "list", data := .seq xs n }) (gb : s.heap.get? b = some { cls := .type "list", data := .seq ys m }) (hne : (xs.size != ys.size) = true) (stop : R (.ok (.ret (.bool false))) s) :
    wpAny (model prog w) A.in1 (Builtin.«list.__eq__» ⟨[.ref l, .ref b], []⟩) (FinOf prog w A R) (fun e s' => R (.error e) s') s := by
  obtain ⟨hp, g, d, tk, os⟩ := s
  have f3 := AutoSeq1.sub_list_list
  wp_walk using wpAny_loadPart' gl, wpAny_loadPart' gb
  exact stop

theorem list_ne (l b : Addr) (N : Nat) (I : Nat → Shared → Prop) (J : Shared → Prop) (hl : LstI prog w A (fun e s' => R (.error e) s') l b N I J) (fin : ∀ s, I N s → R (.ok (.ret (.bool false))) s) (stop : ∀ s, J s → R (.ok (.ret (.bool true))) s) {s : Shared} (h : I 0 s) :
    wpAny (model prog w) A.in1 (Builtin.«list.__ne__» ⟨[.ref l, .ref b], []⟩) (FinOf prog w A R) (fun e s' => R (.error e) s') s := by
  obtain ⟨xs, ys, n, m, gl, gb, zx, zy, _⟩ := hl.1 _ _ h
  have hrec := list_ne_loop l b N I J hl fin stop _ 0 rfl (Nat.zero_le _) s h
  obtain ⟨hp, g, d, tk, os⟩ := s
  have f3 := AutoSeq1.sub_list_list
  have hne : ¬ (xs.size != ys.size) = true := by simp [zx, zy]
  wp_walk using wpAny_loadPart' gl, wpAny_loadPart' gb
  refine ⟨plainId_quiet plain_eq_loop _, codeAny_builtin entry_eq_loop ?_⟩
  rw [Around.under_plainId plain_eq_loop _]
  exact hrec
theorem list_ne_len (l b : Addr) {xs ys : Array Value} {n m : Nat} {s : Shared} (gl : s.heap.get? l = some { cls := .type "list", data := .seq xs n }) (gb : s.heap.get? b = some { cls := .type "list", data := .seq ys m }) (hne : (xs.size != ys.size) = true) (stop : R (.ok (.ret (.bool true))) s) :
    wpAny (model prog w) A.in1 (Builtin.«list.__ne__» ⟨[.ref l, .ref b], []⟩) (FinOf prog w A R) (fun e s' => R (.error e) s') s := by
  obtain ⟨hp, g, d, tk, os⟩ := s
  have f3 := AutoSeq1.sub_list_list
  wp_walk using wpAny_loadPart' gl, wpAny_loadPart' gb
  exact stop
end
section
variable {prog : Program} {w : World} {A : Around} {E : Value → Shared → Prop} {s : Shared}

theorem rc_list_eq {l b : Addr} {N : Nat} {Q : Value → Shared → Prop} (hu : A.units < cLine) (I : Nat → Shared → Prop) (J : Shared → Prop) (hl : LstI prog w A E l b N I J) (fin : ∀ s, I N s → Q (.bool true) s) (stop : ∀ s, J s → Q (.bool false) s) (h : I 0 s) :
    wpAny (model prog w) A (richCompare .Eq (.ref l) (.ref b)) Q E s := by
  obtain ⟨xs, ys, n, m, gl, gb, _⟩ := hl.1 _ _ h
  refine wpAny_richCompare_same_room (op := .Eq) ⟨_, gl, rfl⟩ ⟨_, gb, rfl⟩ F.slot_list_eq (call_here F.slot_list_eq ⟨_, gl, rfl⟩ F.entry_list_eq (F.args_list_eq_2 _ _) ?_) hu
  exact list_eq (R := wants (fun v s' => v ≠ .notImplemented ∧ Q v s') E) l b N I J hl (fun s' q => ⟨(fun z => nomatch z), fin s' q⟩) (fun s' q => ⟨(fun z => nomatch z), stop s' q⟩) h
theorem rc_list_eq_len {l b : Addr} {xs ys : Array Value} {n m : Nat} {Q : Value → Shared → Prop} (hu : A.units < cLine) (gl : s.heap.get? l = some { cls := .type "list", data := .seq xs n }) (gb : s.heap.get? b = some { cls := .type "list", data := .seq ys m }) (hne : (xs.size != ys.size) = true) (h : Q (.bool false) s) :
    wpAny (model prog w) A (richCompare .Eq (.ref l) (.ref b)) Q E s := by
  refine wpAny_richCompare_same_room (op := .Eq) ⟨_, gl, rfl⟩ ⟨_, gb, rfl⟩ F.slot_list_eq (call_here F.slot_list_eq ⟨_, gl, rfl⟩ F.entry_list_eq (F.args_list_eq_2 _ _) ?_) hu
  exact list_eq_len (R := wants (fun v s' => v ≠ .notImplemented ∧ Q v s') E) l b gl gb hne ⟨(fun z => nomatch z), h⟩
theorem rc_tup_eq {l b : Addr} {xs ys : Array Value} {Q : Value → Shared → Prop} (hu : A.units < cLine) (I : Nat → Shared → Prop) (J : Shared → Prop) (hl : s.heap.IsTuple l xs) (hb : s.heap.IsTuple b ys)
    (turn : ∀ i (h1 : i < xs.size) (h2 : i < ys.size) s, I i s → wpAny (model prog w) A.in1 (eqBool xs[i] ys[i]) (fun r s' => if r = true then I (i + 1) s' else J s') E s)
    (fin : ∀ s, I (min xs.size ys.size) s → Q (.bool ((xs.size == ys.size))) s) (stop : ∀ s, J s → Q (.bool false) s) (h : I 0 s) : wpAny (model prog w) A (richCompare .Eq (.ref l) (.ref b)) Q E s := by
  obtain ⟨⟨c1, d1, t1, s1⟩, g1, k1, n1, q1⟩ := id hl
  obtain ⟨⟨c2, d2, t2, s2⟩, g2, k2, n2, q2⟩ := id hb
  simp only at k1 q1 k2 q2
  subst k1 q1 k2 q2
  refine wpAny_richCompare_same_room (op := .Eq) ⟨_, g1, rfl⟩ ⟨_, g2, rfl⟩ F.slot_tuple_eq (call_here F.slot_tuple_eq ⟨_, g1, rfl⟩ F.entry_tuple_eq (F.args_tuple_eq_2 _ _) ?_) hu
  exact tuple_eq (R := wants (fun v s' => v ≠ .notImplemented ∧ Q v s') E) l b xs ys n1 n2 d1 d2 s1 s2 I J turn (fun s' q => ⟨(fun z => nomatch z), fin s' q⟩) (fun s' q => ⟨(fun z => nomatch z), stop s' q⟩) g1 g2 h

theorem rc_list_ne {l b : Addr} {N : Nat} {Q : Value → Shared → Prop} (hu : A.units < cLine) (I : Nat → Shared → Prop) (J : Shared → Prop) (hl : LstI prog w A E l b N I J) (fin : ∀ s, I N s → Q (.bool false) s) (stop : ∀ s, J s → Q (.bool true) s) (h : I 0 s) :
    wpAny (model prog w) A (richCompare .NotEq (.ref l) (.ref b)) Q E s := by
  obtain ⟨xs, ys, n, m, gl, gb, _⟩ := hl.1 _ _ h
  refine wpAny_richCompare_same_room (op := .NotEq) ⟨_, gl, rfl⟩ ⟨_, gb, rfl⟩ F.slot_list_ne (call_here F.slot_list_ne ⟨_, gl, rfl⟩ F.entry_list_ne (F.args_list_ne_2 _ _) ?_) hu
  exact list_ne (R := wants (fun v s' => v ≠ .notImplemented ∧ Q v s') E) l b N I J hl (fun s' q => ⟨(fun z => nomatch z), fin s' q⟩) (fun s' q => ⟨(fun z => nomatch z), stop s' q⟩) h
theorem rc_list_ne_len {l b : Addr} {xs ys : Array Value} {n m : Nat} {Q : Value → Shared → Prop} (hu : A.units < cLine) (gl : s.heap.get? l = some { cls := .type "list", data := .seq xs n }) (gb : s.heap.get? b = some { cls := .type "list", data := .seq ys m }) (hne : (xs.size != ys.size) = true) (h : Q (.bool true) s) :
    wpAny (model prog w) A (richCompare .NotEq (.ref l) (.ref b)) Q E s := by
  refine wpAny_richCompare_same_room (op := .NotEq) ⟨_, gl, rfl⟩ ⟨_, gb, rfl⟩ F.slot_list_ne (call_here F.slot_list_ne ⟨_, gl, rfl⟩ F.entry_list_ne (F.args_list_ne_2 _ _) ?_) hu
  exact list_ne_len (R := wants (fun v s' => v ≠ .notImplemented ∧ Q v s') E) l b gl gb hne ⟨(fun z => nomatch z), h⟩
theorem rc_tup_ne {l b : Addr} {xs ys : Array Value} {Q : Value → Shared → Prop} (hu : A.units < cLine) (I : Nat → Shared → Prop) (J : Shared → Prop) (hl : s.heap.IsTuple l xs) (hb : s.heap.IsTuple b ys)
    (turn : ∀ i (h1 : i < xs.size) (h2 : i < ys.size) s, I i s → wpAny (model prog w) A.in1 (eqBool xs[i] ys[i]) (fun r s' => if r = true then I (i + 1) s' else J s') E s)
    (fin : ∀ s, I (min xs.size ys.size) s → Q (.bool (!(xs.size == ys.size))) s) (stop : ∀ s, J s → Q (.bool true) s) (h : I 0 s) : wpAny (model prog w) A (richCompare .NotEq (.ref l) (.ref b)) Q E s := by
  obtain ⟨⟨c1, d1, t1, s1⟩, g1, k1, n1, q1⟩ := id hl
  obtain ⟨⟨c2, d2, t2, s2⟩, g2, k2, n2, q2⟩ := id hb
  simp only at k1 q1 k2 q2
  subst k1 q1 k2 q2
  refine wpAny_richCompare_same_room (op := .NotEq) ⟨_, g1, rfl⟩ ⟨_, g2, rfl⟩ F.slot_tuple_ne (call_here F.slot_tuple_ne ⟨_, g1, rfl⟩ F.entry_tuple_ne (F.args_tuple_ne_2 _ _) ?_) hu
  exact tuple_ne (R := wants (fun v s' => v ≠ .notImplemented ∧ Q v s') E) l b xs ys n1 n2 d1 d2 s1 s2 I J turn (fun s' q => ⟨(fun z => nomatch z), fin s' q⟩) (fun s' q => ⟨(fun z => nomatch z), stop s' q⟩) g1 g2 h
end
end NwQ

set_option Elab.async false
set_option linter.all false
set_option maxRecDepth 100000
set_option maxHeartbeats 4000000
/-! Nw10: == and != by the text's own __eq__, by plain data. -/
namespace NwN
open PySem PySem.W
section
variable {prog : Program} {w : World} {A : Around} {E : Value → Shared → Prop} {s : Shared} {K : Frag} {x C f : Addr} {ox : Obj} {od : Option Obj} {b tb : Value}
/-- x != b, x an instance whose class has an own __eq__ and no own __ne__ -/
theorem tryNe_K {Q : Value → Shared → Prop} (hu : A.units + 1 < cLine) (X : K.In s.heap) (I : InstAt s.heap x ox C od)
    (hne : findIn K (.ref C) "__ne__" = some (some (.builtin "object.__ne__"))) (hs : findIn K (.ref C) "__eq__" = some (some (.ref f))) (hf : isFn K (.ref f) = true) (ho : subIn K (.ref C) (.type "object") = some true)
    (h : wpAny (model prog w) A.in1 (call (.ref f) [.ref x, b]) (fun v s' => ∃ k, v = .bool k ∧ Q (.bool (!k)) s') E s) : wpAny (model prog w) A (tryCompare (.ref x) "__ne__" b) (fun r s' => ∃ v, r = some v ∧ Q v s') E s := by
  have inner : ∀ {Q' : Fin → Shared → Prop}, (∀ k s', Q (.bool (!k)) s' → Q' (.done (.ret (.bool (!k)))) s') → wpAny (model prog w) A.in1 (Builtin.«object.__ne__» ⟨[.ref x, b], []⟩) Q' E s := by
    intro Q' hQ
    unfold Builtin.«object.__ne__»
    have hcall : wpAny (model prog w) A.in1 (callSpecialIfBound? (.ref x) (Str.ofString "__eq__") [b]) (fun r s' => ∃ k, r = some (.bool k) ∧ Q (.bool (!k)) s') E s :=
      ifBound_K X I hs hf (wpAny_mono h (fun v s' hv => by obtain ⟨k, rfl, q⟩ := hv; exact ⟨k, rfl, q⟩) fun _ _ e => e)
    repeat (first
      | with_reducible refine wpAny_cRoomFor hu ?_
      | (refine wpAny_bind (m := callSpecialIfBound? (.ref x) (Str.ofString "__eq__") [b]) (wpAny_mono hcall (fun r s' hr => by
          obtain ⟨k, rfl, hq⟩ := hr
          have hq' := hQ k s' hq
          repeat (first | exact hq' | exact wpAny_pure hq' | exact wpAny_truthy_bool hq' | (refine wpAny_bind (m := truthy (.bool _)) (wpAny_truthy_bool ?_)) | wp_step)) fun _ _ e => e))
      | wp_step)
  simp only [tryCompare, callSpecialIfBound?, bindSpecialIfBound?]
  refine wpAny_bind (wpAny_holding (wpAny_bind (wpAny_bind (wpAny_bind (I.type.here ((looks_findIn X hne).here ?_))))))
  have S : Slot "object" "__ne__" "object.__ne__" := F.slot_object_ne
  simp only [S.bind]
  have fin : wpAny (model prog w) A (call (.builtin "object.__ne__") ([.ref x] ++ [b])) (fun v s' => ∃ k, v = .bool (!k) ∧ Q (.bool (!k)) s') E s := by
    refine wpAny_call (codeAny_call_builtin S.plain F.entry_object_ne ?_)
    show wpAny _ _ (checkBuiltinCall "object.__ne__" ⟨.ref x :: [b], []⟩) _ _ _
    have go : wpAny (model prog w) A.in1 (Builtin.«object.__ne__» ⟨[.ref x, b], []⟩) (fun fin s' => match fin with
        | .done f => wants (fun v s' => ∃ k, v = .bool (!k) ∧ Q (.bool (!k)) s') E (.ok f) s'
        | .again c' => c'.quiet = true ∧ codeAny (model prog w) A c' (wants (fun v s' => ∃ k, v = .bool (!k) ∧ Q (.bool (!k)) s') E) s') E s := inner fun k s' q => ⟨k, rfl, q⟩
    have hk := F.cmpKind_ne
    have hsp := F.cmpSplit_ne
    have ha := F.cmpArgs_ne (.ref x) b
    simp only [checkBuiltinCall, hk, hsp]
    refine wpAny_bind ?_
    unfold isInstance
    refine wpAny_bind (I.type.here ((looks_subIn X ho).here ?_))
    simp only [if_true, Bool.not_true, Bool.false_eq_true, if_false]
    cases hsig : Manifest.signature? "object.__ne__" with
    | none => exact wpAny_pure go
    | some sig =>
      simp only [argsOk, hsig] at ha
      have h2 : Bind.checkArgs "object.__ne__" sig ⟨.ref x :: [b], []⟩ = pure () := ha
      show wpAny _ _ (Bind.checkArgs "object.__ne__" sig ⟨.ref x :: [b], []⟩) _ _ _
      rw [h2]
      exact wpAny_pure go
  have done : wpAny (model prog w) A (call (.builtin "object.__ne__") ([.ref x] ++ [b]) >>= fun v => pure (some v)) (fun r s' => wpAny (model prog w) A (match r with
      | some .notImplemented | none => (pure none : Sem (Option Value))
      | some v => pure (some v)) (fun r s' => ∃ v, r = some v ∧ Q v s') E s') E s := by
    refine wpAny_bind (wpAny_mono fin (fun v s' hv => ?_) fun _ _ e => e)
    obtain ⟨k, rfl, q⟩ := hv
    exact wpAny_pure (wpAny_pure ⟨_, rfl, q⟩)
  refine wpAny_bind (wpAny_askSetting (wpAny_ite ?_))
  split
  · exact wpAny_bind (wpAny_pure (wpAny_pure done))
  · exact wpAny_tryCatch (wpAny_bind (wpAny_pure (wpAny_pure done)))
/-- x != b, x an instance whose class has an own __eq__ and no own __ne__ -/
theorem ne_K {Q : Value → Shared → Prop} (hu : A.units + 1 < cLine) (X : K.In s.heap) (I : InstAt s.heap x ox C od) (hb : Looks (model prog w) s.heap (typeOf b) tb) (hn : notFirst K C tb = true)
    (hne : findIn K (.ref C) "__ne__" = some (some (.builtin "object.__ne__"))) (hs : findIn K (.ref C) "__eq__" = some (some (.ref f))) (hf : isFn K (.ref f) = true) (ho : subIn K (.ref C) (.type "object") = some true)
    (h : wpAny (model prog w) A.in1 (call (.ref f) [.ref x, b]) (fun v s' => ∃ k, v = .bool k ∧ Q (.bool (!k)) s') E s) : wpAny (model prog w) A (richCompare .NotEq (.ref x) b) Q E s := by
  have one := tryNe_K (Q := Q) hu X I hne hs hf ho h
  unfold richCompare
  simp only [oneThing_ref]
  refine wpAny_holding (wpAny_bind (wpAny_cRoomFor (Nat.lt_of_succ_lt hu) ?_))
  refine wpAny_bind (I.type.here (wpAny_bind (hb.here ?_)))
  have last : wpAny (model prog w) A (tryCompare (.ref x) (cmpInfo .NotEq).2.1 b) (fun r s' => ∃ v, r = some v ∧ Q v s') E s := one
  split
  · rename_i q
    have e : subIn K tb (.ref C) = some false := by
      rcases Bool.or_eq_true_iff.mp hn with e | e
      · rw [beq_iff_eq.mp e] at q; simp at q
      · exact beq_iff_eq.mp e
    refine wpAny_bind ((looks_subIn X e).here ?_)
    simp only [Bool.false_eq_true, if_false]
    refine wpAny_bind (wpAny_mono last (fun r s' z => ?_) fun _ _ e => e)
    obtain ⟨v, rfl, hq⟩ := z
    exact wpAny_pure hq
  · refine wpAny_bind (wpAny_pure ?_)
    simp only [Bool.false_eq_true, if_false]
    refine wpAny_bind (wpAny_mono last (fun r s' z => ?_) fun _ _ e => e)
    obtain ⟨v, rfl, hq⟩ := z
    exact wpAny_pure hq
end
end NwN

set_option Elab.async false
set_option linter.all false
set_option maxRecDepth 100000
set_option maxHeartbeats 4000000
/-! Nw10b: == and != where the left side declines and the right side is an instance with an own __eq__. -/
namespace NwR
open PySem PySem.W PySem.SeqAt
open AutoSeq1 (wpAny_loadPart')
open MeetsSeq MeetsSeq2 MeetsSeq3 SeqRoads2
open GQ (FinOf call_here)
section
variable {prog : Program} {w : World} {A : Around} {R : Result → Shared → Prop} {s : Shared} {x C dx : Addr} {K : Frag}
theorem dec_str_eq (a : Str) (t : Tok) (g : s.heap.get? x = some (instObj C dx)) (h : R (.ok (.ret .notImplemented)) s) : wpAny (model prog w) A.in1 (Builtin.«str.__eq__» ⟨[.str a t, .ref x], []⟩) (FinOf prog w A R) (fun e s' => R (.error e) s') s := by
  obtain ⟨hp, gg, d, tk, os⟩ := s
  unfold instObj at g
  wp_walk using wpAny_loadPart' g
  exact h
theorem dec_str_ne (a : Str) (t : Tok) (g : s.heap.get? x = some (instObj C dx)) (h : R (.ok (.ret .notImplemented)) s) : wpAny (model prog w) A.in1 (Builtin.«str.__ne__» ⟨[.str a t, .ref x], []⟩) (FinOf prog w A R) (fun e s' => R (.error e) s') s := by
  obtain ⟨hp, gg, d, tk, os⟩ := s
  unfold instObj at g
  wp_walk using wpAny_loadPart' g
  exact h
theorem dec_int_eq (a : Int) (t : Tok) (g : s.heap.get? x = some (instObj C dx)) (h : R (.ok (.ret .notImplemented)) s) : wpAny (model prog w) A.in1 (Builtin.«int.__eq__» ⟨[.int a t, .ref x], []⟩) (FinOf prog w A R) (fun e s' => R (.error e) s') s := by
  obtain ⟨hp, gg, d, tk, os⟩ := s
  unfold instObj at g
  wp_walk using wpAny_loadPart' g
  exact h
theorem dec_int_ne (a : Int) (t : Tok) (g : s.heap.get? x = some (instObj C dx)) (h : R (.ok (.ret .notImplemented)) s) : wpAny (model prog w) A.in1 (Builtin.«int.__ne__» ⟨[.int a t, .ref x], []⟩) (FinOf prog w A R) (fun e s' => R (.error e) s') s := by
  obtain ⟨hp, gg, d, tk, os⟩ := s
  unfold instObj at g
  wp_walk using wpAny_loadPart' g
  exact h
theorem dec_bool_eq (a : Bool) (g : s.heap.get? x = some (instObj C dx)) (h : R (.ok (.ret .notImplemented)) s) : wpAny (model prog w) A.in1 (Builtin.«int.__eq__» ⟨[.bool a, .ref x], []⟩) (FinOf prog w A R) (fun e s' => R (.error e) s') s := by
  obtain ⟨hp, gg, d, tk, os⟩ := s
  unfold instObj at g
  wp_walk using wpAny_loadPart' g
  exact h
theorem dec_bool_ne (a : Bool) (g : s.heap.get? x = some (instObj C dx)) (h : R (.ok (.ret .notImplemented)) s) : wpAny (model prog w) A.in1 (Builtin.«int.__ne__» ⟨[.bool a, .ref x], []⟩) (FinOf prog w A R) (fun e s' => R (.error e) s') s := by
  obtain ⟨hp, gg, d, tk, os⟩ := s
  unfold instObj at g
  wp_walk using wpAny_loadPart' g
  exact h
theorem isI_no {b : Value} {E : Value → Shared → Prop} {M : Model} {T : String} {od : Option Obj} {ox : Obj} {Q : Bool → Shared → Prop} (X : K.In s.heap) (I : InstAt s.heap x ox C od) (hs : subIn K (.ref C) (.type T) = some false) (h : Q false s) : wpAny M A (isInstance (.ref x) (.type T)) Q E s := by
  unfold isInstance
  exact wpAny_bind (I.type.here ((looks_subIn X hs).here h))
theorem dec_tup_eq {l : Addr} {od : Option Obj} {ox : Obj} (X : K.In s.heap) (I : InstAt s.heap x ox C od) (hs : subIn K (.ref C) (.type "tuple") = some false) (h : R (.ok (.ret .notImplemented)) s) : wpAny (model prog w) A.in1 (Builtin.«tuple.__eq__» ⟨[.ref l, .ref x], []⟩) (FinOf prog w A R) (fun e s' => R (.error e) s') s := by
  unfold Builtin.«tuple.__eq__»
  repeat (first | with_reducible refine isI_no (b := .none) X I hs ?_ | wp_step)
  exact h
theorem dec_tup_ne {l : Addr} {od : Option Obj} {ox : Obj} (X : K.In s.heap) (I : InstAt s.heap x ox C od) (hs : subIn K (.ref C) (.type "tuple") = some false) (h : R (.ok (.ret .notImplemented)) s) : wpAny (model prog w) A.in1 (Builtin.«tuple.__ne__» ⟨[.ref l, .ref x], []⟩) (FinOf prog w A R) (fun e s' => R (.error e) s') s := by
  unfold Builtin.«tuple.__ne__»
  repeat (first | with_reducible refine isI_no (b := .none) X I hs ?_ | wp_step)
  exact h
theorem dec_list_eq {l : Addr} {od : Option Obj} {ox : Obj} (X : K.In s.heap) (I : InstAt s.heap x ox C od) (hs : subIn K (.ref C) (.type "list") = some false) (h : R (.ok (.ret .notImplemented)) s) : wpAny (model prog w) A.in1 (Builtin.«list.__eq__» ⟨[.ref l, .ref x], []⟩) (FinOf prog w A R) (fun e s' => R (.error e) s') s := by
  unfold Builtin.«list.__eq__»
  repeat (first | with_reducible refine isI_no (b := .none) X I hs ?_ | wp_step)
  exact h
theorem dec_list_ne {l : Addr} {od : Option Obj} {ox : Obj} (X : K.In s.heap) (I : InstAt s.heap x ox C od) (hs : subIn K (.ref C) (.type "list") = some false) (h : R (.ok (.ret .notImplemented)) s) : wpAny (model prog w) A.in1 (Builtin.«list.__ne__» ⟨[.ref l, .ref x], []⟩) (FinOf prog w A R) (fun e s' => R (.error e) s') s := by
  unfold Builtin.«list.__ne__»
  repeat (first | with_reducible refine isI_no (b := .none) X I hs ?_ | wp_step)
  exact h
theorem dec_dict_eq {l : Addr} {od : Option Obj} {ox : Obj} (X : K.In s.heap) (I : InstAt s.heap x ox C od) (hs : subIn K (.ref C) (.type "dict") = some false) (h : R (.ok (.ret .notImplemented)) s) : wpAny (model prog w) A.in1 (Builtin.«dict.__eq__» ⟨[.ref l, .ref x], []⟩) (FinOf prog w A R) (fun e s' => R (.error e) s') s := by
  unfold Builtin.«dict.__eq__»
  repeat (first | with_reducible refine isI_no (b := .none) X I hs ?_ | wp_step)
  exact h
theorem dec_dict_ne {l : Addr} {od : Option Obj} {ox : Obj} (X : K.In s.heap) (I : InstAt s.heap x ox C od) (hs : subIn K (.ref C) (.type "dict") = some false) (h : R (.ok (.ret .notImplemented)) s) : wpAny (model prog w) A.in1 (Builtin.«dict.__ne__» ⟨[.ref l, .ref x], []⟩) (FinOf prog w A R) (fun e s' => R (.error e) s') s := by
  unfold Builtin.«dict.__ne__»
  repeat (first | with_reducible refine isI_no (b := .none) X I hs ?_ | wp_step)
  exact h
end
section
variable {prog : Program} {w : World} {A : Around} {E : Value → Shared → Prop} {s : Shared} {x C f dx : Addr} {K : Frag} {ox : Obj} {od : Option Obj} {a : Value} {T id : String}
theorem refl_eq {Q : Value → Shared → Prop} (hu : A.units < cLine) (X : K.In s.heap) (I : InstAt s.heap x ox C od) (ha : s.TypeIs a T) (hsub : subIn K (.ref C) (.type T) = some false) (S : Slot T (cmpInfo .Eq).2.1 id)
    (dec : ∀ Q' : Value → Shared → Prop, Q' .notImplemented s → wpAny (model prog w) A (call (.builtin id) [a, .ref x]) Q' E s) (hs : findIn K (.ref C) "__eq__" = some (some (.ref f))) (hf : isFn K (.ref f) = true)
    (h : wpAny (model prog w) A (call (.ref f) [.ref x, a]) (CmpBack Q) E s) : wpAny (model prog w) A (richCompare .Eq a (.ref x)) Q E s := by
  have one : wpAny (model prog w) A (tryCompare (.ref x) (cmpInfo .Eq).2.2 a) (fun r s' => ∃ v, r = some v ∧ Q v s') E s := by
    unfold tryCompare
    refine wpAny_bind (ifBound_K X I hs hf (wpAny_mono h (fun v s' hv => ?_) fun _ _ e => e))
    cases v <;> first | exact hv.elim | exact wpAny_pure ⟨_, rfl, hv⟩
  rcases hi : cmpInfo CmpOp.Eq with ⟨sym, g, r⟩
  rw [hi] at S one
  simp only [richCompare, hi, ha.oneThing_none]
  refine wpAny_holding (wpAny_bind (wpAny_cRoomFor hu ?_))
  refine wpAny_bind (wpAny_typeOf ha (wpAny_bind (I.type.here ?_)))
  split
  · refine wpAny_bind ((looks_subIn X hsub).here ?_)
    simp only [Bool.false_eq_true, if_false, Bool.not_false, if_true]
    refine wpAny_bind (m := tryCompare a _ (.ref x)) (wpAny_tryCompare_declines ha S (dec _ ⟨rfl, ?_⟩))
    refine wpAny_bind (wpAny_mono one (fun r s' z => ?_) fun _ _ e => e)
    obtain ⟨v, rfl, hq⟩ := z
    exact wpAny_pure hq
  · rename_i q
    exact absurd (by simp) q
theorem refl_ne {Q : Value → Shared → Prop} (hu : A.units + 1 < cLine) (X : K.In s.heap) (I : InstAt s.heap x ox C od) (ha : s.TypeIs a T) (hsub : subIn K (.ref C) (.type T) = some false) (S : Slot T (cmpInfo .NotEq).2.1 id)
    (dec : ∀ Q' : Value → Shared → Prop, Q' .notImplemented s → wpAny (model prog w) A (call (.builtin id) [a, .ref x]) Q' E s) (hne : findIn K (.ref C) "__ne__" = some (some (.builtin "object.__ne__"))) (hs : findIn K (.ref C) "__eq__" = some (some (.ref f))) (hf : isFn K (.ref f) = true) (ho : subIn K (.ref C) (.type "object") = some true)
    (h : wpAny (model prog w) A.in1 (call (.ref f) [.ref x, a]) (fun v s' => ∃ k, v = .bool k ∧ Q (.bool (!k)) s') E s) : wpAny (model prog w) A (richCompare .NotEq a (.ref x)) Q E s := by
  have one : wpAny (model prog w) A (tryCompare (.ref x) (cmpInfo .NotEq).2.2 a) (fun r s' => ∃ v, r = some v ∧ Q v s') E s := NwN.tryNe_K hu X I hne hs hf ho h
  rcases hi : cmpInfo CmpOp.NotEq with ⟨sym, g, r⟩
  rw [hi] at S one
  simp only [richCompare, hi, ha.oneThing_none]
  refine wpAny_holding (wpAny_bind (wpAny_cRoomFor (Nat.lt_of_succ_lt hu) ?_))
  refine wpAny_bind (wpAny_typeOf ha (wpAny_bind (I.type.here ?_)))
  split
  · refine wpAny_bind ((looks_subIn X hsub).here ?_)
    simp only [Bool.false_eq_true, if_false, Bool.not_false, if_true]
    refine wpAny_bind (m := tryCompare a _ (.ref x)) (wpAny_tryCompare_declines ha S (dec _ ⟨rfl, ?_⟩))
    refine wpAny_bind (wpAny_mono one (fun r s' z => ?_) fun _ _ e => e)
    obtain ⟨v, rfl, hq⟩ := z
    exact wpAny_pure hq
  · rename_i q
    exact absurd (by simp) q
/-- a value of type T declines == and != with the instance at x -/
structure Dec (prog : Program) (w : World) (A : Around) (E : Value → Shared → Prop) (s : Shared) (x : Addr) (a : Value) (T : String) : Prop where
  ty : s.TypeIs a T
  eq : ∃ id, Slot T (cmpInfo .Eq).2.1 id ∧ ∀ Q' : Value → Shared → Prop, Q' .notImplemented s → wpAny (model prog w) A (call (.builtin id) [a, .ref x]) Q' E s
  ne : ∃ id, Slot T (cmpInfo .NotEq).2.1 id ∧ ∀ Q' : Value → Shared → Prop, Q' .notImplemented s → wpAny (model prog w) A (call (.builtin id) [a, .ref x]) Q' E s
theorem dec_none : Dec prog w A E s x .none "NoneType" where
  ty := rfl
  eq := ⟨_, F.slot_NoneType_eq, fun Q' q => call_gives F.slot_NoneType_eq rfl F.entry_NoneType_eq (F.args_NoneType_eq_2 _ _) (NoneType___eq___none_ref_0 x) q⟩
  ne := ⟨_, F.slot_NoneType_ne, fun Q' q => call_gives F.slot_NoneType_ne rfl F.entry_NoneType_ne (F.args_NoneType_ne_2 _ _) (NoneType___ne___none_ref_0 x) q⟩
theorem dec_str (v : Str) (t : Tok) (g : s.heap.get? x = some (instObj C dx)) : Dec prog w A E s x (.str v t) "str" where
  ty := rfl
  eq := ⟨_, F.slot_str_eq, fun Q' q => call_here F.slot_str_eq rfl F.entry_str_eq (F.args_str_eq_2 _ _) (dec_str_eq (R := wants Q' E) v t g q)⟩
  ne := ⟨_, F.slot_str_ne, fun Q' q => call_here F.slot_str_ne rfl F.entry_str_ne (F.args_str_ne_2 _ _) (dec_str_ne (R := wants Q' E) v t g q)⟩
theorem dec_int (v : Int) (t : Tok) (g : s.heap.get? x = some (instObj C dx)) : Dec prog w A E s x (.int v t) "int" where
  ty := rfl
  eq := ⟨_, F.slot_int_eq, fun Q' q => call_here F.slot_int_eq rfl F.entry_int_eq (F.args_int_eq_2 _ _) (dec_int_eq (R := wants Q' E) v t g q)⟩
  ne := ⟨_, F.slot_int_ne, fun Q' q => call_here F.slot_int_ne rfl F.entry_int_ne (F.args_int_ne_2 _ _) (dec_int_ne (R := wants Q' E) v t g q)⟩
theorem dec_bool (v : Bool) (g : s.heap.get? x = some (instObj C dx)) : Dec prog w A E s x (.bool v) "bool" where
  ty := rfl
  eq := ⟨_, F.slot_bool_eq, fun Q' q => call_here F.slot_bool_eq rfl F.entry_int_eq (F.args_int_eq_2 _ _) (dec_bool_eq (R := wants Q' E) v g q)⟩
  ne := ⟨_, F.slot_bool_ne, fun Q' q => call_here F.slot_bool_ne rfl F.entry_int_ne (F.args_int_ne_2 _ _) (dec_bool_ne (R := wants Q' E) v g q)⟩
theorem dec_tuple {l : Addr} (X : K.In s.heap) (I : InstAt s.heap x ox C od) (hs : subIn K (.ref C) (.type "tuple") = some false) (hT : s.TypeIs (.ref l) "tuple") : Dec prog w A E s x (.ref l) "tuple" where
  ty := hT
  eq := ⟨_, F.slot_tuple_eq, fun Q' q => call_here F.slot_tuple_eq hT F.entry_tuple_eq (F.args_tuple_eq_2 _ _) (dec_tup_eq (R := wants Q' E) X I hs q)⟩
  ne := ⟨_, F.slot_tuple_ne, fun Q' q => call_here F.slot_tuple_ne hT F.entry_tuple_ne (F.args_tuple_ne_2 _ _) (dec_tup_ne (R := wants Q' E) X I hs q)⟩
theorem dec_list {l : Addr} (X : K.In s.heap) (I : InstAt s.heap x ox C od) (hs : subIn K (.ref C) (.type "list") = some false) (hT : s.TypeIs (.ref l) "list") : Dec prog w A E s x (.ref l) "list" where
  ty := hT
  eq := ⟨_, F.slot_list_eq, fun Q' q => call_here F.slot_list_eq hT F.entry_list_eq (F.args_list_eq_2 _ _) (dec_list_eq (R := wants Q' E) X I hs q)⟩
  ne := ⟨_, F.slot_list_ne, fun Q' q => call_here F.slot_list_ne hT F.entry_list_ne (F.args_list_ne_2 _ _) (dec_list_ne (R := wants Q' E) X I hs q)⟩
theorem dec_dict {l : Addr} (X : K.In s.heap) (I : InstAt s.heap x ox C od) (hs : subIn K (.ref C) (.type "dict") = some false) (hT : s.TypeIs (.ref l) "dict") : Dec prog w A E s x (.ref l) "dict" where
  ty := hT
  eq := ⟨_, F.slot_dict_eq, fun Q' q => call_here F.slot_dict_eq hT F.entry_dict_eq (F.args_dict_eq_2 _ _) (dec_dict_eq (R := wants Q' E) X I hs q)⟩
  ne := ⟨_, F.slot_dict_ne, fun Q' q => call_here F.slot_dict_ne hT F.entry_dict_ne (F.args_dict_ne_2 _ _) (dec_dict_ne (R := wants Q' E) X I hs q)⟩
end
end NwR

set_option Elab.async false
set_option linter.all false
set_option maxRecDepth 100000
set_option maxHeartbeats 4000000
/-! Nw10c: in, not in, item by item, both answers. -/
namespace NwC
open PySem PySem.SeqAt
open AutoSeq1 (wpAny_loadPart')
open MeetsSeq MeetsSeq2 MeetsSeq3 SeqRoads2
open GQ (FinOf call_here)
section
variable {prog : Program} {w : World} {A : Around} {R : Result → Shared → Prop}
def CtI (prog : Program) (w : World) (A : Around) (E : Value → Shared → Prop) (l : Addr) (x : Value) (N : Nat) (I : Nat → Shared → Prop) (J : Shared → Prop) : Prop :=
  ∀ i s, I i s → ∃ (xs : Array Value) (n : Nat), s.heap.get? l = some { cls := .type "list", data := .seq xs n } ∧ xs.size = N ∧ ∀ (h1 : i < xs.size), wpAny (model prog w) A.in1 (eqBool xs[i] x) (fun r s' => if r = true then J s' else I (i + 1) s') E s
theorem ct_loop (l : Addr) (x : Value) (N : Nat) (I : Nat → Shared → Prop) (J : Shared → Prop) (hl : CtI prog w A (fun e s' => R (.error e) s') l x N I J) (fin : ∀ s, I N s → R (.ok (.ret (.bool false))) s) (stop : ∀ s, J s → R (.ok (.ret (.bool true))) s) (k : Nat) :
    ∀ i : Nat, N - i = k → i ≤ N → ∀ s, I i s → wpAny (model prog w) A.in1 (Builtin.«list.__contains__.loop» ⟨[.ref l, x, rawInt i], []⟩) (FinOf prog w A R) (fun e s' => R (.error e) s') s := by
  induction k with
  | zero =>
    intro i hk hi s h
    obtain ⟨xs, n, gl, zx, _⟩ := hl _ _ h
    obtain rfl : i = N := by omega
    have hR := fin s h
    obtain ⟨hp, g, d, tk, os⟩ := s
    wp_walk using wpAny_loadPart' gl
    rw [show xs[((i : Nat) : Int).toNat]? = none by simp; omega]
    wp_walk
    exact hR
  | succ k ih =>
    intro i hk hi s h
    obtain ⟨xs, n, gl, zx, turn⟩ := hl _ _ h
    have h1 : i < xs.size := by omega
    have ht := turn h1
    obtain ⟨hp, g, d, tk, os⟩ := s
    wp_walk using wpAny_loadPart' gl
    rw [show xs[((i : Nat) : Int).toNat]? = some xs[i] by simp [h1]]
    refine wpAny_bind (wpAny_mono ht (fun r s2 q2 => ?_) fun _ _ z => z)
    cases r with
    | true =>
      rw [if_pos rfl] at q2
      have hR := stop s2 q2
      obtain ⟨hp2, g2, d2, tk2, os2⟩ := s2
      wp_walk
      exact hR
    | false =>
      rw [if_neg (by decide)] at q2
      have hrec := ih (i + 1) (by omega) (by omega) s2 q2
      obtain ⟨hp2, g2, d2, tk2, os2⟩ := s2
      wp_walk
      rw [show ((i : Int) + 1) = ((i + 1 : Nat) : Int) by omega]
      refine ⟨plainId_quiet plain_contains_loop _, codeAny_builtin entry_contains_loop ?_⟩
      rw [Around.under_plainId plain_contains_loop _]
      exact hrec
theorem ct_list (l : Addr) (x : Value) (N : Nat) (I : Nat → Shared → Prop) (J : Shared → Prop) (hl : CtI prog w A (fun e s' => R (.error e) s') l x N I J) (fin : ∀ s, I N s → R (.ok (.ret (.bool false))) s) (stop : ∀ s, J s → R (.ok (.ret (.bool true))) s) {s : Shared} (h : I 0 s) :
    wpAny (model prog w) A.in1 (Builtin.«list.__contains__» ⟨[.ref l, x], []⟩) (FinOf prog w A R) (fun e s' => R (.error e) s') s := by
  obtain ⟨xs, n, gl, zx, _⟩ := hl _ _ h
  have hrec := ct_loop l x N I J hl fin stop _ 0 rfl (Nat.zero_le _) s h
  obtain ⟨hp, g, d, tk, os⟩ := s
  wp_walk using wpAny_loadPart' gl
  refine ⟨plainId_quiet plain_contains_loop _, codeAny_builtin entry_contains_loop ?_⟩
  rw [Around.under_plainId plain_contains_loop _]
  exact hrec
theorem ct_tuple (l : Addr) (xs : Array Value) (n : Nat) (dl : Option Addr) (sl : Array (Option Value)) (x : Value) (I : Nat → Shared → Prop) (J : Shared → Prop)
    (turn : ∀ i (h1 : i < xs.size) s, I i s → wpAny (model prog w) A.in1 (eqBool xs[i] x) (fun r s' => if r = true then J s' else I (i + 1) s') (fun e s' => R (.error e) s') s)
    (fin : ∀ s, I xs.size s → R (.ok (.ret (.bool false))) s) (stop : ∀ s, J s → R (.ok (.ret (.bool true))) s) {s : Shared}
    (hl : s.heap.get? l = some { cls := .type "tuple", dict := dl, data := .seq xs n, slots := sl }) (h : I 0 s) :
    wpAny (model prog w) A.in1 (Builtin.«tuple.__contains__» ⟨[.ref l, x], []⟩) (FinOf prog w A R) (fun e s' => R (.error e) s') s := by
  have h0 := h
  obtain ⟨hp, g, d, tk, os⟩ := s
  wp_walk using wpAny_loadPart' hl, wpAny_forIn_array _ (fun rest b s' => b.1 = none ∧ ∃ i, rest = xs.toList.drop i ∧ i ≤ xs.size ∧ I i s') _
  case turn =>
    rintro y rest q s' ⟨hq, i, e, hi, hI⟩
    have lt : i < xs.toList.length := Nat.lt_of_not_le fun z => by rw [List.drop_of_length_le z] at e; cases e
    have lt2 : i < xs.size := by simpa using lt
    rw [List.drop_eq_getElem_cons lt] at e
    injection e with ex er
    obtain rfl : y = xs[i] := by simpa using ex
    refine wpAny_bind (wpAny_mono (turn i lt2 s' hI) (fun r s2 q2 => ?_) fun _ _ z => z)
    cases r with
    | true =>
      rw [if_pos rfl] at q2
      have hR := stop s2 q2
      wp_walk
      exact hR
    | false =>
      rw [if_neg (by decide)] at q2
      wp_walk
      exact ⟨rfl, i + 1, er, lt2, q2⟩
  case fin =>
    rintro ⟨q1, q2⟩ s' ⟨hq, i, e, hi, hI⟩
    simp only at hq
    subst hq
    have ge : xs.size ≤ i := Nat.le_of_not_lt fun z => by rw [List.drop_eq_getElem_cons (by simpa using z)] at e; cases e
    obtain rfl : i = xs.size := Nat.le_antisymm hi ge
    have hR := fin s' hI
    wp_walk
    exact hR
  case h => exact ⟨rfl, 0, rfl, Nat.zero_le _, h0⟩
end
section
variable {prog : Program} {w : World} {A : Around} {E : Value → Shared → Prop} {s : Shared} {Q : Value → Shared → Prop} {l : Addr} {x : Value}
theorem in_of {T id : String} (hT : s.TypeIs (.ref l) T) (slot : Slot T "__contains__" id) (h : wpAny (model prog w) A (call (.builtin id) [.ref l, x]) (fun v s' => ∃ b, v = .bool b ∧ Q (.bool b) s') E s) : wpAny (model prog w) A (compareOp .In x (.ref l)) Q E s := by
  show wpAny _ A (do return .bool (← contains (.ref l) x)) Q E s
  refine wpAny_bind (wpAny_contains_slot hT slot (wpAny_mono h (fun v s' hv => ?_) fun _ _ e => e))
  obtain ⟨b, rfl, hq⟩ := hv
  exact wpAny_truthy_bool (wpAny_pure hq)
theorem notIn_of {T id : String} (hT : s.TypeIs (.ref l) T) (slot : Slot T "__contains__" id) (h : wpAny (model prog w) A (call (.builtin id) [.ref l, x]) (fun v s' => ∃ b, v = .bool b ∧ Q (.bool (!b)) s') E s) : wpAny (model prog w) A (compareOp .NotIn x (.ref l)) Q E s := by
  show wpAny _ A (do return .bool (!(← contains (.ref l) x))) Q E s
  refine wpAny_bind (wpAny_contains_slot hT slot (wpAny_mono h (fun v s' hv => ?_) fun _ _ e => e))
  obtain ⟨b, rfl, hq⟩ := hv
  exact wpAny_truthy_bool (wpAny_pure hq)
theorem call_list {N : Nat} {Q : Bool → Shared → Prop} (I : Nat → Shared → Prop) (J : Shared → Prop) (hl : CtI prog w A E l x N I J) (fin : ∀ s, I N s → Q false s) (stop : ∀ s, J s → Q true s) (h : I 0 s) :
    s.TypeIs (.ref l) "list" ∧ wpAny (model prog w) A (call (.builtin "list.__contains__") [.ref l, x]) (fun v s' => ∃ b, v = .bool b ∧ Q b s') E s := by
  obtain ⟨xs, n, gl, _⟩ := hl _ _ h
  exact ⟨⟨_, gl, rfl⟩, call_here F.slot_list_contains ⟨_, gl, rfl⟩ F.entry_list_contains (F.args_list_contains_2 _ _) (ct_list (R := wants (fun v s' => ∃ b, v = .bool b ∧ Q b s') E) l x N I J hl (fun s' q => ⟨_, rfl, fin s' q⟩) (fun s' q => ⟨_, rfl, stop s' q⟩) h)⟩
theorem call_tuple {xs : Array Value} {Q : Bool → Shared → Prop} (I : Nat → Shared → Prop) (J : Shared → Prop) (hl : s.heap.IsTuple l xs)
    (turn : ∀ i (h1 : i < xs.size) s, I i s → wpAny (model prog w) A.in1 (eqBool xs[i] x) (fun r s' => if r = true then J s' else I (i + 1) s') E s) (fin : ∀ s, I xs.size s → Q false s) (stop : ∀ s, J s → Q true s) (h : I 0 s) :
    s.TypeIs (.ref l) "tuple" ∧ wpAny (model prog w) A (call (.builtin "tuple.__contains__") [.ref l, x]) (fun v s' => ∃ b, v = .bool b ∧ Q b s') E s := by
  obtain ⟨⟨c1, d1, t1, s1⟩, g1, k1, n1, q1⟩ := id hl
  simp only at k1 q1
  subst k1 q1
  exact ⟨⟨_, g1, rfl⟩, call_here F.slot_tuple_contains ⟨_, g1, rfl⟩ F.entry_tuple_contains (F.args_tuple_contains_2 _ _) (ct_tuple (R := wants (fun v s' => ∃ b, v = .bool b ∧ Q b s') E) l xs n1 d1 s1 x I J turn (fun s' q => ⟨_, rfl, fin s' q⟩) (fun s' q => ⟨_, rfl, stop s' q⟩) g1 h)⟩
end
end NwC

set_option Elab.async false
set_option linter.all false
set_option maxRecDepth 100000
set_option maxHeartbeats 4000000
/-! Nw11: the tower of equalities. -/
namespace Nw
open PySem PySem.Spec
open PyProof.Rows hiding St
open L2

/-! ### plain data without instances -/
def pyD (c : Cells) : Nat → D → Option PyData
  | 0, _ => none
  | f + 1, d => match d with
    | .non => some .none
    | .bl b => some (.bool b)
    | .int i => some (.int i)
    | .str x => some (.str x)
    | .tup l => (l.mapM (pyD c f)).map .tuple
    | .lst l => (l.mapM (pyD c f)).map .list
    | .scr l => (l.mapM (pyD c f)).map .list
    | .cell i => (match c[i]? with
      | some (.lst l) => (l.mapM (pyD c f)).map .list
      | _ => none)
    | _ => none
theorem mapM_dp {K : Frag} {R : List Addr} {F H : Hp} {g : D → Option PyData} (ih : ∀ v d p, Rel K R F v d → g d = some p → Dp K H v p) : ∀ {vs : List V} {ds : List D} {ps : List PyData}, RelL K R F vs ds → ds.mapM g = some ps → DpAll K H vs ps
  | _, _, _, .nil, h => by
    simp at h
    subst h
    exact .nil
  | _, _, _, .cons (d := d) (ds := ds) r t, h => by
    rw [List.mapM_cons] at h
    cases e1 : g d with
    | none => rw [e1] at h; simp at h
    | some e =>
      rw [e1] at h
      cases e2 : List.mapM g ds with
      | none => rw [e2] at h; simp at h
      | some es' =>
        rw [e2] at h
        simp at h
        subst h
        exact .cons (ih _ _ _ r e1) (mapM_dp ih t e2)
theorem map_some {α β : Type} {o : Option α} {f : α → β} {b : β} (h : o.map f = some b) : ∃ a, o = some a ∧ f a = b := by
  cases o with
  | none => cases h
  | some a => cases h; exact ⟨a, rfl, rfl⟩
theorem dp_of {K : Frag} {Z : Hp} {R : List Addr} {F : Hp} {c : Cells} {H : Hp} (w : Wd K Z R F c H) : ∀ (f : Nat) (v : V) (d : D) (p : PyData), Rel K R F v d → pyD c f d = some p → Dp K H v p
  | 0, _, _, _, _, h => by cases h
  | f + 1, v, d, p, r, h => by
    have ih := fun v d p r h => dp_of w f v d p r h
    unfold pyD at h
    cases r with
    | non => cases h; exact .non
    | bl b => cases h; exact .bl b
    | int i => cases h; exact .int i
    | str x => cases h; exact .str x
    | tup q l =>
      obtain ⟨ps, e1, rfl⟩ := map_some h
      exact .tup (q.ext w.same) (mapM_dp ih l e1)
    | lst q l =>
      obtain ⟨ps, e1, rfl⟩ := map_some h
      exact .lst (SqL.of (w.same _ _ q)) (mapM_dp ih l e1)
    | scr q l =>
      obtain ⟨ps, e1, rfl⟩ := map_some h
      exact .lst (q.ext w.same) (mapM_dp ih l e1)
    | @cell i a q =>
      dsimp only at h
      split at h
      · rename_i l hl
        obtain ⟨ps, e1, rfl⟩ := map_some h
        obtain ⟨vs, q2, rl⟩ := w.atList q hl
        exact .lst (SqL.of q2) (mapM_dp ih rl e1)
      · cases h
    | _ => cases h

/-! ### one value, one datum -/
mutual
def okE (cs : List Str) : D → Bool
  | .non => true
  | .bl _ => true
  | .int _ => true
  | .str _ => true
  | .tup l => okL cs l
  | .lst l => okL cs l
  | .obj c _ l => cs.contains c && okL cs l
  | .cell _ => true
  | .scr _ => false
  | .ty _ => false
  | .gl _ => false
  | .exo _ _ _ _ _ => false
  | .dic _ _ => false
  | .dit _ _ => false
def okL (cs : List Str) : List D → Bool
  | [] => true
  | d :: r => okE cs d && okL cs r
end
theorem zip_inj {α β : Type} : ∀ {l l' : List α} {m m' : List β}, l.length = m.length → l'.length = m'.length → l.zip m = l'.zip m' → l = l' ∧ m = m'
  | [], [], [], [], _, _, _ => ⟨rfl, rfl⟩
  | [], _ :: _, [], _ :: _, _, _, h => by cases h
  | _ :: _, [], _ :: _, [], _, _, h => by cases h
  | a :: l, a' :: l', b :: m, b' :: m', h1, h2, h => by
    have h : (a, b) :: l.zip m = (a', b') :: l'.zip m' := h
    injection h with e1 e2
    injection e1 with e3 e4
    obtain ⟨e5, e6⟩ := zip_inj (by simpa using h1) (by simpa using h2) e2
    rw [e3, e4, e5, e6]
    exact ⟨rfl, rfl⟩
section
variable {K : Frag} {Z : Hp} {R : List Addr} {F : Hp} {c : Cells} {H : Hp} {cs : List Str}
theorem Wd.cellF (w : Wd K Z R F c H) {i : Nat} {a : Addr} (q : R[i]? = some a) : F a = none := by
  have hi : i < c.length := by rw [← w.len]; exact (List.getElem?_eq_some_iff.mp q).1
  obtain ⟨a', o, h1, h2, h3, h4⟩ := w.cel i c[i] (List.getElem?_eq_getElem hi)
  rw [q] at h1
  cases h1
  exact h4
variable (w : Wd K Z R F c H) (hT : ∀ a xs ys, SqT K H a xs → SqT K H a ys → xs = ys) (hK : ∀ a o, K.lookup a = some o → H a = none) (hC : ∀ x ∈ cs, ∀ y ∈ cs, He.ga K x = He.ga K y → x = y)
include w hT hK hC
theorem notTup {a : Addr} {vs : List V} (h : SqT K F a vs) {o : HO} (ho : H a = some o) (h1 : ∀ xs, o ≠ .tup xs) (h2 : ∀ p xs, o ≠ .frz p (.tup xs)) : False := by
  rcases h with (h | ⟨p, h⟩) | ⟨o', its, n, hk, _⟩
  · have := w.same _ _ h
    rw [ho] at this
    exact h1 _ (Option.some.inj this)
  · have := w.same _ _ h
    rw [ho] at this
    exact h2 _ _ (Option.some.inj this)
  · rw [hK a o' hk] at ho
    cases ho
theorem cellNoTup {i : Nat} {a : Addr} {vs : List V} (q : R[i]? = some a) (h : SqT K F a vs) : False := by
  have hi : i < c.length := by rw [← w.len]; exact (List.getElem?_eq_some_iff.mp q).1
  obtain ⟨a', o', h1, h2, h3, h4⟩ := w.cel i c[i] (List.getElem?_eq_getElem hi)
  rw [q] at h1
  cases h1
  rcases h with (z | ⟨p, z⟩) | ⟨o, its, n, hk, _⟩
  · rw [h4] at z; cases z
  · rw [h4] at z; cases z
  · rw [hK _ _ hk] at h2
    cases h2
mutual
theorem Rel.one : ∀ {v : V} {d e : D}, Rel K R F v d → Rel K R F v e → okE cs d = true → okE cs e = true → d = e
  | _, _, _, .non, .non, _, _ => rfl
  | _, _, _, .bl b, .bl _, _, _ => rfl
  | _, _, _, .int i, .int _, _, _ => rfl
  | _, _, _, .str x, .str _, _, _ => rfl
  | _, _, _, .ty n, .ty _, _, _ => rfl
  | _, _, _, .tup q l, r2, k1, k2 => by
    cases r2 with
    | tup q2 l2 =>
      have e := hT _ _ _ (q.ext w.same) (q2.ext w.same)
      subst e
      unfold okE at k1 k2
      rw [RelL.inj1 l l2 k1 k2]
    | lst q2 l2 => exact (notTup w hT hK hC q (w.same _ _ q2) (fun _ z => (nomatch z)) fun _ _ z => (nomatch z)).elim
    | obj q2 z l2 => exact (notTup w hT hK hC q (w.same _ _ q2) (fun _ z => (nomatch z)) fun _ _ z => (nomatch z)).elim
    | cell q2 => exact (cellNoTup w hT hK hC q2 q).elim
    | scr => unfold okE at k2; cases k2
    | gl => unfold okE at k2; cases k2
    | exo => unfold okE at k2; cases k2
    | exo0 => unfold okE at k2; cases k2
    | dic => unfold okE at k2; cases k2
    | dit => unfold okE at k2; cases k2
  | _, _, _, .lst q l, r2, k1, k2 => by
    cases r2 with
    | tup q2 l2 => exact (notTup w hT hK hC q2 (w.same _ _ q) (fun _ z => (nomatch z)) fun _ _ z => (nomatch z)).elim
    | lst q2 l2 =>
      rw [q] at q2
      cases q2
      unfold okE at k1 k2
      rw [RelL.inj1 l l2 k1 k2]
    | obj q2 z l2 => rw [q] at q2; cases q2
    | cell q2 => rw [w.cellF q2] at q; cases q
    | scr => unfold okE at k2; cases k2
    | gl => unfold okE at k2; cases k2
    | exo => unfold okE at k2; cases k2
    | exo0 => unfold okE at k2; cases k2
    | dic => unfold okE at k2; cases k2
    | dit => unfold okE at k2; cases k2
  | _, _, _, .obj q z l, r2, k1, k2 => by
    cases r2 with
    | tup q2 l2 => exact (notTup w hT hK hC q2 (w.same _ _ q) (fun _ z => (nomatch z)) fun _ _ z => (nomatch z)).elim
    | lst q2 l2 => rw [q] at q2; cases q2
    | obj q2 z2 l2 =>
      rw [q] at q2
      injection q2 with q2
      injection q2 with e1 e2 e3
      obtain ⟨e4, e5⟩ := zip_inj z z2 e3
      subst e4
      subst e5
      unfold okE at k1 k2
      have k1 := Bool.and_eq_true_iff.mp k1
      have k2 := Bool.and_eq_true_iff.mp k2
      rw [RelL.inj1 l l2 k1.2 k2.2, hC _ (by simpa using k1.1) _ (by simpa using k2.1) e1]
    | cell q2 => rw [w.cellF q2] at q; cases q
    | scr => unfold okE at k2; cases k2
    | gl => unfold okE at k2; cases k2
    | exo => unfold okE at k2; cases k2
    | exo0 => unfold okE at k2; cases k2
    | dic => unfold okE at k2; cases k2
    | dit => unfold okE at k2; cases k2
  | _, _, _, .cell q, r2, k1, k2 => by
    cases r2 with
    | tup q2 l2 => exact (cellNoTup w hT hK hC q q2).elim
    | lst q2 l2 => rw [w.cellF q] at q2; cases q2
    | obj q2 z l2 => rw [w.cellF q] at q2; cases q2
    | cell q2 =>
      obtain ⟨l1, e1⟩ := List.getElem?_eq_some_iff.mp q
      obtain ⟨l2, e2⟩ := List.getElem?_eq_some_iff.mp q2
      rw [(List.getElem_inj w.nd).mp (e1.trans e2.symm)]
    | scr => unfold okE at k2; cases k2
    | gl => unfold okE at k2; cases k2
    | exo => unfold okE at k2; cases k2
    | exo0 => unfold okE at k2; cases k2
    | dic => unfold okE at k2; cases k2
    | dit => unfold okE at k2; cases k2
  | _, _, _, .scr q l, r2, k1, k2 => by unfold okE at k1; cases k1
  | _, _, _, .gl x, r2, k1, k2 => by unfold okE at k1; cases k1
  | _, _, _, .exo q z l, r2, k1, k2 => by unfold okE at k1; cases k1
  | _, _, _, .exo0, r2, k1, k2 => by unfold okE at k1; cases k1
  | _, _, _, .dic q z l, r2, k1, k2 => by unfold okE at k1; cases k1
  | _, _, _, .dit q z l, r2, k1, k2 => by unfold okE at k1; cases k1
theorem RelL.inj1 : ∀ {vs : List V} {ds es : List D}, RelL K R F vs ds → RelL K R F vs es → okL cs ds = true → okL cs es = true → ds = es
  | _, _, _, .nil, .nil, _, _ => rfl
  | _, _, _, .cons h t, .cons h2 t2, k1, k2 => by
    unfold okL at k1 k2
    have k1 := Bool.and_eq_true_iff.mp k1
    have k2 := Bool.and_eq_true_iff.mp k2
    rw [Rel.one h h2 k1.1 k2.1, RelL.inj1 t t2 k1.2 k2.2]
end
end
end Nw

set_option Elab.async false
set_option linter.all false
set_option maxRecDepth 100000
set_option maxHeartbeats 4000000
/-! Nw12: == and != of anything. -/
namespace Nw
open PySem PySem.Spec
open PyProof.Rows hiding St
open L2

abbrev E2 := D → D → Cells → Out Bool
/-! ### what changes no cell -/
def PuE (g : E2) : Prop := ∀ d e c b c1, g d e c = .ok b c1 → c1 = c
def PuM (m : ME) : Prop := ∀ δ c d c1, m δ c = .ok d c1 → c1 = c
def PuT (m : MT) : Prop := ∀ δ c d c1, m δ c = .ok d c1 → c1 = c
def PuA (m : MA) : Prop := ∀ δ c d c1, m δ c = .ok d c1 → c1 = c
def PuF (m : MF) : Prop := ∀ ds c d c1, m ds c = .ok d c1 → c1 = c
def PuO (f : O2) : Prop := ∀ d e c b c1, f d e c = .ok b c1 → c1 = c
def PuS (m : MS) : Prop := ∀ δ c, match m δ c with
  | .nx _ c1 => c1 = c
  | .rt _ c1 => c1 = c
  | .bk _ c1 => c1 = c
  | .ct _ c1 => c1 = c
  | _ => True
theorem bind_ok {α β : Type} {o : Out α} {f : α → Cells → Out β} {b : β} {c1 : Cells} (h : o.bind f = .ok b c1) : ∃ a c2, o = .ok a c2 ∧ f a c2 = .ok b c1 := by
  cases o with
  | ok a c2 => exact ⟨a, c2, rfl, h⟩
  | exc => cases h
  | bad => cases h
theorem pu_c {d : D} : PuM (mC d) := fun _ _ _ _ h => by cases h; rfl
theorem pu_var {i : Nat} : PuM (mVar i) := fun δ c d c1 h => by
  unfold mVar at h
  split at h
  · cases h; rfl
  · cases h
theorem pu_nil : PuA mNil := fun _ _ _ _ h => by cases h; rfl
theorem pu_cons {m : ME} {ms : MA} (h1 : PuM m) (h2 : PuA ms) : PuA (mCons m ms) := fun δ c d c1 h => by
  obtain ⟨a, c2, e1, h⟩ := bind_ok h
  obtain ⟨b, c3, e2, h⟩ := bind_ok h
  cases h
  rw [h2 _ _ _ _ e2, h1 _ _ _ _ e1]
theorem pu_tup {ms : MA} (h1 : PuA ms) : PuM (mTup ms) := fun δ c d c1 h => by
  obtain ⟨a, c2, e1, h⟩ := bind_ok h
  unfold tupD at h
  split at h
  · cases h; exact h1 _ _ _ _ e1
  · cases h
theorem pu_op {f : O2} {m n : ME} (hf : PuO f) (h1 : PuM m) (h2 : PuM n) : PuM (mOp f m n) := fun δ c d c1 h => by
  obtain ⟨a, c2, e1, h⟩ := bind_ok h
  obtain ⟨b, c3, e2, h⟩ := bind_ok h
  rw [hf _ _ _ _ _ h, h2 _ _ _ _ e2, h1 _ _ _ _ e1]
theorem pu_fld {f : Str} {cs : List Str} {m : ME} (h1 : PuM m) : PuM (mFld f cs m) := fun δ c d c1 h => by
  obtain ⟨a, c2, e1, h⟩ := bind_ok h
  unfold fldGo at h
  split at h
  · split at h
    · split at h
      · cases h; exact h1 _ _ _ _ e1
      · cases h
    · cases h
  · cases h
theorem pu_isi {ts : List Ty} {f : Ty → Bool} {m : ME} (h1 : PuM m) : PuM (mIsi ts f m) := fun δ c d c1 h => by
  obtain ⟨a, c2, e1, h⟩ := bind_ok h
  unfold isiD at h
  split at h
  · split at h
    · cases h; exact h1 _ _ _ _ e1
    · cases h
  · cases h
theorem pu_b {m : ME} (h1 : PuM m) : PuT (mB m) := fun δ c d c1 h => by
  obtain ⟨a, c2, e1, h⟩ := bind_ok h
  cases a with
  | bl b => cases h; exact h1 _ _ _ _ e1
  | _ => cases h
theorem pu_not {m : MT} (h1 : PuT m) : PuT (mNotT m) := fun δ c d c1 h => by
  obtain ⟨a, c2, e1, h⟩ := bind_ok h
  cases h
  exact h1 _ _ _ _ e1
theorem pu_or {m n : MT} (h1 : PuT m) (h2 : PuT n) : PuT (mOrT m n) := fun δ c d c1 h => by
  obtain ⟨a, c2, e1, h⟩ := bind_ok h
  have e := h1 _ _ _ _ e1
  subst e
  cases a with
  | true => rw [if_pos rfl] at h; cases h; rfl
  | false => rw [if_neg (by decide)] at h; exact h2 _ _ _ _ h
theorem pu_and {m n : MT} (h1 : PuT m) (h2 : PuT n) : PuT (mAndT m n) := fun δ c d c1 h => by
  obtain ⟨a, c2, e1, h⟩ := bind_ok h
  have e := h1 _ _ _ _ e1
  subst e
  cases a with
  | false => rw [if_neg (by decide)] at h; cases h; rfl
  | true => rw [if_pos rfl] at h; exact h2 _ _ _ _ h
theorem lk_mem {α : Type} : ∀ {l : List (Str × α)} {k : Str} {b : α}, l.lookup k = some b → (k, b) ∈ l
  | [], _, _, h => by cases h
  | (j, y) :: r, k, b, h => by
    rw [List.lookup_cons] at h
    by_cases q : (k == j) = true
    · rw [q] at h
      cases h
      rw [eq_of_beq q]
      exact List.mem_cons_self
    · rw [Bool.not_eq_true] at q
      rw [q] at h
      exact List.mem_cons_of_mem _ (lk_mem h)
theorem pu_meth0 {mn : Str} {ds : List (Str × MF)} {m : ME} (h1 : PuM m) (h2 : ∀ q ∈ ds, PuF q.2) : PuM (mMeth0 mn ds m) := fun δ c d c1 h => by
  obtain ⟨a, c2, e1, h⟩ := bind_ok h
  split at h
  · rename_i mf hq
    obtain ⟨cn, ns, fs, _, _, hl⟩ := methOf_some hq
    have hm : (cn, mf) ∈ ds := lk_mem hl
    rw [h2 _ hm _ _ _ _ h]
    exact h1 _ _ _ _ e1
  · cases h
theorem pul_nil : ∀ q ∈ ([] : List (Str × MF)), PuF q.2 := fun q hq => by cases hq
theorem pul_cons {cn : Str} {m : MF} {r : List (Str × MF)} (h : PuF m) (t : ∀ q ∈ r, PuF q.2) : ∀ q ∈ (cn, m) :: r, PuF q.2 := fun q hq => by
  rcases List.mem_cons.mp hq with rfl | hq
  · exact h
  · exact t q hq
theorem pus_skip : PuS mSkip := fun _ _ => rfl
theorem pus_ret {m : ME} (h1 : PuM m) : PuS (mRet m) := fun δ c => by
  unfold mRet
  cases e : m δ c with
  | ok d c1 => exact h1 _ _ _ _ e
  | exc => exact True.intro
  | bad => exact True.intro
theorem pus_if {t : MT} {a b : MS} (h : PuT t) (h1 : PuS a) (h2 : PuS b) : PuS (mIfS t a b) := fun δ c => by
  unfold mIfS
  cases e : t δ c with
  | ok d c1 =>
    have e1 := h _ _ _ _ e
    subst e1
    cases d with
    | true => exact h1 δ c1
    | false => exact h2 δ c1
  | exc => exact True.intro
  | bad => exact True.intro
theorem pus_seq {a b : MS} (h1 : PuS a) (h2 : PuS b) : PuS (mSeq a b) := fun δ c => by
  have z := h1 δ c
  unfold mSeq
  cases e : a δ c with
  | nx δ1 c1 =>
    rw [e] at z
    have z : c1 = c := z
    subst z
    exact h2 δ1 c1
  | rt => rw [e] at z; exact z
  | bk => rw [e] at z; exact z
  | ct => rw [e] at z; exact z
  | exc => exact True.intro
  | bad => exact True.intro
theorem pu_fn {np nl : Nat} {m : MS} (h : PuS m) : PuF (mkFn np nl m) := fun ds c d c1 e => by
  unfold mkFn at e
  split at e
  · have z := h (ds.map some ++ List.replicate (nl - np) none) c
    split at e
    · rename_i q; rw [q] at z; cases e; exact z
    · rename_i q; rw [q] at z; cases e; exact z
    · cases e
    · cases e
  · cases e
/-- items in turn; comparing changes no cell -/
def seqEq (eb : E2) : List D → List D → Cells → Out Bool
  | [], [], c => .ok true c
  | x :: xs, y :: ys, c => match eb x y c with
    | .ok b _ => if b = true then seqEq eb xs ys c else .ok false c
    | _ => .bad
  | _, _, c => .ok false c
def isT (o : Out Bool) : Bool := match o with
  | .ok true _ => true
  | _ => false
theorem isT_eq {g : E2} {d e : D} {c : Cells} (p : PuE g) (h : isT (g d e c) = true) : g d e c = .ok true c := by
  cases q : g d e c with
  | ok b c1 =>
    rw [q] at h
    cases b with
    | true => rw [p _ _ _ _ _ q]
    | false => cases h
  | exc => rw [q] at h; cases h
  | bad => rw [q] at h; cases h
theorem isT_of {o : Out Bool} {c : Cells} (h : o = .ok true c) : isT o = true := by
  rw [h]
  rfl
/-- == of items: the same object is equal to itself -/
def eqB (cs : List Str) (g : E2) : E2 := fun d e c => if okE cs d = true ∧ okE cs e = true then (if d = e then (if isT (g d e c) = true then .ok true c else .bad) else g d e c) else .bad
def eqG (cs : List Str) (ts : List Ty) (me : MF) (eb : E2) : E2 := fun d e c => match insOf c d with
  | some q => if cs.contains q.1 = true ∧ (tyD c e).any (fun t => ts.contains t) = true then (me [d, e] c).bind asB else .bad
  | none => match insOf c e with
    | some q => if cs.contains q.1 = true ∧ (tyD c d).any (fun t => ts.contains t) = true then (me [e, d] c).bind asB else .bad
    | none => match d, e with
      | .tup l, .tup m => seqEq eb l m c
      | d, e => match lstOwn c d, lstOwn c e with
        | some l, some m => if l.length = m.length then seqEq eb l m c else .ok false c
        | _, _ => .bad
/-- == with n levels of instances; Fe: what the text's __eq__ does, by the == of its parts -/
def eqF (cs : List Str) (ts : List Ty) (Fe : E2 → MF) : Nat → E2
  | 0, _, _, _ => .bad
  | n + 1, d, e, c => match pyD c 60 d, pyD c 60 e with
    | some p, some q => if SeqAt.shaped p = true ∧ SeqAt.shaped q = true then .ok (PyData.eqv p q) c else .bad
    | _, _ => eqG cs ts (Fe (eqF cs ts Fe n)) (eqB cs (eqF cs ts Fe n)) d e c
/-- richCompare does what g says -/
theorem pu_eqB {cs : List Str} {g : E2} (p : PuE g) : PuE (eqB cs g) := fun d e c b c1 h => by
  unfold eqB at h
  split at h
  · split at h
    · split at h
      · cases h; rfl
      · cases h
    · exact p _ _ _ _ _ h
  · cases h
theorem pu_seq {eb : E2} : ∀ {l m : List D} {c : Cells} {b : Bool} {c1 : Cells}, seqEq eb l m c = .ok b c1 → c1 = c
  | [], [], _, _, _, h => by unfold seqEq at h; cases h; rfl
  | [], _ :: _, _, _, _, h => by unfold seqEq at h; cases h; rfl
  | _ :: _, [], _, _, _, h => by unfold seqEq at h; cases h; rfl
  | x :: xs, y :: ys, _, _, _, h => by
    unfold seqEq at h
    split at h
    · split at h
      · exact pu_seq h
      · cases h; rfl
    · cases h
theorem pu_eqG {cs : List Str} {ts : List Ty} {me : MF} {eb : E2} (p : PuF me) : PuE (eqG cs ts me eb) := fun d e c b c1 h => by
  have go : ∀ x y : D, (me [x, y] c).bind asB = .ok b c1 → c1 = c := fun x y h => by
    obtain ⟨a, c2, e1, h⟩ := bind_ok h
    cases a with
    | bl k => cases h; exact p _ _ _ _ e1
    | _ => cases h
  unfold eqG at h
  split at h
  · split at h
    · exact go _ _ h
    · cases h
  · split at h
    · split at h
      · exact go _ _ h
      · cases h
    · split at h
      · exact pu_seq h
      · split at h
        · split at h
          · exact pu_seq h
          · cases h; rfl
        · cases h
theorem pu_eqF {cs : List Str} {ts : List Ty} {Fe : E2 → MF} (p : ∀ g, PuE g → PuF (Fe g)) : ∀ n, PuE (eqF cs ts Fe n)
  | 0 => fun d e c b c1 h => by unfold eqF at h; cases h
  | n + 1 => fun d e c b c1 h => by
    unfold eqF at h
    split at h
    · split at h
      · cases h; rfl
      · cases h
    · exact pu_eqG (p _ (pu_eqF p n)) _ _ _ _ _ h
structure EqX (X : Cx) (n : Nat) (g : E2) : Prop where
  pu : PuE g
  rc : ∀ (A : Around) (pins : List (Addr × Obj)) (s : Shared) (σ : St) (H Z : Hp) (R : List Addr) (F : Hp) (c : Cells) (x y : V) (d e : D) (u v : Value) (Q : Bool → Hp → Prop), Sub X n A → Inv X pins σ H s → Wd X.K Z R F c H → Rel X.K R F x d → Rel X.K R F y e → RelV x u → RelV y v →
    Aft X.K Z W0 R F σ (g d e c) (QB Q) → wpAny (model X.prog X.w) A (richCompare .Eq u v) (fun r s' => ∃ b H', r = .bool b ∧ Inv X pins σ H' s' ∧ Q b H') X.xe s
  rn : ∀ (A : Around) (pins : List (Addr × Obj)) (s : Shared) (σ : St) (H Z : Hp) (R : List Addr) (F : Hp) (c : Cells) (x y : V) (d e : D) (u v : Value) (Q : Bool → Hp → Prop), Sub X n A → Inv X pins σ H s → Wd X.K Z R F c H → Rel X.K R F x d → Rel X.K R F y e → RelV x u → RelV y v →
    Aft X.K Z W0 R F σ (g d e c) (QB Q) → wpAny (model X.prog X.w) A (richCompare .NotEq u v) (fun r s' => ∃ b H', r = .bool (!b) ∧ Inv X pins σ H' s' ∧ Q b H') X.xe s
/-- eqBool does what g says -/
def EqI (X : Cx) (n : Nat) (g : E2) : Prop := PuE g ∧ ∀ (A : Around) (pins : List (Addr × Obj)) (s : Shared) (σ : St) (H Z : Hp) (R : List Addr) (F : Hp) (c : Cells) (x y : V) (d e : D) (u v : Value) (Q : Bool → Hp → Prop), Sub X n A → Inv X pins σ H s → Wd X.K Z R F c H → Rel X.K R F x d → Rel X.K R F y e → RelV x u → RelV y v →
    Aft X.K Z W0 R F σ (g d e c) (QB Q) → wpAny (model X.prog X.w) A (eqBool u v) (fun b s' => ∃ H', Inv X pins σ H' s' ∧ Q b H') X.xe s
section
variable {X : Cx} {n : Nat} {g : E2} {cs : List Str}
theorem inv_hT {pins : List (Addr × Obj)} {s : Shared} {σ : St} {H : Hp} (I : Inv X pins σ H s) : ∀ a xs ys, SqT X.K H a xs → SqT X.K H a ys → xs = ys := fun _ _ _ h1 h2 => I.tuple_inj h1 h2
theorem inv_hK {pins : List (Addr × Obj)} {s : Shared} {σ : St} {H : Hp} (I : Inv X pins σ H s) : ∀ a o, X.K.lookup a = some o → H a = none := fun a o h => (I.bs a o (I.ok.mod.kin a o h)).2
theorem eqBool_of {A : Around} {s : Shared} {x : V} {u v : Value} {E : Value → Shared → Prop} {Q : Bool → Shared → Prop} (rx : RelV x u) (hx : ∀ b, x ≠ .flt b) (hne : u ≠ v) (h : wpAny (model X.prog X.w) A (richCompare .Eq u v) (fun r s' => ∃ b, r = .bool b ∧ Q b s') E s) : wpAny (model X.prog X.w) A (eqBool u v) Q E s := by
  unfold eqBool
  refine wpAny_holding (wpAny_ite_split (fun hab => absurd (eq_of_beq hab) hne) (fun _ => ?_))
  have go : wpAny (model X.prog X.w) A (richCompare .Eq u v >>= truthOfDropped) Q E s := by
    refine wpAny_bind (wpAny_mono h (fun r s' z => ?_) fun _ _ z => z)
    obtain ⟨b, rfl, q⟩ := z
    exact wpAny_truthy_bool q
  cases x with
  | non => cases (show u = Value.none from rx); exact go
  | bl b => cases (show u = Value.bool b from rx); exact go
  | int i => obtain ⟨t, rfl⟩ := (show ∃ t, u = Value.int i t from rx); exact go
  | str i => obtain ⟨t, rfl⟩ := (show ∃ t, u = Value.str i t from rx); exact go
  | byt i => obtain ⟨t, rfl⟩ := (show ∃ t, u = Value.bytes i t from rx); exact go
  | flt b => exact absurd rfl (hx b)
  | ref a => cases (show u = Value.ref a from rx); exact go
  | ty a => cases (show u = Value.type a from rx); exact go
theorem Rel.noFlt {K : Frag} {R : List Addr} {F : Hp} {v : V} {d : D} (r : Rel K R F v d) : ∀ b, v ≠ .flt b := by
  intro b
  cases r <;> intro h <;> cases h
theorem eqB_of (hC : ∀ x ∈ cs, ∀ y ∈ cs, He.ga X.K x = He.ga X.K y → x = y) (h : EqX X n g) : EqI X n (eqB cs g) := by
  refine ⟨pu_eqB h.pu, ?_⟩
  intro A pins s σ H Z R F c x y d e u v Q sb I w rx ry rux rvy q
  have go : Aft X.K Z W0 R F σ (g d e c) (QB Q) → u ≠ v → wpAny (model X.prog X.w) A (eqBool u v) (fun b s' => ∃ H', Inv X pins σ H' s' ∧ Q b H') X.xe s := fun q hne =>
    eqBool_of rux rx.noFlt hne (wpAny_mono (h.rc A pins s σ H Z R F c x y d e u v Q sb I w rx ry rux rvy q) (fun r s' z => by
      obtain ⟨b, H', e1, I', q'⟩ := z
      exact ⟨b, e1, H', I', q'⟩) fun _ _ z => z)
  unfold eqB at q
  split at q
  · rename_i hok
    by_cases hde : d = e
    · rw [if_pos hde] at q
      split at q
      · rename_i hg
        by_cases huv : u = v
        · subst huv
          exact SeqAt.EqAt.same (A := A) (s := s) u X.prog X.w X.xe _ ⟨H, I, q.ok w⟩
        · exact go (by rw [isT_eq h.pu hg]; exact q) huv
      · exact q.elim
    · rw [if_neg hde] at q
      refine go q fun huv => ?_
      subst huv
      have := rux.inj rvy
      subst this
      exact hde (Rel.one w (inv_hT I) (inv_hK I) hC rx ry hok.1 hok.2)
  · exact q.elim
/-- what the loop over items keeps -/
def LpI (X : Cx) (pins : List (Addr × Obj)) (σ : St) (Z : Hp) (R : List Addr) (F : Hp) (c : Cells) (eb : E2) (l m : List D) (Q : Bool → Hp → Prop) (i : Nat) (s : Shared) : Prop :=
  ∃ R' F' H', R <+: R' ∧ Same F F' ∧ Inv X pins σ H' s ∧ Wd X.K Z R' F' c H' ∧ Aft X.K Z W0 R' F' σ (seqEq eb (l.drop i) (m.drop i) c) (QB Q)
def LpJ (X : Cx) (pins : List (Addr × Obj)) (σ : St) (Z : Hp) (R : List Addr) (F : Hp) (c : Cells) (Q : Bool → Hp → Prop) (s : Shared) : Prop := ∃ R' F' H', R <+: R' ∧ Same F F' ∧ Inv X pins σ H' s ∧ Wd X.K Z R' F' c H' ∧ Q false H'
theorem lp_turn {A : Around} {pins : List (Addr × Obj)} {σ : St} {Z : Hp} {R : List Addr} {F : Hp} {c : Cells} {eb : E2} {l m : List D} {Q : Bool → Hp → Prop} (he : EqI X n eb) (sb : Sub X n A) {i : Nat} {s : Shared} {x y : V} {u v : Value} {d e : D} (hd : l[i]? = some d) (hm : m[i]? = some e)
    {R' : List Addr} {F' H' : Hp} (p : R <+: R') (ef : Same F F') (I : Inv X pins σ H' s) (w : Wd X.K Z R' F' c H') (q : Aft X.K Z W0 R' F' σ (seqEq eb (l.drop i) (m.drop i) c) (QB Q)) (rx : Rel X.K R' F' x d) (ry : Rel X.K R' F' y e) (ru : RelV x u) (rv : RelV y v) :
    wpAny (model X.prog X.w) A (eqBool u v) (fun r s' => if r = true then LpI X pins σ Z R F c eb l m Q (i + 1) s' else LpJ X pins σ Z R F c Q s') X.xe s := by
  obtain ⟨l1, e1⟩ := List.getElem?_eq_some_iff.mp hd
  obtain ⟨l2, e2⟩ := List.getElem?_eq_some_iff.mp hm
  rw [List.drop_eq_getElem_cons l1, List.drop_eq_getElem_cons l2, e1, e2] at q
  unfold seqEq at q
  refine wpAny_mono (he.2 A pins s σ H' Z R' F' c x y d e u v (fun b H'' => ∃ R2 F2, R' <+: R2 ∧ Same F' F2 ∧ Wd X.K Z R2 F2 c H'' ∧ if b = true then Aft X.K Z W0 R2 F2 σ (seqEq eb (l.drop (i + 1)) (m.drop (i + 1)) c) (QB Q) else Q false H'') sb I w rx ry ru rv ?_) (fun b s' z => ?_) fun _ _ z => z
  · cases o : eb d e c with
    | bad => rw [o] at q; exact q.elim
    | exc => rw [o] at q; exact q.elim
    | ok b c1 =>
      rw [o] at q
      dsimp only at q
      have hc := he.1 _ _ _ _ _ o
      subst hc
      intro R2 F2 H2 p2 e2 w2
      refine ⟨R2, F2, p2, e2, w2, ?_⟩
      cases b with
      | true =>
        rw [if_pos rfl] at q ⊢
        exact Aft.mono p2 e2 q
      | false =>
        rw [if_neg (by decide)] at q ⊢
        exact (Aft.mono p2 e2 q).ok w2
  · obtain ⟨H2, I2, R2, F2, p2, e2, w2, q2⟩ := z
    cases b with
    | true =>
      rw [if_pos rfl] at q2 ⊢
      exact ⟨R2, F2, H2, p.trans p2, ef.trans e2, I2, w2, q2⟩
    | false =>
      rw [if_neg (by decide)] at q2 ⊢
      exact ⟨R2, F2, H2, p.trans p2, ef.trans e2, I2, w2, q2⟩

/-! tuples, lists -/
theorem min_drop {l m : List D} {n : Nat} (h : n = min l.length m.length) : l.drop n = [] ∨ m.drop n = [] := by
  rcases Nat.le_total l.length m.length with z | z
  · exact .inl (List.drop_eq_nil_of_le (by omega))
  · exact .inr (List.drop_eq_nil_of_le (by omega))
theorem seqEq_end {eb : E2} {l m : List D} {n : Nat} {c : Cells} (h : n = min l.length m.length) : seqEq eb (l.drop n) (m.drop n) c = .ok (l.length == m.length) c := by
  subst h
  rcases Nat.lt_trichotomy l.length m.length with z | z | z
  · rw [List.drop_eq_nil_of_le (by omega : l.length ≤ min l.length m.length)]
    have : m.drop (min l.length m.length) ≠ [] := fun e => by have := List.drop_eq_nil_iff.mp e; omega
    cases e : m.drop (min l.length m.length) with
    | nil => exact absurd e this
    | cons a r => unfold seqEq; rw [show (l.length == m.length) = false from beq_eq_false_iff_ne.mpr (by omega)]
  · rw [List.drop_eq_nil_of_le (by omega : l.length ≤ min l.length m.length), List.drop_eq_nil_of_le (by omega : m.length ≤ min l.length m.length)]
    unfold seqEq
    rw [show (l.length == m.length) = true from beq_iff_eq.mpr z]
  · rw [List.drop_eq_nil_of_le (by omega : m.length ≤ min l.length m.length)]
    have : l.drop (min l.length m.length) ≠ [] := fun e => by have := List.drop_eq_nil_iff.mp e; omega
    cases e : l.drop (min l.length m.length) with
    | nil => exact absurd e this
    | cons a r => unfold seqEq; rw [show (l.length == m.length) = false from beq_eq_false_iff_ne.mpr (by omega)]
variable {pins : List (Addr × Obj)} {s : Shared} {σ : St} {H Z : Hp} {R : List Addr} {F : Hp} {c : Cells} {A : Around} {eb : E2} {Q : Bool → Hp → Prop} {l m : List D} {a b : Addr}
theorem tup_turn (he : EqI X n eb) (sb : Sub X (n + 1) A) {vs us : List V} (h1 : SqT X.K F a vs) (h2 : SqT X.K F b us) (r1 : RelL X.K R F vs l) (r2 : RelL X.K R F us m) {xs ys : List Value} (v1 : Vals vs xs) (v2 : Vals us ys) :
    ∀ i (h1 : i < xs.toArray.size) (h2 : i < ys.toArray.size) s, LpI X pins σ Z R F c eb l m Q i s → wpAny (model X.prog X.w) A.in1 (eqBool xs.toArray[i] ys.toArray[i]) (fun r s' => if r = true then LpI X pins σ Z R F c eb l m Q (i + 1) s' else LpJ X pins σ Z R F c Q s') X.xe s := by
  rintro i k1 k2 s ⟨R', F', H', p, ef, I, w, q⟩
  have k1' : i < xs.length := by simpa using k1
  have k2' : i < ys.length := by simpa using k2
  have j1 : i < vs.length := by rw [v1.length]; exact k1'
  have j2 : i < us.length := by rw [v2.length]; exact k2'
  obtain ⟨u, hu, ru⟩ := v1.get (List.getElem?_eq_getElem j1)
  obtain ⟨v, hv, rv⟩ := v2.get (List.getElem?_eq_getElem j2)
  rw [List.getElem?_eq_getElem k1'] at hu
  rw [List.getElem?_eq_getElem k2'] at hv
  obtain ⟨d, hd, rd⟩ := r1.getV (List.getElem?_eq_getElem j1)
  obtain ⟨e, hm, re⟩ := r2.getV (List.getElem?_eq_getElem j2)
  have e1 : xs.toArray[i] = u := by simpa using Option.some.inj hu
  have e2 : ys.toArray[i] = v := by simpa using Option.some.inj hv
  rw [e1, e2]
  exact lp_turn he sb.in1 hd hm p ef I w q (rd.mono p ef) (re.mono p ef) ru rv
theorem rc_tup (he : EqI X n eb) (sb : Sub X (n + 1) A) (I : Inv X pins σ H s) (w : Wd X.K Z R F c H) {vs us : List V} (h1 : SqT X.K F a vs) (h2 : SqT X.K F b us) (r1 : RelL X.K R F vs l) (r2 : RelL X.K R F us m)
    (q : Aft X.K Z W0 R F σ (seqEq eb l m c) (QB Q)) : wpAny (model X.prog X.w) A (richCompare .Eq (.ref a) (.ref b)) (fun r s' => ∃ b H', r = .bool b ∧ Inv X pins σ H' s' ∧ Q b H') X.xe s := by
  obtain ⟨xs, v1, t1, z1⟩ := I.tuple (h1.ext w.same)
  obtain ⟨ys, v2, t2, z2⟩ := I.tuple (h2.ext w.same)
  have e1 : xs.length = l.length := by rw [← v1.length, r1.length]
  have e2 : ys.length = m.length := by rw [← v2.length, r2.length]
  refine NwQ.rc_tup_eq sb.room.units0 (LpI X pins σ Z R F c eb l m Q) (LpJ X pins σ Z R F c Q) t1 t2 (tup_turn he sb h1 h2 r1 r2 v1 v2) ?_ ?_ ⟨R, F, H, List.prefix_refl _, Same.refl _, I, w, q⟩
  · rintro s' ⟨R', F', H', p, ef, I', w', q'⟩
    rw [List.size_toArray, List.size_toArray, e1, e2] at q' ⊢
    rw [seqEq_end rfl] at q'
    exact ⟨_, H', rfl, I', q'.ok w'⟩
  · rintro s' ⟨R', F', H', p, ef, I', w', q'⟩
    exact ⟨false, H', rfl, I', q'⟩
theorem rn_tup (he : EqI X n eb) (sb : Sub X (n + 1) A) (I : Inv X pins σ H s) (w : Wd X.K Z R F c H) {vs us : List V} (h1 : SqT X.K F a vs) (h2 : SqT X.K F b us) (r1 : RelL X.K R F vs l) (r2 : RelL X.K R F us m)
    (q : Aft X.K Z W0 R F σ (seqEq eb l m c) (QB Q)) : wpAny (model X.prog X.w) A (richCompare .NotEq (.ref a) (.ref b)) (fun r s' => ∃ b H', r = .bool (!b) ∧ Inv X pins σ H' s' ∧ Q b H') X.xe s := by
  obtain ⟨xs, v1, t1, z1⟩ := I.tuple (h1.ext w.same)
  obtain ⟨ys, v2, t2, z2⟩ := I.tuple (h2.ext w.same)
  have e1 : xs.length = l.length := by rw [← v1.length, r1.length]
  have e2 : ys.length = m.length := by rw [← v2.length, r2.length]
  refine NwQ.rc_tup_ne sb.room.units0 (LpI X pins σ Z R F c eb l m Q) (LpJ X pins σ Z R F c Q) t1 t2 (tup_turn he sb h1 h2 r1 r2 v1 v2) ?_ ?_ ⟨R, F, H, List.prefix_refl _, Same.refl _, I, w, q⟩
  · rintro s' ⟨R', F', H', p, ef, I', w', q'⟩
    rw [List.size_toArray, List.size_toArray, e1, e2] at q' ⊢
    rw [seqEq_end rfl] at q'
    exact ⟨_, H', rfl, I', q'.ok w'⟩
  · rintro s' ⟨R', F', H', p, ef, I', w', q'⟩
    exact ⟨false, H', rfl, I', q'⟩
/-- two lists that stand -/
theorem two_of {d e : D} (w : Wd X.K Z R F c H) (I : Inv X pins σ H s) (ra : Rel X.K R F (.ref a) d) (rb : Rel X.K R F (.ref b) e) (hl : lstOwn c d = some l) (hm : lstOwn c e = some m) :
    ∃ (vs us : List V) (xs ys : List Value) (n1 n2 : Nat), s.heap.get? a = some { cls := .type "list", data := .seq xs.toArray n1 } ∧ s.heap.get? b = some { cls := .type "list", data := .seq ys.toArray n2 } ∧ Vals vs xs ∧ Vals us ys ∧ RelL X.K R F vs l ∧ RelL X.K R F us m := by
  obtain ⟨a', vs, e1, q1, r1⟩ := w.own ra hl
  obtain ⟨b', us, e2, q2, r2⟩ := w.own rb hm
  cases e1
  cases e2
  obtain ⟨_, xs, n1, v1, g1⟩ := I.hok _ _ q1
  obtain ⟨_, ys, n2, v2, g2⟩ := I.hok _ _ q2
  exact ⟨vs, us, xs, ys, n1, n2, g1, g2, v1, v2, r1, r2⟩
theorem lst_I (he : EqI X n eb) (sb : Sub X (n + 1) A) {d e : D} (ra : Rel X.K R F (.ref a) d) (rb : Rel X.K R F (.ref b) e) (hl : lstOwn c d = some l) (hm : lstOwn c e = some m) (hlm : l.length = m.length) :
    NwQ.LstI X.prog X.w A X.xe a b l.length (LpI X pins σ Z R F c eb l m Q) (LpJ X pins σ Z R F c Q) := by
  constructor
  · rintro i s ⟨R', F', H', p, ef, I, w, q⟩
    obtain ⟨vs, us, xs, ys, n1, n2, g1, g2, v1, v2, r1, r2⟩ := two_of w I (ra.mono p ef) (rb.mono p ef) hl hm
    refine ⟨xs.toArray, ys.toArray, n1, n2, g1, g2, by rw [List.size_toArray, ← v1.length, r1.length], by rw [List.size_toArray, ← v2.length, r2.length, hlm], fun k1 k2 => ?_⟩
    have k1' : i < xs.length := by simpa using k1
    have k2' : i < ys.length := by simpa using k2
    have j1 : i < vs.length := by rw [v1.length]; exact k1'
    have j2 : i < us.length := by rw [v2.length]; exact k2'
    obtain ⟨u, hu, ru⟩ := v1.get (List.getElem?_eq_getElem j1)
    obtain ⟨v, hv, rv⟩ := v2.get (List.getElem?_eq_getElem j2)
    rw [List.getElem?_eq_getElem k1'] at hu
    rw [List.getElem?_eq_getElem k2'] at hv
    obtain ⟨d', hd, rd⟩ := r1.getV (List.getElem?_eq_getElem j1)
    obtain ⟨e', hm', re⟩ := r2.getV (List.getElem?_eq_getElem j2)
    have e1 : xs.toArray[i] = u := by simpa using Option.some.inj hu
    have e2 : ys.toArray[i] = v := by simpa using Option.some.inj hv
    rw [e1, e2]
    exact lp_turn he sb.in1 hd hm' p ef I w q rd re ru rv
  · rintro s ⟨R', F', H', p, ef, I, w, q⟩
    obtain ⟨vs, us, xs, ys, n1, n2, g1, g2, v1, v2, r1, r2⟩ := two_of w I (ra.mono p ef) (rb.mono p ef) hl hm
    exact ⟨xs.toArray, ys.toArray, n1, n2, g1, g2, by rw [List.size_toArray, ← v1.length, r1.length], by rw [List.size_toArray, ← v2.length, r2.length, hlm], trivial⟩
theorem lst_fin {s' : Shared} (hlm : l.length = m.length) (h : LpI X pins σ Z R F c eb l m Q l.length s') : ∃ H', Inv X pins σ H' s' ∧ Q true H' := by
  obtain ⟨R', F', H', p, ef, I', w', q'⟩ := h
  rw [seqEq_end (by omega)] at q'
  have q2 := q'.ok w'
  rw [show (l.length == m.length) = true from beq_iff_eq.mpr hlm] at q2
  exact ⟨H', I', q2⟩
theorem rc_lst (he : EqI X n eb) (sb : Sub X (n + 1) A) (I : Inv X pins σ H s) (w : Wd X.K Z R F c H) {d e : D} (ra : Rel X.K R F (.ref a) d) (rb : Rel X.K R F (.ref b) e) (hl : lstOwn c d = some l) (hm : lstOwn c e = some m)
    (q : Aft X.K Z W0 R F σ (if l.length = m.length then seqEq eb l m c else .ok false c) (QB Q)) : wpAny (model X.prog X.w) A (richCompare .Eq (.ref a) (.ref b)) (fun r s' => ∃ b H', r = .bool b ∧ Inv X pins σ H' s' ∧ Q b H') X.xe s := by
  by_cases hlm : l.length = m.length
  · rw [if_pos hlm] at q
    refine NwQ.rc_list_eq sb.room.units0 _ _ (lst_I he sb ra rb hl hm hlm) ?_ ?_ ⟨R, F, H, List.prefix_refl _, Same.refl _, I, w, q⟩
    · intro s' h
      obtain ⟨H', I', q'⟩ := lst_fin hlm h
      exact ⟨true, H', rfl, I', q'⟩
    · rintro s' ⟨R', F', H', p, ef, I', w', q'⟩
      exact ⟨false, H', rfl, I', q'⟩
  · rw [if_neg hlm] at q
    obtain ⟨vs, us, xs, ys, n1, n2, g1, g2, v1, v2, r1, r2⟩ := two_of w I ra rb hl hm
    refine NwQ.rc_list_eq_len sb.room.units0 g1 g2 ?_ ⟨false, H, rfl, I, q.ok w⟩
    rw [List.size_toArray, List.size_toArray, ← v1.length, ← v2.length, r1.length, r2.length]
    simpa using hlm
theorem rn_lst (he : EqI X n eb) (sb : Sub X (n + 1) A) (I : Inv X pins σ H s) (w : Wd X.K Z R F c H) {d e : D} (ra : Rel X.K R F (.ref a) d) (rb : Rel X.K R F (.ref b) e) (hl : lstOwn c d = some l) (hm : lstOwn c e = some m)
    (q : Aft X.K Z W0 R F σ (if l.length = m.length then seqEq eb l m c else .ok false c) (QB Q)) : wpAny (model X.prog X.w) A (richCompare .NotEq (.ref a) (.ref b)) (fun r s' => ∃ b H', r = .bool (!b) ∧ Inv X pins σ H' s' ∧ Q b H') X.xe s := by
  by_cases hlm : l.length = m.length
  · rw [if_pos hlm] at q
    refine NwQ.rc_list_ne sb.room.units0 _ _ (lst_I he sb ra rb hl hm hlm) ?_ ?_ ⟨R, F, H, List.prefix_refl _, Same.refl _, I, w, q⟩
    · intro s' h
      obtain ⟨H', I', q'⟩ := lst_fin hlm h
      exact ⟨true, H', rfl, I', q'⟩
    · rintro s' ⟨R', F', H', p, ef, I', w', q'⟩
      exact ⟨false, H', rfl, I', q'⟩
  · rw [if_neg hlm] at q
    obtain ⟨vs, us, xs, ys, n1, n2, g1, g2, v1, v2, r1, r2⟩ := two_of w I ra rb hl hm
    refine NwQ.rc_list_ne_len sb.room.units0 g1 g2 ?_ ⟨false, H, rfl, I, q.ok w⟩
    rw [List.size_toArray, List.size_toArray, ← v1.length, ← v2.length, r1.length, r2.length]
    simpa using hlm
end
end Nw

set_option Elab.async false
set_option linter.all false
set_option maxRecDepth 100000
set_option maxHeartbeats 4000000
/-! Nw13: == by the text's own __eq__; the tower; the operators. -/
namespace Nw
open PySem PySem.Spec
open PyProof.Rows hiding St
open L2

theorem looks_tyD {X : Cx} {pins : List (Addr × Obj)} {s : Shared} {σ : St} {H Z : Hp} {R : List Addr} {F : Hp} {c : Cells} {M : Model} {y : V} {e : D} {v : Value} {t : Ty} (I : Inv X pins σ H s) (w : Wd X.K Z R F c H) (r : Rel X.K R F y e) (rv : RelV y v) (h : tyD c e = some t) :
    PySem.W.Looks M s.heap (typeOf v) (t.v X.K) := by
  have ofRef : ∀ {a : Addr} {o : Obj} {k : Value}, s.heap.get? a = some o → o.cls = k → PySem.W.Looks M s.heap (typeOf (.ref a)) k := fun {a o k} g e A Q E s' kp q => wpAny_typeOf_ref (kp _ _ g) (by rw [e]; exact q)
  have lst : ∀ {a : Addr} {vs : List V}, H a = some (.lst vs) → PySem.W.Looks M s.heap (typeOf (.ref a)) (.type "list") := fun {a vs} q => by
    obtain ⟨_, its, n, _, g⟩ := I.hok _ _ q
    exact ofRef g rfl
  have ins : ∀ {a C dx : Addr} {fs : List (Str × V)}, H a = some (.ins C dx fs) → PySem.W.Looks M s.heap (typeOf (.ref a)) (.ref C) := fun {a C dx fs} q => by
    obtain ⟨_, _, _, g, _⟩ := I.hok _ _ q
    exact ofRef g rfl
  have dct : ∀ {a : Addr}, IsD H a → PySem.W.Looks M s.heap (typeOf (.ref a)) (.type "dict") := fun {a} q => by
    obtain ⟨⟨o, g, k⟩, _⟩ := isD_at I q
    exact ofRef g k
  cases r with
  | dic q z l => cases h; cases (show v = Value.ref _ from rv); exact dct (.inl ⟨_, .inl (w.same _ _ q)⟩)
  | dit q z l => cases h; cases (show v = Value.ref _ from rv); exact dct (.inr ⟨_, .inl (w.same _ _ q)⟩)
  | non => cases h; cases (show v = Value.none from rv); exact PySem.W.Looks.of_pure rfl
  | bl b => cases h; cases (show v = Value.bool b from rv); exact PySem.W.Looks.of_pure rfl
  | int i => cases h; obtain ⟨t, rfl⟩ := (show ∃ t, v = Value.int i t from rv); exact PySem.W.Looks.of_pure rfl
  | str i => cases h; obtain ⟨t, rfl⟩ := (show ∃ t, v = Value.str i t from rv); exact PySem.W.Looks.of_pure rfl
  | @tup a vs ds q l =>
    cases h
    cases (show v = Value.ref a from rv)
    obtain ⟨its, _, ⟨o, g, k, _⟩, _⟩ := I.tuple (q.ext w.same)
    exact ofRef g k
  | @lst a vs ds q l => cases h; cases (show v = Value.ref a from rv); exact lst (w.same _ _ q)
  | @scr a vs ds q l =>
    cases h
    cases (show v = Value.ref a from rv)
    obtain ⟨its, _, ⟨o, n, g, k, _⟩, _⟩ := I.list (q.ext w.same)
    exact ofRef g k
  | @obj a dx cn ns vs ds q z l => cases h; cases (show v = Value.ref a from rv); exact ins (w.same _ _ q)
  | @cell i a q =>
    cases (show v = Value.ref a from rv)
    simp only [tyD] at h
    split at h
    · rename_i l hl
      cases h
      obtain ⟨vs, q2, _⟩ := w.atList q hl
      exact lst q2
    · rename_i x ns l hl
      cases h
      obtain ⟨a', o, h1, h2, h3, h4⟩ := w.cel i _ hl
      rw [q] at h1
      cases h1
      cases h3 with
      | ins z rl => exact ins h2
    · rename_i ks l hl
      cases h
      obtain ⟨a', o, h1, h2, h3, h4⟩ := w.cel i _ hl
      rw [q] at h1
      cases h1
      cases h3 with
      | dct z rl => exact dct (.inl ⟨_, .inl h2⟩)
    · rename_i ks l hl
      cases h
      obtain ⟨a', o, h1, h2, h3, h4⟩ := w.cel i _ hl
      rw [q] at h1
      cases h1
      cases h3 with
      | dtt z rl => exact dct (.inr ⟨_, .inl h2⟩)
    · cases h
  | _ => cases h
theorem dec_of {X : Cx} {pins : List (Addr × Obj)} {s : Shared} {σ : St} {H Z : Hp} {R : List Addr} {F : Hp} {c : Cells} {A : Around} {y : V} {d : D} {v : Value} {t : Ty} {a C dx : Addr} {ox : Obj} {od : Option Obj} (I : Inv X pins σ H s) (w : Wd X.K Z R F c H) (r : Rel X.K R F y d) (rv : RelV y v) (hn : insOf c d = none) (h : tyD c d = some t)
    (g : s.heap.get? a = some (PySem.W.instObj C dx)) (J : PySem.W.InstAt s.heap a ox C od) (hs : ∀ T, t = .b T → PySem.W.subIn X.K (.ref C) (.type T) = some false) : ∃ T, t = .b T ∧ NwR.Dec X.prog X.w A X.xe s a v T := by
  have lst : ∀ {b : Addr} {vs : List V}, H b = some (.lst vs) → s.TypeIs (.ref b) "list" := fun {b vs} q => by
    obtain ⟨_, its, n, _, g⟩ := I.hok _ _ q
    exact ⟨_, g, rfl⟩
  have dct : ∀ {b : Addr}, IsD H b → s.TypeIs (.ref b) "dict" := fun {b} q => (isD_at I q).1
  cases r with
  | dic q z l => cases h; cases (show v = Value.ref _ from rv); exact ⟨_, rfl, NwR.dec_dict I.kIn J (hs _ rfl) (dct (.inl ⟨_, .inl (w.same _ _ q)⟩))⟩
  | dit q z l => cases h; cases (show v = Value.ref _ from rv); exact ⟨_, rfl, NwR.dec_dict I.kIn J (hs _ rfl) (dct (.inr ⟨_, .inl (w.same _ _ q)⟩))⟩
  | non => cases h; cases (show v = Value.none from rv); exact ⟨_, rfl, NwR.dec_none⟩
  | bl b => cases h; cases (show v = Value.bool b from rv); exact ⟨_, rfl, NwR.dec_bool b g⟩
  | int i => cases h; obtain ⟨t, rfl⟩ := (show ∃ t, v = Value.int i t from rv); exact ⟨_, rfl, NwR.dec_int i t g⟩
  | str i => cases h; obtain ⟨t, rfl⟩ := (show ∃ t, v = Value.str i t from rv); exact ⟨_, rfl, NwR.dec_str i t g⟩
  | @tup b vs ds q l =>
    cases h
    cases (show v = Value.ref b from rv)
    obtain ⟨its, _, ⟨o, g1, k, _⟩, _⟩ := I.tuple (q.ext w.same)
    exact ⟨_, rfl, NwR.dec_tuple I.kIn J (hs _ rfl) ⟨o, g1, k⟩⟩
  | @lst b vs ds q l => cases h; cases (show v = Value.ref b from rv); exact ⟨_, rfl, NwR.dec_list I.kIn J (hs _ rfl) (lst (w.same _ _ q))⟩
  | @scr b vs ds q l =>
    cases h
    cases (show v = Value.ref b from rv)
    obtain ⟨its, _, ⟨o, n, g1, k, _⟩, _⟩ := I.list (q.ext w.same)
    exact ⟨_, rfl, NwR.dec_list I.kIn J (hs _ rfl) ⟨_, g1, k⟩⟩
  | @obj b dx cn ns vs ds q z l => cases hn
  | @cell i b q =>
    cases (show v = Value.ref b from rv)
    simp only [tyD] at h
    split at h
    · rename_i l hl
      cases h
      obtain ⟨vs, q2, _⟩ := w.atList q hl
      exact ⟨_, rfl, NwR.dec_list I.kIn J (hs _ rfl) (lst q2)⟩
    · rename_i x ns l hl
      simp only [insOf, hl] at hn
      cases hn
    · rename_i ks l hl
      cases h
      obtain ⟨a', o, h1, h2, h3, h4⟩ := w.cel i _ hl
      rw [q] at h1
      cases h1
      cases h3 with
      | dct z rl => exact ⟨_, rfl, NwR.dec_dict I.kIn J (hs _ rfl) (dct (.inl ⟨_, .inl h2⟩))⟩
    · rename_i ks l hl
      cases h
      obtain ⟨a', o, h1, h2, h3, h4⟩ := w.cel i _ hl
      rw [q] at h1
      cases h1
      cases h3 with
      | dtt z rl => exact ⟨_, rfl, NwR.dec_dict I.kIn J (hs _ rfl) (dct (.inr ⟨_, .inl h2⟩))⟩
    · cases h
  | _ => cases h
/-- the class named x compares by the text's __eq__ at f -/
structure EqC (K : Frag) (f : Addr) (ts : List Ty) (x : Str) : Prop where
  eq : PySem.W.findIn K (.ref (He.ga K x)) "__eq__" = some (some (.ref f))
  ne : PySem.W.findIn K (.ref (He.ga K x)) "__ne__" = some (some (.builtin "object.__ne__"))
  fn : PySem.W.isFn K (.ref f) = true
  sub : PySem.W.subIn K (.ref (He.ga K x)) (.type "object") = some true
  nf : ∀ t ∈ ts, PySem.W.notFirst K (He.ga K x) (t.v K) = true
  sb : ∀ T : String, Ty.b T ∈ ts → PySem.W.subIn K (.ref (He.ga K x)) (.type T) = some false
section
variable {X : Cx} {n : Nat} {cs : List Str} {ts : List Ty} {pins : List (Addr × Obj)} {s : Shared} {σ : St} {H Z : Hp} {R : List Addr} {F : Hp} {c : Cells} {A : Around} {Q : Bool → Hp → Prop} {me : MF} {f : Addr} {fd : FuncData} {ps : List Str}
/-- the text's __eq__, called from within -/
theorem eq_call (G : FnOk X.prog X.w X.K X.mg X.base (L2.CX X.prog X.w) n f fd ps (spOf X.K me)) (hb : Binds X.K fd ps []) (sb : Sub X n A) (I : Inv X pins σ H s) (w : Wd X.K Z R F c H) {x y : V} {d e : D} {u v : Value} (rx : Rel X.K R F x d) (ry : Rel X.K R F y e) (ru : RelV x u) (rv : RelV y v)
    (q : Aft X.K Z W0 R F σ ((me [d, e] c).bind asB) (QB Q)) : wpAny (model X.prog X.w) A (call (.ref f) [u, v]) (fun r s' => ∃ b H', r = .bool b ∧ Inv X pins σ H' s' ∧ Q b H') X.xe s := by
  have hsp : spOf X.K me [x, y] H (fun z H' => ∃ b, z = .bl b ∧ Q b H') (WE W0 σ) := by
    refine sp_of w (.cons rx (.cons ry .nil)) ((Aft.bind q).imp ?_)
    rintro R1 F1 d1 c1 H1 p1 e1 w1 ⟨_, _, _, h1⟩ z rz
    obtain ⟨b, rfl, h1⟩ := h1.asB
    cases rz
    exact ⟨b, rfl, h1.ok w1⟩
  have e0 : Env0 X.prog X.w X.K X.mg X.base A X.stack s H := by
    have e := I.env0
    exact ⟨by rw [sb.fr]; exact e.frames, e.mod, e.bs, e.bsz, e.funs, e.frf, e.hok, e.bare⟩
  have r2 : Vals [x, y] [u, v] := .cons ru (.cons rv .nil)
  have hl := G.len _ _ _ _ hsp
  have bb := hb s [u, v] I.kIn (by simpa using hl)
  rw [List.append_nil] at bb
  refine wpAny_call (codeAny_mono (G.run A X.stack s H ⟨[u, v], []⟩ [u, v] [x, y] _ _ sb.room e0 bb r2 hsp) ?_)
  rintro (er | fl) s' hq
  · exact passL pins σ H s er s' I hq
  · cases fl with
    | ret z =>
      obtain ⟨zv, H', I', rz, b, rfl, q'⟩ := I.after hq
      cases rz
      exact ⟨b, H', rfl, I', q'⟩
    | _ => exact hq.elim
theorem rc_obj (G : FnOk X.prog X.w X.K X.mg X.base (L2.CX X.prog X.w) n f fd ps (spOf X.K me)) (hb : Binds X.K fd ps []) (hc : ∀ x ∈ cs, EqC X.K f ts x) (sb : Sub X (n + 1) A) (I : Inv X pins σ H s) (w : Wd X.K Z R F c H) {x y : V} {d e : D} {u v : Value} (rx : Rel X.K R F x d) (ry : Rel X.K R F y e) (ru : RelV x u) (rv : RelV y v)
    {cn : Str} {ns : List Str} {fs : List D} (hd : insOf c d = some (cn, ns, fs)) (hcn : cs.contains cn = true) {t : Ty} (ht : tyD c e = some t) (hts : t ∈ ts) (q : Aft X.K Z W0 R F σ ((me [d, e] c).bind asB) (QB Q)) :
    wpAny (model X.prog X.w) A (richCompare .Eq u v) (fun r s' => ∃ b H', r = .bool b ∧ Inv X pins σ H' s' ∧ Q b H') X.xe s ∧ wpAny (model X.prog X.w) A (richCompare .NotEq u v) (fun r s' => ∃ b H', r = .bool (!b) ∧ Inv X pins σ H' s' ∧ Q b H') X.xe s := by
  obtain ⟨a, dx, vs, rfl, ea, z, rl⟩ := w.inst rx hd
  cases (show u = Value.ref a from ru)
  have T := hc cn (by simpa using hcn)
  obtain ⟨mA, J, _⟩ := ins_get I.hok ea
  obtain ⟨od, J, _⟩ := J.look
  obtain ⟨m, hF⟩ := I.fr
  constructor
  · refine PySem.W.cmp_K (op := .Eq) sb.room.units0 hF I.ok.mod.kin J (looks_tyD I w ry rv ht) (T.nf t hts) T.eq T.fn ?_
    refine wpAny_mono (eq_call G hb (sb.mono (Nat.le_succ _)) I w rx ry rfl rv q) (fun r s' h => ?_) fun _ _ z => z
    obtain ⟨b, H', rfl, I', q'⟩ := h
    exact ⟨b, H', rfl, I', q'⟩
  · have hu : A.units + 1 < cLine := Nat.lt_of_le_of_lt (Nat.add_le_add_left (by decide : 1 ≤ 64) _) sb.room.units
    refine NwN.ne_K hu I.kIn J (looks_tyD I w ry rv ht) (T.nf t hts) T.ne T.eq T.fn T.sub ?_
    refine wpAny_mono (eq_call G hb sb.in1 I w rx ry rfl rv q) (fun r s' h => ?_) fun _ _ z => z
    obtain ⟨b, H', rfl, I', q'⟩ := h
    exact ⟨b, rfl, b, H', rfl, I', q'⟩
theorem rc_refl (G : FnOk X.prog X.w X.K X.mg X.base (L2.CX X.prog X.w) n f fd ps (spOf X.K me)) (hb : Binds X.K fd ps []) (hc : ∀ x ∈ cs, EqC X.K f ts x) (sb : Sub X (n + 1) A) (I : Inv X pins σ H s) (w : Wd X.K Z R F c H) {x y : V} {d e : D} {u v : Value} (rx : Rel X.K R F x d) (ry : Rel X.K R F y e) (ru : RelV x u) (rv : RelV y v)
    {cn : Str} {ns : List Str} {fs : List D} (hd : insOf c e = some (cn, ns, fs)) (hcn : cs.contains cn = true) {t : Ty} (hn : insOf c d = none) (ht : tyD c d = some t) (hts : t ∈ ts) (q : Aft X.K Z W0 R F σ ((me [e, d] c).bind asB) (QB Q)) :
    wpAny (model X.prog X.w) A (richCompare .Eq u v) (fun r s' => ∃ b H', r = .bool b ∧ Inv X pins σ H' s' ∧ Q b H') X.xe s ∧ wpAny (model X.prog X.w) A (richCompare .NotEq u v) (fun r s' => ∃ b H', r = .bool (!b) ∧ Inv X pins σ H' s' ∧ Q b H') X.xe s := by
  obtain ⟨a, dx, vs, rfl, ea, z, rl⟩ := w.inst ry hd
  cases (show v = Value.ref a from rv)
  have T := hc cn (by simpa using hcn)
  obtain ⟨_, _, _, gi, _⟩ := I.hok _ _ ea
  obtain ⟨mA, J, _⟩ := ins_get I.hok ea
  obtain ⟨od, J, _⟩ := J.look
  obtain ⟨T0, rfl, D⟩ := dec_of (A := A) I w rx ru hn ht gi J fun T0 e0 => T.sb T0 (e0 ▸ hts)
  have hu : A.units + 1 < cLine := Nat.lt_of_le_of_lt (Nat.add_le_add_left (by decide : 1 ≤ 64) _) sb.room.units
  obtain ⟨id1, S1, D1⟩ := D.eq
  obtain ⟨id2, S2, D2⟩ := D.ne
  constructor
  · refine NwR.refl_eq sb.room.units0 I.kIn J D.ty (T.sb _ hts) S1 D1 T.eq T.fn ?_
    refine wpAny_mono (eq_call G hb (sb.mono (Nat.le_succ _)) I w ry rx rfl ru q) (fun r s' h => ?_) fun _ _ z => z
    obtain ⟨b, H', rfl, I', q'⟩ := h
    exact ⟨b, H', rfl, I', q'⟩
  · refine NwR.refl_ne hu I.kIn J D.ty (T.sb _ hts) S2 D2 T.ne T.eq T.fn T.sub ?_
    refine wpAny_mono (eq_call G hb sb.in1 I w ry rx rfl ru q) (fun r s' h => ?_) fun _ _ z => z
    obtain ⟨b, H', rfl, I', q'⟩ := h
    exact ⟨b, rfl, b, H', rfl, I', q'⟩
/-- one level more -/
theorem eqX_succ {g : E2} (hC : ∀ x ∈ cs, ∀ y ∈ cs, He.ga X.K x = He.ga X.K y → x = y) (h : EqX X n g) (G : FnOk X.prog X.w X.K X.mg X.base (L2.CX X.prog X.w) n f fd ps (spOf X.K me)) (hb : Binds X.K fd ps []) (hc : ∀ x ∈ cs, EqC X.K f ts x) (pf : PuF me) :
    EqX X (n + 1) (fun d e c => match pyD c 60 d, pyD c 60 e with
      | some p, some q => if SeqAt.shaped p = true ∧ SeqAt.shaped q = true then .ok (PyData.eqv p q) c else .bad
      | _, _ => eqG cs ts me (eqB cs g) d e c) := by
  have he := eqB_of hC h
  have both : ∀ (A : Around) (pins : List (Addr × Obj)) (s : Shared) (σ : St) (H Z : Hp) (R : List Addr) (F : Hp) (c : Cells) (x y : V) (d e : D) (u v : Value) (Q : Bool → Hp → Prop), Sub X (n + 1) A → Inv X pins σ H s → Wd X.K Z R F c H → Rel X.K R F x d → Rel X.K R F y e → RelV x u → RelV y v →
      Aft X.K Z W0 R F σ (match pyD c 60 d, pyD c 60 e with
        | some p, some q => if SeqAt.shaped p = true ∧ SeqAt.shaped q = true then .ok (PyData.eqv p q) c else .bad
        | _, _ => eqG cs ts me (eqB cs g) d e c) (QB Q) → wpAny (model X.prog X.w) A (richCompare .Eq u v) (fun r s' => ∃ b H', r = .bool b ∧ Inv X pins σ H' s' ∧ Q b H') X.xe s ∧ wpAny (model X.prog X.w) A (richCompare .NotEq u v) (fun r s' => ∃ b H', r = .bool (!b) ∧ Inv X pins σ H' s' ∧ Q b H') X.xe s := by
    intro A pins s σ H Z R F c x y d e u v Q sb I w rx ry ru rv q
    split at q
    · rename_i p p' h1 h2
      split at q
      · rename_i hs
        obtain ⟨as, k1⟩ := Dp.reads I p x u (dp_of w 60 x d p rx h1) ru
        obtain ⟨bs, k2⟩ := Dp.reads I p' y v (dp_of w 60 y e p' ry h2) rv
        exact ⟨SeqAt.compareEq_shaped k1 k2 hs.1 hs.2 sb.room.units ⟨_, H, rfl, I, q.ok w⟩, SeqAt.compareNe_shaped k1 k2 hs.1 hs.2 sb.room.units ⟨_, H, rfl, I, q.ok w⟩⟩
      · exact q.elim
    · unfold eqG at q
      split at q
      · rename_i qd hd
        obtain ⟨cn, ns, fs⟩ := qd
        split at q
        · rename_i hcn
          cases ht : tyD c e with
          | none => rw [ht] at hcn; exact absurd hcn.2 (by simp)
          | some t =>
            rw [ht] at hcn
            exact rc_obj G hb hc sb I w rx ry ru rv hd hcn.1 ht (by simpa using hcn.2) q
        · exact q.elim
      · rename_i hn
        split at q
        · rename_i qe he'
          obtain ⟨cn, ns, fs⟩ := qe
          split at q
          · rename_i hcn
            cases ht : tyD c d with
            | none => rw [ht] at hcn; exact absurd hcn.2 (by simp)
            | some t =>
              rw [ht] at hcn
              exact rc_refl G hb hc sb I w rx ry ru rv he' hcn.1 hn ht (by simpa using hcn.2) q
          · exact q.elim
        · split at q
          · rename_i l m
            cases rx with
            | tup h1 r1 =>
              cases ry with
              | tup h2 r2 =>
                cases ru
                cases rv
                exact ⟨rc_tup he sb I w h1 h2 r1 r2 q, rn_tup he sb I w h1 h2 r1 r2 q⟩
          · split at q
            · rename_i l m hl hm
              obtain ⟨a, _, rfl, _, _⟩ := w.own rx hl
              obtain ⟨b, _, rfl, _, _⟩ := w.own ry hm
              cases ru
              cases rv
              exact ⟨rc_lst he sb I w rx ry hl hm q, rn_lst he sb I w rx ry hl hm q⟩
            · exact q.elim
  refine ⟨fun d e c b c1 h => ?_, fun A pins s σ H Z R F c x y d e u v Q sb I w rx ry ru rv q => (both A pins s σ H Z R F c x y d e u v Q sb I w rx ry ru rv q).1, fun A pins s σ H Z R F c x y d e u v Q sb I w rx ry ru rv q => (both A pins s σ H Z R F c x y d e u v Q sb I w rx ry ru rv q).2⟩
  split at h
  · split at h
    · cases h; rfl
    · cases h
  · exact pu_eqG pf _ _ _ _ _ h
/-- the operators -/
def eqO (g : E2) : O2 := fun d e c => match g d e c with
  | .ok b c1 => .ok (.bl b) c1
  | _ => .bad
def neO (g : E2) : O2 := fun d e c => match g d e c with
  | .ok b c1 => .ok (.bl (!b)) c1
  | _ => .bad
theorem os_eq {g : E2} (h : EqX X n g) (hr : Room n X.A) : OpS X (compareOp .Eq) (eqO g) := by
  refine ⟨fun x y H Q => ∃ (Z : Hp) (R : List Addr) (F : Hp) (c : Cells) (d e : D) (Q' : Bool → Hp → Prop), Wd X.K Z R F c H ∧ Rel X.K R F x d ∧ Rel X.K R F y e ∧ Aft X.K Z W0 R F [] (g d e c) (QB Q') ∧ ∀ b H', Q' b H' → Q (.bl b) H', ?_, ?_⟩
  · rintro pins s σ H x y u v Q I ru rv ⟨Z, R, F, c, d, e, Q', w, rx, ry, q, hQ⟩
    show wpAny (model X.prog X.w) X.A (richCompare .Eq u v) (EP X pins σ Q) X.xe s
    have q' : Aft X.K Z W0 R F σ (g d e c) (QB Q') := by
      cases o : g d e c with
      | ok b c1 => rw [o] at q; exact q
      | exc => rw [o] at q; exact q
      | bad => rw [o] at q; exact q
    refine wpAny_mono (h.rc X.A pins s σ H Z R F c x y d e u v Q' ⟨hr, rfl⟩ I w rx ry ru rv q') (fun r s' z => ?_) fun _ _ z => z
    obtain ⟨b, H', rfl, I', q2⟩ := z
    exact ⟨.bl b, H', I', rfl, hQ b H' q2⟩
  · intro Z W R F c σ H x y d e Q w rx ry q
    refine ⟨Z, R, F, c, d, e, fun b H' => Q (.bl b) H', w, rx, ry, ?_, fun _ _ z => z⟩
    unfold eqO at q
    cases o : g d e c with
    | ok b c1 => rw [o] at q; exact fun R' F' H' p ef w' => q R' F' H' p ef w' _ (.bl b)
    | exc => rw [o] at q; exact q.elim
    | bad => rw [o] at q; exact q.elim
theorem os_ne {g : E2} (h : EqX X n g) (hr : Room n X.A) : OpS X (compareOp .NotEq) (neO g) := by
  refine ⟨fun x y H Q => ∃ (Z : Hp) (R : List Addr) (F : Hp) (c : Cells) (d e : D) (Q' : Bool → Hp → Prop), Wd X.K Z R F c H ∧ Rel X.K R F x d ∧ Rel X.K R F y e ∧ Aft X.K Z W0 R F [] (g d e c) (QB Q') ∧ ∀ b H', Q' b H' → Q (.bl (!b)) H', ?_, ?_⟩
  · rintro pins s σ H x y u v Q I ru rv ⟨Z, R, F, c, d, e, Q', w, rx, ry, q, hQ⟩
    show wpAny (model X.prog X.w) X.A (richCompare .NotEq u v) (EP X pins σ Q) X.xe s
    have q' : Aft X.K Z W0 R F σ (g d e c) (QB Q') := by
      cases o : g d e c with
      | ok b c1 => rw [o] at q; exact q
      | exc => rw [o] at q; exact q
      | bad => rw [o] at q; exact q
    refine wpAny_mono (h.rn X.A pins s σ H Z R F c x y d e u v Q' ⟨hr, rfl⟩ I w rx ry ru rv q') (fun r s' z => ?_) fun _ _ z => z
    obtain ⟨b, H', rfl, I', q2⟩ := z
    exact ⟨.bl (!b), H', I', rfl, hQ b H' q2⟩
  · intro Z W R F c σ H x y d e Q w rx ry q
    refine ⟨Z, R, F, c, d, e, fun b H' => Q (.bl (!b)) H', w, rx, ry, ?_, fun _ _ z => z⟩
    unfold neO at q
    cases o : g d e c with
    | ok b c1 => rw [o] at q; exact fun R' F' H' p ef w' => q R' F' H' p ef w' _ (.bl _)
    | exc => rw [o] at q; exact q.elim
    | bad => rw [o] at q; exact q.elim
/-- data without instances -/
def eqP : E2 := fun d e c => match pyD c 60 d, pyD c 60 e with
  | some p, some q => if SeqAt.shaped p = true ∧ SeqAt.shaped q = true then .ok (PyData.eqv p q) c else .bad
  | _, _ => .bad
theorem eqX_P : EqX X n eqP := by
  have both : ∀ (A : Around) (pins : List (Addr × Obj)) (s : Shared) (σ : St) (H Z : Hp) (R : List Addr) (F : Hp) (c : Cells) (x y : V) (d e : D) (u v : Value) (Q : Bool → Hp → Prop), Sub X n A → Inv X pins σ H s → Wd X.K Z R F c H → Rel X.K R F x d → Rel X.K R F y e → RelV x u → RelV y v →
      Aft X.K Z W0 R F σ (eqP d e c) (QB Q) → wpAny (model X.prog X.w) A (richCompare .Eq u v) (fun r s' => ∃ b H', r = .bool b ∧ Inv X pins σ H' s' ∧ Q b H') X.xe s ∧ wpAny (model X.prog X.w) A (richCompare .NotEq u v) (fun r s' => ∃ b H', r = .bool (!b) ∧ Inv X pins σ H' s' ∧ Q b H') X.xe s := by
    intro A pins s σ H Z R F c x y d e u v Q sb I w rx ry ru rv q
    unfold eqP at q
    split at q
    · rename_i p p' h1 h2
      split at q
      · rename_i hs
        obtain ⟨as, k1⟩ := Dp.reads I p x u (dp_of w 60 x d p rx h1) ru
        obtain ⟨bs, k2⟩ := Dp.reads I p' y v (dp_of w 60 y e p' ry h2) rv
        exact ⟨SeqAt.compareEq_shaped k1 k2 hs.1 hs.2 sb.room.units ⟨_, H, rfl, I, q.ok w⟩, SeqAt.compareNe_shaped k1 k2 hs.1 hs.2 sb.room.units ⟨_, H, rfl, I, q.ok w⟩⟩
      · exact q.elim
    · exact q.elim
  refine ⟨fun d e c b c1 h => ?_, fun A pins s σ H Z R F c x y d e u v Q sb I w rx ry ru rv q => (both A pins s σ H Z R F c x y d e u v Q sb I w rx ry ru rv q).1, fun A pins s σ H Z R F c x y d e u v Q sb I w rx ry ru rv q => (both A pins s σ H Z R F c x y d e u v Q sb I w rx ry ru rv q).2⟩
  unfold eqP at h
  split at h
  · split at h
    · cases h; rfl
    · cases h
  · cases h
theorem EqX.mono {g : E2} {k : Nat} (h : EqX X n g) (hk : n ≤ k) : EqX X k g :=
  ⟨h.pu, fun A pins s σ H Z R F c x y d e u v Q sb => h.rc A pins s σ H Z R F c x y d e u v Q (sb.mono hk), fun A pins s σ H Z R F c x y d e u v Q sb => h.rn A pins s σ H Z R F c x y d e u v Q (sb.mono hk)⟩
end
/-- everywhere in the program's run -/
def EqAll (P : Program) (w : World) (K : Frag) (mg : Str → Option Value) (base : Heap) (k : Nat) (g : E2) : Prop := ∀ X : Cx, X.prog = P → X.w = w → X.K = K → X.mg = mg → X.base = base → EqX X k g
theorem eq_tower {P : Program} {w : World} {K : Frag} {mg : Str → Option Value} {base : Heap} {cs : List Str} {ts : List Ty} {Fe : E2 → MF} {f : Addr} {fd : FuncData} {ps : List Str} (hC : ∀ x ∈ cs, ∀ y ∈ cs, He.ga K x = He.ga K y → x = y) (hc : ∀ x ∈ cs, EqC K f ts x) (hb : Binds K fd ps [])
    (step : ∀ (n : Nat) (g : E2), EqAll P w K mg base (2 * n + 2) g → FnOk P w K mg base (L2.CX P w) (2 * n + 3) f fd ps (spOf K (Fe g))) (pf : ∀ g, PuE g → PuF (Fe g)) : ∀ n, EqAll P w K mg base (2 * n + 2) (eqF cs ts Fe n)
  | 0 => fun X _ _ _ _ _ => ⟨fun d e c b c1 h => (by unfold eqF at h; cases h), fun A pins s σ H Z R F c x y d e u v Q sb I w rx ry ru rv q => q.elim, fun A pins s σ H Z R F c x y d e u v Q sb I w rx ry ru rv q => q.elim⟩
  | n + 1 => by
    intro X h1 h2 h3 h4 h5
    have ih := eq_tower hC hc hb step pf n
    have G := step n _ ih
    have h := (ih X h1 h2 h3 h4 h5).mono (Nat.le_succ _)
    subst h1 h2 h3 h4 h5
    exact eqX_succ hC h G hb hc (pf _ (pu_eqF pf n))
theorem pu_eqO {g : E2} (p : PuE g) : PuO (eqO g) := fun d e c b c1 h => by
  unfold eqO at h
  split at h
  · rename_i q; cases h; exact p _ _ _ _ _ q
  · cases h
theorem pu_neO {g : E2} (p : PuE g) : PuO (neO g) := fun d e c b c1 h => by
  unfold neO at h
  split at h
  · rename_i q; cases h; exact p _ _ _ _ _ q
  · cases h
theorem pu_eqP : PuE eqP := fun d e c b c1 h => by
  unfold eqP at h
  split at h
  · split at h
    · cases h; rfl
    · cases h
  · cases h
end Nw

set_option Elab.async false
set_option linter.all false
set_option maxRecDepth 100000
set_option maxHeartbeats 4000000
/-! Nw13b: in, not in, with items compared by ==. -/
namespace Nw
open PySem PySem.Spec
open PyProof.Rows hiding St
open L2
def ctD (eb : E2) (x : D) : List D → Cells → Out Bool
  | [], c => .ok false c
  | y :: ys, c => match eb y x c with
    | .ok b _ => if b = true then .ok true c else ctD eb x ys c
    | _ => .bad
def inO (cs : List Str) (g : E2) (neg : Bool) : O2 := fun d e c => match inD neg d e c with
  | .ok v c1 => .ok v c1
  | _ => match e with
    | .tup l => match ctD (eqB cs g) d l c with
      | .ok b c1 => .ok (.bl (neg != b)) c1
      | _ => .bad
    | e => match lstOwn c e with
      | some l => match ctD (eqB cs g) d l c with
        | .ok b c1 => .ok (.bl (neg != b)) c1
        | _ => .bad
      | none => .bad
section
variable {X : Cx} {n : Nat} {eb : E2} {pins : List (Addr × Obj)} {s : Shared} {σ : St} {H Z : Hp} {R : List Addr} {F : Hp} {c : Cells} {A : Around} {Q : Bool → Hp → Prop} {l : List D} {a : Addr} {x : V} {d : D} {u : Value}
def CpI (X : Cx) (pins : List (Addr × Obj)) (σ : St) (Z : Hp) (R : List Addr) (F : Hp) (c : Cells) (eb : E2) (d : D) (l : List D) (Q : Bool → Hp → Prop) (i : Nat) (s : Shared) : Prop :=
  ∃ R' F' H', R <+: R' ∧ Same F F' ∧ Inv X pins σ H' s ∧ Wd X.K Z R' F' c H' ∧ Aft X.K Z W0 R' F' σ (ctD eb d (l.drop i) c) (QB Q)
def CpJ (X : Cx) (pins : List (Addr × Obj)) (σ : St) (Z : Hp) (R : List Addr) (F : Hp) (c : Cells) (Q : Bool → Hp → Prop) (s : Shared) : Prop := ∃ R' F' H', R <+: R' ∧ Same F F' ∧ Inv X pins σ H' s ∧ Wd X.K Z R' F' c H' ∧ Q true H'
theorem cp_turn (he : EqI X n eb) (sb : Sub X n A) {i : Nat} {y : V} {v : Value} {e : D} (hd : l[i]? = some e) {R' : List Addr} {F' H' : Hp} (p : R <+: R') (ef : Same F F') (I : Inv X pins σ H' s) (w : Wd X.K Z R' F' c H') (q : Aft X.K Z W0 R' F' σ (ctD eb d (l.drop i) c) (QB Q)) (rx : Rel X.K R' F' x d) (ry : Rel X.K R' F' y e) (ru : RelV x u) (rv : RelV y v) :
    wpAny (model X.prog X.w) A (eqBool v u) (fun r s' => if r = true then CpJ X pins σ Z R F c Q s' else CpI X pins σ Z R F c eb d l Q (i + 1) s') X.xe s := by
  obtain ⟨l1, e1⟩ := List.getElem?_eq_some_iff.mp hd
  rw [List.drop_eq_getElem_cons l1, e1] at q
  unfold ctD at q
  refine wpAny_mono (he.2 A pins s σ H' Z R' F' c y x e d v u (fun b H'' => ∃ R2 F2, R' <+: R2 ∧ Same F' F2 ∧ Wd X.K Z R2 F2 c H'' ∧ if b = true then Q true H'' else Aft X.K Z W0 R2 F2 σ (ctD eb d (l.drop (i + 1)) c) (QB Q)) sb I w ry rx rv ru ?_) (fun b s' z => ?_) fun _ _ z => z
  · cases o : eb e d c with
    | bad => rw [o] at q; exact q.elim
    | exc => rw [o] at q; exact q.elim
    | ok b c1 =>
      rw [o] at q
      dsimp only at q
      have hc := he.1 _ _ _ _ _ o
      subst hc
      intro R2 F2 H2 p2 e2 w2
      refine ⟨R2, F2, p2, e2, w2, ?_⟩
      cases b with
      | true =>
        rw [if_pos rfl] at q ⊢
        exact (Aft.mono p2 e2 q).ok w2
      | false =>
        rw [if_neg (by decide)] at q ⊢
        exact Aft.mono p2 e2 q
  · obtain ⟨H2, I2, R2, F2, p2, e2, w2, q2⟩ := z
    cases b with
    | true =>
      rw [if_pos rfl] at q2 ⊢
      exact ⟨R2, F2, H2, p.trans p2, ef.trans e2, I2, w2, q2⟩
    | false =>
      rw [if_neg (by decide)] at q2 ⊢
      exact ⟨R2, F2, H2, p.trans p2, ef.trans e2, I2, w2, q2⟩
theorem cp_fin {k : Nat} (hk : k = l.length) {s' : Shared} (h : CpI X pins σ Z R F c eb d l Q k s') : ∃ H', Inv X pins σ H' s' ∧ Q false H' := by
  obtain ⟨R', F', H', p, ef, I', w', q'⟩ := h
  rw [List.drop_of_length_le (by omega)] at q'
  unfold ctD at q'
  exact ⟨H', I', q'.ok w'⟩
theorem cp_stop {s' : Shared} (h : CpJ X pins σ Z R F c Q s') : ∃ H', Inv X pins σ H' s' ∧ Q true H' := by
  obtain ⟨R', F', H', p, ef, I', w', q'⟩ := h
  exact ⟨H', I', q'⟩
theorem cp_list (he : EqI X n eb) (sb : Sub X (n + 1) A) (I : Inv X pins σ H s) (w : Wd X.K Z R F c H) (rx : Rel X.K R F x d) (ru : RelV x u) {e : D} (ra : Rel X.K R F (.ref a) e) (hl : lstOwn c e = some l) (q : Aft X.K Z W0 R F σ (ctD eb d l c) (QB Q)) :
    s.TypeIs (.ref a) "list" ∧ wpAny (model X.prog X.w) A (call (.builtin "list.__contains__") [.ref a, u]) (fun v s' => ∃ b, v = .bool b ∧ ∃ H', Inv X pins σ H' s' ∧ Q b H') X.xe s := by
  refine NwC.call_list (N := l.length) (CpI X pins σ Z R F c eb d l Q) (CpJ X pins σ Z R F c Q) ?_ (fun s' => cp_fin rfl) (fun s' => cp_stop) ⟨R, F, H, List.prefix_refl _, Same.refl _, I, w, q⟩
  rintro i s ⟨R', F', H', p, ef, I, w, q⟩
  obtain ⟨a', vs, e1, q1, r1⟩ := w.own (ra.mono p ef) hl
  cases e1
  obtain ⟨_, xs, n1, v1, g1⟩ := I.hok _ _ q1
  refine ⟨xs.toArray, n1, g1, by rw [List.size_toArray, ← v1.length, r1.length], fun k1 => ?_⟩
  have k1' : i < xs.length := by simpa using k1
  have j1 : i < vs.length := by rw [v1.length]; exact k1'
  obtain ⟨v, hv, rv⟩ := v1.get (List.getElem?_eq_getElem j1)
  rw [List.getElem?_eq_getElem k1'] at hv
  obtain ⟨d', hd, rd⟩ := r1.getV (List.getElem?_eq_getElem j1)
  have e1 : xs.toArray[i] = v := by simpa using Option.some.inj hv
  rw [e1]
  exact cp_turn he sb.in1 hd p ef I w q (rx.mono p ef) rd ru rv
theorem cp_tup (he : EqI X n eb) (sb : Sub X (n + 1) A) (I : Inv X pins σ H s) (w : Wd X.K Z R F c H) (rx : Rel X.K R F x d) (ru : RelV x u) {vs : List V} (h1 : SqT X.K F a vs) (r1 : RelL X.K R F vs l) (q : Aft X.K Z W0 R F σ (ctD eb d l c) (QB Q)) :
    s.TypeIs (.ref a) "tuple" ∧ wpAny (model X.prog X.w) A (call (.builtin "tuple.__contains__") [.ref a, u]) (fun v s' => ∃ b, v = .bool b ∧ ∃ H', Inv X pins σ H' s' ∧ Q b H') X.xe s := by
  obtain ⟨xs, v1, t1, z1⟩ := I.tuple (h1.ext w.same)
  refine NwC.call_tuple (CpI X pins σ Z R F c eb d l Q) (CpJ X pins σ Z R F c Q) t1 ?_ (fun s' => cp_fin (by rw [List.size_toArray, ← v1.length, r1.length])) (fun s' => cp_stop) ⟨R, F, H, List.prefix_refl _, Same.refl _, I, w, q⟩
  rintro i k1 s ⟨R', F', H', p, ef, I, w, q⟩
  have k1' : i < xs.length := by simpa using k1
  have j1 : i < vs.length := by rw [v1.length]; exact k1'
  obtain ⟨v, hv, rv⟩ := v1.get (List.getElem?_eq_getElem j1)
  rw [List.getElem?_eq_getElem k1'] at hv
  obtain ⟨d', hd, rd⟩ := r1.getV (List.getElem?_eq_getElem j1)
  have e1 : xs.toArray[i] = v := by simpa using Option.some.inj hv
  rw [e1]
  exact cp_turn he sb.in1 hd p ef I w q (rx.mono p ef) (rd.mono p ef) ru rv
end
section
variable {X : Cx} {n : Nat} {g : E2} {cs : List Str}
/-- what holds of x in y beyond flat items -/
def rInO (X : Cx) (cs : List Str) (g : E2) (neg : Bool) : R2 := fun x y H Q => ∃ (Z : Hp) (R : List Addr) (F : Hp) (c : Cells) (d e : D) (l : List D) (Q' : Bool → Hp → Prop), Wd X.K Z R F c H ∧ Rel X.K R F x d ∧ Rel X.K R F y e ∧ (e = .tup l ∨ lstOwn c e = some l) ∧ Aft X.K Z W0 R F [] (ctD (eqB cs g) d l c) (QB Q') ∧ ∀ b H', Q' b H' → Q (.bl (neg != b)) H'
theorem aft_any {K : Frag} {Z : Hp} {R : List Addr} {F : Hp} {σ τ : St} {o : Out Bool} {Q : Bool → Hp → Prop} (q : Aft K Z W0 R F σ o (QB Q)) : Aft K Z W0 R F τ o (QB Q) := by
  cases o with
  | ok b c1 => exact q
  | exc => exact q
  | bad => exact q
theorem rInO_call (hC : ∀ x ∈ cs, ∀ y ∈ cs, He.ga X.K x = He.ga X.K y → x = y) (h : EqX X n g) (hr : Room (n + 1) X.A) {pins : List (Addr × Obj)} {s : Shared} {σ : St} {H : Hp} {x y : V} {u v : Value} {Q : VK} {neg : Bool} (I : Inv X pins σ H s) (ru : RelV x u) (rv : RelV y v) (hq : rInO X cs g neg x y H Q) :
    ∃ (a : Addr) (T id : String), v = .ref a ∧ s.TypeIs (.ref a) T ∧ Slot T "__contains__" id ∧ wpAny (model X.prog X.w) X.A (call (.builtin id) [.ref a, u]) (fun v s' => ∃ b, v = .bool b ∧ ∃ H', Inv X pins σ H' s' ∧ Q (.bl (neg != b)) H') X.xe s := by
  obtain ⟨Z, R, F, c, d, e, l, Q', w, rx, ry, hl, q, hQ⟩ := hq
  have he := eqB_of hC h
  have q' := aft_any (τ := σ) q
  rcases hl with rfl | hl
  · cases ry with
    | @tup a vs ds h1 r1 =>
      cases (show v = Value.ref a from rv)
      obtain ⟨t, k⟩ := cp_tup he ⟨hr, rfl⟩ I w rx ru h1 r1 q'
      refine ⟨a, _, _, rfl, t, PySem.F.slot_tuple_contains, wpAny_mono k (fun z s' hz => ?_) fun _ _ z => z⟩
      obtain ⟨b, e1, H', I', q2⟩ := hz
      exact ⟨b, e1, H', I', hQ b H' q2⟩
  · obtain ⟨a, vs, rfl, _, _⟩ := w.own ry hl
    cases (show v = Value.ref a from rv)
    obtain ⟨t, k⟩ := cp_list he ⟨hr, rfl⟩ I w rx ru ry hl q'
    refine ⟨a, _, _, rfl, t, PySem.F.slot_list_contains, wpAny_mono k (fun z s' hz => ?_) fun _ _ z => z⟩
    obtain ⟨b, e1, H', I', q2⟩ := hz
    exact ⟨b, e1, H', I', hQ b H' q2⟩
theorem op_inO (hC : ∀ x ∈ cs, ∀ y ∈ cs, He.ga X.K x = He.ga X.K y → x = y) (h : EqX X n g) (hr : Room (n + 1) X.A) : OpR X (compareOp .In) (rInO X cs g false) := by
  intro pins s σ H x y u v Q I ru rv hq
  obtain ⟨a, T, id, rfl, t, S, k⟩ := rInO_call hC h hr I ru rv hq
  refine NwC.in_of t S (wpAny_mono k (fun z s' hz => ?_) fun _ _ z => z)
  obtain ⟨b, rfl, H', I', q2⟩ := hz
  exact ⟨b, rfl, .bl b, H', I', rfl, by simpa using q2⟩
theorem op_notInO (hC : ∀ x ∈ cs, ∀ y ∈ cs, He.ga X.K x = He.ga X.K y → x = y) (h : EqX X n g) (hr : Room (n + 1) X.A) : OpR X (compareOp .NotIn) (rInO X cs g true) := by
  intro pins s σ H x y u v Q I ru rv hq
  obtain ⟨a, T, id, rfl, t, S, k⟩ := rInO_call hC h hr I ru rv hq
  refine NwC.notIn_of t S (wpAny_mono k (fun z s' hz => ?_) fun _ _ z => z)
  obtain ⟨b, rfl, H', I', q2⟩ := hz
  exact ⟨b, rfl, .bl (!b), H', I', rfl, by simpa using q2⟩
theorem rInO_mk {neg : Bool} {Z : Hp} {W : WX} {R : List Addr} {F : Hp} {c : Cells} {σ : St} {H : Hp} {x y : V} {d e : D} {l : List D} {Q : VK} (w : Wd X.K Z R F c H) (rx : Rel X.K R F x d) (ry : Rel X.K R F y e) (hl : e = .tup l ∨ lstOwn c e = some l)
    (q : Aft X.K Z W R F σ (match ctD (eqB cs g) d l c with | .ok b c1 => .ok (.bl (neg != b)) c1 | _ => .bad) (QV X.K Q)) : rInO X cs g neg x y H Q := by
  refine ⟨Z, R, F, c, d, e, l, fun b H' => Q (.bl (neg != b)) H', w, rx, ry, hl, ?_, fun _ _ z => z⟩
  cases o : ctD (eqB cs g) d l c with
  | ok b c1 => rw [o] at q; exact fun R' F' H' p ef w' => q R' F' H' p ef w' _ (.bl _)
  | exc => rw [o] at q; exact q.elim
  | bad => rw [o] at q; exact q.elim
theorem inO_split {neg : Bool} {Z : Hp} {W : WX} {R : List Addr} {F : Hp} {c : Cells} {σ : St} {H : Hp} {x y : V} {d e : D} {Q : VK} (w : Wd X.K Z R F c H) (rx : Rel X.K R F x d) (ry : Rel X.K R F y e) (q : Aft X.K Z W R F σ (inO cs g neg d e c) (QV X.K Q)) :
    Aft X.K Z W R F σ (inD neg d e c) (QV X.K Q) ∨ rInO X cs g neg x y H Q := by
  unfold inO at q
  split at q
  · rename_i v c1 hv
    rw [hv]
    exact .inl q
  · split at q
    · exact .inr (rInO_mk w rx ry (.inl rfl) q)
    · split at q
      · rename_i l hl
        exact .inr (rInO_mk w rx ry (.inr hl) q)
      · exact q.elim
theorem os_inO (hC : ∀ x ∈ cs, ∀ y ∈ cs, He.ga X.K x = He.ga X.K y → x = y) (h : EqX X n g) (hr : Room (n + 1) X.A) : OpS X (compareOp .In) (inO cs g false) := by
  obtain ⟨f, k1, k2⟩ := os_in (X := X)
  refine ⟨_, OpR.or k1 (op_inO hC h hr), fun Z W R F c σ H x y d e Q w rx ry q => ?_⟩
  rcases inO_split w rx ry q with q | q
  · exact .inl (k2 Z W R F c σ H x y d e Q w rx ry q)
  · exact .inr q
theorem os_notInO (hC : ∀ x ∈ cs, ∀ y ∈ cs, He.ga X.K x = He.ga X.K y → x = y) (h : EqX X n g) (hr : Room (n + 1) X.A) : OpS X (compareOp .NotIn) (inO cs g true) := by
  obtain ⟨f, k1, k2⟩ := os_notIn (X := X)
  refine ⟨_, OpR.or k1 (op_notInO hC h hr), fun Z W R F c σ H x y d e Q w rx ry q => ?_⟩
  rcases inO_split w rx ry q with q | q
  · exact .inl (k2 Z W R F c σ H x y d e Q w rx ry q)
  · exact .inr q
end
end Nw

set_option Elab.async false
set_option linter.all false
set_option maxRecDepth 100000
set_option maxHeartbeats 4000000
/-! Nw14: defs, methods, classes by names; what the head is asked. -/
namespace Nw
open PySem PySem.Spec
open PyProof.Rows hiding St
open L2

section
variable (P : Program) (w : World) (K : Frag) (mg : Str → Option Value) (base : Heap)
/-- the def named x does what m says -/
structure DefOk (k : Nat) (x : Str) (m : MF) : Prop where
  g : mg x = some (.ref (He.ga K x))
  kp : PySem.W.keepIn K (.ref (He.ga K x)) = true
  ex : ∃ fd ps, FnOk P w K mg base (L2.CX P w) k (He.ga K x) fd ps (spOf K m) ∧ Binds K fd ps []
/-- the method mn of the class cn -/
structure MtOk (k : Nat) (mn cn : Str) (m : MF) : Prop where
  cl : Cls K (He.ga K cn)
  ex : ∃ fd ps, Meth K (He.ga K cn) mn (He.ma K (He.ga K cn) mn) ∧ FnOk P w K mg base (L2.CX P w) k (He.ma K (He.ga K cn) mn) fd ps (spOf K m) ∧ Binds K fd ps []
/-- the class cn, its __init__ -/
structure MkOk (k : Nat) (cn : Str) (m : MF) : Prop where
  g : mg cn = some (.ref (He.ga K cn))
  ex : ∃ fd ps, Mk K (He.ga K cn) (He.ma K (He.ga K cn) "__init__") ∧ FnOk P w K mg base (L2.CX P w) k (He.ma K (He.ga K cn) "__init__") fd ps (spOf K m) ∧ Binds K fd ps []
/-- the class of errors cn with fields -/
structure ExOk (k : Nat) (cn : Str) (ns : List Str) : Prop where
  g : mg cn = some (.ref (He.ga K cn))
  T : OexC K (He.ga K cn)
  ex : ∃ fd ps, PySem.W.findIn K (.ref (He.ga K cn)) "__init__" = some (some (.ref (He.ma K (He.ga K cn) "__init__"))) ∧ PySem.W.typeIn K (.ref (He.ma K (He.ga K cn) "__init__")) = some (.type "function") ∧ FnOk P w K mg base (L2.CX P w) k (He.ma K (He.ga K cn) "__init__") fd ps (spX (He.ga K cn) ns) ∧ Binds K fd ps []
end
section
variable {X : Cx} {W : WX} {k : Nat} {x cn mn : Str} {m : MF} {e o : Expr} {es : List Expr} {ma : MA} {p pos pos' apos : Pos} {ns : List Str}
theorem dd_call (G : DefOk X.prog X.w X.K X.mg X.base k x m) (hr : Room k X.A) (tk : Takes X W) (ha : DA X W (e :: es) ma) (hg : Gl X x := by rfl) (hdb : (x == ("__debug__" : Str)) = false := by decide)
    (he : starEach (e :: es) X.env = (false, eval e X.env) :: starEach es X.env := by rfl) (hpl : (backTo pos (starEach es X.env)).any (·.1) = false := by rfl) : DE X W (.Call (.Name x p) (e :: es) [] pos) (mCall m ma) := by
  obtain ⟨fd, ps, G', hb⟩ := G.ex
  exact de_call G' hr tk G.g G.kp hb ha hg hdb he hpl
theorem dd_call0 (G : DefOk X.prog X.w X.K X.mg X.base k x m) (hr : Room k X.A) (tk : Takes X W) (hg : Gl X x := by rfl) (hdb : (x == ("__debug__" : Str)) = false := by decide) : DE X W (.Call (.Name x p) [] [] pos) (mCall m mNil) := by
  obtain ⟨fd, ps, G', hb⟩ := G.ex
  exact de_call0 G' hr tk G.g G.kp hb hg hdb
theorem MtOk.me (G : MtOk X.prog X.w X.K X.mg X.base k mn cn m) : MethOk X k mn cn m := by
  obtain ⟨fd, ps, h1, h2, h3⟩ := G.ex
  exact ⟨G.cl, _, fd, ps, h1, h2, h3⟩
theorem MtOk.mono {P : Program} {w : World} {K : Frag} {mg : Str → Option Value} {base : Heap} {j : Nat} (G : MtOk P w K mg base k mn cn m) (h : k ≤ j) : MtOk P w K mg base j mn cn m := by
  obtain ⟨fd, ps, h1, h2, h3⟩ := G.ex
  exact ⟨G.cl, fd, ps, h1, h2.mono h, h3⟩
theorem disp_cons {r : List (Str × MF)} (G : MtOk X.prog X.w X.K X.mg X.base k mn cn m) (t : Disp X k mn r) : Disp X k mn ((cn, m) :: r) := .cons G.me t
theorem dd_make (G : MkOk X.prog X.w X.K X.mg X.base k cn m) (hr : Room (k + 1) X.A) (tk : Takes X W) (ha : DA X W (e :: es) ma) (hg : Gl X cn := by rfl) (hdb : (cn == ("__debug__" : Str)) = false := by decide)
    (he : starEach (e :: es) X.env = (false, eval e X.env) :: starEach es X.env := by rfl) (hpl : (backTo pos (starEach es X.env)).any (·.1) = false := by rfl) : DE X W (.Call (.Name cn p) (e :: es) [] pos) (mMake cn m ma) := by
  obtain ⟨fd, ps, M, G', hb⟩ := G.ex
  exact de_make M G' hr tk G.g hb ha hg hdb he hpl
theorem dd_make0 (G : MkOk X.prog X.w X.K X.mg X.base k cn m) (hr : Room (k + 1) X.A) (tk : Takes X W) (hg : Gl X cn := by rfl) (hdb : (cn == ("__debug__" : Str)) = false := by decide) : DE X W (.Call (.Name cn p) [] [] pos) (mMake cn m mNil) := by
  obtain ⟨fd, ps, M, G', hb⟩ := G.ex
  exact de_make0 M G' hr tk G.g hb hg hdb
theorem dd_raise (T : ExOk X.prog X.w X.K X.mg X.base k x ns) (hr : Room (k + 1) X.A) (hc : X.calm = true) (tk : Takes X W) (ha : DA X W (e :: es) ma) (hg : Gl X x := by rfl) (hdb : (x == ("__debug__" : Str)) = false := by decide)
    (he : starEach (e :: es) X.env = (false, eval e X.env) :: starEach es X.env := by rfl) (hpl : (backTo pos (starEach es X.env)).any (·.1) = false := by rfl) :
    DS X W (.Raise (some (.Call (.Name x p) (e :: es) [] pos)) none pos') (mRaise x ns ma) := by
  obtain ⟨fd, ps, h1, h2, h3, h4⟩ := T.ex
  exact ds_raise ⟨T.g, T.T, _, fd, ps, h1, h2, h3, h4⟩ hr hc tk ha hg hdb he hpl
end

/-! ### what the head is asked -/
def insB (K : Frag) (x : Str) : Bool := (He.Fa.cls x).ok K && (decide (PySem.W.findIn K (.ref (He.ga K x)) "__class__" = some (some (.builtin "object.__class__"))) && (decide (PySem.W.specialIn K (.builtin "object.__class__") "__get__" = some (some (.builtin "getset_descriptor.__get__"))) &&
  (decide (PySem.W.takesIn K (.builtin "object.__class__") = some true) && decide (PySem.W.mroIn K (He.ga K x) (.type "object") = some true))))
theorem insB_ok {K : Frag} {x : Str} (h : insB K x = true) : InsC K x := by
  obtain ⟨h1, h⟩ := He.ba h
  obtain ⟨h2, h⟩ := He.ba h
  obtain ⟨h3, h⟩ := He.ba h
  obtain ⟨h4, h5⟩ := He.ba h
  exact ⟨He.cls_ok h1, of_decide_eq_true h2, of_decide_eq_true h3, of_decide_eq_true h4, of_decide_eq_true h5⟩
def isiB (K : Frag) (ts : List Ty) (f : Ty → Bool) (Cs : List Cl) : Bool := ts.all fun t => decide (PySem.W.kitAny K (t.v K) (Cs.map (Cl.v K)) = some (f t))
def tsB (K : Frag) (ts : List Ty) : Bool := ts.all fun t => match t with
  | .o x => insB K x
  | .b _ => true
theorem isiB_ok {K : Frag} {ts : List Ty} {f : Ty → Bool} {Cs : List Cl} (h : isiB K ts f Cs = true) (h2 : tsB K ts = true) : IsiOk K ts f Cs :=
  ⟨fun t ht => of_decide_eq_true (List.all_eq_true.mp h t ht), fun x hx => insB_ok (List.all_eq_true.mp h2 (.o x) hx)⟩
def eqB_ (K : Frag) (f : Addr) (ts : List Ty) (x : Str) : Bool := decide (PySem.W.findIn K (.ref (He.ga K x)) "__eq__" = some (some (.ref f))) && (decide (PySem.W.findIn K (.ref (He.ga K x)) "__ne__" = some (some (.builtin "object.__ne__"))) &&
  (PySem.W.isFn K (.ref f) && (decide (PySem.W.subIn K (.ref (He.ga K x)) (.type "object") = some true) && (ts.all (fun t => PySem.W.notFirst K (He.ga K x) (t.v K)) && ts.all fun t => match t with
    | .b T => decide (PySem.W.subIn K (.ref (He.ga K x)) (.type T) = some false)
    | .o _ => true))))
theorem eqB_ok {K : Frag} {f : Addr} {ts : List Ty} {x : Str} (h : eqB_ K f ts x = true) : EqC K f ts x := by
  obtain ⟨h1, h⟩ := He.ba h
  obtain ⟨h2, h⟩ := He.ba h
  obtain ⟨h3, h⟩ := He.ba h
  obtain ⟨h4, h⟩ := He.ba h
  obtain ⟨h5, h6⟩ := He.ba h
  exact ⟨of_decide_eq_true h1, of_decide_eq_true h2, h3, of_decide_eq_true h4, fun t ht => List.all_eq_true.mp h5 t ht, fun T hT => of_decide_eq_true (List.all_eq_true.mp h6 (.b T) hT)⟩
def oexCB (K : Frag) (C : Addr) : Bool := match K.lookup C with
  | some ⟨.type t, _, .cls cd, sl⟩ => (match cd.mro, sl.toList with
    | .ref C' :: bm, [_, _, _, _, some (.builtin n), _] => decide (t = "type") && (decide (C' = C) && (decide (n = "ValueError.__new__") && (cd.hasDict && (!cd.hasDel && PySem.HandSPX.refsVE bm))))
    | _, _ => false)
  | _ => false
def oexB (K : Frag) (C : Addr) : Bool := oexCB K C && (decide (PySem.W.findIn K (.ref C) "__setattr__" = some (some (.builtin "object.__setattr__"))) && (decide (PySem.W.subIn K (.ref C) (.type "BaseException") = some true) && (decide (PySem.W.typeIn K (.ref C) = some (.type "type")) && PySem.W.keepIn K (.ref C))))
theorem oexB_ok {K : Frag} {C : Addr} (h : oexB K C = true) : OexC K C := by
  obtain ⟨h1, h⟩ := He.ba h
  obtain ⟨h2, h⟩ := He.ba h
  obtain ⟨h3, h⟩ := He.ba h
  obtain ⟨h4, h5⟩ := He.ba h
  refine ⟨?_, of_decide_eq_true h2, of_decide_eq_true h3, of_decide_eq_true h4, h5⟩
  unfold oexCB at h1
  split at h1
  · rename_i t dd cd sl ho
    split at h1
    · rename_i C' bm k0 k1 k2 k3 n k5 hm hs
      obtain ⟨g1, h1⟩ := He.ba h1
      obtain ⟨g2, h1⟩ := He.ba h1
      obtain ⟨g3, h1⟩ := He.ba h1
      obtain ⟨g4, h1⟩ := He.ba h1
      obtain ⟨g5, g6⟩ := He.ba h1
      have g1 := of_decide_eq_true g1
      have g2 := of_decide_eq_true g2
      have g3 := of_decide_eq_true g3
      subst g1 g2 g3
      obtain ⟨nm, bs, mro, ns, qn, hd, sn, sub, ab, col, del⟩ := cd
      dsimp only at hm g4 g5
      have g5 : del = false := by simpa using g5
      subst hm g4 g5
      obtain ⟨l⟩ := sl
      dsimp only at hs
      subst hs
      exact ⟨nm, qn, ns, bs, bm, sn, sub, ab, col, dd, k0, k1, k2, k3, k5, ho, g6⟩
    · cases h1
  · cases h1
/-- own questions -/
inductive Ck where
  | fld (f : Str) (cs : List Str) | isi (ts : List Ty) (f : Ty → Bool) (Cs : List Cl) | tys (l : List Ty) | eqc (th : Str) (ts : List Ty) (cs : List Str) | oex (x : Str) (fs : List Str) | dist (cs : List Str) | xf (x : Str) (fs : List Str) | exm (x : Str) (t : List (Str × Bool)) | fnT (x m : Str) | mko (x : Str)
def Ck.ok (K : Frag) : Ck → Bool
  | .fld f cs => cs.all fun x => (He.Fa.cls x).ok K && (He.Fa.noat x f).ok K
  | .isi ts f Cs => isiB K ts f Cs
  | .tys l => tsB K l
  | .eqc th l cs => cs.all fun x => eqB_ K (He.ma K (He.ga K th) "__eq__") l x
  | .oex x fs => oexB K (He.ga K x) && (fs.all fun f => (He.Fa.noat x f).ok K)
  | .xf x fs => xfB K (He.ga K x) && (fs.all fun f => (He.Fa.noat x f).ok K)
  | .dist cs => cs.all fun x => cs.all fun y => !decide (He.ga K x = He.ga K y) || decide (x = y)
  | .exm x t => t.all fun p => decide (PySem.W.exmOne K (.ref (He.ga K p.1)) (.ref (He.ga K x)) = some p.2)
  | .fnT x m => decide (PySem.W.findIn K (.ref (He.ga K x)) m = some (some (.ref (He.ma K (He.ga K x) m)))) && decide (PySem.W.typeIn K (.ref (He.ma K (He.ga K x) m)) = some (.type "function"))
  | .mko x => PySem.W.makesIn K (He.ga K x) && (He.eqO (PySem.W.findIn K (.ref (He.ga K x)) "__init__") (some (some (.builtin "object.__init__"))) && PySem.W.keepIn K (.ref (He.ga K x)))
section
variable {K : Frag}
theorem ck_fld {f : Str} {cs : List Str} (h : (Ck.fld f cs).ok K = true) : FldOk K f cs := fun cn hc => by
  obtain ⟨h1, h2⟩ := He.ba (List.all_eq_true.mp h cn hc)
  exact ⟨He.cls_ok h1, He.noat_ok h2⟩
theorem ck_eqc {th : Str} {l : List Ty} {cs : List Str} (h : (Ck.eqc th l cs).ok K = true) : ∀ x ∈ cs, EqC K (He.ma K (He.ga K th) "__eq__") l x := fun x hx => eqB_ok (List.all_eq_true.mp h x hx)
theorem ck_dist {cs : List Str} (h : (Ck.dist cs).ok K = true) : ∀ x ∈ cs, ∀ y ∈ cs, He.ga K x = He.ga K y → x = y := fun x hx y hy e => by
  have h1 := List.all_eq_true.mp (List.all_eq_true.mp h x hx) y hy
  rcases Bool.or_eq_true_iff.mp h1 with z | z
  · rw [decide_eq_true e] at z; cases z
  · exact of_decide_eq_true z
theorem lookup_mem {α : Type} : ∀ {l : List (Str × α)} {k : Str} {b : α}, l.lookup k = some b → (k, b) ∈ l
  | [], _, _, h => by cases h
  | (k', b') :: r, k, b, h => by
    rw [List.lookup_cons] at h
    cases q : k == k' with
    | true =>
      rw [q] at h
      cases h
      rw [eq_of_beq q]
      exact List.mem_cons_self
    | false =>
      rw [q] at h
      exact List.mem_cons_of_mem _ (lookup_mem h)
theorem ck_exm {x : Str} {t : List (Str × Bool)} (h : (Ck.exm x t).ok K = true) : ExmOk K x t := fun k b e => of_decide_eq_true (List.all_eq_true.mp h (k, b) (lookup_mem e))
end
/-! the Hook -/
def obsN (fa : List He.Fa) (ck : List Ck) (fn : List He.DefD) (K : Frag) : He.AlD := (((fa.all fun f => f.ok K) && (ck.all fun f => f.ok K)) && fn.all fun d => d.ok K, fn.map fun d => He.fnW K d.at_)
def SaysN (fa : List He.Fa) (ck : List Ck) (fn : List He.DefD) (K : Frag) : Prop := obsN fa ck fn K = He.valD fn
def obsNG (n : Nat) (fa : List He.Fa) (ck : List Ck) (fn : List He.DefD) (g : Addr → Option Obj) : He.AlD := obsN fa ck fn (He.frG g (He.asD g n))
def hookN (n : Nat) (fa : List He.Fa) (ck : List Ck) (fn : List He.DefD) : PySem.W.Hook where
  α := He.AlD
  obs := fun s => obsNG n fa ck fn s.heap.get?
  val := fun _ => He.valD fn
  says := fun _ h => ∃ K : Frag, K.In h ∧ SaysN fa ck fn K
  of := fun _ _ e => ⟨_, He.frG_in, e⟩
  keeps := fun _ _ _ ⟨K, hK, c⟩ k => ⟨K, PySem.W.Frag.In.keeps hK k, c⟩
theorem obsNG_eq {n : Nat} {fa : List He.Fa} {ck : List Ck} {fn : List He.DefD} {g : Addr → Option Obj} {s : Shared} (h : ∀ a, g a = s.heap.get? a) : obsNG n fa ck fn g = (hookN n fa ck fn).obs s := by
  have e : g = s.heap.get? := funext h
  rw [e] <;> rfl
section
variable {fa : List He.Fa} {ck : List Ck} {fn : List He.DefD} {K : Frag}
theorem SaysN.fact (c : SaysN fa ck fn K) (i : Nat) {f : He.Fa} (h : fa[i]? = some f := by rfl) : f.ok K = true := by
  have c1 := (He.ba (He.ba (show (((fa.all fun f => f.ok K) && (ck.all fun f => f.ok K)) && fn.all fun d => d.ok K) = true from congrArg (fun z : He.AlD => z.1) c)).1).1
  exact List.all_eq_true.mp c1 f (List.mem_of_getElem? h)
theorem SaysN.cka (c : SaysN fa ck fn K) (i : Nat) {f : Ck} (h : ck[i]? = some f := by rfl) : f.ok K = true := by
  have c1 := (He.ba (He.ba (show (((fa.all fun f => f.ok K) && (ck.all fun f => f.ok K)) && fn.all fun d => d.ok K) = true from congrArg (fun z : He.AlD => z.1) c)).1).2
  exact List.all_eq_true.mp c1 f (List.mem_of_getElem? h)
theorem SaysN.def_ (c : SaysN fa ck fn K) (i : Nat) {d : He.DefD} (h : fn[i]? = some d := by rfl) : ∃ fd, FunD K d.name d.qual d.params d.body d.scope (d.dvs K) (d.kws K) (He.fAd K d.at_) fd := by
  have c2 := (He.ba (show (((fa.all fun f => f.ok K) && (ck.all fun f => f.ok K)) && fn.all fun d => d.ok K) = true from congrArg (fun z : He.AlD => z.1) c)).2
  have e : fn.map (fun d => He.fnW K d.at_) = fn.map He.DefD.val := congrArg (fun z : He.AlD => z.2) c
  have e2 : (fn.map fun d => He.fnW K d.at_)[i]? = (fn.map He.DefD.val)[i]? := by rw [e]
  rw [List.getElem?_map, List.getElem?_map, h] at e2
  exact He.DefD.funD (Option.some.inj e2) (List.all_eq_true.mp c2 d (List.mem_of_getElem? h))
end
end Nw

set_option Elab.async false
set_option linter.all false
set_option maxRecDepth 100000
set_option maxHeartbeats 4000000
/-! Nw15: further rules. -/
namespace Nw
open PySem PySem.Spec
open PyProof.Rows hiding St
open L2
section
variable {X : Cx} {W : WX} {pos : Pos} {tg a : Expr} {ma : ME}
def negD (d : D) (c : Cells) : Out D := match d with
  | .int i => .ok (.int (-i)) c
  | _ => .bad
theorem de_neg (ha : DE X W a ma) : DE X W (.UnaryOp .USub a pos) (fun δ c => (ma δ c).bind negD) := by
  obtain ⟨t, p, s⟩ := ha.ex
  refine ⟨_, pe_un un_neg p, fun Z R F δ c σ H Q w rs h => s Z R F δ c σ H _ w rs ((Aft.bind h).imp ?_)⟩
  rintro R1 F1 d c1 H1 p1 e1 w1 ⟨_, _, _, h1⟩ v rv
  unfold negD at h1
  split at h1
  · cases rv
    exact ⟨_, rfl, h1.ok w1 _ (.int _)⟩
  · exact h1.elim
/-- over a list, a tuple, a text -/
def seqAny (d : D) (c : Cells) : Out Seq := match d with
  | .str x => .ok (strSeq x) c
  | d => seqOf d c
theorem di_any {l : Expr} {m : ME} (hl : DE X W l m) : DI X W tg l (fun δ c => (m δ c).bind seqAny) := by
  obtain ⟨t1, p1, s1⟩ := (di_seq (tg := tg) hl).ex
  obtain ⟨t2, p2, s2⟩ := (di_str (tg := tg) hl).ex
  have p : PI X tg l (fun σ H R => t1 σ H R ∨ t2 σ H R) := ⟨fun pins s σ H R I h => by
    rcases h with h | h
    · exact p1.run pins s σ H R I h
    · exact p2.run pins s σ H R I h⟩
  refine ⟨_, p, fun Z R F δ c σ H Q w rs h => ?_⟩
  cases e : m δ c with
  | bad => rw [e] at h; exact h.elim
  | exc k ns ds c1 =>
    rw [e] at h
    refine .inl (s1 Z R F δ c σ H _ w rs ?_)
    unfold mSq
    rw [e]
    exact h
  | ok d c1 =>
    rw [e] at h
    by_cases hs : ∃ x, d = .str x
    · obtain ⟨x, rfl⟩ := hs
      refine .inr (s2 Z R F δ c σ H _ w rs ?_)
      rw [e]
      exact h
    · refine .inl (s1 Z R F δ c σ H _ w rs ?_)
      unfold mSq
      rw [e]
      have : seqAny d c1 = seqOf d c1 := by
        unfold seqAny
        split
        · exact absurd ⟨_, rfl⟩ hs
        · rfl
      rw [show (Out.ok d c1).bind seqOf = seqOf d c1 from rfl, ← this]
      exact h
end
end Nw

set_option Elab.async false
set_option linter.all false
set_option maxRecDepth 100000
set_option maxHeartbeats 4000000
/-! Nw16: the law's promise. -/
namespace Nw
open PySem PySem.Spec
open PyProof.Rows hiding St
open L2
section
variable {K : Frag} {h : Heap} {mg : Str → Option Value}
theorem ck_exc0 (X : K.In h) (G : h.Ns mainGlobals mg) {x : Str} (c1 : (He.Fa.glo x).ok K = true) (c2 : (He.Fa.exc x).ok K = true) : Exc0 K mg x := by
  obtain ⟨h1, h2, h3, h4⟩ := He.exc_ok c2
  exact ⟨He.glo_ok X G c1, h1, h2, h3, h4⟩
theorem ck_oex1 {x f : Str} (c : (Ck.oex x [f]).ok K = true) : OexC K (He.ga K x) ∧ PySem.W.findIn K (.ref (He.ga K x)) f = some none := by
  obtain ⟨h1, h2⟩ := He.ba c
  exact ⟨oexB_ok h1, He.noat_ok (List.all_eq_true.mp h2 f (by simp))⟩
theorem ck_oex2 {x f g : Str} (c : (Ck.oex x [f, g]).ok K = true) : OexC K (He.ga K x) ∧ PySem.W.findIn K (.ref (He.ga K x)) f = some none ∧ PySem.W.findIn K (.ref (He.ga K x)) g = some none := by
  obtain ⟨h1, h2⟩ := He.ba c
  exact ⟨oexB_ok h1, He.noat_ok (List.all_eq_true.mp h2 f (by simp)), He.noat_ok (List.all_eq_true.mp h2 g (by simp))⟩
theorem ck_fnT {x m : Str} (c : (Ck.fnT x m).ok K = true) : PySem.W.findIn K (.ref (He.ga K x)) m = some (some (.ref (He.ma K (He.ga K x) m))) ∧ PySem.W.typeIn K (.ref (He.ma K (He.ga K x) m)) = some (.type "function") := by
  obtain ⟨h1, h2⟩ := He.ba c
  exact ⟨of_decide_eq_true h1, of_decide_eq_true h2⟩
end
theorem ints_rel {K : Frag} {R : List Addr} {F : Hp} : ∀ ns : List Int, RelL K R F (ns.map V.int) (ns.map D.int)
  | [] => .nil
  | i :: r => .cons (.int i) (ints_rel r)
def LawOk (m : MF) (n : Nat) : Prop := ∀ ns : List Int, ns.length ≤ n → ∃ c', m [.scr (ns.map D.int)] [] = .ok (.bl true) c'
theorem sp_law {K : Frag} {m : MF} {n : Nat} (h : LawOk m n) (H : Hp) (a : Addr) (ns : List Int) (hn : ns.length ≤ n) (_ : Only H) (hS : SqL K H a (ns.map V.int)) : spOf K m [.ref a] H (fun v _ => v = .bl true) (fun _ _ _ => False) := by
  obtain ⟨c', e⟩ := h ns hn
  refine ⟨fun _ => none, [], H, [], [.scr (ns.map D.int)], ⟨fun _ _ z => (nomatch z), fun _ _ z => (nomatch z), Same.refl _, rfl, List.nodup_nil, fun i k z => by cases i <;> cases z⟩, .cons (.scr hS (ints_rel ns)) .nil, ?_⟩
  rw [e]
  intro R' F' H' p ef w v r
  cases r
  rfl
theorem cx_no {P : Program} {w : World} (H : Hp) (s : Shared) (e : Value) (s' : Shared) (h : L2.CX P w [] H s (fun _ _ _ => False) e s') : False := by
  obtain ⟨_, _, _, _, _, _, _, _, _, _, _, _, z⟩ := h
  exact z
theorem walkW {l : PySem.W.OpenLaw} {n k : Nat} {q : Program} {loose : List Str} {XP : (Str → Option Value) → Heap → Prop} {YP : World → Heap → Prop} {d : DefRec} {x : Str} {m : MF} (hn : l.most = some n) (hn2 : n ≤ sizeLine) (hdf : d.params.defaults = []) (hr : Room k callerA) (hm : LawOk m n)
    (hF : ∀ (w : World) (mg : Str → Option Value) (f : Addr) (h : Heap), YP w h → h.Ns mainGlobals mg → mg d.name = some (.ref f) →
      ∃ (K : Frag) (fd : FuncData), K.In h ∧ (∀ (s : Shared) (u : Value), BindsTo s fd ⟨[u], []⟩ [(x, u)]) ∧ ∀ base : Heap, FnOk l.prog w K mg base (L2.CX l.prog w) k f fd [x] (spOf K m)) :
    PySem.W.WalkO q loose XP YP l.row.toRowW d [] (fun f vs => PySem.call f vs) := by
  refine Att.attach_call hn hdf fun w s0 s1 mg mb f o pm cd doc a vs ns G Y ho hd hcd hmg hobj hints hlen hg => ?_
  obtain ⟨K, fd, KX, hb, hG⟩ := hF w mg f _ Y G.T.g hmg
  exact law_call (CX := L2.CX l.prog w) KX G.T.g G.T.b G.T.builtins G.T.nolimit hg hobj hints (Nat.le_trans hlen hn2) hr (fun base _ _ => hG base) hb (fun H hO hS => sp_law hm H a ns hlen hO hS) fun H e s' => cx_no H s1 e s'
end Nw

set_option Elab.async false
set_option linter.all false
set_option maxRecDepth 100000
set_option maxHeartbeats 4000000
/-! Nw17: plain data, compared. -/
namespace Nw
open PySem PySem.Spec
open PyProof.Rows hiding St
open L2
mutual
def py : D → PyData
  | .bl b => .bool b
  | .int i => .int i
  | .str x => .str x
  | .tup l => .tuple (pyL l)
  | .lst l => .list (pyL l)
  | _ => .none
def pyL : List D → List PyData
  | [] => []
  | d :: r => py d :: pyL r
end
mutual
def okp : D → Nat → Bool
  | .non, _ => true
  | .bl _, _ => true
  | .int _, _ => true
  | .str x, _ => PyData.strOk x
  | .tup l, n => decide (0 < n) && okpL l (n - 1)
  | .lst l, n => decide (0 < n) && okpL l (n - 1)
  | _, _ => false
def okpL : List D → Nat → Bool
  | [], _ => true
  | d :: r, n => okp d n && okpL r n
end
theorem pyD_tup {c : Cells} {f : Nat} {l : List D} : pyD c (f + 1) (.tup l) = (l.mapM (pyD c f)).map .tuple := rfl
theorem pyD_lst {c : Cells} {f : Nat} {l : List D} : pyD c (f + 1) (.lst l) = (l.mapM (pyD c f)).map .list := rfl
theorem pyD_cell {c : Cells} {f i : Nat} {l : List D} (h : c[i]? = some (.lst l)) : pyD c (f + 1) (.cell i) = (l.mapM (pyD c f)).map .list := by
  unfold pyD
  dsimp only
  rw [h]
mutual
theorem pyD_okp {c : Cells} : ∀ (d : D) (n f : Nat), okp d n = true → n < f → pyD c f d = some (py d)
  | d, n, 0, _, h => absurd h (Nat.not_lt_zero _)
  | .non, n, f + 1, _, _ => rfl
  | .bl b, n, f + 1, _, _ => rfl
  | .int i, n, f + 1, _, _ => rfl
  | .str x, n, f + 1, _, _ => rfl
  | .tup l, n, f + 1, h, hf => by
    unfold okp at h
    obtain ⟨h1, h2⟩ := Bool.and_eq_true_iff.mp h
    have h1 := of_decide_eq_true h1
    rw [pyD_tup, pyL_okp l (n - 1) f h2 (by omega), py]
    rfl
  | .lst l, n, f + 1, h, hf => by
    unfold okp at h
    obtain ⟨h1, h2⟩ := Bool.and_eq_true_iff.mp h
    have h1 := of_decide_eq_true h1
    rw [pyD_lst, pyL_okp l (n - 1) f h2 (by omega), py]
    rfl
  | .ty _, n, f + 1, h, _ => by unfold okp at h; cases h
  | .gl _, n, f + 1, h, _ => by unfold okp at h; cases h
  | .scr _, n, f + 1, h, _ => by unfold okp at h; cases h
  | .obj _ _ _, n, f + 1, h, _ => by unfold okp at h; cases h
  | .cell _, n, f + 1, h, _ => by unfold okp at h; cases h
  | .exo _ _ _ _ _, n, f + 1, h, _ => by unfold okp at h; cases h
  | .dic _ _, n, f + 1, h, _ => by unfold okp at h; cases h
  | .dit _ _, n, f + 1, h, _ => by unfold okp at h; cases h
theorem pyL_okp {c : Cells} : ∀ (l : List D) (n f : Nat), okpL l n = true → n < f → l.mapM (pyD c f) = some (pyL l)
  | [], _, _, _, _ => rfl
  | d :: r, n, f, h, hf => by
    unfold okpL at h
    obtain ⟨h1, h2⟩ := Bool.and_eq_true_iff.mp h
    rw [List.mapM_cons, pyD_okp d n f h1 hf, pyL_okp r n f h2 hf]
    rfl
end
mutual
theorem lay_okp : ∀ (d : D) (n : Nat), okp d n = true → (py d).canLay0 = true ∧ (py d).depth ≤ n
  | .non, n, _ => by simp [py, PyData.canLay0, PyData.depth]
  | .bl b, n, _ => by simp [py, PyData.canLay0, PyData.depth]
  | .int i, n, _ => by simp [py, PyData.canLay0, PyData.depth]
  | .str x, n, h => by unfold okp at h; simp [py, PyData.canLay0, PyData.depth, h]
  | .tup l, n, h => by
    unfold okp at h
    obtain ⟨h1, h2⟩ := Bool.and_eq_true_iff.mp h
    have h1 := of_decide_eq_true h1
    obtain ⟨k1, k2⟩ := layL_okp l (n - 1) h2
    simp only [py, PyData.canLay0, PyData.depth]
    exact ⟨k1, by omega⟩
  | .lst l, n, h => by
    unfold okp at h
    obtain ⟨h1, h2⟩ := Bool.and_eq_true_iff.mp h
    have h1 := of_decide_eq_true h1
    obtain ⟨k1, k2⟩ := layL_okp l (n - 1) h2
    simp only [py, PyData.canLay0, PyData.depth]
    exact ⟨k1, by omega⟩
  | .ty _, n, h => by unfold okp at h; cases h
  | .gl _, n, h => by unfold okp at h; cases h
  | .scr _, n, h => by unfold okp at h; cases h
  | .obj _ _ _, n, h => by unfold okp at h; cases h
  | .cell _, n, h => by unfold okp at h; cases h
  | .exo _ _ _ _ _, n, h => by unfold okp at h; cases h
  | .dic _ _, n, h => by unfold okp at h; cases h
  | .dit _ _, n, h => by unfold okp at h; cases h
theorem layL_okp : ∀ (l : List D) (n : Nat), okpL l n = true → PyData.canLayAll0 (pyL l) = true ∧ PyData.depthAll (pyL l) ≤ n
  | [], n, _ => by simp [pyL, PyData.canLayAll0, PyData.depthAll]
  | d :: r, n, h => by
    unfold okpL at h
    obtain ⟨h1, h2⟩ := Bool.and_eq_true_iff.mp h
    obtain ⟨k1, k2⟩ := lay_okp d n h1
    obtain ⟨k3, k4⟩ := layL_okp r n h2
    simp only [pyL, PyData.canLayAll0, PyData.depthAll, k1, k3]
    exact ⟨rfl, by omega⟩
end
theorem shaped_okp {d : D} (h : okp d 50 = true) : SeqAt.shaped (py d) = true := by
  obtain ⟨h1, h2⟩ := lay_okp d 50 h
  unfold SeqAt.shaped
  rw [h1, decide_eq_true (by omega)]
  rfl
section
variable {cs : List Str} {ts : List Ty} {Fe : E2 → MF} {n : Nat} {c : Cells} {d e : D}
/-- plain data, compared -/
theorem eqF_py {p q : PyData} (h1 : pyD c 60 d = some p) (h2 : pyD c 60 e = some q) (s1 : SeqAt.shaped p = true) (s2 : SeqAt.shaped q = true) : eqF cs ts Fe (n + 1) d e c = .ok (PyData.eqv p q) c := by
  unfold eqF
  rw [h1, h2]
  dsimp only
  rw [if_pos ⟨s1, s2⟩]
theorem eqF_ok (h1 : okp d 50 = true) (h2 : okp e 50 = true) : eqF cs ts Fe (n + 1) d e c = .ok (PyData.eqv (py d) (py e)) c :=
  eqF_py (pyD_okp d 50 60 h1 (by decide)) (pyD_okp e 50 60 h2 (by decide)) (shaped_okp h1) (shaped_okp h2)
theorem py_cell {i : Nat} {l : List D} (h : c[i]? = some (.lst l)) (hl : okp (.lst l) 50 = true) : pyD c 60 (.cell i) = some (py (.lst l)) := by
  have k := pyD_okp (c := c) (.lst l) 50 60 hl (by decide)
  rw [pyD_lst] at k
  rw [pyD_cell h]
  exact k
/-- a list in a cell against plain data -/
theorem eqF_cell {i : Nat} {l : List D} (h : c[i]? = some (.lst l)) (hl : okp (.lst l) 50 = true) (h2 : okp e 50 = true) : eqF cs ts Fe (n + 1) (.cell i) e c = .ok (PyData.eqv (py (.lst l)) (py e)) c :=
  eqF_py (py_cell h hl) (pyD_okp e 50 60 h2 (by decide)) (shaped_okp hl) (shaped_okp h2)
end
theorem eqv_self {d : D} {n : Nat} (h : okp d n = true) : PyData.eqv (py d) (py d) = true := PySem.SeqAt.eqv_refl_plain _ (PySem.PyData.plain_of_canLay0 _ (lay_okp d n h).1)
theorem pyL_strs : ∀ l : List Str, pyL (l.map D.str) = l.map PyData.str
  | [] => rfl
  | x :: r => by rw [List.map_cons, List.map_cons, pyL, pyL_strs r, py]
theorem okpL_strs : ∀ (l : List Str) (n : Nat), okpL (l.map D.str) n = l.all PyData.strOk
  | [], _ => rfl
  | x :: r, n => by rw [List.map_cons, okpL, okpL_strs r n, okp, List.all_cons]
theorem eqvAll_strs : ∀ l m : List Str, PyData.eqvAll (l.map PyData.str) (m.map PyData.str) = decide (l = m)
  | [], [] => rfl
  | [], _ :: _ => rfl
  | _ :: _, [] => rfl
  | x :: l, y :: m => by
    rw [List.map_cons, List.map_cons, PyData.eqvAll, eqvAll_strs l m, PyData.eqv]
    by_cases h : x = y
    · subst h
      simp
    · simp [h]
end Nw

set_option Elab.async false
set_option linter.all false
set_option maxRecDepth 100000
set_option maxHeartbeats 4000000
/-! Nw18: loops, plainly. -/
namespace Nw
open PySem PySem.Spec
open PyProof.Rows hiding St
open L2
theorem lcGo_map {chk : Cells → Bool} {g : MG} {me : ME} {δ : En} {c : Cells} {f : D → D} (hc : chk c = true) : ∀ {ds acc : List D}, (∀ d ∈ ds, ∃ δ1, g d δ = some δ1 ∧ me δ1 c = .ok (f d) c) → acc.length + ds.length ≤ sizeLine →
    lcGo chk g (fun _ c => .ok true c) me δ ds acc c = .ok (acc ++ ds.map f) c
  | [], acc, _, _ => by
    unfold lcGo
    rw [if_pos hc, List.map_nil, List.append_nil]
  | d :: r, acc, h, hz => by
    obtain ⟨δ1, h1, h2⟩ := h d List.mem_cons_self
    rw [List.length_cons] at hz
    unfold lcGo
    rw [if_pos hc, h1]
    dsimp only
    rw [h2]
    dsimp only
    rw [if_pos (by omega), lcGo_map hc (fun x hx => h x (List.mem_cons_of_mem _ hx)) (by rw [List.length_append, List.length_singleton]; omega), List.map_cons, List.append_assoc]
    rfl
/-- a loop whose every turn goes on -/
theorem loopGo_inv {chk : Cells → Bool} {g : MG} {mb : MS} (I : List D → En → Cells → Prop) : ∀ {ds : List D} {δ : En} {c : Cells}, I ds δ c → (∀ ds δ c, I ds δ c → chk c = true) →
    (∀ d r δ c, I (d :: r) δ c → ∃ δ1 δ2 c2, g d δ = some δ1 ∧ (mb δ1 c = .nx δ2 c2 ∨ mb δ1 c = .ct δ2 c2) ∧ I r δ2 c2) → ∃ δ' c', loopGo chk g mb ds δ c = .nx δ' c' ∧ I [] δ' c'
  | [], δ, c, h, hc, _ => ⟨δ, c, by unfold loopGo; rw [if_pos (hc _ _ _ h)], h⟩
  | d :: r, δ, c, h, hc, st => by
    obtain ⟨δ1, δ2, c2, h1, h2, h3⟩ := st d r δ c h
    obtain ⟨δ', c', k1, k2⟩ := loopGo_inv I h3 hc st
    refine ⟨δ', c', ?_, k2⟩
    unfold loopGo
    rw [if_pos (hc _ _ _ h), h1]
    dsimp only
    rcases h2 with h2 | h2 <;> rw [h2] <;> exact k1
theorem allBl_map : ∀ (l : List Bool), allBl (l.map D.bl) = some l
  | [] => rfl
  | b :: r => by rw [List.map_cons, allBl, allBl_map r]; rfl
end Nw

set_option Elab.async false
set_option linter.all false
set_option maxRecDepth 100000
set_option maxHeartbeats 4000000
/-! Nw19: comprehensions whose items change cells. -/
namespace Nw
open PySem PySem.Spec
open PyProof.Rows hiding St
open L2
theorem lcGo_inv {chk : Cells → Bool} {g : MG} {me : ME} {δ : En} (I : List D → Cells → Prop) : ∀ {ds acc : List D} {c : Cells}, I acc c → (∀ acc c, I acc c → chk c = true) → acc.length + ds.length ≤ sizeLine →
    (∀ d ∈ ds, ∀ acc c, I acc c → ∃ δ1 y c2, g d δ = some δ1 ∧ me δ1 c = .ok y c2 ∧ I (acc ++ [y]) c2) → ∃ acc' c', lcGo chk g (fun _ c => .ok true c) me δ ds acc c = .ok acc' c' ∧ I acc' c' ∧ acc'.length = acc.length + ds.length
  | [], acc, c, h, hc, _, _ => ⟨acc, c, by unfold lcGo; rw [if_pos (hc _ _ h)], h, rfl⟩
  | d :: r, acc, c, h, hc, hz, st => by
    obtain ⟨δ1, y, c2, h1, h2, h3⟩ := st d List.mem_cons_self acc c h
    rw [List.length_cons] at hz
    obtain ⟨acc', c', k1, k2, k3⟩ := lcGo_inv I (ds := r) h3 hc (by rw [List.length_append, List.length_singleton]; omega) fun x hx => st x (List.mem_cons_of_mem _ hx)
    refine ⟨acc', c', ?_, k2, by rw [k3, List.length_append, List.length_singleton, List.length_cons]; omega⟩
    unfold lcGo
    rw [if_pos (hc _ _ h), h1]
    dsimp only
    rw [h2]
    dsimp only
    rw [if_pos (by omega)]
    exact k1
end Nw

set_option Elab.async false
set_option linter.all false
set_option maxRecDepth 100000
set_option maxHeartbeats 4000000
/-! Nw20: except clauses of both kinds, with and without a name. -/
namespace Nw
open PySem PySem.Spec
open PyProof.Rows hiding St
open L2
/-- the exception a has come to the try of X; t: the state, sI: the state without it -/
structure Lnd (X : Cx) (ps : List (Addr × Obj)) (σ : St) (H : Hp) (k : Value) (d : Option Addr) (a : Addr) (B : Heap) (sI t : Shared) : Prop where
  iI : Inv X ps σ H sI
  kp : ∀ b o, sI.heap.get? b = some o → b ∉ frs X.stack → B.get? b = some o
  up : sI.heap.UpToSlots t.heap
  fl : HandSPX.FlyingZ B (X.env :: X.outer) a (Zc k d) t.heap
  no : H a = none
  os : t.os = sI.os
  ba : AllBare t.gens
section
variable {X : Cx} {ps : List (Addr × Obj)} {σ : St} {H : Hp} {k : Value} {d : Option Addr} {a : Addr} {B : Heap} {sI t : Shared}
theorem Lnd.inv (L : Lnd X ps σ H k d a B sI t) : Inv X ps σ H t := L.iI.landed L.kp L.fl.1 L.up L.os L.ba
theorem Lnd.notIn (L : Lnd X ps σ H k d a B sI t) : a ∉ frs (X.env :: X.outer) := by
  obtain ⟨o, vs, g, _, dd⟩ := L.fl.there
  intro hm
  obtain ⟨_, o2, g2, nf⟩ := (L.fl.2.2.1).mem hm
  have e : o = o2 := Option.some.inj (g.symm.trans g2)
  exact nf vs (by rw [← e]; exact dd)
theorem Lnd.suite (L : Lnd X ps σ H k d a B sI t) (hf : X.env.frame = some X.env.locals) : ∃ oe, Zc k d oe ∧ (∃ vs, oe.data = .fields vs) ∧ t.heap.get? a = some oe ∧ Inv (X.suite a ((a, oe) :: (X.pn ++ ps))) [] σ H t := by
  obtain ⟨o, vs, g, z, dd⟩ := L.fl.there
  have nm := L.notIn
  refine ⟨o, z, ⟨vs, dd⟩, g, L.inv.suite g dd L.no (fun e => nm ?_) fun hm => nm ?_⟩
  · exact List.mem_filterMap.mpr ⟨X.env, List.mem_cons_self, by rw [hf, e]⟩
  · obtain ⟨e, he, q⟩ := List.mem_filterMap.mp hm
    exact List.mem_filterMap.mpr ⟨e, List.mem_cons_of_mem _ he, q⟩
/-- the clauses hds do what w wishes -/
def HB (X : Cx) (hds : List ExceptHandler) (w : Ends → WX) : Prop := ∀ (ps : List (Addr × Obj)) (D : Ends) (σ : St) (H : Hp) (k : Value) (d : Option Addr) (a : Addr) (B : Heap) (sI t : Shared), Lnd X ps σ H k d a B sI t → w D k d σ H →
  wpAny (model X.prog X.w) X.A (handleBy (.ref a) X.env hds) (SP X ps D) X.xe t
theorem hb_nil {W : WX} (hs : X.stack = X.env :: X.outer) (hf : X.env.frame = some X.env.locals) (tk : Takes X W) : HB X [] (fun _ => W) := by
  intro ps D σ H k d a B sI t L w
  refine wpAny_handleBy_nil ?_
  obtain ⟨_, _, _, oe, vs, T, _, _, g, _, dd, h1, _⟩ := id L.fl
  have up : wpAny (model X.prog X.w) X.A (setFlight (.ref a) X.env.frame) (fun _ s4 => wpAny (model X.prog X.w) X.A (throw (.ref a) : Sem Flow) (SP X ps D) X.xe s4) X.xe t := by
    rw [hf]
    exact HandSPX.setFlight_upZ L.fl fun h4 held u4 => wpAny_throw (tk _ _ ⟨a, B, sI, ps, σ, H, k, d, rfl, L.iI, L.kp, L.up.trans u4, .inr (.inr (hs ▸ held)), L.no, L.os, L.ba, w⟩)
  unfold PySem.passOn
  refine wpAny_bind (wpAny_field g dd h1 ?_)
  have nT : ¬ ((Value.ref T == Value.none) = true) := by simp
  rw [if_neg nT]
  first
    | exact wpAny_bind (wpAny_pure (wpAny_bind up))
    | exact wpAny_bind up
/-- one clause: its test, then its suite or the others -/
theorem hb_test {x : Str} {c : Value} {nm : Option Str} {suite : List Stmt} {np q : Pos} {hds : List ExceptHandler} {D : Ends} {b : Bool} (hf : X.env.frame = some X.env.locals) (hc : Names X x c) (L : Lnd X ps σ H k d a B sI t) (hb : PySem.W.exmOne X.K k c = some b)
    (yes : b = true → codeAny (model X.prog X.w) (X.A.mark (some (.ref a))) (.handlers (.ref a) [.ExceptHandler none nm suite q] X.env) (fun r s₂ => match r with
          | .ok f => (match nm with
            | none => SP X ps D f s₂
            | some n => wpAny (model X.prog X.w) X.A (do bindName X.env n .none; unbindBehindTheSuite X.env n q) (fun _ s₃ => SP X ps D f s₃) X.xe s₂)
          | .error x => cameBackBy (model X.prog X.w) X.A X.env X.xe x s₂) t)
    (no : b = false → wpAny (model X.prog X.w) X.A (handleBy (.ref a) X.env hds) (SP X ps D) X.xe t) :
    wpAny (model X.prog X.w) X.A (handleBy (.ref a) X.env (.ExceptHandler (some (.Name x np)) nm suite q :: hds)) (SP X ps D) X.xe t := by
  obtain ⟨oe, z, _, g, S⟩ := L.suite hf
  have ty : PySem.W.Looks (model X.prog X.w) t.heap (typeOf (.ref a)) k := fun _ _ _ _ kk r => wpAny_typeOf_ref (kk _ _ g) (by rw [z.1]; exact r)
  have look := (PySem.W.exm_one (M := model X.prog X.w) L.inv.kIn ty hb)
  refine wpAny_handleBy_cons (codeAny_handlers_test ?_) (fun e => nomatch e)
  have name : ∀ {Q : Value → Shared → Prop} {E : Value → Shared → Prop}, Q c t → wpAny (model X.prog X.w) (X.A.mark (some (.ref a))) (eval (.Name x np) X.env) Q E t := by
    intro Q E r
    rcases hc with ⟨hg, hdb, hm | hm⟩
    · exact ld_glob (X := X.suite a ((a, oe) :: (X.pn ++ ps))) S hg hm r hdb
    · exact ld_blt (X := X.suite a ((a, oe) :: (X.pn ++ ps))) S hg hm.1 hm.2.1 r hm.2.2 hdb
  refine name (look.here ?_)
  cases b with
  | true => exact yes rfl
  | false => exact no rfl
/-- except C: .. -/
theorem hb_plain {x : Str} {c : Value} {b₀ : Stmt} {suite : List Stmt} {np q : Pos} {hds : List ExceptHandler} {w : Ends → WX} {ts : Addr → Value → Option Addr → TS} (hf : X.env.frame = some X.env.locals) (hc : Names X x c)
    (hsu : ∀ (a : Addr) (oe : Obj) (k : Value) (d : Option Addr) (pn : List (Addr × Obj)), Zc k d oe → (∃ vs, oe.data = .fields vs) → PSs (X.suite a ((a, oe) :: pn)) (b₀ :: suite) (ts a k d)) (r : HB X hds w) :
    HB X (.ExceptHandler (some (.Name x np)) none (b₀ :: suite) q :: hds) (fun D k d σ H => ∃ b, PySem.W.exmOne X.K k c = some b ∧ (b = true → ∀ a, H a = none → ts a k d D σ H) ∧ (b = false → w D k d σ H)) := by
  rintro ps D σ H k d a B sI t L ⟨b, hb, h1, h2⟩
  refine hb_test hf hc L hb (fun e => ?_) fun e => r ps D σ H k d a B sI t L (h2 e)
  refine codeAny_handlers_suite (HandSPX.lands_againZ L.fl fun h4 f4 u4 => ?_)
  have L4 : Lnd X ps σ H k d a B sI { t with heap := h4 } := ⟨L.iI, L.kp, L.up.trans u4, f4, L.no, L.os, L.ba⟩
  obtain ⟨oe, z, dd, _, S⟩ := L4.suite hf
  have ok := L.iI.ok
  refine wpAny_mono ((hsu a oe k d (X.pn ++ ps) z dd).run [] _ _ H _ S (h1 e a L.no)) (fun f s6 hsp => ?_) fun _ _ ff => ff.elim
  cases f with
  | ret u => obtain ⟨v, σ6, H6, S6, r6, q6⟩ := hsp; exact ⟨v, σ6, H6, S6.unsuite ok, r6, q6⟩
  | next => obtain ⟨σ6, H6, S6, q6⟩ := hsp; exact ⟨σ6, H6, S6.unsuite ok, q6⟩
  | brk => obtain ⟨σ6, H6, S6, q6⟩ := hsp; exact ⟨σ6, H6, S6.unsuite ok, q6⟩
  | cont => obtain ⟨σ6, H6, S6, q6⟩ := hsp; exact ⟨σ6, H6, S6.unsuite ok, q6⟩
/-- the ends of a suite whose name goes -/
def Ends.drop (i : Nat) (D : Ends) : Ends := { nx := fun σ H => D.nx (σ.set i none) H, rt := D.rt, bk := fun σ H => D.bk (σ.set i none) H, ct := fun σ H => D.ct (σ.set i none) H }
/-- except C as n: .. -/
theorem hb_as {x n : Str} {i : Nat} {c : Value} {b₀ : Stmt} {suite : List Stmt} {np q : Pos} {hds : List ExceptHandler} {w : Ends → WX} {ts : Addr → Value → Option Addr → TS} (hf : X.env.frame = some X.env.locals) (hN : X.N.Nodup) (hi : X.N[i]? = some n) (hl : X.env.kindOf n = some .local) (hc : Names X x c)
    (hsu : ∀ (a : Addr) (oe : Obj) (k : Value) (d : Option Addr) (pn : List (Addr × Obj)), Zc k d oe → (∃ vs, oe.data = .fields vs) → PSs (X.suite a ((a, oe) :: pn)) (b₀ :: suite) (ts a k d)) (r : HB X hds w) :
    HB X (.ExceptHandler (some (.Name x np)) (some n) (b₀ :: suite) q :: hds) (fun D k d σ H => ∃ b, PySem.W.exmOne X.K k c = some b ∧ (b = true → ∀ a, H a = none → ts a k d (Ends.drop i D) (σ.set i (some (.ref a))) H) ∧ (b = false → w D k d σ H)) := by
  rintro ps D σ H k d a B sI t L ⟨b, hb, h1, h2⟩
  refine hb_test hf hc L hb (fun e => ?_) fun e => r ps D σ H k d a B sI t L (h2 e)
  refine codeAny_handlers_suite_as (HandSPX.lands_againZ L.fl fun h4 f4 u4 => ?_)
  have L4 : Lnd X ps σ H k d a B sI { t with heap := h4 } := ⟨L.iI, L.kp, L.up.trans u4, f4, L.no, L.os, L.ba⟩
  obtain ⟨oe, z, dd, _, S⟩ := L4.suite hf
  have ok := L.iI.ok
  refine store_ok (X := X.suite a ((a, oe) :: (X.pn ++ ps))) (v := .ref a) S hN hi (.inl hl) rfl (fun s5 S5 => ?_) (.inr hl)
  refine wpAny_mono ((hsu a oe k d (X.pn ++ ps) z dd).run [] s5 _ H _ S5 (h1 e a L.no)) (fun f s6 hsp => ?_) fun _ _ ff => ff.elim
  cases f with
  | ret u => obtain ⟨v, σ6, H6, S6, r6, q6⟩ := hsp; exact gone_ok (S6.unsuite ok) hN hi hl fun s7 J => ⟨v, _, H6, J, r6, q6⟩
  | next => obtain ⟨σ6, H6, S6, q6⟩ := hsp; exact gone_ok (S6.unsuite ok) hN hi hl fun s7 J => ⟨_, H6, J, q6⟩
  | brk => obtain ⟨σ6, H6, S6, q6⟩ := hsp; exact gone_ok (S6.unsuite ok) hN hi hl fun s7 J => ⟨_, H6, J, q6⟩
  | cont => obtain ⟨σ6, H6, S6, q6⟩ := hsp; exact gone_ok (S6.unsuite ok) hN hi hl fun s7 J => ⟨_, H6, J, q6⟩
/-- try with any clauses -/
theorem ps_tryH {body : List Stmt} {h₀ : ExceptHandler} {hds : List ExceptHandler} {pos : Pos} {tb : WX → TS} {w : Ends → WX} (hs : X.stack = X.env :: X.outer) (hf : X.env.frame = some X.env.locals)
    (hb : ∀ (W : WX) (pn : List (Addr × Obj)) (xe : Value → Shared → Prop), Takes (X.tr pn xe) W → PassesOwn (model X.prog X.w) X.A X.env xe → PSs (X.tr pn xe) body (tb W)) (hh : HB X (h₀ :: hds) w) :
    PS X (.Try body (h₀ :: hds) [] [] pos) (fun D σ H => tb (w D) D σ H) := by
  refine ⟨fun pins s σ H D I h => wpAny_Try_except ?_⟩
  have ok := I.ok
  have fr : X.A.frames = some (X.env :: X.outer) := ok.frames.trans (congrArg some hs)
  have run := (hb (w D) (X.pn ++ pins) (fun e s₁ => wpAny (model X.prog X.w) X.A (noteFrame e X.env) (fun _ s₂ => wpAny (model X.prog X.w) X.A (setFlight e none) (fun _ s₃ =>
    wpAny (model X.prog X.w) X.A (handleBy e X.env (h₀ :: hds)) (SP X pins D) X.xe s₃) X.xe s₂) X.xe s₁) (by
      rintro u s' ⟨a, B, sI, _, σ', H', k, d, rfl, J, kp, up, sky, na, os, ba, hw⟩
      exact Sky.land Zc.steady fr hf (hs ▸ sky) fun h3 f3 u3 => hh pins D σ' H' k d a B sI { s' with heap := h3 } ⟨J.ofTry ok, kp, up.trans u3, f3, na, os, ba⟩ hw) PassesOwn.looking).run [] s σ H D (I.toTry _) h
  refine wpAny_mono run (fun f s1 hsp => ?_) fun _ _ he => he
  cases f with
  | ret u => obtain ⟨v, σ', H', J, r, q⟩ := hsp; exact ⟨v, σ', H', J.ofTry ok, r, q⟩
  | next => obtain ⟨σ', H', J, q⟩ := hsp; exact wpAny_execs_nil ⟨σ', H', J.ofTry ok, q⟩
  | brk => obtain ⟨σ', H', J, q⟩ := hsp; exact ⟨σ', H', J.ofTry ok, q⟩
  | cont => obtain ⟨σ', H', J, q⟩ := hsp; exact ⟨σ', H', J.ofTry ok, q⟩
end
end Nw

set_option Elab.async false
set_option linter.all false
set_option maxRecDepth 100000
set_option maxHeartbeats 4000000
/-! Nw21: except C as n: what a suite reads of the exception. -/
namespace Nw
open PySem PySem.Spec
open PyProof.Rows hiding St
open L2
/-- the classes cs have the field f -/
def XfOk (K : Frag) (f : Str) (cs : List Str) : Prop := ∀ k ∈ cs, XfC K (He.ga K k) ∧ PySem.W.findIn K (.ref (He.ga K k)) f = some none
theorem ck_xf {K : Frag} {f : Str} {cs : List Str} (h : ∀ k ∈ cs, (Ck.xf k [f]).ok K = true) : XfOk K f cs := fun k hk => by
  obtain ⟨h1, h2⟩ := He.ba (h k hk)
  exact ⟨xfB_ok h1, He.noat_ok (List.all_eq_true.mp h2 f (by simp))⟩
theorem xf_nil {K : Frag} {f : Str} : XfOk K f [] := fun k hk => nomatch hk
theorem xf_cons {K : Frag} {f k : Str} {cs : List Str} (h : (Ck.xf k [f]).ok K = true) (r : XfOk K f cs) : XfOk K f (k :: cs) := fun x hx => by
  rcases List.mem_cons.mp hx with rfl | hx
  · obtain ⟨h1, h2⟩ := He.ba h
    exact ⟨xfB_ok h1, He.noat_ok (List.all_eq_true.mp h2 f (by simp))⟩
  · exact r x hx
/-- n.f, where slot i has the exception -/
def mXf (a : Addr) (d : Option Addr) (k : Str) (cs : List Str) (f : Str) (i : Nat) : ME := fun δ c => match δ[i]? with
  | some (some (.exo a' d' _ ns ds)) => if a' = a ∧ d' = d ∧ cs.contains k = true then (match lookF f ns ds with
    | some v => .ok v c
    | none => .bad) else .bad
  | _ => .bad
section
variable {X : Cx} {W : WX} {pos p1 : Pos} {n f k : Str} {i : Nat} {a : Addr} {oe : Obj} {d : Option Addr} {pn : List (Addr × Obj)} {cs : List Str}
theorem de_xf (hk : XfOk X.K f cs) (hz : Zc (.ref (He.ga X.K k)) d oe) (hv : ∃ vs, oe.data = .fields vs) (he : DE (X.suite a ((a, oe) :: pn)) W (.Name n p1) (mVar i)) (hb : attributeBase (.Name n p1) f X.env (eval (.Name n p1) X.env) = eval (.Name n p1) X.env := by rfl) :
    DE (X.suite a ((a, oe) :: pn)) W (.Attribute (.Name n p1) f pos) (mXf a d k cs f i) := by
  by_cases hc : k ∈ cs
  · obtain ⟨T, no⟩ := hk k hc
    obtain ⟨te, pe, se⟩ := he.ex
    refine ⟨_, pe_xf T no hz hv pe hb, fun Z R F δ c σ H Q w rs h => ?_⟩
    unfold mXf at h
    split at h
    · rename_i a' d' k' ns ds e
      split at h
      · rename_i hh
        obtain ⟨rfl, rfl, _⟩ := hh
        split at h
        · rename_i v hl
          refine se Z R F δ c σ H _ w rs ?_
          unfold mVar
          rw [e]
          intro R' F' H' p' e' w' u ru
          cases ru with
          | @exo _ dd _ _ vs _ hF z l =>
            obtain ⟨y, hy, ry⟩ := lookF_rel l hl
            exact ⟨rfl, rfl, dd, _, y, rfl, w'.same _ _ hF, hy, h R' F' H' p' e' w' y ry⟩
          | exo0 => unfold lookF at hl; cases hl
        · exact h.elim
      · exact h.elim
    · exact h.elim
  · refine ⟨fun _ _ _ => False, ⟨fun pins s σ H Q I h => h.elim⟩, fun Z R F δ c σ H Q w rs h => ?_⟩
    unfold mXf at h
    split at h
    · rw [if_neg (fun z => hc (by simpa using z.2.2))] at h
      exact h
    · exact h
end
/-- behind a suite its name is gone -/
def dropE (i : Nat) : Fl → Fl
  | .nx δ c => .nx (δ.set i none) c
  | .bk δ c => .bk (δ.set i none) c
  | .ct δ c => .ct (δ.set i none) c
  | .exc _ _ _ _ _ => .bad
  | o => o
abbrev MX := Addr → Option Addr → Str → MS
def asGo (i : Nat) (ms : MX) (k : Str) (ns : List Str) (ds : List D) (δ : En) (c : Cells) : Fl := dropE i (ms 0 none k (δ.set i (some (.exo 0 none k ns ds))) c)
/-! the suite does not look where the error stands -/
def IndE (i : Nat) (m : Addr → Option Addr → Str → ME) : Prop := ∀ (k : Str) (ns : List Str) (ds : List D) (δ : En) (c : Cells) (a : Addr) (x : Option Addr), m a x k (δ.set i (some (.exo a x k ns ds))) c = m 0 none k (δ.set i (some (.exo 0 none k ns ds))) c
def IndT (i : Nat) (m : Addr → Option Addr → Str → MT) : Prop := ∀ (k : Str) (ns : List Str) (ds : List D) (δ : En) (c : Cells) (a : Addr) (x : Option Addr), m a x k (δ.set i (some (.exo a x k ns ds))) c = m 0 none k (δ.set i (some (.exo 0 none k ns ds))) c
def IndA (i : Nat) (m : Addr → Option Addr → Str → MA) : Prop := ∀ (k : Str) (ns : List Str) (ds : List D) (δ : En) (c : Cells) (a : Addr) (x : Option Addr), m a x k (δ.set i (some (.exo a x k ns ds))) c = m 0 none k (δ.set i (some (.exo 0 none k ns ds))) c
def IndS (i : Nat) (m : MX) : Prop := ∀ (k : Str) (ns : List Str) (ds : List D) (δ : En) (c : Cells) (a : Addr) (x : Option Addr), dropE i (m a x k (δ.set i (some (.exo a x k ns ds))) c) = dropE i (m 0 none k (δ.set i (some (.exo 0 none k ns ds))) c)
section
variable {i : Nat}
theorem ind_c {d : D} : IndE i (fun _ _ _ => mC d) := fun _ _ _ _ _ _ _ => rfl
theorem ind_var {j : Nat} (h : i ≠ j) : IndE i (fun _ _ _ => mVar j) := fun k ns ds δ c a x => by
  show mVar j _ c = mVar j _ c
  unfold mVar
  rw [List.getElem?_set_ne h, List.getElem?_set_ne h]
theorem ind_xf {cs : List Str} {f : Str} : IndE i (fun a x k => mXf a x k cs f i) := fun k ns ds δ c a x => by
  show mXf a x k cs f i _ c = mXf 0 none k cs f i _ c
  unfold mXf
  by_cases h : i < δ.length
  · rw [List.getElem?_set_self h, List.getElem?_set_self h]
    simp
  · rw [List.getElem?_eq_none (by rw [List.length_set]; omega), List.getElem?_eq_none (by rw [List.length_set]; omega)]
theorem ind_nil : IndA i (fun _ _ _ => mNil) := fun _ _ _ _ _ _ _ => rfl
theorem ind_cons {m : Addr → Option Addr → Str → ME} {ms : Addr → Option Addr → Str → MA} (h : IndE i m) (h2 : IndA i ms) : IndA i (fun a x k => mCons (m a x k) (ms a x k)) := fun k ns ds δ c a x => by
  show (m a x k _ c).bind _ = (m 0 none k _ c).bind _
  rw [h k ns ds δ c a x]
  congr 1
  funext y c1
  rw [h2 k ns ds δ c1 a x]
theorem ind_tup {ms : Addr → Option Addr → Str → MA} (h : IndA i ms) : IndE i (fun a x k => mTup (ms a x k)) := fun k ns ds δ c a x => by
  show (ms a x k _ c).bind _ = (ms 0 none k _ c).bind _
  rw [h k ns ds δ c a x]
theorem ind_lst {ms : Addr → Option Addr → Str → MA} (h : IndA i ms) : IndE i (fun a x k => mLst (ms a x k)) := fun k ns ds δ c a x => by
  show (ms a x k _ c).bind _ = (ms 0 none k _ c).bind _
  rw [h k ns ds δ c a x]
theorem ind_op {f : O2} {m n : Addr → Option Addr → Str → ME} (h : IndE i m) (h2 : IndE i n) : IndE i (fun a x k => mOp f (m a x k) (n a x k)) := fun k ns ds δ c a x => by
  show (m a x k _ c).bind _ = (m 0 none k _ c).bind _
  rw [h k ns ds δ c a x]
  congr 1
  funext y c1
  rw [h2 k ns ds δ c1 a x]
theorem ind_set {j : Nat} {m : Addr → Option Addr → Str → ME} (h : IndE i m) (hj : i ≠ j) : IndS i (fun a x k => mSet j (m a x k)) := fun k ns ds δ c a x => by
  show dropE i ((m a x k _ c).fl _ _) = dropE i ((m 0 none k _ c).fl _ _)
  rw [h k ns ds δ c a x]
  cases m 0 none k (δ.set i (some (.exo 0 none k ns ds))) c with
  | ok d c1 =>
    show Fl.nx _ _ = Fl.nx _ _
    rw [List.set_comm _ _ hj.symm, List.set_comm _ _ hj.symm, List.set_set, List.set_set]
  | exc => rfl
  | bad => rfl
theorem ind_ret {m : Addr → Option Addr → Str → ME} (h : IndE i m) : IndS i (fun a x k => mRet (m a x k)) := fun k ns ds δ c a x => by
  show dropE i ((m a x k _ c).fl _ _) = dropE i ((m 0 none k _ c).fl _ _)
  rw [h k ns ds δ c a x]
  cases m 0 none k (δ.set i (some (.exo 0 none k ns ds))) c with
  | ok d c1 => rfl
  | exc => rfl
  | bad => rfl
end
def tryGoN : List (List (Str × Bool) × Option Nat × MX) → Str → List Str → List D → MS
  | [], k, ns, ds, δ, c => .exc k ns ds δ c
  | (t, nm, ms) :: r, k, ns, ds, δ, c => match t.lookup k with
    | some true => (match nm with
      | none => noExc (ms 0 none k δ c)
      | some i => asGo i ms k ns ds δ c)
    | some false => tryGoN r k ns ds δ c
    | none => .bad
def mTryN (mb : MS) (hs : List (List (Str × Bool) × Option Nat × MX)) : MS := fun δ c => match mb δ c with
  | .exc k ns ds δ1 c1 => tryGoN hs k ns ds δ1 c1
  | o => o
theorem drop_aft {K : Frag} {Z : Hp} {R : List Addr} {F : Hp} {o : Fl} {E : Ends} {W : WX} {i : Nat} (h : AftS K Z W R F (dropE i o) E) : AftS K Z W0 R F o (Ends.drop i E) := by
  cases o with
  | nx δ c => exact fun R' F' H' σ p e w rs => h R' F' H' (σ.set i none) p e w rs.del
  | bk δ c => exact fun R' F' H' σ p e w rs => h R' F' H' (σ.set i none) p e w rs.del
  | ct δ c => exact fun R' F' H' σ p e w rs => h R' F' H' (σ.set i none) p e w rs.del
  | rt v c => exact h
  | exc => exact h.elim
  | bad => exact h
section
variable {X : Cx} {W : WX} {body : List Stmt} {mb : MS} {pos : Pos}
/-- what the clauses do, class by class -/
def HD (X : Cx) (W : WX) (hds : List ExceptHandler) (l : List (List (Str × Bool) × Option Nat × MX)) : Prop := ∃ w : Ends → WX, HB X hds w ∧ ∀ (Z : Hp) (R : List Addr) (F : Hp) (δ : En) (c : Cells) (σ : St) (H : Hp) (E : Ends) (k : Str) (ns : List Str) (ds : List D) (x : Option Addr), Wd X.K Z R F c H → RelS X.K R F δ σ → XR X.K R F ns ds x →
    AftS X.K Z W R F (tryGoN l k ns ds δ c) E → w E (.ref (He.ga X.K k)) x σ H
theorem hd_nil (hs : X.stack = X.env :: X.outer) (hf : X.env.frame = some X.env.locals) (tk : Takes X W) : HD X W [] [] :=
  ⟨_, hb_nil hs hf tk, fun Z R F δ c σ H E k ns ds x w rs xr h => h R F H σ x (List.prefix_refl _) (Same.refl _) w rs xr⟩
theorem su_of {b : List Stmt} {ms : MX} (hsu : ∀ (a : Addr) (oe : Obj) (k : Str) (d : Option Addr) (pn : List (Addr × Obj)), Zc (.ref (He.ga X.K k)) d oe → (∃ vs, oe.data = .fields vs) → DSs (X.suite a ((a, oe) :: pn)) W0 b (ms a d k)) :
    ∃ ts : Addr → Value → Option Addr → TS, (∀ (a : Addr) (oe : Obj) (k : Value) (d : Option Addr) (pn : List (Addr × Obj)), Zc k d oe → (∃ vs, oe.data = .fields vs) → PSs (X.suite a ((a, oe) :: pn)) b (ts a k d)) ∧
      ∀ a k d Z R F δ c σ H E, Wd X.K Z R F c H → RelS X.K R F δ σ → AftS X.K Z W0 R F (ms a d k δ c) E → ts a (.ref (He.ga X.K k)) d E σ H := by
  refine ⟨fun a v d E σ H => ∃ k, v = .ref (He.ga X.K k) ∧ ∀ oe pn (h1 : Zc (.ref (He.ga X.K k)) d oe) (h2 : ∃ vs, oe.data = .fields vs), Classical.choose (hsu a oe k d pn h1 h2).ex E σ H, ?_, ?_⟩
  · intro a oe v d pn h1 h2
    refine ⟨fun pins s σ H E I z => ?_⟩
    obtain ⟨k, rfl, z⟩ := z
    exact (Classical.choose_spec (hsu a oe k d pn h1 h2).ex).1.run pins s σ H E I (z oe pn h1 h2)
  · intro a k d Z R F δ c σ H E w rs q
    exact ⟨k, rfl, fun oe pn h1 h2 => (Classical.choose_spec (hsu a oe k d pn h1 h2).ex).2 Z R F δ c σ H E w rs q⟩
theorem hd_plain {x : Str} {t : List (Str × Bool)} {ms : MX} {b₀ : Stmt} {suite : List Stmt} {np q : Pos} {hds : List ExceptHandler} {l : List (List (Str × Bool) × Option Nat × MX)} (hf : X.env.frame = some X.env.locals) (hg : Gl X x) (hdb : (x == ("__debug__" : Str)) = false) (hm : X.mg x = some (.ref (He.ga X.K x))) (ht : ExmOk X.K x t)
    (hsu : ∀ (a : Addr) (oe : Obj) (k : Str) (d : Option Addr) (pn : List (Addr × Obj)), Zc (.ref (He.ga X.K k)) d oe → (∃ vs, oe.data = .fields vs) → DSs (X.suite a ((a, oe) :: pn)) W0 (b₀ :: suite) (ms 0 none k)) (r : HD X W hds l) :
    HD X W (.ExceptHandler (some (.Name x np)) none (b₀ :: suite) q :: hds) ((t, none, ms) :: l) := by
  obtain ⟨w, hb, sl⟩ := r
  obtain ⟨ts, p1, s1⟩ := su_of (ms := fun _ _ k => ms 0 none k) hsu
  refine ⟨_, hb_plain hf ⟨hg, hdb, .inl hm⟩ p1 hb, fun Z R F δ c σ H E k ns ds y w rs xr h => ?_⟩
  unfold tryGoN at h
  cases e : t.lookup k with
  | none => rw [e] at h; exact h.elim
  | some b =>
    rw [e] at h
    refine ⟨b, ht k b e, fun hb a na => ?_, fun hb => ?_⟩
    · subst hb
      exact s1 a k y Z R F δ c σ H E w rs (noExc_aft h)
    · subst hb
      exact sl Z R F δ c σ H E k ns ds y w rs xr h
theorem hd_as {x n : Str} {i : Nat} {t : List (Str × Bool)} {ms : MX} {b₀ : Stmt} {suite : List Stmt} {np q : Pos} {hds : List ExceptHandler} {l : List (List (Str × Bool) × Option Nat × MX)} (hf : X.env.frame = some X.env.locals) (hN : X.N.Nodup) (hi : X.N[i]? = some n) (hl : X.env.kindOf n = some .local)
    (hg : Gl X x) (hdb : (x == ("__debug__" : Str)) = false) (hm : X.mg x = some (.ref (He.ga X.K x))) (ht : ExmOk X.K x t)
    (hsu : ∀ (a : Addr) (oe : Obj) (k : Str) (d : Option Addr) (pn : List (Addr × Obj)), Zc (.ref (He.ga X.K k)) d oe → (∃ vs, oe.data = .fields vs) → DSs (X.suite a ((a, oe) :: pn)) W0 (b₀ :: suite) (ms a d k)) (same : IndS i ms) (r : HD X W hds l) :
    HD X W (.ExceptHandler (some (.Name x np)) (some n) (b₀ :: suite) q :: hds) ((t, some i, ms) :: l) := by
  obtain ⟨w, hb, sl⟩ := r
  obtain ⟨ts, p1, s1⟩ := su_of hsu
  refine ⟨_, hb_as hf hN hi hl ⟨hg, hdb, .inl hm⟩ p1 hb, fun Z R F δ c σ H E k ns ds y w rs xr h => ?_⟩
  unfold tryGoN at h
  cases e : t.lookup k with
  | none => rw [e] at h; exact h.elim
  | some b =>
    rw [e] at h
    refine ⟨b, ht k b e, fun hb a na => ?_, fun hb => ?_⟩
    · subst hb
      change AftS X.K Z W R F (asGo i ms k ns ds δ c) E at h
      unfold asGo at h
      have rx : Rel X.K R F (.ref a) (.exo a y k ns ds) := by
        cases xr with
        | none => exact .exo0
        | some h z l => exact .exo h z l
      refine s1 a k y Z R F (δ.set i (some (.exo a y k ns ds))) c (σ.set i (some (.ref a))) H (Ends.drop i E) w (rs.set rx) (drop_aft (W := W) ?_)
      rw [same k ns ds δ c a y]
      exact h
    · subst hb
      exact sl Z R F δ c σ H E k ns ds y w rs xr h
theorem ds_tryN {h₀ : ExceptHandler} {hds : List ExceptHandler} {l : List (List (Str × Bool) × Option Nat × MX)} (hs : X.stack = X.env :: X.outer) (hf : X.env.frame = some X.env.locals)
    (hb : ∀ (W' : WX) (pn : List (Addr × Obj)) (xe : Value → Shared → Prop), Takes (X.tr pn xe) W' → PassesOwn (model X.prog X.w) X.A X.env xe → DSs (X.tr pn xe) W' body mb) (hh : HD X W (h₀ :: hds) l) :
    DS X W (.Try body (h₀ :: hds) [] [] pos) (mTryN mb l) := by
  obtain ⟨tb, ptb, stb⟩ := tr_body hb
  obtain ⟨w, ok, sl⟩ := hh
  refine ⟨_, ps_tryH hs hf ptb ok, fun Z R F δ c σ H E w rs h => stb _ Z R F δ c σ H E w rs ?_⟩
  unfold mTryN at h
  cases e : mb δ c with
  | exc k ns ds δ1 c1 =>
    rw [e] at h
    intro R' F' H' σ' x p1 e1 w1 rs1 xr
    exact sl Z R' F' δ1 c1 σ' H' E k ns ds x w1 rs1 xr (AftS.mono p1 e1 h)
  | nx => rw [e] at h; exact h
  | rt => rw [e] at h; exact h
  | bk => rw [e] at h; exact h
  | ct => rw [e] at h; exact h
  | bad => rw [e] at h; exact h
end
end Nw

set_option Elab.async false
set_option linter.all false
set_option maxRecDepth 100000
set_option maxHeartbeats 4000000
/-! Nw22: a list some times. -/
namespace Nw
open PySem PySem.Spec
open PyProof.Rows hiding St
open L2
section
variable {X : Cx}
def mulL : O2 := fun d e c => match lstOwn c d, e with
  | some l, .int k => if -(2 ^ 63) ≤ k ∧ k < 2 ^ 63 ∧ l.length * k.toNat ≤ sizeLine then lstD (List.replicate k.toNat l).flatten c else .bad
  | _, _ => .bad
theorem RelL.rep {K : Frag} {R : List Addr} {F : Hp} {vs : List V} {ds : List D} (r : RelL K R F vs ds) : ∀ n : Nat, RelL K R F (List.replicate n vs).flatten (List.replicate n ds).flatten
  | 0 => .nil
  | n + 1 => by
    rw [List.replicate_succ, List.replicate_succ, List.flatten_cons, List.flatten_cons]
    exact r.append (RelL.rep r n)
theorem os_mulL : OpS X (binaryOp .Mult) mulL := by
  refine ⟨_, op_rep, fun Z W R F c σ H x y d e Q w rx ry q => ?_⟩
  unfold mulL at q
  split at q
  · rename_i l k hl
    split at q
    · rename_i hc
      cases ry
      obtain ⟨a, vs, rfl, ha, rl⟩ := w.own rx hl
      obtain ⟨z, hn⟩ := newL Z W R F σ c H _ _ Q w (rl.rep k.toNat) q
      exact ⟨a, k, vs, rfl, rfl, ha, hc.1, hc.2.1, by rw [rl.length]; exact hc.2.2, hn⟩
    · exact q.elim
  · exact q.elim
end
end Nw

set_option Elab.async false
set_option linter.all false
set_option maxRecDepth 100000
set_option maxHeartbeats 4000000
/-! Nw23: enumerate of lists and tuples. -/
namespace NwE
open PySem
open PySem.Sem (wp)
section
variable {prog : Program} {w : World} {A : Around} {E : Value → Shared → Prop} {s : Shared}
theorem drawsT (hh : A.handled = none) (it t : Addr) (hne : t ≠ it) (xs : Array Value) :
    Draws prog w A it [it, t] xs.size (fun k v => xs[k]? = some v) (fun k h => h.IsTupleIter it t k ∧ h.IsTuple t xs) where
  live := fun _ _ q => by obtain ⟨⟨o, ho, _⟩, _⟩ := q; exact ⟨o, ho⟩
  frame := fun _ _ h' q hk => by
    obtain ⟨⟨o, ho, r⟩, ⟨o2, ho2, r2⟩⟩ := q
    exact ⟨⟨o, hk it (by simp) o ho, r⟩, ⟨o2, hk t (by simp) o2 ho2, r2⟩⟩
  item := fun k s Q E hk q hQ => by
    refine RZ.nextOf_tuple_item q.1 q.2 (x := xs[k]) (by simp [hk]) ?_
    intro h' q' same
    exact hQ _ h' s.toks (by simp [hk]) ⟨q', q.2.extBut same.extBut hne⟩ same
  done := fun s Q E q hE => RZ.nextOf_tuple_end hh q.1 q.2 (by simp) hE
theorem meets_newT (t : Addr) (xs : Array Value) (n : Nat) (dct : Option Addr) (sl : Array (Option Value)) :
    Meets (Builtin.«enumerate.__new__» ⟨[.type "enumerate", .ref t], []⟩) (fun _ R s => s.heap.get? t = some { cls := .type "tuple", dict := dct, data := .seq xs n, slots := sl } ∧
      R (.ok (.ret (.ref (s.heap.push { cls := .type "tuple_iterator", data := .fields #[.ref t, .int 0 0] }).objs.size)))
        { s with heap := (s.heap.push { cls := .type "tuple_iterator", data := .fields #[.ref t, .int 0 0] }).push { cls := .type "enumerate", data := .fields #[.none, .bool false, .ref s.heap.objs.size, rawInt 0, .none, .none] } }) := by
  refine .of_wp fun prog w A R s h => ?_
  obtain ⟨hp, g, d, tk, os⟩ := s
  obtain ⟨ht, h⟩ := h
  have hsub := sub_enumerate
  have hT : Heap.IsTuple (Shared.heap ⟨hp, g, d, tk, os⟩) t xs := ⟨_, ht, rfl, n, rfl⟩
  wp_walk using AutoSeq1.wpAny_loadPart' ht
  refine wpAny_stack_any (fun st => ?_)
  refine wpAny_pure ?_
  split
  · rename_i c _ _ _ _ _
    cases (c == Value.type "enumerate") <;> (wp_walk using AutoSeq1.wpAny_loadPart' ht, wpAny_pyIter_tuple hT) <;> exact ⟨_, rfl, h⟩
  · wp_walk using AutoSeq1.wpAny_loadPart' ht, wpAny_pyIter_tuple hT
    exact ⟨_, rfl, h⟩
theorem call_enumT {t : Addr} {xs : Array Value} {Q : Value → Shared → Prop} (hT : s.heap.IsTuple t xs)
    (h : ∀ h', IsEnum h' (s.heap.objs.size + 1) s.heap.objs.size 0 .none → h'.IsTupleIter s.heap.objs.size t 0 → (∀ b o, s.heap.get? b = some o → h'.get? b = some o) → Q (.ref (s.heap.objs.size + 1)) { s with heap := h' }) :
    wpAny (model prog w) A (call (.type "enumerate") [.ref t]) Q E s := by
  obtain ⟨⟨c, dct, dt, sl⟩, ht, hc, n, hd⟩ := hT
  dsimp only at hc hd
  subst hc hd
  refine callType_new F.called_enumerate (by decide) (F.typeCall_enumerate_1 _) (F.newCall_enumerate_1 _) (fun obj => F.args_object_init_2 obj _) F.entry_enumerate_new (meets_newT t xs n dct sl) ⟨ht, ?_⟩
  have hz : (s.heap.push { cls := .type "tuple_iterator", data := .fields #[.ref t, .int 0 0] }).objs.size = s.heap.objs.size + 1 := Heap.size_push ..
  show _ ∧ _
  rw [hz]
  have e1 := Heap.get?_push_size (s.heap.push { cls := .type "tuple_iterator", data := .fields #[.ref t, .int 0 0] }) (o := { cls := .type "enumerate", data := .fields #[.none, .bool false, .ref s.heap.objs.size, rawInt 0, .none, .none] }) rfl
  rw [hz] at e1
  refine ⟨⟨_, e1, rfl⟩, h _ e1 ?_ ?_⟩
  · exact ⟨_, Heap.get?_push_of_some _ (Heap.get?_push_size _ rfl), rfl, rfl⟩
  · exact fun b o x => Heap.get?_push_of_some _ (Heap.get?_push_of_some _ x)
end
end NwE
namespace Nw
open PySem PySem.Spec
open PyProof.Rows hiding St
open L2
/-- the tuple at a, each item in a new pair -/
def Ieu (K : Frag) (a : Addr) : It :=
  ⟨fun i H => ∃ (xs : List V) (x : V), SqT K H a xs ∧ xs[i]? = some x,
   fun i H v H' => ∃ T x, v = .ref T ∧ H T = none ∧ H' = upd H T (.tup [.int (i : Nat), x]) ∧ ∀ xs, SqT K H a xs → xs[i]? = some x,
   fun i H => ∃ xs : List V, SqT K H a xs ∧ xs.length ≤ i⟩
theorem turn_enumT {P : Program} {w : World} {K : Frag} {elts : List Expr} {kk : Nat} {tpos : Pos} (a e it : Addr) :
    Turn P w K (.Tuple elts kk tpos) (Ieu K a) [e, it] e (fun i h => (∃ old, IsEnum h e it ((i : Nat) : Int) old) ∧ h.IsTupleIter it a i ∧ e ≠ it) where
  mem := by simp
  obj := fun i h q b hb => by
    obtain ⟨⟨old, he⟩, ⟨o, ho, hc, hd⟩, _⟩ := q
    rcases (by simpa using hb : b = e ∨ b = it) with rfl | rfl
    · exact ⟨_, he, fun v z => nomatch z⟩
    · exact ⟨o, ho, fun v z => by rw [hd] at z; cases z⟩
  keep := fun i h h' q k => by
    obtain ⟨⟨old, he⟩, hi, hne⟩ := q
    exact ⟨⟨old, k e (by simp) _ he⟩, hi.at (fun o z => k it (by simp) o z), hne⟩
  item := by
    intro X hP hw hK hc i pins s σ H E I hf q hg
    subst hP hw hK
    obtain ⟨⟨old, he⟩, hit, hne⟩ := q
    obtain ⟨xs, x, hq, hx⟩ := hg
    obtain ⟨its, rv, p, hz⟩ := I.tuple hq
    obtain ⟨u, hu, ru⟩ := rv.get hx
    have hel : e < s.heap.objs.size := Heap.lt_size he
    have hil : it < s.heap.objs.size := by obtain ⟨_, z, _⟩ := hit; exact Heap.lt_size z
    have hT : s.heap.IsTuple a its.toArray := p
    have hai : a ≠ it := fun z => by
      obtain ⟨o1, h1, c1, _⟩ := hT
      obtain ⟨o2, h2, c2, _⟩ := hit
      rw [z, h2] at h1
      cases h1
      rw [c2] at c1
      injection c1 with c1
      exact absurd c1 (by decide)
    have hae : e ≠ a := fun z => by
      obtain ⟨o1, h1, c1, _⟩ := hT
      rw [← z, he] at h1
      cases h1
      injection c1 with c1
      exact absurd c1 (by decide)
    have hh : X.A.in1.handled = none := I.ok.hd hc
    refine wpAny_pyNext_enum_itemD (NwE.drawsT hh it a hai its.toArray) he ⟨hit, hT⟩ ?_ hne (by simp [hne, hae]) ?_
    · have := (List.getElem?_eq_some_iff.mp hu).1
      simpa using this
    intro y h' tk hy ho hit' hTu hsz hk
    have hyu : y = u := by
      have e1 : its.toArray[i]? = some u := by simpa using hu
      rw [e1] at hy
      exact (Option.some.inj hy).symm
    subst hyu
    refine ⟨_, rfl, wpAny_letOwnedTupleGo_enum (s := { s with heap := h', toks := tk + 1 }) ho (fun h'' he' sb => ?_)⟩
    have hT2 : h''.get? s.heap.objs.size = some { cls := .type "tuple", data := .seq #[.int i tk, y] } := (sb.2 _ (Nat.ne_of_gt hel)).trans hTu
    have new : ObjOk X.prog X.w (upd H s.heap.objs.size (.tup [.int (i : Nat), x])) h'' s.heap.objs.size (.tup [.int (i : Nat), x]) :=
      ⟨by show 2 ≤ sizeLine; decide, [.int i tk, y], .cons ⟨_, rfl⟩ (.cons ru .nil), ⟨_, hT2, rfl, _, rfl⟩⟩
    have I1 : Inv X pins σ (upd H s.heap.objs.size (.tup [.int (i : Nat), x])) { s with heap := h'', toks := tk + 1 } := by
      refine I.turnedNew (ch := [e, it]) ?_ hf (Nat.le_refl _) new
      intro b ob hb z
      have hbe : b ≠ e := fun z => hb (by simp [z])
      have hbi : b ≠ it := fun z => hb (by simp [z])
      exact (sb.2 b hbe).trans (hk b ob hbe hbi z)
    refine ⟨.ref s.heap.objs.size, _, I1, rfl, ⟨_, x, rfl, I.hok.fresh (Nat.le_refl _), rfl, fun ys hy => by rw [I.tuple_inj hy hq]; exact hx⟩, ⟨⟨y, ?_⟩, hit'.1.at (fun o z => (sb.2 it (Ne.symm hne)).trans z), hne⟩, fun b hb => ?_⟩
    · rw [show ((i + 1 : Nat) : Int) = (i : Int) + 1 by omega]
      exact he'
    · have hb' : b < s.heap.objs.size := by
        rcases (by simpa using hb : b = e ∨ b = it) with rfl | rfl
        · exact hel
        · exact hil
      rw [upd_ne (Nat.ne_of_lt hb')]
      exact (hf b hb).1
  done := by
    intro X hP hw hK hc i pins s σ H E I hf q hg
    subst hP hw hK
    obtain ⟨⟨old, he⟩, hit, hne⟩ := q
    obtain ⟨xs, hq, hx⟩ := hg
    obtain ⟨its, rv, p, hz⟩ := I.tuple hq
    obtain ⟨f0, f1, f2, f3, f4, f5⟩ := hf it (by simp)
    have hl := rv.length
    have hT : s.heap.IsTuple a its.toArray := p
    have hh : X.A.in1.handled = none := I.ok.hd hc
    have hT2 : s.TypeIs (.ref e) "enumerate" := ⟨_, he, rfl⟩
    unfold pyNext
    refine wpAny_bind (wpAny_attempt (wpAny_callSpecial?_slot (name := Str.ofString "__next__") hT2 F.slot_enumerate_next (wpAny_call_entry F.slot_enumerate_next hT2 F.entry_enumerate_next ?_ (F.args_enumerate_next_1 _))))
    refine (show wpAny _ _ (field (.ref e) 2 >>= _) _ _ _ from wpAny_bind (wpAny_field he rfl (x := .ref it) rfl (wpAny_bind (RZ.nextOf_tuple_end hh hit hT (by simp; omega) (fun h' x he' hx' => ?_)))))
    obtain ⟨o, ho, hc'⟩ := hx'
    refine wpAny_bind (wpAny_isInstance (T := "StopIteration") (b := true) ⟨o, ho, hc'⟩ isSubtype_stop (wpAny_pure ?_))
    exact ⟨rfl, I.turned (t' := s.toks) (fun b o hb q => he' b o hb q) f0 f1 f3 f4 f5⟩
  self := fun A i s Q E q h => by
    obtain ⟨⟨_, he⟩, _⟩ := q
    exact wpAny_pyIter_enum he h
def iEnuT (K : Frag) (ta : TA) : TI := fun σ H R => ta σ H fun vs H1 => ∃ a xs, vs = [.ref a] ∧ SqT K H1 a xs ∧ R (Ieu K a) H1
theorem pi_enumT {X : Cx} {e : Expr} {ta : TA} {p pos tpos : Pos} {elts : List Expr} {kk : Nat} (hg : Gl X "enumerate") (hm : X.mg "enumerate" = none) (ha : PA X [e] ta) (hs : starEach [e] X.env = [(false, eval e X.env)] := by rfl) :
    PI X (.Tuple elts kk tpos) (.Call (.Name "enumerate" p) [e] [] pos) (iEnuT X.K ta) := by
  refine ⟨fun pins s σ H R I h => Call_ (ld_blt I hg hm boot_enumerate (PyProof.Rows.callWith_type1 (thn (ha.run pos pins s σ H _ I h) ?_) hs rfl))⟩
  rintro us s1 ⟨vs, H1, I1, r1, a, xs, ex, hq, q⟩
  subst ex
  rw [Vals.ref1 r1]
  obtain ⟨its, rv, p', hz⟩ := I1.tuple hq
  refine NwE.call_enumT (t := a) (xs := its.toArray) p' (fun h' he hit hk => wpAny_pyIter_enum he ?_)
  have I2 : Inv X pins σ H1 { s1 with heap := h' } := I1.kept (t' := s1.toks) hk
  refine ⟨s1.heap.objs.size + 1, [s1.heap.objs.size + 1, s1.heap.objs.size], _, _, H1, rfl, I2, turn_enumT a (s1.heap.objs.size + 1) s1.heap.objs.size, ⟨⟨.none, he⟩, hit, Nat.succ_ne_self _⟩, fun b hb => ?_, q⟩
  have hle : s1.heap.objs.size ≤ b := by
    rcases (by simpa using hb : b = s1.heap.objs.size + 1 ∨ b = s1.heap.objs.size) with rfl | rfl
    · exact Nat.le_succ _
    · exact Nat.le_refl _
  exact I1.fpOk hle (I1.hok.fresh hle)

/-! ### at D level -/
def enumL (ds : List D) : List D := ds.mapIdx fun i d => .tup [.int (i : Nat), d]
def enumSeq (d : D) (c : Cells) : Out Seq := match items c d with
  | some ds => .ok ⟨enumL ds, chkI d ds⟩ c
  | none => .bad
def mEnum (ms : MA) : En → Cells → Out Seq := fun δ c => (ms δ c).bind fun ds c1 => match ds with
  | [d] => enumSeq d c1
  | _ => .bad
theorem enumL_get {ds : List D} {k : Nat} {d : D} (h : (enumL ds)[k]? = some d) : ∃ e, ds[k]? = some e ∧ d = .tup [.int (k : Nat), e] := by
  unfold enumL at h
  rw [List.getElem?_mapIdx] at h
  cases q : ds[k]? with
  | none => rw [q] at h; cases h
  | some e => rw [q] at h; cases h; exact ⟨e, rfl, rfl⟩
theorem enumL_len {ds : List D} : (enumL ds).length = ds.length := by
  unfold enumL
  rw [List.length_mapIdx]
section
variable {K : Frag} {Z : Hp} {R : List Addr} {F : Hp} {a : Addr} {vs : List V} {ds : List D}
theorem pair_new {Z' : Hp} {R' : List Addr} {F' : Hp} {c : Cells} {H : Hp} {T : Addr} {v : V} {d : D} {k : Nat} (w : Wd K Z' R' F' c H) (n : H T = none) (r : Rel K R' F' v d) :
    ∃ F2, Same F' F2 ∧ Wd K Z' R' F2 c (upd H T (.tup [.int (k : Nat), v])) ∧ Rel K R' F2 (.ref T) (.tup [.int (k : Nat), d]) := by
  obtain ⟨w2, s2⟩ := w.frozen n (.tup [.int (k : Nat), v])
  exact ⟨_, s2, w2, .tup (SqT.of upd_same) (.cons (.int _) (.cons (r.mono (List.prefix_refl _) s2) .nil))⟩
theorem its_enumT (h : SqT K F a vs) (l : RelL K R F vs ds) (P : Cells → Bool) : ItS K Z R F (Ieu K a) ⟨enumL ds, P⟩ := by
  intro Z' k R' F' c H zz p e w _
  have q : SqT K H a vs := (h.ext e).ext w.same
  refine ⟨fun d hd => ?_, fun hk => ⟨vs, q, by rw [l.length, ← enumL_len]; exact hk⟩⟩
  obtain ⟨d0, hd0, rfl⟩ := enumL_get hd
  obtain ⟨v, hv, rv⟩ := l.get hd0
  refine ⟨⟨vs, v, q, hv⟩, fun x H' y => ?_⟩
  obtain ⟨T, x', rfl, n, rfl, hx⟩ := y
  have := hx vs q
  rw [hv] at this
  cases this
  exact pair_new w n (rv.mono p e)
theorem its_enumL (h : SqL K F a vs) (l : RelL K R F vs ds) (P : Cells → Bool) : ItS K Z R F (Ite K a) ⟨enumL ds, P⟩ := by
  intro Z' k R' F' c H zz p e w _
  have q : SqL K H a vs := SqL.ext (SqL.ext h e) w.same
  refine ⟨fun d hd => ?_, fun hk => ⟨vs, q, by rw [l.length, ← enumL_len]; exact hk⟩⟩
  obtain ⟨d0, hd0, rfl⟩ := enumL_get hd
  obtain ⟨v, hv, rv⟩ := l.get hd0
  refine ⟨⟨vs, v, q, hv⟩, fun x H' y => ?_⟩
  obtain ⟨T, x', rfl, n, rfl, hx⟩ := y
  have := hx vs q
  rw [hv] at this
  cases this
  exact pair_new w n (rv.mono p e)
theorem its_enumC {i : Nat} (h : R[i]? = some a) : ItS K Z R F (Ite K a) ⟨enumL ds, chkI (.cell i) ds⟩ := by
  intro Z' k R' F' c H zz p e w hc
  obtain ⟨us, q0, l⟩ := w.atList (pre_get p h) (chkI_cell hc)
  have q : SqL K H a us := SqL.of q0
  refine ⟨fun d hd => ?_, fun hk => ⟨us, q, by rw [l.length, ← enumL_len]; exact hk⟩⟩
  obtain ⟨d0, hd0, rfl⟩ := enumL_get hd
  obtain ⟨v, hv, rv⟩ := l.get hd0
  refine ⟨⟨us, v, q, hv⟩, fun x H' y => ?_⟩
  obtain ⟨T, x', rfl, n, rfl, hx⟩ := y
  have := hx us q
  rw [hv] at this
  cases this
  exact pair_new w n rv
end
theorem di_enum {X : Cx} {W : WX} {e : Expr} {ms : MA} {p pos tpos : Pos} {elts : List Expr} {kk : Nat} (hm : X.mg "enumerate" = none) (ha : DA X W [e] ms) (hg : Gl X "enumerate" := by rfl) (hs : starEach [e] X.env = [(false, eval e X.env)] := by rfl) :
    DI X W (.Tuple elts kk tpos) (.Call (.Name "enumerate" p) [e] [] pos) (mEnum ms) := by
  obtain ⟨t, pa, sa⟩ := ha.ex
  have p1 : PI X (.Tuple elts kk tpos) (.Call (.Name "enumerate" p) [e] [] pos) (fun σ H R => iEnum X.K t σ H R ∨ iEnuT X.K t σ H R) := ⟨fun pins s σ H R I h => by
    rcases h with h | h
    · exact (pi_enum hg hm pa hs).run pins s σ H R I h
    · exact (pi_enumT hg hm pa hs).run pins s σ H R I h⟩
  refine ⟨_, p1, fun Z R F δ c σ H Q w rs h => ?_⟩
  have h := Aft.bind h
  cases q : ms δ c with
  | bad => rw [q] at h; exact h.elim
  | exc k ns es c1 =>
    rw [q] at h
    refine .inl (sa Z R F δ c σ H _ w rs ?_)
    rw [q]
    exact h
  | ok ds c1 =>
    rw [q] at h
    by_cases ht : ∃ l, ds = [.tup l]
    · obtain ⟨l, rfl⟩ := ht
      refine .inr (sa Z R F δ c σ H _ w rs ?_)
      rw [q]
      intro R1 F1 H1 p1 e1 w1 vs rv
      obtain ⟨_, _, _, h1⟩ := h R1 F1 H1 p1 e1 w1
      obtain ⟨v, ev, rr⟩ : ∃ v, vs = [v] ∧ Rel X.K R1 F1 v (.tup l) := by
        cases rv with
        | cons r t => cases t; exact ⟨_, rfl, r⟩
      subst ev
      cases rr with
      | tup hq rl => exact ⟨_, _, rfl, hq.ext w1.same, h1.ok w1 _ (its_enumT hq rl _)⟩
    · refine .inl (sa Z R F δ c σ H _ w rs ?_)
      rw [q]
      intro R1 F1 H1 p1 e1 w1 vs rv
      obtain ⟨_, _, _, h1⟩ := h R1 F1 H1 p1 e1 w1
      match ds, ht, rv, h1 with
      | [], _, _, h1 => exact h1.elim
      | _ :: _ :: _, _, _, h1 => exact h1.elim
      | [d], ht, rv, h1 =>
        obtain ⟨v, ev, rr⟩ : ∃ v, vs = [v] ∧ Rel X.K R1 F1 v d := by
          cases rv with
          | cons r t => cases t; exact ⟨_, rfl, r⟩
        subst ev
        have h1 : Aft X.K Z W R1 F1 σ (enumSeq d c1) _ := h1
        cases rr with
        | tup hq l => exact absurd ⟨_, rfl⟩ ht
        | lst hq rl => exact ⟨_, _, rfl, SqL.of (w1.same _ _ hq), h1.ok w1 _ (its_enumL (SqL.of hq) rl _)⟩
        | scr hq rl => exact ⟨_, _, rfl, hq.ext w1.same, h1.ok w1 _ (its_enumL hq rl _)⟩
        | cell hq =>
          unfold enumSeq at h1
          split at h1
          · rename_i l hl
            obtain ⟨us, q2, rl⟩ := w1.atList hq (items_cell hl)
            exact ⟨_, _, rfl, SqL.of q2, h1.ok w1 _ (its_enumC hq)⟩
          · exact h1.elim
        | _ => exact h1.elim
end Nw

set_option Elab.async false
set_option linter.all false
set_option maxRecDepth 100000
set_option maxHeartbeats 4000000
/-! Nw24: dicts of ints and texts; sorted, count, list, min, max. -/
namespace Nw
open PySem PySem.Spec
open PyProof.Rows hiding St
open L2

/-! ### tables -/
def dicOf (c : Cells) : D → Option (List Key × List D)
  | .dic ks ds => some (ks, ds)
  | .cell i => match c[i]? with
    | some (.dct ks ds) => some (ks, ds)
    | _ => none
  | _ => none
def keyOf : D → Option Key
  | .int i => some (.inl i)
  | .str x => some (.inr x)
  | _ => none
def valD (k : Key) : List Key → List D → Option D
  | j :: ks, d :: ds => if j = k then some d else valD k ks ds
  | _, _ => none
def hasK (k : Key) (ks : List Key) : Bool := ks.any fun j => decide (j = k)
def putKs (k : Key) (ks : List Key) : List Key := if hasK k ks = true then ks else ks ++ [k]
def setVs {α : Type} (k : Key) (y : α) : List Key → List α → List α
  | j :: ks, d :: ds => (if j = k then y else d) :: setVs k y ks ds
  | _, _ => []
def putVs {α : Type} (k : Key) (y : α) (ks : List Key) (ds : List α) : List α := if hasK k ks = true then setVs k y ks ds else ds ++ [y]
def dropKs (k : Key) (ks : List Key) : List Key := ks.filter fun j => decide (j ≠ k)
def dropVs {α : Type} (k : Key) : List Key → List α → List α
  | j :: ks, d :: ds => if j = k then dropVs k ks ds else d :: dropVs k ks ds
  | _, _ => []
section
variable {K : Frag} {Z : Hp} {R : List Addr} {F : Hp} {c : Cells} {H : Hp} {v : V} {d : D} {ks : List Key} {vs : List V} {ds : List D} {k : Key}
theorem dicOf_cell {i : Nat} (h : dicOf c (.cell i) = some (ks, ds)) : c[i]? = some (.dct ks ds) := by
  simp only [dicOf] at h
  split at h
  · rename_i q
    cases h
    exact q
  · cases h
theorem Wd.atDict {i : Nat} {a : Addr} (w : Wd K Z R F c H) (h : R[i]? = some a) (e : c[i]? = some (.dct ks ds)) : ∃ vs, H a = some (.dK (ks.zip vs)) ∧ ks.length = vs.length ∧ RelL K R F vs ds := by
  obtain ⟨a', o, h1, h2, h3, h4⟩ := w.cel i _ e
  rw [h] at h1
  cases h1
  cases h3 with
  | dct z l => exact ⟨_, h2, z, l⟩
theorem Wd.dict (w : Wd K Z R F c H) (r : Rel K R F v d) (e : dicOf c d = some (ks, ds)) : ∃ a vs, v = .ref a ∧ H a = some (.dK (ks.zip vs)) ∧ ks.length = vs.length ∧ RelL K R F vs ds := by
  cases r with
  | dic h z l => cases e; exact ⟨_, _, rfl, w.same _ _ h, z, l⟩
  | @cell i a h =>
    obtain ⟨vs, q, z, l⟩ := w.atDict h (dicOf_cell e)
    exact ⟨a, vs, rfl, q, z, l⟩
  | _ => cases e
theorem keyOf_rel (r : Rel K R F v d) (h : keyOf d = some k) : v = kV k := by
  cases r with
  | int i => cases h; rfl
  | str x => cases h; rfl
  | _ => cases h
theorem valD_some : ∀ {ks : List Key} {vs : List V} {ds : List D} {d : D}, RelL K R F vs ds → valD k ks ds = some d → ∃ v, valV (ks.zip vs) k = some v ∧ Rel K R F v d
  | [], _, _, _, _, h => by unfold valD at h; cases h
  | _ :: _, _, _, _, .nil, h => by unfold valD at h; cases h
  | j :: ks, v :: vs, e :: ds, d, .cons r t, h => by
    unfold valD at h
    show ∃ u, valV ((j, v) :: ks.zip vs) k = some u ∧ _
    by_cases hj : j = k
    · rw [if_pos hj] at h
      cases h
      exact ⟨v, valV_pos (p := (j, v)) hj, r⟩
    · rw [if_neg hj] at h
      rw [valV_neg (p := (j, v)) hj]
      exact valD_some t h
theorem valV_has : ∀ {ks : List Key} {vs : List V}, ks.length = vs.length → (valV (ks.zip vs) k).isSome = hasK k ks
  | [], [], _ => rfl
  | j :: ks, v :: vs, h => by
    show (valV ((j, v) :: ks.zip vs) k).isSome = (decide (j = k) || hasK k ks)
    by_cases hj : j = k
    · rw [valV_pos (p := (j, v)) hj, decide_eq_true hj]; rfl
    · rw [valV_neg (p := (j, v)) hj, decide_eq_false hj, Bool.false_or]
      exact valV_has (by simpa using h)
theorem valD_none : ∀ {ks : List Key} {ds : List D}, ks.length = ds.length → valD k ks ds = none → hasK k ks = false
  | [], [], _, _ => rfl
  | j :: ks, d :: ds, h, e => by
    unfold valD at e
    show (decide (j = k) || hasK k ks) = false
    by_cases hj : j = k
    · rw [if_pos hj] at e; cases e
    · rw [if_neg hj] at e
      rw [decide_eq_false hj, Bool.false_or]
      exact valD_none (by simpa using h) e
theorem zip_any : ∀ {ks : List Key} {vs : List V}, ks.length = vs.length → ((ks.zip vs).any fun kv => decide (kv.1 = k)) = hasK k ks
  | [], [], _ => rfl
  | j :: ks, v :: vs, h => by
    show (decide (j = k) || _) = (decide (j = k) || _)
    congr 1
    exact zip_any (by simpa using h)
theorem setVs_zip {y : V} : ∀ {ks : List Key} {vs : List V}, ks.length = vs.length → (ks.zip vs).map (fun kv => if kv.1 = k then (kv.1, y) else kv) = ks.zip (setVs k y ks vs) ∧ (setVs k y ks vs).length = ks.length
  | [], [], _ => ⟨rfl, rfl⟩
  | j :: ks, v :: vs, h => by
    obtain ⟨i1, i2⟩ := setVs_zip (y := y) (ks := ks) (vs := vs) (by simpa using h)
    constructor
    · show (if j = k then (j, y) else (j, v)) :: (ks.zip vs).map _ = (j, if j = k then y else v) :: ks.zip _
      rw [i1]
      by_cases hj : j = k
      · rw [if_pos hj, if_pos hj]
      · rw [if_neg hj, if_neg hj]
    · show (setVs k y ks vs).length + 1 = ks.length + 1
      rw [i2]
theorem putK_zip {y : V} (h : ks.length = vs.length) : putK (ks.zip vs) k y = (putKs k ks).zip (putVs k y ks vs) ∧ (putKs k ks).length = (putVs k y ks vs).length := by
  unfold putK putKs putVs
  rw [zip_any h]
  by_cases hk : hasK k ks = true
  · rw [if_pos hk, if_pos hk, if_pos hk]
    obtain ⟨i1, i2⟩ := setVs_zip (k := k) (y := y) h
    exact ⟨i1, i2.symm⟩
  · rw [if_neg hk, if_neg hk, if_neg hk, List.zip_append h]
    exact ⟨rfl, by rw [List.length_append, List.length_append, h]; rfl⟩
theorem setVs_rel {y : V} {e : D} (r : Rel K R F y e) : ∀ {ks : List Key} {vs : List V} {ds : List D}, RelL K R F vs ds → RelL K R F (setVs k y ks vs) (setVs k e ks ds)
  | [], _, _, _ => .nil
  | _ :: _, _, _, .nil => .nil
  | j :: ks, _, _, .cons h t => by
    unfold setVs
    by_cases hj : j = k
    · rw [if_pos hj, if_pos hj]; exact .cons r (setVs_rel r t)
    · rw [if_neg hj, if_neg hj]; exact .cons h (setVs_rel r t)
theorem putVs_rel {y : V} {e : D} (r : Rel K R F y e) (l : RelL K R F vs ds) : RelL K R F (putVs k y ks vs) (putVs k e ks ds) := by
  unfold putVs
  by_cases hk : hasK k ks = true
  · rw [if_pos hk, if_pos hk]; exact setVs_rel r l
  · rw [if_neg hk, if_neg hk]; exact l.append (.cons r .nil)
theorem dropK_zip : ∀ {ks : List Key} {vs : List V}, ks.length = vs.length → dropK (ks.zip vs) k = (dropKs k ks).zip (dropVs k ks vs) ∧ (dropKs k ks).length = (dropVs k ks vs).length
  | [], [], _ => ⟨rfl, rfl⟩
  | j :: ks, v :: vs, h => by
    obtain ⟨i1, i2⟩ := dropK_zip (ks := ks) (vs := vs) (by simpa using h)
    unfold dropK at i1 ⊢
    unfold dropKs at i1 i2 ⊢
    show List.filter _ ((j, v) :: ks.zip vs) = _ ∧ _
    unfold dropVs
    by_cases hj : j = k
    · rw [if_pos hj, List.filter_cons_of_neg (by simpa using hj), List.filter_cons_of_neg (by simpa using hj)]
      exact ⟨i1, i2⟩
    · rw [if_neg hj, List.filter_cons_of_pos (by simpa using hj), List.filter_cons_of_pos (by simpa using hj), i1]
      exact ⟨rfl, by rw [List.length_cons, List.length_cons, i2]⟩
theorem dropVs_rel : ∀ {ks : List Key} {vs : List V} {ds : List D}, RelL K R F vs ds → RelL K R F (dropVs k ks vs) (dropVs k ks ds)
  | [], _, _, _ => .nil
  | _ :: _, _, _, .nil => .nil
  | j :: ks, _, _, .cons h t => by
    unfold dropVs
    by_cases hj : j = k
    · rw [if_pos hj, if_pos hj]; exact dropVs_rel t
    · rw [if_neg hj, if_neg hj]; exact .cons h (dropVs_rel t)
end

/-! ### in, not in -/
section
variable {X : Cx} {W : WX} {pos : Pos}
theorem op_din (hu : X.A.units + 1 < cLine) : OpR X (compareOp .In) (fun y x H Q => ∃ a o, x = .ref a ∧ DGet H a y o ∧ Q (.bl o.isSome) H) := by
  rintro pins s σ H y x v u Q I ry rx ⟨a, o, rfl, g, q⟩
  obtain rfl : u = Value.ref a := rx
  exact d_in hu I g ry fun s3 I3 => ⟨.bl o.isSome, H, I3, rfl, q⟩
theorem op_dnin (hu : X.A.units + 1 < cLine) : OpR X (compareOp .NotIn) (fun y x H Q => ∃ a o, x = .ref a ∧ DGet H a y o ∧ Q (.bl (!o.isSome)) H) := by
  rintro pins s σ H y x v u Q I ry rx ⟨a, o, rfl, g, q⟩
  obtain rfl : u = Value.ref a := rx
  exact d_notIn hu I g ry fun s3 I3 => ⟨.bl (!o.isSome), H, I3, rfl, q⟩
/-- .. of a dict, or else -/
def inX (f : O2) (neg : Bool) : O2 := fun d e c => match dicOf c e with
  | some q => (match keyOf d with
    | some k => .ok (.bl (neg != hasK k q.1)) c
    | none => .bad)
  | none => f d e c
theorem os_inX {f : O2} {k : Nat} (h : OpS X (compareOp .In) f) (hr : Room k X.A) : OpS X (compareOp .In) (inX f false) := by
  obtain ⟨r, p, s⟩ := h
  refine ⟨_, OpR.or p (op_din (by have := hr.units; omega)), fun Z W R F c σ H x y d e Q w rx ry q => ?_⟩
  unfold inX at q
  split at q
  · rename_i z hz
    obtain ⟨ks, ds⟩ := z
    obtain ⟨a, vs, rfl, ha, hl, rl⟩ := w.dict ry hz
    split at q
    · rename_i k hk
      refine .inr ⟨a, _, rfl, by rw [keyOf_rel rx hk]; exact DGet.k ha, ?_⟩
      rw [valV_has hl]
      have q := q.ok w _ (.bl _)
      rw [Bool.false_bne] at q
      exact q
    · exact q.elim
  · exact .inl (s Z W R F c σ H x y d e Q w rx ry q)
theorem os_notInX {f : O2} {k : Nat} (h : OpS X (compareOp .NotIn) f) (hr : Room k X.A) : OpS X (compareOp .NotIn) (inX f true) := by
  obtain ⟨r, p, s⟩ := h
  refine ⟨_, OpR.or p (op_dnin (by have := hr.units; omega)), fun Z W R F c σ H x y d e Q w rx ry q => ?_⟩
  unfold inX at q
  split at q
  · rename_i z hz
    obtain ⟨ks, ds⟩ := z
    obtain ⟨a, vs, rfl, ha, hl, rl⟩ := w.dict ry hz
    split at q
    · rename_i k hk
      refine .inr ⟨a, _, rfl, by rw [keyOf_rel rx hk]; exact DGet.k ha, ?_⟩
      rw [valV_has hl]
      have q := q.ok w _ (.bl _)
      rw [Bool.true_bne] at q
      exact q
    · exact q.elim
  · exact .inl (s Z W R F c σ H x y d e Q w rx ry q)

/-! ### d[k] -/
theorem pe_or {e : Expr} {t u : TE} (h1 : PE X e t) (h2 : PE X e u) : PE X e (fun σ H Q => t σ H Q ∨ u σ H Q) := ⟨fun pins s σ H Q I h => by
  rcases h with h | h
  · exact h1.run pins s σ H Q I h
  · exact h2.run pins s σ H Q I h⟩
theorem ps_or {st : Stmt} {t u : TS} (h1 : PS X st t) (h2 : PS X st u) : PS X st (fun E σ H => t E σ H ∨ u E σ H) := ⟨fun pins s σ H E I h => by
  rcases h with h | h
  · exact h1.run pins s σ H E I h
  · exact h2.run pins s σ H E I h⟩
def ixX : O2 := fun d i c => match dicOf c d with
  | some q => (match keyOf i with
    | some k => (match valD k q.1 q.2 with
      | some v => .ok v c
      | none => .bad)
    | none => .bad)
  | none => ixD d i c
variable {a b o i e : Expr} {ma mb mo mi me : ME}
theorem de_ixX {k : Nat} (hr : Room k X.A) (ha : DE X W a ma) (hb : DE X W b mb) (hs : PlainIx b := by exact fun _ _ => rfl) (hs2 : NoSl b := by exact fun _ _ => rfl) : DE X W (.Subscript a b pos) (mOp ixX ma mb) := by
  obtain ⟨t1, p1, s1⟩ := (de_ix (pos := pos) ha hb hs).ex
  obtain ⟨ta, pa, sa⟩ := ha.ex
  obtain ⟨tb, pb, sb⟩ := hb.ex
  refine ⟨_, pe_or p1 (pe_dget (by have := hr.units; omega) pa pb hs2), fun Z R F δ c σ H Q w rs h => ?_⟩
  have go : Aft X.K Z W R F σ (mOp ixD ma mb δ c) (QV X.K Q) → t1 σ H Q := s1 Z R F δ c σ H Q w rs
  unfold mOp at go h
  cases ea : ma δ c with
  | bad => rw [ea] at h; exact h.elim
  | exc k ns ds c1 => rw [ea] at h go; exact .inl (go h)
  | ok d c1 =>
    rw [ea] at h go
    have h : Aft X.K Z W R F σ ((mb δ c1).bind fun y c2 => ixX d y c2) (QV X.K Q) := h
    have go : Aft X.K Z W R F σ ((mb δ c1).bind fun y c2 => ixD d y c2) (QV X.K Q) → t1 σ H Q := go
    cases eb : mb δ c1 with
    | bad => rw [eb] at h; exact h.elim
    | exc k ns ds c2 => rw [eb] at h go; exact .inl (go h)
    | ok y c2 =>
      rw [eb] at h go
      have h : Aft X.K Z W R F σ (ixX d y c2) (QV X.K Q) := h
      have go : Aft X.K Z W R F σ (ixD d y c2) (QV X.K Q) → t1 σ H Q := go
      unfold ixX at h
      split at h
      · rename_i q hq
        obtain ⟨ks, ds⟩ := q
        refine .inr (sa Z R F δ c σ H _ w rs ?_)
        rw [ea]
        intro R1 F1 H1 p1 e1 w1 x rx
        refine sb Z R1 F1 δ c1 σ H1 _ w1 (rs.mono p1 e1) ?_
        rw [eb]
        intro R2 F2 H2 p2 e2 w2 z rz
        have rx2 := rx.mono p2 e2
        obtain ⟨a, vs, rfl, ha, hl, rl⟩ := w2.dict rx2 hq
        split at h
        · rename_i k hk
          split at h
          · rename_i v hv
            obtain ⟨u, hu, ru⟩ := valD_some rl hv
            refine ⟨a, u, rfl, ?_, (h.mono (p1.trans p2) (e1.trans e2)).ok w2 u ru⟩
            rw [keyOf_rel rz hk, ← hu]
            exact DGet.k ha
          · exact h.elim
        · exact h.elim
      · exact .inl (go h)
/-! d[k] = v -/
def setXGo (d i v : D) (c : Cells) : Option Cells := match d with
  | .cell n => (match c[n]? with
    | some (.dct ks ds) => (match keyOf i with
      | some k => if ks.length < sizeLine then some (c.set n (.dct (putKs k ks) (putVs k v ks ds))) else none
      | none => none)
    | _ => setIGo d i v c)
  | _ => none
def mSetX (mo mi mv : ME) : MS := fun δ c => (mv δ c).fl δ fun v c1 => (mo δ c1).fl δ fun d c2 => (mi δ c2).fl δ fun i c3 => match setXGo d i v c3 with
  | some c4 => .nx δ c4
  | none => .bad
theorem ds_setX {pos' : Pos} {k : Nat} (hr : Room k X.A) (ho : DE X W o mo) (hi : DE X W i mi) (hv : DE X W e me) (hs : swapsWithSole [.Subscript o i pos'] e pos.line X.env = pure false := by rfl) (hw : swappedStores [.Subscript o i pos'] e X.env = pure none := by rfl)
    (h1 : (assignEach [.Subscript o i pos'] X.env).map (·.2) = [assign (.Subscript o i pos') X.env] := by rfl)
    (ha : ∀ v, assign (.Subscript o i pos') X.env v = (do
      let ov ← holding [v] (eval o X.env)
      let iv ← holding [v, ov] (eval i X.env)
      standAt pos'
      holding [v, ov, iv] (setItem ov iv v)
      release [v, ov, iv] []) := by intro _; rfl) (hs2 : swapsWith e (some (.Subscript o i pos')) pos.line X.env = pure false := by rfl) : DS X W (.Assign [.Subscript o i pos'] e pos) (mSetX mo mi me) := by
  obtain ⟨t1, p1, s1⟩ := (ds_setI (pos := pos) ho hi hv hs hw h1 ha).ex
  obtain ⟨ta, pa, sa⟩ := ho.ex
  obtain ⟨tb, pb, sb⟩ := hi.ex
  obtain ⟨tv, pv, sv⟩ := hv.ex
  refine ⟨_, ps_or p1 (ps_dput (by have := hr.units; omega) pa pb pv hs2), fun Z R F δ c σ H E w rs h => ?_⟩
  have go : AftS X.K Z W R F (mSetI mo mi me δ c) E → t1 E σ H := s1 Z R F δ c σ H E w rs
  unfold mSetI at go
  unfold mSetX at h
  cases ev : me δ c with
  | bad => rw [ev] at h; exact h.elim
  | exc k ns ds c1 => rw [ev] at h go; exact .inl (go h)
  | ok v c1 =>
    rw [ev, Out.fl_ok] at h go
    cases eo : mo δ c1 with
    | bad => rw [eo] at h; exact h.elim
    | exc k ns ds c2 => rw [eo] at h go; exact .inl (go h)
    | ok d c2 =>
      rw [eo, Out.fl_ok] at h go
      cases ei : mi δ c2 with
      | bad => rw [ei] at h; exact h.elim
      | exc k ns ds c3 => rw [ei] at h go; exact .inl (go h)
      | ok y c3 =>
        rw [ei, Out.fl_ok] at h go
        cases d with
        | cell n =>
          by_cases hd : ∃ ks ds, c3[n]? = some (.dct ks ds)
          · obtain ⟨ks, ds, hd⟩ := hd
            refine .inr (sv Z R F δ c σ H _ w rs ?_)
            rw [ev]
            intro R1 F1 H1 p1 e1 w1 u ru
            refine sa Z R1 F1 δ c1 σ H1 _ w1 (rs.mono p1 e1) ?_
            rw [eo]
            intro R2 F2 H2 p2 e2 w2 x rx
            refine sb Z R2 F2 δ c2 σ H2 _ w2 ((rs.mono p1 e1).mono p2 e2) ?_
            rw [ei]
            intro R3 F3 H3 p3 e3 w3 z rz
            have h := AftS.mono ((p1.trans p2).trans p3) ((e1.trans e2).trans e3) h
            unfold setXGo at h
            dsimp only at h
            rw [hd] at h
            dsimp only at h
            have rx := rx.mono p3 e3
            cases rx with
            | cell hR =>
              obtain ⟨vs, q, hl, rl⟩ := w3.atDict hR hd
              split at h
              · rename_i c4 hc4
                split at hc4
                · rename_i k hk
                  split at hc4
                  · rename_i hz
                    cases hc4
                    obtain ⟨z1, z2⟩ := putK_zip (k := k) (y := u) hl
                    refine ⟨_, _, rfl, ?_, h R3 F3 _ σ (List.prefix_refl _) (Same.refl _) (w3.write hR (.dct z2 (putVs_rel (ru.mono (p2.trans p3) (e2.trans e3)) rl))) (rs.mono ((p1.trans p2).trans p3) ((e1.trans e2).trans e3))⟩
                    rw [keyOf_rel rz hk, ← z1]
                    exact DPut.k q (by rw [List.length_zip, ← hl, Nat.min_self]; exact hz)
                  · cases hc4
                · cases hc4
              · exact h.elim
          · have e1 : setXGo (.cell n) y v c3 = setIGo (.cell n) y v c3 := by
              unfold setXGo
              dsimp only
              split
              · rename_i ks ds hq
                exact absurd ⟨ks, ds, hq⟩ hd
              · rfl
            rw [e1] at h
            exact .inl (go h)
        | _ => exact h.elim
end

/-! ### displays -/
section
variable {X : Cx} {W : WX} {pos : Pos}
def newDct (c : Cells) : Out D := .ok (.cell c.length) (c ++ [.dct [] []])
theorem Wd.newDct {K : Frag} {Z : Hp} {R : List Addr} {F : Hp} {c : Cells} {H : Hp} {p : Addr} (w : Wd K Z R F c H) (n : H p = none) : Wd K Z (R ++ [p]) F (c ++ [.dct [] []]) (upd H p (.dK [])) ∧ Rel K (R ++ [p]) F (.ref p) (.cell c.length) := by
  refine ⟨w.alloc n (.dct (ks := []) (vs := []) rfl .nil), .cell ?_⟩
  rw [← w.len, List.getElem?_append_right (Nat.le_refl _), Nat.sub_self]
  rfl
theorem de_dnew : DE X W (.Dict [] [] pos) (fun _ c => newDct c) := by
  refine ⟨_, pe_dnewK, fun Z R F δ c σ H Q w rs h p n => ?_⟩
  obtain ⟨w2, r2⟩ := w.newDct n
  exact h _ _ _ (List.prefix_append _ _) (Same.refl _) w2 _ r2
/-- the pairs, from the left -/
abbrev MP := En → Cells → Out (List Key × List D)
def mpNil : MP := fun _ c => .ok ([], []) c
def mpCons (mk mv : ME) (r : MP) : MP := fun δ c => (mk δ c).bind fun k c1 => match keyOf k with
  | some k => (mv δ c1).bind fun v c2 => (r δ c2).bind fun q c3 => .ok (k :: q.1, v :: q.2) c3
  | none => .bad
def mergeD : List Key → List D → List Key → List D → List Key × List D
  | ks, ds, k :: r, d :: t => mergeD (putKs k ks) (putVs k d ks ds) r t
  | ks, ds, _, _ => (ks, ds)
structure DP (X : Cx) (W : WX) (pos : Pos) (keys : List (Option Expr)) (values : List Expr) (m : MP) : Prop where
  ex : ∃ trs, PPs X pos keys values trs ∧ ∀ Z R F δ c σ H Q, Wd X.K Z R F c H → RelS X.K R F δ σ → Aft X.K Z W R F σ (m δ c) (fun R' F' q _ H' => ∀ ps : List (V × V), (∃ vs, ps = (q.1.map kV).zip vs ∧ q.1.length = vs.length ∧ RelL X.K R' F' vs q.2) → Q ps H') → tPairs trs σ H Q
theorem dp_nil : DP X W pos [] [] mpNil := ⟨_, pps_nil, fun Z R F δ c σ H Q w rs h => h.ok w [] ⟨[], rfl, rfl, .nil⟩⟩
theorem dp_cons {k v : Expr} {ks : List (Option Expr)} {vs : List Expr} {mk mv : ME} {mr : MP} (hk : DE X W k mk) (hv : DE X W v mv) (hr : DP X W pos ks vs mr) : DP X W pos (some k :: ks) (v :: vs) (mpCons mk mv mr) := by
  obtain ⟨tk, pk, sk⟩ := hk.ex
  obtain ⟨tv, pv, sv⟩ := hv.ex
  obtain ⟨tr, pr, sr⟩ := hr.ex
  refine ⟨_, pps_cons pk pv pr, fun Z R F δ c σ H Q w rs h => sk Z R F δ c σ H _ w rs ((Aft.bind h).imp ?_)⟩
  rintro R1 F1 d c1 H1 p1 e1 w1 ⟨_, _, _, h1⟩ x rx
  split at h1
  · rename_i kk hkk
    refine sv Z R1 F1 δ c1 σ H1 _ w1 (rs.mono p1 e1) ((Aft.bind h1).imp ?_)
    rintro R2 F2 d2 c2 H2 p2 e2 w2 ⟨_, _, _, h2⟩ y ry
    refine sr Z R2 F2 δ c2 σ H2 _ w2 ((rs.mono p1 e1).mono p2 e2) ((Aft.bind h2).imp ?_)
    rintro R3 F3 q c3 H3 p3 e3 w3 ⟨_, _, _, h3⟩ ps ⟨us, rfl, hl, rl⟩
    rw [keyOf_rel rx hkk]
    exact h3.ok w3 _ ⟨y :: us, rfl, by rw [List.length_cons, List.length_cons, hl], .cons (ry.mono p3 e3) rl⟩
  · exact h1.elim
theorem merge_zip : ∀ {js ks : List Key} {us vs : List V} {es ds : List D} {K : Frag} {R : List Addr} {F : Hp}, ks.length = vs.length → js.length = us.length → RelL K R F vs ds → RelL K R F us es →
    ∃ vs', mergeK (ks.zip vs) (js.zip us) = (mergeD ks ds js es).1.zip vs' ∧ (mergeD ks ds js es).1.length = vs'.length ∧ RelL K R F vs' (mergeD ks ds js es).2
  | [], ks, [], vs, [], ds, _, _, _, h, _, r, .nil => ⟨vs, rfl, h, r⟩
  | j :: js, ks, u :: us, vs, e :: es, ds, _, _, _, h, h2, r, .cons re t => by
    obtain ⟨z1, z2⟩ := putK_zip (k := j) (y := u) h
    have ih := merge_zip (js := js) (us := us) (es := es) (ks := putKs j ks) (vs := putVs j u ks vs) (ds := putVs j e ks ds) z2 (by simpa using h2) (putVs_rel re r) t
    show ∃ vs', mergeK (putK (ks.zip vs) j u) (js.zip us) = _ ∧ _
    rw [z1]
    exact ih
def mDisp (mp : MP) : ME := fun δ c => (mp δ (c ++ [.dct [] []])).bind fun q c1 => match c1[c.length]? with
  | some (.dct [] []) => if q.1.length ≤ 15 then (let z := mergeD [] [] q.1 q.2; .ok (.cell c.length) (c1.set c.length (.dct z.1 z.2))) else .bad
  | _ => .bad
theorem map_kV_zip : ∀ {ks : List Key} {vs : List V}, (ks.map kV).zip vs = (ks.zip vs).map fun kv => (kV kv.1, kv.2)
  | [], _ => rfl
  | _ :: _, [] => rfl
  | k :: ks, v :: vs => by
    show (kV k, v) :: (ks.map kV).zip vs = (kV k, v) :: (ks.zip vs).map _
    rw [map_kV_zip]
theorem de_disp {keys : List (Option Expr)} {values : List Expr} {mp : MP} (h : DP X W pos keys values mp) (hall : keys.all (·.isSome) = true := by rfl) (hl : keys.length = values.length := by rfl) (h0 : keys ≠ [] := by simp) (h15 : keys.length ≤ 15 := by decide) : DE X W (.Dict keys values pos) (mDisp mp) := by
  obtain ⟨trs, pt, st⟩ := h.ex
  refine ⟨_, pe_disp pt hall hl h0 h15, fun Z R F δ c σ H Q w rs h p n => ?_⟩
  obtain ⟨w2, r2⟩ := w.newDct n
  have pr : R <+: R ++ [p] := List.prefix_append _ _
  refine st Z (R ++ [p]) F δ (c ++ [.dct [] []]) σ _ _ w2 (rs.mono pr (Same.refl _)) ((Aft.bind (Aft.mono pr (Same.refl _) h)).imp ?_)
  rintro R1 F1 q c1 H1 p1 e1 w1 ⟨_, _, _, h1⟩ ps ⟨us, rfl, hlu, rl⟩
  dsimp only at h1
  split at h1
  · rename_i hc
    have r1 := r2.mono p1 e1
    cases r1 with
    | cell hR =>
      obtain ⟨vs, q1, z1, l1⟩ := w1.atDict hR hc
      split at h1
      · rename_i h15'
        refine ⟨by rw [q1]; rfl, q.1.zip us, map_kV_zip, by rw [List.length_zip, ← hlu, Nat.min_self]; exact h15', ?_⟩
        obtain ⟨vs', m1, m2, m3⟩ := merge_zip (K := X.K) (R := R1) (F := F1) (ks := []) (vs := []) (ds := []) (js := q.1) (us := us) (es := q.2) rfl hlu .nil rl
        have e0 : mergeK [] (q.1.zip us) = (mergeD [] [] q.1 q.2).1.zip vs' := m1
        rw [e0]
        exact h1 _ _ _ (List.prefix_refl _) (Same.refl _) (w1.write hR (.dct m2 m3)) _ (.cell hR)
      · exact h1.elim
  · exact h1.elim
end
end Nw

set_option Elab.async false
set_option linter.all false
set_option maxRecDepth 100000
set_option maxHeartbeats 4000000
/-! Nw25: sorted, count, list, min, max, a list some times as a cell. -/
namespace Nw
open PySem PySem.Spec
open PyProof.Rows hiding St
open L2

/-! ### the order of texts -/
def ltS (x y : Str) : Bool := ltCps x.cps.toList y.cps.toList
def leS (x y : Str) : Bool := !ltS y x
theorem ltS_lt {x y : Str} : ltS x y = true ↔ x.cps.toList < y.cps.toList := by
  unfold ltS
  rw [ltCps_eq]
  exact decide_eq_true_iff
theorem leS_le {x y : Str} : leS x y = true ↔ x.cps.toList ≤ y.cps.toList := by
  unfold leS
  rw [Bool.not_eq_true', ← Bool.not_eq_true, ltS_lt]
  exact List.not_lt
theorem leS_total (x y : Str) : leS x y = true ∨ leS y x = true := by
  rw [leS_le, leS_le]
  exact List.le_total _ _
theorem leS_trans {x y z : Str} (h1 : leS x y = true) (h2 : leS y z = true) : leS x z = true := by
  rw [leS_le] at h1 h2 ⊢
  exact List.le_trans h1 h2
theorem str_ext {x y : Str} (h : x.cps.toList = y.cps.toList) : x = y := by
  obtain ⟨a⟩ := x
  obtain ⟨b⟩ := y
  have : a = b := Array.toList_inj.mp h
  rw [this]
theorem leS_anti {x y : Str} (h1 : leS x y = true) (h2 : leS y x = true) : x = y := by
  rw [leS_le] at h1 h2
  exact str_ext (List.le_antisymm h1 h2)
def insS (x : Str) : List Str → List Str
  | [] => [x]
  | y :: r => if leS x y = true then x :: y :: r else y :: insS x r
def sortS : List Str → List Str
  | [] => []
  | x :: r => insS x (sortS r)
theorem insS_perm (x : Str) : ∀ l : List Str, (insS x l).Perm (x :: l)
  | [] => List.Perm.refl _
  | y :: r => by
    unfold insS
    split
    · exact List.Perm.refl _
    · exact ((insS_perm x r).cons y).trans (List.Perm.swap x y r)
theorem sortS_perm : ∀ l : List Str, (sortS l).Perm l
  | [] => List.Perm.refl _
  | x :: r => (insS_perm x (sortS r)).trans ((sortS_perm r).cons x)
theorem insS_sorted (x : Str) : ∀ l : List Str, l.Pairwise (fun a b => leS a b = true) → (insS x l).Pairwise (fun a b => leS a b = true)
  | [], _ => by unfold insS; simp
  | y :: r, h => by
    rw [List.pairwise_cons] at h
    unfold insS
    split
    · rename_i hx
      refine List.pairwise_cons.mpr ⟨fun z hz => ?_, List.pairwise_cons.mpr h⟩
      rcases List.mem_cons.mp hz with rfl | hz
      · exact hx
      · exact leS_trans hx (h.1 z hz)
    · rename_i hx
      have hyx : leS y x = true := (leS_total x y).resolve_left hx
      refine List.pairwise_cons.mpr ⟨fun z hz => ?_, insS_sorted x r h.2⟩
      rcases List.mem_cons.mp ((insS_perm x r).mem_iff.mp hz) with rfl | hz
      · exact hyx
      · exact h.1 z hz
theorem sortS_sorted : ∀ l : List Str, (sortS l).Pairwise (fun a b => leS a b = true)
  | [] => List.Pairwise.nil
  | x :: r => insS_sorted x _ (sortS_sorted r)
theorem rising_pair : ∀ (r : List Str) (x : Str), risingS x r = true → (x :: r).Pairwise (fun a b => leS a b = true)
  | [], x, _ => by simp
  | y :: r, x, h => by
    unfold risingS at h
    obtain ⟨h1, h2⟩ := Bool.and_eq_true_iff.mp h
    have ih := rising_pair r y h2
    refine List.pairwise_cons.mpr ⟨fun z hz => ?_, ih⟩
    rcases List.mem_cons.mp hz with rfl | hz
    · exact h1
    · exact leS_trans h1 ((List.pairwise_cons.mp ih).1 z hz)
theorem sortedS_pair {l : List Str} (h : sortedS l = true) : l.Pairwise (fun a b => leS a b = true) := by
  cases l with
  | nil => exact List.Pairwise.nil
  | cons x r => exact rising_pair r x h
theorem sorted_one : ∀ {l m : List Str}, l.Pairwise (fun a b => leS a b = true) → m.Pairwise (fun a b => leS a b = true) → l.Perm m → l = m
  | [], m, _, _, p => by rw [List.nil_perm.mp p]
  | x :: l, [], _, _, p => by cases (List.perm_nil.mp p)
  | x :: l, y :: m, h1, h2, p => by
    rw [List.pairwise_cons] at h1 h2
    have hx : x ∈ y :: m := p.mem_iff.mp List.mem_cons_self
    have hy : y ∈ x :: l := p.mem_iff.mpr List.mem_cons_self
    have e : x = y := by
      rcases List.mem_cons.mp hx with e | hx
      · exact e
      · rcases List.mem_cons.mp hy with e | hy
        · exact e.symm
        · exact leS_anti (h1.1 y hy) (h2.1 x hx)
    subst e
    rw [sorted_one h1.2 h2.2 ((List.perm_cons x).mp p)]
theorem sortS_one {l m : List Str} (h : sortedS m = true) (p : m.Perm l) : m = sortS l := sorted_one (sortedS_pair h) (sortS_sorted l) (p.trans (sortS_perm l).symm)

/-! ### the order of ints -/
def insI (x : Int) : List Int → List Int
  | [] => [x]
  | y :: r => if x ≤ y then x :: y :: r else y :: insI x r
def sortI : List Int → List Int
  | [] => []
  | x :: r => insI x (sortI r)
theorem insI_perm (x : Int) : ∀ l : List Int, (insI x l).Perm (x :: l)
  | [] => List.Perm.refl _
  | y :: r => by
    unfold insI
    split
    · exact List.Perm.refl _
    · exact ((insI_perm x r).cons y).trans (List.Perm.swap x y r)
theorem sortI_perm : ∀ l : List Int, (sortI l).Perm l
  | [] => List.Perm.refl _
  | x :: r => (insI_perm x (sortI r)).trans ((sortI_perm r).cons x)
theorem insI_sorted (x : Int) : ∀ l : List Int, l.Pairwise (· ≤ ·) → (insI x l).Pairwise (· ≤ ·)
  | [], _ => by unfold insI; simp
  | y :: r, h => by
    rw [List.pairwise_cons] at h
    unfold insI
    split
    · rename_i hx
      refine List.pairwise_cons.mpr ⟨fun z hz => ?_, List.pairwise_cons.mpr h⟩
      rcases List.mem_cons.mp hz with rfl | hz
      · exact hx
      · exact Int.le_trans hx (h.1 z hz)
    · rename_i hx
      refine List.pairwise_cons.mpr ⟨fun z hz => ?_, insI_sorted x r h.2⟩
      rcases List.mem_cons.mp ((insI_perm x r).mem_iff.mp hz) with rfl | hz
      · omega
      · exact h.1 z hz
theorem sortI_sorted : ∀ l : List Int, (sortI l).Pairwise (· ≤ ·)
  | [] => List.Pairwise.nil
  | x :: r => insI_sorted x _ (sortI_sorted r)
theorem sortedI_one : ∀ {l m : List Int}, l.Pairwise (· ≤ ·) → m.Pairwise (· ≤ ·) → l.Perm m → l = m
  | [], m, _, _, p => by rw [List.nil_perm.mp p]
  | x :: l, [], _, _, p => by cases (List.perm_nil.mp p)
  | x :: l, y :: m, h1, h2, p => by
    rw [List.pairwise_cons] at h1 h2
    have hx : x ∈ y :: m := p.mem_iff.mp List.mem_cons_self
    have hy : y ∈ x :: l := p.mem_iff.mpr List.mem_cons_self
    have e : x = y := by
      rcases List.mem_cons.mp hx with e | hx
      · exact e
      · rcases List.mem_cons.mp hy with e | hy
        · exact e.symm
        · exact Int.le_antisymm (h1.1 y hy) (h2.1 x hx)
    subst e
    rw [sortedI_one h1.2 h2.2 ((List.perm_cons x).mp p)]
def allInt : List D → Option (List Int)
  | [] => some []
  | .int b :: r => (allInt r).map (b :: ·)
  | _ :: _ => none
theorem allInt_rel {K : Frag} {R : List Addr} {F : Hp} : ∀ {vs : List V} {ds : List D} {bs : List Int}, RelL K R F vs ds → allInt ds = some bs → vs = bs.map V.int
  | _, _, _, .nil, h => by cases h; rfl
  | _, _, bs, .cons (d := .int b) (ds := l) r t, h => by
    cases r
    have h : (allInt l).map (b :: ·) = some bs := h
    cases q : allInt l with
    | none => rw [q] at h; cases h
    | some cs =>
      rw [q] at h
      cases h
      rw [List.map_cons, allInt_rel t q]
theorem relL_ints {K : Frag} {R : List Addr} {F : Hp} : ∀ ys : List Int, RelL K R F (ys.map V.int) (ys.map D.int)
  | [] => .nil
  | y :: r => .cons (.int y) (relL_ints r)
section
variable {X : Cx} {W : WX}
/-- sorted(a list of texts), of ints (below 64) -/
def sortedD (new : List D → Cells → Out D) (ds : List D) (c : Cells) : Out D := match ds with
  | [d] => match lstOf c d with
    | some l => (match allStr l with
      | some xs => if xs.length < 64 then new ((sortS xs).map D.str) c else .bad
      | none => match allInt l with
        | some ns => if ns.length < 64 then new ((sortI ns).map D.int) c else .bad
        | none => .bad)
    | none => .bad
  | _ => .bad
theorem cs_sorted {new : List D → Cells → Out D} (hn : NewL X new) : CallS X (.builtin "sorted") (sortedD new) := by
  refine ⟨_, CallR.or cr_sortedS cr_sorted, fun Z W R F c σ H vs ds Q w r h => ?_⟩
  unfold sortedD at h
  split at h
  · obtain ⟨v, e1, rr⟩ : ∃ v, vs = [v] ∧ Rel X.K R F v _ := by
      cases r with
      | cons r t => cases t; exact ⟨_, rfl, r⟩
    subst e1
    split at h
    · rename_i l hl
      obtain ⟨a, us, rfl, q1, rl⟩ := w.list rr hl
      split at h
      · rename_i xs hx
        have e2 := allStr_rel rl hx
        subst e2
        split at h
        · rename_i h64
          refine .inl ⟨a, xs, rfl, q1, h64, fun ys p hp hs n => ?_⟩
          rw [sortS_one hs hp]
          exact (hn Z W R F σ c H _ _ Q w (relL_strs _) h).2 p n
        · exact h.elim
      · split at h
        · rename_i ns hx
          have e2 := allInt_rel rl hx
          subst e2
          split at h
          · rename_i h64
            refine .inr ⟨a, ns, rfl, q1, h64, fun ys p hp hs n => ?_⟩
            rw [sortedI_one hs (sortI_sorted ns) (hp.trans (sortI_perm ns).symm)]
            exact (hn Z W R F σ c H _ _ Q w (relL_ints _) h).2 p n
          · exact h.elim
        · exact h.elim
    · exact h.elim
  · exact h.elim
/-- list(a list, a tuple) -/
def listD (new : List D → Cells → Out D) (ds : List D) (c : Cells) : Out D := match ds with
  | [d] => match items c d with
    | some l => new l c
    | none => .bad
  | _ => .bad
theorem cs_list {new : List D → Cells → Out D} (hn : NewL X new) : CallS X (.type "list") (listD new) := by
  refine ⟨_, call_list_of, fun Z W R F c σ H vs ds Q w r h => ?_⟩
  unfold listD at h
  split at h
  · obtain ⟨v, e1, rr⟩ : ∃ v, vs = [v] ∧ Rel X.K R F v _ := by
      cases r with
      | cons r t => cases t; exact ⟨_, rfl, r⟩
    subst e1
    split at h
    · rename_i l hl
      obtain ⟨a, us, rfl, rl, hq⟩ := w.seq rr hl
      exact ⟨a, us, rfl, hq, (hn Z W R F σ c H _ _ Q w rl h).2⟩
    · exact h.elim
  · exact h.elim
def minD (ds : List D) (c : Cells) : Out D := match ds with
  | [.int i, .int j] => .ok (.int (if j < i then j else i)) c
  | _ => .bad
def maxD (ds : List D) (c : Cells) : Out D := match ds with
  | [.int i, .int j] => .ok (.int (if j > i then j else i)) c
  | _ => .bad
theorem cs_min (hc : X.calm = true) : CallS X (.builtin "min") minD := by
  refine ⟨_, call_min2 hc, fun Z W R F c σ H vs ds Q w r h => ?_⟩
  unfold minD at h
  split at h
  · cases r with
    | cons r t => cases t with
      | cons r2 t => cases t; cases r; cases r2; exact ⟨_, _, rfl, h.ok w _ (.int _)⟩
  · exact h.elim
theorem cs_max (hc : X.calm = true) : CallS X (.builtin "max") maxD := by
  refine ⟨_, call_max2 hc, fun Z W R F c σ H vs ds Q w r h => ?_⟩
  unfold maxD at h
  split at h
  · cases r with
    | cons r t => cases t with
      | cons r2 t => cases t; cases r; cases r2; exact ⟨_, _, rfl, h.ok w _ (.int _)⟩
  · exact h.elim
/-- a list some times, new as told -/
def mulN (new : List D → Cells → Out D) : O2 := fun d e c => match lstOwn c d, e with
  | some l, .int k => if -(2 ^ 63) ≤ k ∧ k < 2 ^ 63 ∧ l.length * k.toNat ≤ sizeLine then new (List.replicate k.toNat l).flatten c else .bad
  | _, _ => .bad
theorem os_mulN {new : List D → Cells → Out D} (hnw : NewL X new) : OpS X (binaryOp .Mult) (mulN new) := by
  refine ⟨_, op_rep, fun Z W R F c σ H x y d e Q w rx ry q => ?_⟩
  unfold mulN at q
  split at q
  · rename_i l k hl
    split at q
    · rename_i hc
      cases ry
      obtain ⟨a, vs, rfl, ha, rl⟩ := w.own rx hl
      obtain ⟨z, hn⟩ := hnw Z W R F σ c H _ _ Q w (rl.rep k.toNat) q
      exact ⟨a, k, vs, rfl, rfl, ha, hc.1, hc.2.1, by rw [rl.length]; exact hc.2.2, hn⟩
    · exact q.elim
  · exact q.elim
end

/-! ### list.count of texts -/
def eqS (x : Str) (v : Value) : Bool := match v with
  | .str y _ => y.cps.toList == x.cps.toList
  | _ => false
def rCntS (K : Frag) : V → List V → Hp → VK → Prop := fun x xs H Q => ∃ (p : Addr) (ss : List Str) (z : Str), x = .ref p ∧ xs = [.str z] ∧ SqL K H p (ss.map V.str) ∧ Q (.int (ss.count z : Nat)) H
theorem eqS_at {A : Around} {s : Shared} {z : Str} {t : Tok} : ∀ {ss : List Str} {us : List Value}, Vals (ss.map V.str) us → ∀ y ∈ us, SeqAt.EqAt A s y (.str z t) (eqS z y)
  | [], _, h => fun y hy => by cases h; cases hy
  | x :: r, _, .cons h t' => fun y hy => by
    obtain ⟨tx, rfl⟩ := h
    rcases List.mem_cons.mp hy with rfl | hy
    · exact (SeqRoads2.EqGives.str x z tx t).at _ _
    · exact eqS_at t' y hy
theorem eqS_count {z : Str} : ∀ {ss : List Str} {us : List Value}, Vals (ss.map V.str) us → us.countP (eqS z) = ss.count z
  | [], _, h => by cases h; rfl
  | x :: r, _, .cons h t => by
    obtain ⟨tx, rfl⟩ := h
    rw [List.countP_cons, List.count_cons, eqS_count t]
    congr 1
    have : eqS z (.str x tx) = (x == z) := by
      show (x.cps.toList == z.cps.toList) = (x == z)
      by_cases e : x = z
      · subst e; simp
      · rw [beq_eq_false_iff_ne.mpr e]
        exact beq_eq_false_iff_ne.mpr fun h => e (str_ext h)
    rw [this]
theorem mt_countS {X : Cx} : MtR X "list.count" (rCntS X.K) := by
  rintro pins s σ H x xs v us Q I rx rxs ⟨p, ss, z, rfl, rfl, hs, q⟩
  cases rx
  obtain ⟨u, rfl, t, rfl⟩ := rxs.one
  obtain ⟨its, rv, ⟨⟨cls, dd, data, sl⟩, n, ho, hc, hdn, hd⟩, hlen⟩ := I.list hs
  dsimp only at hc hd
  subst hc hd
  refine call_meets PySem.F.slot_list_count ⟨_, ho, rfl⟩ PySem.F.entry_list_count (PySem.F.args_list_count_2 _ _) (SeqAt.list_countAt p its.toArray n dd sl (.str z t) (eqS z)) ⟨ho, fun y hy => eqS_at rv y (by simpa using hy), ?_⟩
  refine ⟨.int (ss.count z : Nat), H, I.tok _, ⟨s.toks, ?_⟩, q⟩
  rw [show its.toArray.toList.countP (eqS z) = ss.count z from eqS_count rv]
def countD (d : D) (ds : List D) (c : Cells) : Out D := match ds with
  | [.str z] => (match lstOf c d with
    | some l => (match allStr l with
      | some ss => .ok (.int (ss.count z : Nat)) c
      | none => .bad)
    | none => .bad)
  | [.int z] => (match lstOf c d with
    | some l => (match allInt l with
      | some ss => .ok (.int (ss.count z : Nat)) c
      | none => .bad)
    | none => .bad)
  | _ => .bad
theorem ms_count {X : Cx} : MtS X "list.count" countD := by
  refine ⟨_, MtR.or mt_countS mt_lcount, fun Z W R F c σ H x d vs ds Q w rx r h => ?_⟩
  unfold countD at h
  split at h
  · obtain ⟨v, e1, rr⟩ : ∃ v, vs = [v] ∧ Rel X.K R F v (.str _) := by
      cases r with
      | cons r t => cases t; exact ⟨_, rfl, r⟩
    subst e1
    cases rr
    split at h
    · rename_i l hl
      obtain ⟨a, us, rfl, q1, rl⟩ := w.list rx hl
      split at h
      · rename_i ss hx
        have e2 := allStr_rel rl hx
        subst e2
        exact .inl ⟨a, ss, _, rfl, rfl, q1, h.ok w _ (.int _)⟩
      · exact h.elim
    · exact h.elim
  · obtain ⟨v, e1, rr⟩ : ∃ v, vs = [v] ∧ Rel X.K R F v (.int _) := by
      cases r with
      | cons r t => cases t; exact ⟨_, rfl, r⟩
    subst e1
    cases rr
    split at h
    · rename_i l hl
      obtain ⟨a, us, rfl, q1, rl⟩ := w.list rx hl
      split at h
      · rename_i ss hx
        have e2 := allInt_rel rl hx
        subst e2
        exact .inr ⟨a, ss, _, rfl, rfl, q1, h.ok w _ (.int _)⟩
      · exact h.elim
    · exact h.elim
  · exact h.elim
end Nw

set_option Elab.async false
set_option linter.all false
set_option maxRecDepth 100000
set_option maxHeartbeats 4000000
/-! Nw26: a block: what it makes is forgotten at its end. -/
namespace Nw
open PySem PySem.Spec
open PyProof.Rows hiding St
open L2
def onlyE (keep : List Nat) (δ : En) : En := δ.mapIdx fun i x => if keep.contains i = true then x else none
def keepD (n : Nat) (x : Option D) : Option D := match x with
  | some d => if nc n d = true then some d else none
  | none => none
def keepE (n : Nat) (keep : List Nat) (δ : En) : En := δ.mapIdx fun i x => if keep.contains i = true then keepD n x else none
/-- ki: the names that the block reads, ko: those that are known behind it -/
def mScope (ki ko : List Nat) (m : MS) : MS := fun δ c => match m (onlyE ki δ) c with
  | .nx δ1 c1 => if (c1.take c.length).all (ncC c.length) = true ∨ c1.take c.length = c then .nx (keepE c.length ko δ1) (c1.take c.length) else .bad
  | .bk δ1 c1 => if (c1.take c.length).all (ncC c.length) = true ∨ c1.take c.length = c then .bk (keepE c.length ko δ1) (c1.take c.length) else .bad
  | .ct δ1 c1 => if (c1.take c.length).all (ncC c.length) = true ∨ c1.take c.length = c then .ct (keepE c.length ko δ1) (c1.take c.length) else .bad
  | .rt d c1 => if (c1.take c.length).all (ncC c.length) = true ∨ c1.take c.length = c then (match frz c1 c.length 30 d with
    | some d' => .rt d' (c1.take c.length)
    | none => .bad) else .bad
  | o => o
section
variable {K : Frag} {R : List Addr} {F : Hp} {δ : En} {σ : St}
theorem RelS.only (keep : List Nat) (h : RelS K R F δ σ) : RelS K R F (onlyE keep δ) σ := by
  unfold onlyE
  refine ⟨by rw [List.length_mapIdx]; exact h.1, fun i d q => ?_⟩
  rw [List.getElem?_mapIdx] at q
  cases e : δ[i]? with
  | none => rw [e] at q; cases q
  | some x =>
    rw [e] at q
    have q : (if keep.contains i = true then x else none) = some d := Option.some.inj q
    split at q
    · subst q; exact h.2 i d e
    · cases q
theorem RelS.keep {n : Nat} {F' : Hp} (keep : List Nat) (h : RelS K R F δ σ) (s : Same F F') : RelS K (R.take n) F' (keepE n keep δ) σ := by
  unfold keepE
  refine ⟨by rw [List.length_mapIdx]; exact h.1, fun i d q => ?_⟩
  rw [List.getElem?_mapIdx] at q
  cases e : δ[i]? with
  | none => rw [e] at q; cases q
  | some x =>
    rw [e] at q
    have q : (if keep.contains i = true then keepD n x else none) = some d := Option.some.inj q
    split at q
    · cases x with
      | none => cases q
      | some d0 =>
        unfold keepD at q
        dsimp only at q
        split at q
        · rename_i hn
          cases q
          obtain ⟨v, h1, h2⟩ := h.2 i d e
          exact ⟨v, h1, (h2.cut hn).mono (List.prefix_refl _) s⟩
        · cases q
    · cases q
end
theorem dss_scope {X : Cx} {W : WX} {st : List Stmt} {m : MS} (ki ko : List Nat) (h : DSs X W st m) : DSs X W st (mScope ki ko m) := by
  obtain ⟨t, p, s⟩ := h.ex
  refine ⟨t, p, fun Z R F δ c σ H E w rs h => s Z R F (onlyE ki δ) c σ H E w (rs.only ki) ?_⟩
  unfold mScope at h
  cases e : m (onlyE ki δ) c with
  | bad => rw [e] at h; exact h
  | exc k ns ds δ1 c1 => rw [e] at h; exact h
  | nx δ1 c1 =>
    rw [e] at h
    dsimp only at h
    split at h
    · rename_i hc
      intro R' F' H' σ' p' e' w' rs'
      obtain ⟨F2, sF, hF, w2, eR⟩ := w.drop p' e' w' hc
      exact h _ F2 H' σ' (by rw [eR]; exact List.prefix_refl _) (e'.trans sF) w2 (rs'.keep ko sF)
    · exact h.elim
  | bk δ1 c1 =>
    rw [e] at h
    dsimp only at h
    split at h
    · rename_i hc
      intro R' F' H' σ' p' e' w' rs'
      obtain ⟨F2, sF, hF, w2, eR⟩ := w.drop p' e' w' hc
      exact h _ F2 H' σ' (by rw [eR]; exact List.prefix_refl _) (e'.trans sF) w2 (rs'.keep ko sF)
    · exact h.elim
  | ct δ1 c1 =>
    rw [e] at h
    dsimp only at h
    split at h
    · rename_i hc
      intro R' F' H' σ' p' e' w' rs'
      obtain ⟨F2, sF, hF, w2, eR⟩ := w.drop p' e' w' hc
      exact h _ F2 H' σ' (by rw [eR]; exact List.prefix_refl _) (e'.trans sF) w2 (rs'.keep ko sF)
    · exact h.elim
  | rt d c1 =>
    rw [e] at h
    dsimp only at h
    split at h
    · rename_i hc
      split at h
      · rename_i d' hz
        intro R' F' H' v p' e' w' rv
        obtain ⟨F2, sF, hF, w2, eR⟩ := w.drop p' e' w' hc
        exact h _ F2 H' v (by rw [eR]; exact List.prefix_refl _) (e'.trans sF) w2 (frz_rel w' sF hF 30 v d d' rv hz)
      · exact h.elim
    · exact h.elim
theorem ds_scope {X : Cx} {W : WX} {st : Stmt} {m : MS} (ki ko : List Nat) (h : DS X W st m) : DS X W st (mScope ki ko m) := by
  obtain ⟨t, p, s⟩ := h.ex
  obtain ⟨t2, p2, s2⟩ := (dss_scope ki ko (dss_one h)).ex
  refine ⟨t, p, fun Z R F δ c σ H E w rs h => s Z R F (onlyE ki δ) c σ H E w (rs.only ki) ?_⟩
  unfold mScope at h
  cases e : m (onlyE ki δ) c with
  | bad => rw [e] at h; exact h
  | exc k ns ds δ1 c1 => rw [e] at h; exact h
  | nx δ1 c1 =>
    rw [e] at h
    dsimp only at h
    split at h
    · rename_i hc
      intro R' F' H' σ' p' e' w' rs'
      obtain ⟨F2, sF, hF, w2, eR⟩ := w.drop p' e' w' hc
      exact h _ F2 H' σ' (by rw [eR]; exact List.prefix_refl _) (e'.trans sF) w2 (rs'.keep ko sF)
    · exact h.elim
  | bk δ1 c1 =>
    rw [e] at h
    dsimp only at h
    split at h
    · rename_i hc
      intro R' F' H' σ' p' e' w' rs'
      obtain ⟨F2, sF, hF, w2, eR⟩ := w.drop p' e' w' hc
      exact h _ F2 H' σ' (by rw [eR]; exact List.prefix_refl _) (e'.trans sF) w2 (rs'.keep ko sF)
    · exact h.elim
  | ct δ1 c1 =>
    rw [e] at h
    dsimp only at h
    split at h
    · rename_i hc
      intro R' F' H' σ' p' e' w' rs'
      obtain ⟨F2, sF, hF, w2, eR⟩ := w.drop p' e' w' hc
      exact h _ F2 H' σ' (by rw [eR]; exact List.prefix_refl _) (e'.trans sF) w2 (rs'.keep ko sF)
    · exact h.elim
  | rt d c1 =>
    rw [e] at h
    dsimp only at h
    split at h
    · rename_i hc
      split at h
      · rename_i d' hz
        intro R' F' H' v p' e' w' rv
        obtain ⟨F2, sF, hF, w2, eR⟩ := w.drop p' e' w' hc
        exact h _ F2 H' v (by rw [eR]; exact List.prefix_refl _) (e'.trans sF) w2 (frz_rel w' sF hF 30 v d d' rv hz)
      · exact h.elim
    · exact h.elim
end Nw

set_option Elab.async false
set_option linter.all false
set_option maxRecDepth 100000
set_option maxHeartbeats 4000000
/-! Nw27: plain steps through blocks. -/
namespace Nw
open PySem PySem.Spec
open PyProof.Rows hiding St
open L2
theorem mSeq_assoc {a b c : MS} : mSeq (mSeq a b) c = mSeq a (mSeq b c) := by
  funext δ d
  unfold mSeq
  cases a δ d <;> rfl
theorem seq_nx {a b : MS} {δ δ' : En} {c c' : Cells} (h : a δ c = .nx δ' c') : mSeq a b δ c = b δ' c' := by
  unfold mSeq
  rw [h]
theorem only_only {ki : List Nat} {δ : En} : onlyE ki (onlyE ki δ) = onlyE ki δ := by
  unfold onlyE
  rw [List.mapIdx_mapIdx]
  congr 1
  funext i x
  simp only [Function.comp]
  split <;> rfl
theorem scope_only {ki ko : List Nat} {m : MS} {δ : En} {c : Cells} : mScope ki ko m (onlyE ki δ) c = mScope ki ko m δ c := by
  unfold mScope
  rw [only_only]
theorem scope_nx {ki ko : List Nat} {m : MS} {δ δ1 δ2 : En} {c c1 : Cells} (h : m (onlyE ki δ) c = .nx δ1 c1) (hl : c1.length = c.length) (hc : c1.all (ncC c.length) = true) (hk : keepE c.length ko δ1 = δ2) : mScope ki ko m δ c = .nx δ2 c1 := by
  unfold mScope
  rw [h]
  dsimp only
  have e : c1.take c.length = c1 := by rw [← hl, List.take_length]
  rw [e, if_pos (Or.inl hc), hk]
/-- a block that makes cells -/
theorem scope_nx' {ki ko : List Nat} {m : MS} {δ δ1 δ2 : En} {c c1 : Cells} (h : m (onlyE ki δ) c = .nx δ1 c1) (hc : (c1.take c.length).all (ncC c.length) = true) (hk : keepE c.length ko δ1 = δ2) : mScope ki ko m δ c = .nx δ2 (c1.take c.length) := by
  unfold mScope
  rw [h]
  dsimp only
  rw [if_pos (Or.inl hc), hk]
def obs (ki : List Nat) (o : Fl) : Option (En × Cells) := match o with
  | .nx δ c => some (onlyE ki δ, c)
  | _ => none
theorem obs_nx {ki : List Nat} {o : Fl} {δ : En} {c : Cells} (h : obs ki o = some (δ, c)) : ∃ δ', o = .nx δ' c ∧ onlyE ki δ' = δ := by
  unfold obs at h
  split at h
  · cases h; exact ⟨_, rfl, rfl⟩
  · cases h
/-- a group, then a block that reads the names ki alone -/
theorem grp_then {ki ko : List Nat} {g m : MS} {δ δ1 : En} {c c1 : Cells} (h : obs ki (g δ c) = some (δ1, c1)) : mSeq g (mScope ki ko m) δ c = mScope ki ko m δ1 c1 := by
  obtain ⟨δ', e, h2⟩ := obs_nx h
  rw [seq_nx e, ← h2, scope_only]
theorem map_all {α β : Type} {l : List α} {f g : α → β} (h : l.map f = l.map g) : ∀ x ∈ l, f x = g x := by
  induction l with
  | nil => intro x hx; cases hx
  | cons a r ih =>
    rw [List.map_cons, List.map_cons] at h
    injection h with h1 h2
    intro x hx
    rcases List.mem_cons.mp hx with rfl | hx
    · exact h1
    · exact ih h2 x hx
theorem ncL_ints : ∀ (n : Nat) (l : List Int), ncL n (l.map D.int) = true
  | _, [] => by unfold ncL; rfl
  | n, i :: r => by rw [List.map_cons]; unfold ncL; rw [ncL_ints n r]; unfold nc; rfl
theorem nc_scr (n : Nat) (l : List Int) : nc n (.scr (l.map D.int)) = true := by unfold nc; exact ncL_ints n l
theorem ints_in (ns : List Int) (k : Nat) : (D.int <$> ns) = ns.map D.int := rfl
/-- the outer loop of a law: each turn leaves things as they were -/
theorem loop_same {chk : Cells → Bool} {g : MG} {mb : MS} {δ0 : En} {c0 : Cells} (hc : chk c0 = true) : ∀ {l : List D}, (∀ d ∈ l, ∃ δ1, g d δ0 = some δ1 ∧ (mb δ1 c0 = .nx δ0 c0 ∨ mb δ1 c0 = .ct δ0 c0)) → loopGo chk g mb l δ0 c0 = .nx δ0 c0
  | [], _ => by
    unfold loopGo
    rw [if_pos hc]
  | d :: r, h => by
    obtain ⟨δ1, h1, h2⟩ := h d List.mem_cons_self
    unfold loopGo
    rw [if_pos hc, h1]
    dsimp only
    rcases h2 with h2 | h2 <;> rw [h2] <;> exact loop_same hc fun d hd => h d (List.mem_cons_of_mem _ hd)
/-- (script + [0])[:k] -/
theorem cut_ints {ns : List Int} {hi : Option Int} : ∀ d ∈ cutD (ns.map D.int ++ [D.int 0]) none hi, ∃ n, d = .int n := by
  intro d hd
  have := List.mem_of_mem_drop (List.mem_of_mem_take hd)
  rcases List.mem_append.mp this with h | h
  · obtain ⟨n, _, rfl⟩ := List.mem_map.mp h
    exact ⟨n, rfl⟩
  · rw [List.mem_singleton] at h
    exact ⟨0, h⟩
theorem sl_script {ns : List Int} {δ : En} {c : Cells} {k : Int} (hn : ns.length ≤ 63) (h0 : δ[0]? = some (some (.scr (ns.map D.int)))) :
    (mSl lstD (mOp addD (mVar 0) (mLst (mCons (mC (.int 0)) mNil))) (fun _ c => .ok none c) (fun δ c => ((mC (.int k)) δ c).bind asI)) δ c = .ok (.lst (cutD (ns.map D.int ++ [D.int 0]) none (some k))) c := by
  have z1 : (1 : Nat) ≤ sizeLine := by decide
  have hz : ns.length + 1 ≤ sizeLine := Nat.le_trans (by omega : ns.length + 1 ≤ 64) (by decide)
  have hll : (cutD (ns.map D.int ++ [D.int 0]) none (some k)).length ≤ sizeLine := by
    refine Nat.le_trans ?_ hz
    unfold cutD
    refine Nat.le_trans (List.length_take_le' _ _) ?_
    rw [List.length_drop]
    simp
  simp [mSl, mOp, addD, addG, lstOf, mVar, h0, mLst, lstD, mCons, mC, mNil, Out.bind, asI, z1, hz, slG, hll]
/-- for x in (script + [0])[:k]: .. ; return True -/
theorem law_for {body : MS} {k : Int} {r : Nat} (hb : ∀ (scr : D) (n : Int), (∀ j, nc j scr = true) → ∃ o, body (some scr :: some (.int n) :: List.replicate r none) [] = o ∧ (o = .nx (some scr :: none :: List.replicate r none) [] ∨ o = .ct (some scr :: none :: List.replicate r none) [])) :
    LawOk (mkFn 1 (r + 2) (mSeq (mFor (fun δ c => ((mSl lstD (mOp addD (mVar 0) (mLst (mCons (mC (.int 0)) mNil))) (fun _ c => .ok none c) (fun δ c => ((mC (.int k)) δ c).bind asI)) δ c).bind seqAny) (gN 1) body) (mRet (mC (.bl true))))) 63 := by
  intro ns hn
  refine ⟨[], ?_⟩
  unfold mkFn
  rw [if_pos (by simp)]
  have e0 : [D.scr (ns.map D.int)].map some ++ List.replicate (r + 2 - 1) none = some (D.scr (ns.map D.int)) :: none :: List.replicate r none := by
    rw [show r + 2 - 1 = r + 1 by omega, List.replicate_succ]
    rfl
  rw [e0]
  rw [seq_nx (δ' := some (D.scr (ns.map D.int)) :: none :: List.replicate r none) (c' := [])]
  · rfl
  · unfold mFor
    dsimp only
    rw [sl_script hn rfl]
    refine loop_same (c0 := []) rfl fun d hd => ?_
    obtain ⟨n, rfl⟩ := cut_ints d hd
    obtain ⟨o, e, h⟩ := hb (.scr (ns.map D.int)) n (fun j => nc_scr j ns)
    refine ⟨_, rfl, ?_⟩
    rcases h with rfl | rfl
    · exact .inl e
    · exact .inr e
end Nw

set_option Elab.async false
set_option linter.all false
set_option maxRecDepth 100000
set_option maxHeartbeats 4000000
/-! Nw28: the head's questions, asked in parts. -/
namespace Nw
open PySem PySem.Spec
open PyProof.Rows hiding St
open L2
def KS (s : PySem.W.SharedT) : Frag := He.frG (HandSHeadRun.getT s) (He.asD (HandSHeadRun.getT s) 5)
def askF (l : List He.Fa) (s : PySem.W.SharedT) : Bool := l.all fun f => f.ok (KS s)
def askC (l : List Ck) (s : PySem.W.SharedT) : Bool := l.all fun f => f.ok (KS s)
def askD (l : List He.DefD) (s : PySem.W.SharedT) : He.AlD := (l.all fun d => d.ok (KS s), l.map fun d => He.fnW (KS s) d.at_)
theorem map_of {α β : Type} {E : Option α} {f : α → β} {b : β} (h : E.map f = some b) : ∃ s, E = some s ∧ f s = b := by
  cases E with
  | none => cases h
  | some s => cases h; exact ⟨s, rfl, rfl⟩
theorem all_flat {α : Type} {p : α → Bool} : ∀ {l : List (List α)}, (∀ x ∈ l, x.all p = true) → l.flatten.all p = true
  | [], _ => rfl
  | a :: r, h => by
    rw [List.flatten_cons, List.all_append, h a List.mem_cons_self, all_flat fun x hx => h x (List.mem_cons_of_mem _ hx)]
    rfl
theorem map_flat {α β : Type} {f g : α → β} : ∀ {l : List (List α)}, (∀ x ∈ l, x.map f = x.map g) → l.flatten.map f = l.flatten.map g
  | [], _ => rfl
  | a :: r, h => by
    rw [List.flatten_cons, List.map_append, List.map_append, h a List.mem_cons_self, map_flat fun x hx => h x (List.mem_cons_of_mem _ hx)]
theorem run_join {γ : Type} {E : Option PySem.W.SharedT} {A : PySem.W.SharedT → Bool} {B : PySem.W.SharedT → γ} {good : γ} {fas : List (List He.Fa)} {cks : List (List Ck)} {fns : List (List He.DefD)}
    (h0 : E.map (fun s => (A s, B s)) = some (true, good)) (h1 : ∀ l ∈ fas, E.map (askF l) = some true) (h2 : ∀ l ∈ cks, E.map (askC l) = some true) (h3 : ∀ l ∈ fns, E.map (askD l) = some (He.valD l)) :
    E.map (fun s => (A s, B s, obsNG 5 fas.flatten cks.flatten fns.flatten (HandSHeadRun.getT s))) = some (true, good, He.valD fns.flatten) := by
  obtain ⟨s, rfl, e0⟩ := map_of h0
  have k1 : (fas.flatten.all fun f => f.ok (KS s)) = true := all_flat fun l hl => Option.some.inj (h1 l hl)
  have k2 : (cks.flatten.all fun f => f.ok (KS s)) = true := all_flat fun l hl => Option.some.inj (h2 l hl)
  have k3 : (fns.flatten.all fun f => f.ok (KS s)) = true := all_flat fun l hl => congrArg Prod.fst (Option.some.inj (h3 l hl))
  have k4 : fns.flatten.map (fun d => He.fnW (KS s) d.at_) = fns.flatten.map He.DefD.val := map_flat fun l hl => congrArg Prod.snd (Option.some.inj (h3 l hl))
  have e1 : obsNG 5 fas.flatten cks.flatten fns.flatten (HandSHeadRun.getT s) = He.valD fns.flatten := by
    show ((((fas.flatten.all fun f => f.ok (KS s)) && (cks.flatten.all fun f => f.ok (KS s))) && fns.flatten.all fun d => d.ok (KS s)), fns.flatten.map fun d => He.fnW (KS s) d.at_) = _
    rw [k1, k2, k3, k4]
    rfl
  rw [Option.map_some, e1]
  injection e0 with a b
  rw [a, b]
theorem each_nil {α : Type} {P : α → Prop} : ∀ l ∈ ([] : List α), P l := fun l hl => by cases hl
theorem each_cons {α : Type} {P : α → Prop} {a : α} {r : List α} (h : P a) (t : ∀ l ∈ r, P l) : ∀ l ∈ a :: r, P l := fun l hl => by
  rcases List.mem_cons.mp hl with rfl | hl
  · exact h
  · exact t l hl
end Nw

set_option Elab.async false
set_option linter.all false
set_option maxRecDepth 100000
set_option maxHeartbeats 4000000
/-! Nw29: a call by a local name; list(range(..)). -/
namespace Nw
open PySem PySem.Spec
open PyProof.Rows hiding St
open L2
section
variable {X : Cx} {W : WX} {k i : Nat} {x : Str} {p pos : Pos} {e : Expr} {es : List Expr} {ma : MA}
inductive DispF (X : Cx) (k : Nat) : List (Str × MF) → Prop where
  | nil : DispF X k []
  | cons {y : Str} {m : MF} {j : Nat} {r : List (Str × MF)} (h : DefOk X.prog X.w X.K X.mg X.base j y m) (hj : j ≤ k) (t : DispF X k r) : DispF X k ((y, m) :: r)
theorem DispF.look : ∀ {ds : List (Str × MF)} {y : Str} {m : MF}, DispF X k ds → ds.lookup y = some m → DefOk X.prog X.w X.K X.mg X.base k y m
  | _, y, m, .nil, e => by cases e
  | _, y, m, .cons (y := c0) h hj t, e => by
    rw [List.lookup_cons] at e
    by_cases q : (y == c0) = true
    · rw [q] at e
      cases e
      rw [eq_of_beq q]
      obtain ⟨fd, ps, G, hb⟩ := h.ex
      exact ⟨h.g, h.kp, fd, ps, G.mono hj, hb⟩
    · rw [Bool.not_eq_true] at q
      rw [q] at e
      exact t.look e
def mCallV (i : Nat) (tbl : List (Str × MF)) (ma : MA) : ME := fun δ c => match δ[i]? with
  | some (some (.gl y)) => (match tbl.lookup y with
    | some m => (ma δ c).bind fun ds c1 => m ds c1
    | none => .bad)
  | _ => .bad
theorem de_callV {ds : List (Str × MF)} (hd : DispF X k ds) (hr : Room k X.A) (tk : Takes X W) (hN : X.N[i]? = some x) (hv : Vis X.env.scope x) (ha : DA X W (e :: es) ma) (hdb : (x == ("__debug__" : Str)) = false := by decide) (hcd : (x == ("__classdict__" : Str)) = false := by decide)
    (he : starEach (e :: es) X.env = (false, eval e X.env) :: starEach es X.env := by rfl) (hpl : (backTo pos (starEach es X.env)).any (·.1) = false := by rfl) : DE X W (.Call (.Name x p) (e :: es) [] pos) (mCallV i ds ma) := by
  obtain ⟨t, pa, sa⟩ := ha.ex
  let ι := { q : Str × MF // ds.lookup q.1 = some q.2 }
  refine ⟨fun σ H Q => ∃ q : ι, σ[i]? = some (some (.ref (He.ga X.K q.1.1))) ∧ t σ H fun vs H1 => spOf X.K q.1.2 vs H1 Q (WE W σ), ⟨fun pins s σ H Q I h => ?_⟩, fun Z R F δ c σ H Q w rs h => ?_⟩
  · obtain ⟨q, hs, ht⟩ := h
    have G := hd.look q.2
    obtain ⟨fd, ps, G', hb⟩ := G.ex
    refine wpAny_Call_Name_kw (thn ((pe_var (pos := p) hN hv hdb hcd).run pins s σ H (fun v H1 => v = .ref (He.ga X.K q.1.1) ∧ H1 = H) I ⟨_, hs, rfl, rfl⟩) ?_)
    rintro u s1 ⟨v, H1, I1, r1, rfl, rfl⟩
    cases r1
    refine PySem.W.callWith_K (h₀ := X.base) I.ok.mod.kin G.kp (thn (pa.run pos pins s1 σ _ _ I1 ht) ?_) he hpl
    rintro us s2 ⟨vs, H2, I2, r, q2⟩
    exact ⟨I2.kIn, run_fnS (E := WE W) G' hr hb (passAt tk σ) I2 r q2⟩
  · unfold mCallV at h
    split at h
    · rename_i y hy
      split at h
      · rename_i m hm
        obtain ⟨v, h1, r⟩ := rs.2 i _ hy
        cases r
        refine ⟨⟨(y, m), hm⟩, h1, sa Z R F δ c σ H _ w rs ((Aft.bind h).imp ?_)⟩
        rintro R1 F1 ds c1 H1 p1 e1 w1 ⟨_, _, _, h1⟩ vs rv
        exact sp_of w1 rv h1
      · exact h.elim
    · exact h.elim
/-! list(range(a, b)) -/
def rgD (i j : Int) : List D := (List.range (j - i).toNat).map fun n => D.int (i + (n : Nat))
theorem rg_rel {K : Frag} {R : List Addr} {F : Hp} (i j : Int) : RelL K R F (rgV i j) (rgD i j) := by
  unfold rgV rgD
  generalize List.range (j - i).toNat = l
  induction l with
  | nil => exact .nil
  | cons a r ih => exact .cons (.int _) ih
instance : ∀ i j, Decidable (RgOk i j) := fun i j => by unfold RgOk; infer_instance
def rgL (new : List D → Cells → Out D) (i j : Int) (c : Cells) : Out D := if RgOk i j then new (rgD i j) c else .bad
def mRg1 (new : List D → Cells → Out D) (m : ME) : ME := fun δ c => (m δ c).bind fun d c1 => match d with
  | .int j => rgL new 0 j c1
  | _ => .bad
def mRg2 (new : List D → Cells → Out D) (m n : ME) : ME := fun δ c => (m δ c).bind fun d c1 => (n δ c1).bind fun e c2 => match d, e with
  | .int i, .int j => rgL new i j c2
  | _, _ => .bad
theorem rg_read {new : List D → Cells → Out D} (hn : NewL X new) {Z : Hp} {R : List Addr} {F : Hp} {c : Cells} {σ : St} {H : Hp} {i j : Int} {Q : VK} (w : Wd X.K Z R F c H) (h : Aft X.K Z W R F σ (rgL new i j c) (QV X.K Q)) :
    RgOk i j ∧ ∀ q, H q = none → Q (.ref q) (upd H q (.lst (rgV i j))) := by
  unfold rgL at h
  split at h
  · rename_i hk
    exact ⟨hk, (hn Z W R F σ c H _ _ Q w (rg_rel i j) h).2⟩
  · exact h.elim
variable {a b : Expr} {m n : ME} {p2 pos2 : Pos}
theorem de_listRg1 {new : List D → Cells → Out D} (hn : NewL X new) (hc : X.calm = true) (hm : X.mg "list" = none) (hm2 : X.mg "range" = none) (ha : DE X W a m) (hg : Gl X "list" := by rfl) (hg2 : Gl X "range" := by rfl) (na : starEach [a] X.env = (false, eval a X.env) :: starEach [] X.env := by rfl)
    (na2 : starEach [.Call (.Name "range" p2) [a] [] pos2] X.env = (false, eval (.Call (.Name "range" p2) [a] [] pos2) X.env) :: starEach [] X.env := by rfl) : DE X W (.Call (.Name "list" p) [.Call (.Name "range" p2) [a] [] pos2] [] pos) (mRg1 new m) := by
  obtain ⟨t, pa, sa⟩ := ha.ex
  refine ⟨_, pe_listRg hc hg hm (prg_1 hg2 hm2 pa na) na2, fun Z R F δ c σ H Q w rs h => sa Z R F δ c σ H _ w rs ((Aft.bind h).imp ?_)⟩
  rintro R1 F1 d c1 H1 p1 e1 w1 ⟨_, _, _, h1⟩ v rv
  cases rv with
  | int j => exact ⟨j, rfl, rg_read hn w1 h1⟩
  | _ => exact h1.elim
theorem de_listRg2 {new : List D → Cells → Out D} (hn : NewL X new) (hc : X.calm = true) (hm : X.mg "list" = none) (hm2 : X.mg "range" = none) (ha : DE X W a m) (hb : DE X W b n) (hg : Gl X "list" := by rfl) (hg2 : Gl X "range" := by rfl) (na : starEach [a, b] X.env = (false, eval a X.env) :: starEach [b] X.env := by rfl)
    (nb : starEach [b] X.env = (false, eval b X.env) :: starEach [] X.env := by rfl) (hpl : (backTo pos2 (starEach [b] X.env)).any (·.1) = false := by rfl)
    (na2 : starEach [.Call (.Name "range" p2) [a, b] [] pos2] X.env = (false, eval (.Call (.Name "range" p2) [a, b] [] pos2) X.env) :: starEach [] X.env := by rfl) : DE X W (.Call (.Name "list" p) [.Call (.Name "range" p2) [a, b] [] pos2] [] pos) (mRg2 new m n) := by
  obtain ⟨t, pa, sa⟩ := ha.ex
  obtain ⟨u, pb, sb⟩ := hb.ex
  refine ⟨_, pe_listRg hc hg hm (prg_2 hg2 hm2 pa pb na nb hpl) na2, fun Z R F δ c σ H Q w rs h => sa Z R F δ c σ H _ w rs ((Aft.bind h).imp ?_)⟩
  rintro R1 F1 d c1 H1 p1 e1 w1 ⟨_, _, _, h1⟩ v rv
  refine sb Z R1 F1 δ c1 σ H1 _ w1 (rs.mono p1 e1) ((Aft.bind h1).imp ?_)
  rintro R2 F2 e c2 H2 p2 e2 w2 ⟨_, _, _, h2⟩ y ry
  cases rv with
  | int i =>
    cases ry with
    | int j => exact ⟨i, j, rfl, rfl, rg_read hn w2 h2⟩
    | _ => exact h2.elim
  | _ => exact h2.elim
end
end Nw

set_option Elab.async false
set_option linter.all false
set_option maxRecDepth 100000
set_option maxHeartbeats 4000000
/-! Nw30: comprehensions and loops over typed lists, plainly. -/
namespace Nw
open PySem PySem.Spec
open PyProof.Rows hiding St
open L2
theorem lc_typed {α : Type} {chk : Cells → Bool} {g : MG} {mt : MT} {me : ME} {δ : En} {c : Cells} {enc dec : α → D} {p : α → Bool} (hc : chk c = true) : ∀ {l : List α} {acc : List D}, (∀ a ∈ l, ∃ δ1, g (enc a) δ = some δ1 ∧ mt δ1 c = .ok (p a) c ∧ (p a = true → me δ1 c = .ok (dec a) c)) → acc.length + l.length ≤ sizeLine →
    lcGo chk g mt me δ (l.map enc) acc c = .ok (acc ++ (l.filter p).map dec) c
  | [], acc, _, _ => by
    rw [List.map_nil]
    unfold lcGo
    rw [if_pos hc, List.filter_nil, List.map_nil, List.append_nil]
  | a :: r, acc, h, hz => by
    obtain ⟨δ1, h1, h2, h3⟩ := h a List.mem_cons_self
    rw [List.length_cons] at hz
    rw [List.map_cons]
    unfold lcGo
    rw [if_pos hc, h1]
    dsimp only
    rw [h2]
    cases hp : p a with
    | true =>
      dsimp only
      rw [h3 hp]
      dsimp only
      rw [if_pos (by omega), lc_typed hc (fun x hx => h x (List.mem_cons_of_mem _ hx)) (by rw [List.length_append, List.length_singleton]; omega), List.filter_cons_of_pos hp, List.map_cons, List.append_assoc]
      rfl
    | false =>
      dsimp only
      rw [lc_typed hc (fun x hx => h x (List.mem_cons_of_mem _ hx)) (by omega), List.filter_cons_of_neg (by rw [hp]; decide)]
theorem lc_map {α : Type} {chk : Cells → Bool} {g : MG} {me : ME} {δ : En} {c : Cells} {enc dec : α → D} {l : List α} (hc : chk c = true) (h : ∀ a ∈ l, ∃ δ1, g (enc a) δ = some δ1 ∧ me δ1 c = .ok (dec a) c) (hz : l.length ≤ sizeLine) :
    lcGo chk g (fun _ c => .ok true c) me δ (l.map enc) [] c = .ok (l.map dec) c := by
  rw [lc_typed (p := fun _ => true) (dec := dec) hc (fun a ha => by
    obtain ⟨δ1, h1, h2⟩ := h a ha
    exact ⟨δ1, h1, rfl, fun _ => h2⟩) (by simpa using hz)]
  rw [List.nil_append, List.filter_eq_self.mpr fun _ _ => rfl]
theorem enum_map {α : Type} {enc : α → D} {l : List α} : enumL (l.map enc) = l.zipIdx.map fun p => .tup [.int (p.2 : Nat), enc p.1] := by
  unfold enumL
  apply List.ext_getElem?
  intro i
  rw [List.getElem?_mapIdx, List.getElem?_map, List.getElem?_map, List.getElem?_zipIdx]
  cases l[i]? with
  | none => rfl
  | some a => simp
/-- a loop whose every turn goes on, over a typed list -/
theorem loop_typed {α : Type} {chk : Cells → Bool} {g : MG} {mb : MS} {enc : α → D} (I : List α → En → Cells → Prop) : ∀ {l : List α} {δ : En} {c : Cells}, I l δ c → (∀ l δ c, I l δ c → chk c = true) →
    (∀ a r δ c, I (a :: r) δ c → ∃ δ1 δ2 c2, g (enc a) δ = some δ1 ∧ (mb δ1 c = .nx δ2 c2 ∨ mb δ1 c = .ct δ2 c2) ∧ I r δ2 c2) → ∃ δ' c', loopGo chk g mb (l.map enc) δ c = .nx δ' c' ∧ I [] δ' c'
  | [], δ, c, h, hc, _ => ⟨δ, c, by rw [List.map_nil]; unfold loopGo; rw [if_pos (hc _ _ _ h)], h⟩
  | a :: r, δ, c, h, hc, st => by
    obtain ⟨δ1, δ2, c2, h1, h2, h3⟩ := st a r δ c h
    obtain ⟨δ', c', k1, k2⟩ := loop_typed I h3 hc st
    refine ⟨δ', c', ?_, k2⟩
    rw [List.map_cons]
    unfold loopGo
    rw [if_pos (hc _ _ _ h), h1]
    dsimp only
    rcases h2 with h2 | h2 <;> rw [h2] <;> exact k1
theorem ixD_lst {l : List D} {i : Nat} {d : D} {c : Cells} (h : l[i]? = some d) : ixD (.lst l) (.int (i : Nat)) c = .ok d c := by
  unfold ixD
  dsimp only [items]
  rw [atI_nat h]
theorem ixD_tup {l : List D} {i : Nat} {d : D} {c : Cells} (h : l[i]? = some d) : ixD (.tup l) (.int (i : Nat)) c = .ok d c := by
  unfold ixD
  dsimp only [items]
  rw [atI_nat h]
theorem ixD_cell {l : List D} {i j : Nat} {d : D} {c : Cells} (hc : c[j]? = some (.lst l)) (h : l[i]? = some d) : ixD (.cell j) (.int (i : Nat)) c = .ok d c := by
  unfold ixD
  dsimp only [items]
  rw [hc]
  dsimp only
  rw [atI_nat h]
theorem ixX_of {d i : D} {c : Cells} (h : dicOf c d = none) : ixX d i c = ixD d i c := by
  unfold ixX
  rw [h]
/-! ### entries sorted by their names -/
def nodeOf {α : Type} [Inhabited α] (es : List (Str × α)) (n : Str) : α := ((es.filter fun e => e.1 == n).head?.map (·.2)).getD default
def sortE {α : Type} [Inhabited α] (es : List (Str × α)) : List (Str × α) := (sortS (es.map (·.1))).map fun n => (n, nodeOf es n)
section
variable {α : Type} [Inhabited α]
theorem filter_one : ∀ {es : List (Str × α)} {e : Str × α}, (es.map (·.1)).Nodup → e ∈ es → (es.filter fun x => x.1 == e.1) = [e]
  | [], _, _, h => by cases h
  | a :: r, e, hn, h => by
    rw [List.map_cons, List.nodup_cons] at hn
    rcases List.mem_cons.mp h with rfl | h
    · rw [List.filter_cons_of_pos (by simp)]
      congr 1
      rw [List.filter_eq_nil_iff]
      intro x hx hxe
      exact hn.1 (List.mem_map.mpr ⟨x, hx, by simpa using hxe⟩)
    · have hne : ¬ (a.1 == e.1) = true := fun z => hn.1 (by rw [eq_of_beq z]; exact List.mem_map.mpr ⟨e, h, rfl⟩)
      rw [List.filter_cons, if_neg hne]
      exact filter_one hn.2 h
theorem nodeOf_mem {es : List (Str × α)} {e : Str × α} (hn : (es.map (·.1)).Nodup) (h : e ∈ es) : nodeOf es e.1 = e.2 := by
  unfold nodeOf
  rw [filter_one hn h]
  rfl
theorem sortE_perm {es : List (Str × α)} (hn : (es.map (·.1)).Nodup) : (sortE es).Perm es := by
  unfold sortE
  have h1 : ((sortS (es.map (·.1))).map fun n => (n, nodeOf es n)).Perm ((es.map (·.1)).map fun n => (n, nodeOf es n)) := (sortS_perm _).map _
  refine h1.trans ?_
  rw [List.map_map]
  have : es.map ((fun n => (n, nodeOf es n)) ∘ (·.1)) = es := by
    conv => rhs; rw [← List.map_id es]
    refine List.map_congr_left fun e he => ?_
    show (e.1, nodeOf es e.1) = e
    rw [nodeOf_mem hn he]
  rw [this]
theorem sortE_names {es : List (Str × α)} : (sortE es).map (·.1) = sortS (es.map (·.1)) := by
  unfold sortE
  rw [List.map_map]
  exact List.map_id _
theorem sortE_len {es : List (Str × α)} : (sortE es).length = es.length := by
  unfold sortE
  rw [List.length_map, (sortS_perm _).length_eq, List.length_map]
end
end Nw

set_option Elab.async false
set_option linter.all false
set_option maxRecDepth 100000
set_option maxHeartbeats 4000000
/-! Nw31: the head's questions over the few objects that they need. -/
namespace Nw
open PySem PySem.Spec
open PyProof.Rows hiding St
open L2
def isC (g : Addr → Option Obj) (a : Addr) : Bool := match g a with
  | some o => (match o.data with
    | .cls _ => true
    | _ => false)
  | none => false
def isFn (g : Addr → Option Obj) (a : Addr) : Bool := match g a with
  | some o => (match o.data with
    | .func _ => true
    | _ => false)
  | none => false
def refsA (g : Addr → Option Obj) (l : List Addr) : List Addr := l.flatMap fun a => match g a with
  | some o => He.refsD o
  | none => []
def asS2 (g : Addr → Option Obj) (a1 cs ns : List Addr) : List Addr :=
  (fun fs : List Addr => mainGlobals :: (cs ++ (ns ++ (fs ++ refsA g fs)))) (a1.filter (isFn g) ++ (refsA g ns).filter (isFn g))
def asS1 (g : Addr → Option Obj) (a1 cs : List Addr) : List Addr := asS2 g a1 cs (refsA g cs)
def asS (g : Addr → Option Obj) (extra : List Addr) : List Addr := (fun a1 : List Addr => asS1 g a1 (a1.filter (isC g))) (refsA g (mainGlobals :: extra))
def obsSG (fa : List He.Fa) (ck : List Ck) (fn : List He.DefD) (g : Addr → Option Obj) : He.AlD := obsN fa ck fn (He.frG g (asS g []))
def hookS (fa : List He.Fa) (ck : List Ck) (fn : List He.DefD) : PySem.W.Hook where
  α := He.AlD
  obs := fun s => obsSG fa ck fn s.heap.get?
  val := fun _ => He.valD fn
  says := fun _ h => ∃ K : Frag, K.In h ∧ SaysN fa ck fn K
  of := fun _ _ e => ⟨_, He.frG_in, e⟩
  keeps := fun _ _ _ ⟨K, hK, c⟩ k => ⟨K, PySem.W.Frag.In.keeps hK k, c⟩
theorem obsSG_eq {fa : List He.Fa} {ck : List Ck} {fn : List He.DefD} {g : Addr → Option Obj} {s : Shared} (h : ∀ a, g a = s.heap.get? a) : obsSG fa ck fn g = (hookS fa ck fn).obs s := by
  have e : g = s.heap.get? := funext h
  rw [e] <;> rfl
def KT (s : PySem.W.SharedT) : Frag := He.frG (HandSHeadRun.getT s) (asS (HandSHeadRun.getT s) [])
def asqF (l : List He.Fa) (s : PySem.W.SharedT) : Bool := l.all fun f => f.ok (KT s)
def asqC (l : List Ck) (s : PySem.W.SharedT) : Bool := l.all fun f => f.ok (KT s)
def asqD (l : List He.DefD) (s : PySem.W.SharedT) : He.AlD := (l.all fun d => d.ok (KT s), l.map fun d => He.fnW (KT s) d.at_)
theorem run_joinS {γ : Type} {E : Option PySem.W.SharedT} {A : PySem.W.SharedT → Bool} {B : PySem.W.SharedT → γ} {good : γ} {fas : List (List He.Fa)} {cks : List (List Ck)} {fns : List (List He.DefD)}
    (h0 : E.map (fun s => (A s, B s)) = some (true, good)) (h1 : ∀ l ∈ fas, E.map (asqF l) = some true) (h2 : ∀ l ∈ cks, E.map (asqC l) = some true) (h3 : ∀ l ∈ fns, E.map (asqD l) = some (He.valD l)) :
    E.map (fun s => (A s, B s, obsSG fas.flatten cks.flatten fns.flatten (HandSHeadRun.getT s))) = some (true, good, He.valD fns.flatten) := by
  obtain ⟨s, rfl, e0⟩ := map_of h0
  have k1 : (fas.flatten.all fun f => f.ok (KT s)) = true := all_flat fun l hl => Option.some.inj (h1 l hl)
  have k2 : (cks.flatten.all fun f => f.ok (KT s)) = true := all_flat fun l hl => Option.some.inj (h2 l hl)
  have k3 : (fns.flatten.all fun f => f.ok (KT s)) = true := all_flat fun l hl => congrArg Prod.fst (Option.some.inj (h3 l hl))
  have k4 : fns.flatten.map (fun d => He.fnW (KT s) d.at_) = fns.flatten.map He.DefD.val := map_flat fun l hl => congrArg Prod.snd (Option.some.inj (h3 l hl))
  have e1 : obsSG fas.flatten cks.flatten fns.flatten (HandSHeadRun.getT s) = He.valD fns.flatten := by
    show ((((fas.flatten.all fun f => f.ok (KT s)) && (cks.flatten.all fun f => f.ok (KT s))) && fns.flatten.all fun d => d.ok (KT s)), fns.flatten.map fun d => He.fnW (KT s) d.at_) = _
    rw [k1, k2, k3, k4]
    rfl
  rw [Option.map_some, e1]
  injection e0 with a b
  rw [a, b]
end Nw

set_option Elab.async false
set_option linter.all false
set_option maxRecDepth 100000
set_option maxHeartbeats 4000000
/-! Nw32: str of a number. -/
namespace Nw
open PySem PySem.Spec
open PyProof.Rows hiding St
open L2
section
variable {X : Cx}
def strD (ds : List D) (c : Cells) : Out D := match ds with
  | [.int i] => if i.natAbs.log2 < 1920 then .ok (.str (Str.ofString (toString i))) c else .bad
  | _ => .bad
theorem cs_str : CallS X (.type "str") strD := by
  refine ⟨_, call_str_int, fun Z W R F c σ H vs ds Q w r h => ?_⟩
  unfold strD at h
  split at h
  · cases r with
    | cons r t =>
      cases t
      cases r
      split at h
      · rename_i hz
        exact ⟨_, rfl, hz, h.ok w _ (.str _)⟩
      · exact h.elim
  · exact h.elim
end
end Nw

set_option Elab.async false
set_option linter.all false
set_option maxRecDepth 100000
set_option maxHeartbeats 4000000
/-! Nw38: the head in four runs. -/
namespace Nw
open PySem PySem.Spec
open PyProof.Rows hiding St
open L2
theorem run_join4 {γ : Type} {E : Option PySem.W.SharedT} {A : PySem.W.SharedT → Bool} {B : PySem.W.SharedT → γ} {good : γ} {fa : List He.Fa} {ck : List Ck} {fn : List He.DefD}
    (h0 : E.map (fun s => (A s, B s)) = some (true, good)) (h1 : E.map (asqF fa) = some true) (h2 : E.map (asqC ck) = some true) (h3 : E.map (asqD fn) = some (He.valD fn)) :
    E.map (fun s => (A s, B s, obsSG fa ck fn (HandSHeadRun.getT s))) = some (true, good, He.valD fn) := by
  obtain ⟨s, rfl, e0⟩ := map_of h0
  have k1 : (fa.all fun f => f.ok (KT s)) = true := Option.some.inj h1
  have k2 : (ck.all fun f => f.ok (KT s)) = true := Option.some.inj h2
  have k3 : (fn.all fun f => f.ok (KT s)) = true := congrArg Prod.fst (Option.some.inj h3)
  have k4 : fn.map (fun d => He.fnW (KT s) d.at_) = fn.map He.DefD.val := congrArg Prod.snd (Option.some.inj h3)
  have e1 : obsSG fa ck fn (HandSHeadRun.getT s) = He.valD fn := by
    show ((((fa.all fun f => f.ok (KT s)) && (ck.all fun f => f.ok (KT s))) && fn.all fun d => d.ok (KT s)), fn.map fun d => He.fnW (KT s) d.at_) = _
    rw [k1, k2, k3, k4]
    rfl
  rw [Option.map_some, e1]
  injection e0 with a b
  rw [a, b]
end Nw

set_option Elab.async false
set_option linter.all false
set_option maxRecDepth 100000
set_option maxHeartbeats 4000000
/-! Nw39: f-strings, the first and the rest of a list, the number with a text. -/
namespace Nw
open PySem PySem.Spec
open PyProof.Rows hiding St
open L2
section
variable {X : Cx} {W : WX} {pos : Pos}
/-! ### {x} and f'..' -/
def fmtGo (d : D) (c : Cells) : Out D := match d with
  | .str y => if y.length ≤ sizeLine then .ok (.str y) c else .bad
  | .int i => if i.natAbs.log2 < 1920 then .ok (.str (Str.ofString (toString i))) c else .bad
  | _ => .bad
def mFmt (m : ME) : ME := fun δ c => (m δ c).bind fmtGo
theorem de_fmt {e : Expr} {m : ME} (he : DE X W e m) : DE X W (.FormattedValue e (-1) none pos) (mFmt m) := by
  obtain ⟨t, p, s⟩ := he.ex
  refine ⟨_, pe_fmt p, fun Z R F δ c σ H Q w rs h => s Z R F δ c σ H _ w rs ((Aft.bind h).imp ?_)⟩
  rintro R1 F1 d c1 H1 p1 e1 w1 ⟨_, _, _, h1⟩ v rv
  unfold fmtGo at h1
  split at h1
  · cases rv
    split at h1
    · rename_i hz
      exact .inl ⟨_, rfl, hz, h1.ok w1 _ (.str _)⟩
    · exact h1.elim
  · cases rv
    split at h1
    · rename_i hz
      exact .inr ⟨_, rfl, hz, h1.ok w1 _ (.str _)⟩
    · exact h1.elim
  · exact h1.elim
def joinGo : List ME → Str → En → Cells → Out D
  | [], acc, _, c => .ok (.str acc) c
  | m :: ms, acc, δ, c => (m δ c).bind fun d c1 => match d with
    | .str y => if (acc ++ y).length ≤ sizeLine then joinGo ms (acc ++ y) δ c1 else .bad
    | _ => .bad
def mJoin (ms : List ME) : ME := joinGo ms Str.empty
inductive DJ (X : Cx) (W : WX) : List Expr → List ME → Prop where
  | nil : DJ X W [] []
  | cons {e : Expr} {m : ME} {es : List Expr} {ms : List ME} (h : DE X W e m) (r : DJ X W es ms) : DJ X W (e :: es) (m :: ms)
theorem dj_read {es : List Expr} {ms : List ME} (h : DJ X W es ms) : ∃ ts, PJ X es ts ∧ ∀ (Z : Hp) (R : List Addr) (F : Hp) (δ : En) (c : Cells) (σ : St) (H : Hp) (Q : VK) (acc : Str), Wd X.K Z R F c H → RelS X.K R F δ σ → Aft X.K Z W R F σ (joinGo ms acc δ c) (QV X.K Q) → tJs ts acc σ H fun out H1 => Q (.str out) H1 := by
  induction h with
  | nil => exact ⟨[], .nil, fun Z R F δ c σ H Q acc w rs h => h.ok w _ (.str _)⟩
  | @cons e m es ms he r ih =>
    obtain ⟨t, p, s⟩ := he.ex
    obtain ⟨ts, ps, ss⟩ := ih
    refine ⟨t :: ts, .cons p ps, fun Z R F δ c σ H Q acc w rs h => s Z R F δ c σ H _ w rs ((Aft.bind h).imp ?_)⟩
    rintro R1 F1 d c1 H1 p1 e1 w1 ⟨_, _, _, h1⟩ v rv
    split at h1
    · cases rv
      split at h1
      · rename_i hz
        exact ⟨_, rfl, hz, ss Z R1 F1 δ c1 σ H1 Q _ w1 (rs.mono p1 e1) h1⟩
      · exact h1.elim
    · exact h1.elim
theorem de_joined {v1 v2 : Expr} {rest : List Expr} {ms : List ME} (h : DJ X W (v1 :: v2 :: rest) ms) : DE X W (.JoinedStr (v1 :: v2 :: rest) pos) (mJoin ms) := by
  obtain ⟨ts, p, s⟩ := dj_read h
  exact ⟨_, pe_joined p, fun Z R F δ c σ H Q w rs h => s Z R F δ c σ H Q _ w rs h⟩
/-! ### the number with a text -/
def intTD (ds : List D) (c : Cells) : Out D := match ds with
  | [.int i] => .ok (.int i) c
  | [.bl k] => .ok (.int (if k then 1 else 0)) c
  | [.str a] => (match PySem.intText? a with
    | some n => if a.length ≤ 640 then .ok (.int n) c else .bad
    | none => .bad)
  | _ => .bad
theorem cs_intT : CallS X (.type "int") intTD := by
  refine ⟨_, CallR.or call_int1 call_int_str, fun Z W R F c σ H vs ds Q w r h => ?_⟩
  unfold intTD at h
  split at h
  · cases r with
    | cons r t =>
      cases t
      cases r
      exact .inl (.inl ⟨_, rfl, h.ok w _ (.int _)⟩)
  · cases r with
    | cons r t =>
      cases t
      cases r
      exact .inl (.inr ⟨_, rfl, h.ok w _ (.int _)⟩)
  · cases r with
    | cons r t =>
      cases t
      cases r
      split at h
      · rename_i n hn
        split at h
        · rename_i hz
          exact .inr ⟨_, _, rfl, hn, hz, h.ok w _ (.int _)⟩
        · exact h.elim
      · exact h.elim
  · exact h.elim
end
/-! ### a, *b = a list -/
section
variable {prog : Program} {w : World} {A : Around} {E : Value → Shared → Prop} {s : Shared}
open PySem.W in
theorem starG {l : Addr} {items : Array Value} {n i : Nat} {Q : List Value → Shared → Prop} (hl : s.heap.IsList l items) (hh : A.handled = none) (hi : i < n) (hn : n ≤ items.size + 1) (hz : items.size ≤ sizeLine)
    (h : ∀ (h' : Heap) tk, (∀ b o, s.heap.get? b = some o → h'.get? b = some o) → Q (items.toList.take i ++ [.ref h'.objs.size] ++ (items.toList.drop i).drop (items.size + 1 - n)) { s with heap := h'.push { cls := .type "list", data := .seq ((items.toList.drop i).take (items.size + 1 - n)).toArray }, toks := tk }) : wpAny (model prog w) A (unpackItems (.ref l) n (some i)) Q E s := by
  have hlt : l ≠ s.heap.objs.size := by obtain ⟨o, ho, _⟩ := hl; exact Nat.ne_of_lt (Heap.lt_size ho)
  have hll : l < s.heap.objs.size := by obtain ⟨o, ho, _⟩ := hl; exact Heap.lt_size ho
  unfold unpackItems
  refine wpAny_bind ?_
  unfold notIterableAtAll
  refine wpAny_bind (wpAny_specialOf hl.typeIs slot_list_iter.lookup ?_)
  refine wpAny_pure ?_
  simp only [Bool.false_eq_true, if_false]
  refine wpAny_bind (wpAny_holding (wpAny_pyIter_list hl ?_))
  refine wpAny_bind (wpAny_holding (kun_draw hlt i 0 _ _ ⟨_, Heap.get?_push_size _ rfl, rfl, rfl⟩ (hl.push _) (by omega) fun h₁ hit₁ hs₁ => ?_))
  have hl₁ : h₁.IsList l items := (hl.push _).extBut hs₁.extBut hlt
  rw [Nat.zero_add] at hit₁
  have hit₁' := hit₁
  obtain ⟨oi, hoi, _⟩ := hit₁'
  have hl₁' := hl₁
  obtain ⟨ol, hol, _⟩ := hl₁'
  rw [List.drop_zero]
  have hfl : (items.toList.take i).length = i := by rw [List.length_take, Array.length_toList]; omega
  rw [if_neg (show ¬ ((items.toList.take i).length < i) by rw [hfl]; omega)]
  refine wpAny_bind (wpAny_holding (kun_collect (s := { s with heap := h₁ }) (T := "list_iterator") (.inr (.inr (.inl rfl))) (Walks.list (A := A.in1) hh s.heap.objs.size l hlt items) (fun j u st => st.1.typeIs) (k := i) (by omega) ⟨hit₁, hl₁⟩ (Heap.lt_size hoi) (Heap.lt_size hol) (fun h₂ tk hk => ?_) hz))
  have hrl : (items.toList.drop i).length = items.size - i := by rw [List.length_drop, Array.length_toList]
  have hmid : (items.toList.drop i).length - (n - 1 - i) = items.size + 1 - n := by rw [hrl]; omega
  show wpAny _ _ (if (items.toList.drop i).length < n - 1 - i then _ else _) _ _ _
  rw [if_neg (by rw [hrl]; omega)]
  show wpAny _ _ (newList ((items.toList.drop i).take ((items.toList.drop i).length - (n - 1 - i))) >>= fun d => pure (items.toList.take i ++ [d] ++ (items.toList.drop i).drop ((items.toList.drop i).length - (n - 1 - i)))) _ _ _
  rw [hmid]
  refine wpAny_bind (wpAny_newList ?_ (by rw [List.length_take, hrl]; omega))
  refine wpAny_pure (h h₂ tk fun b o e => ?_)
  have hb : b ≠ s.heap.objs.size := Nat.ne_of_lt (Heap.lt_size e)
  exact hk b o hb (hs₁.extBut b o hb (Heap.get?_push_of_some _ e))
end
section
variable {X : Cx} {W : WX} {pos : Pos}
def gStar (K : PySem.W.Frag) (g : TGs) : TG := fun v σ H Q => ∃ l x r, v = .ref l ∧ SqL K H l (x :: r) ∧ ∀ p, H p = none → g [x, .ref p] σ (upd H p (.lst r)) Q
theorem pg_star {a b : Expr} {ps : Pos} {k : Nat} {g : TGs} (hc : X.calm = true) (h : PGs X [a, b] g)
    (hn : (assignEach [a, .Starred b ps] X.env).length = 2 := by rfl) (hst : (assignEach [a, .Starred b ps] X.env).findIdx? (·.1) = some 1 := by rfl)
    (hs : (assignEach [a, .Starred b ps] X.env).map (·.2) = (assignEach [a, b] X.env).map (·.2) := by rfl) : PG X (.Tuple [a, .Starred b ps] k pos) (gStar X.K g) := by
  refine ⟨fun pins s σ H v u Q I r hw => ?_⟩
  obtain ⟨l, x, xs, e1, hq, hw⟩ := hw
  subst e1
  cases r
  obtain ⟨its, rv, hp, hz⟩ := I.list hq
  have hl : s.heap.IsList l its.toArray := by
    obtain ⟨o, n, e, c, _, d⟩ := hp
    exact ⟨o, e, c, n, d⟩
  cases rv with
  | @cons _ u0 _ us r0 rr =>
    have hlen : us.length = xs.length := rr.length.symm
    rw [assign_Tuple]
    refine wpAny_bind (wpAny_standAt ?_)
    unfold unpack
    rw [hn, hst, hs]
    refine wpAny_bind (wpAny_holding (starG hl (I.ok.hd hc) (by decide) (by simp) (by simpa [hlen] using hz) fun h' tk hk => ?_))
    have e1 : ((u0 :: us).toArray.toList.take 1 ++ [Value.ref h'.objs.size] ++ ((u0 :: us).toArray.toList.drop 1).drop ((u0 :: us).toArray.size + 1 - 2)) = [u0, .ref h'.objs.size] := by simp
    have e2 : (((u0 :: us).toArray.toList.drop 1).take ((u0 :: us).toArray.size + 1 - 2)) = us := by simp
    rw [e1, e2]
    have I1 : Inv X pins σ H { s with heap := h', toks := tk } := I.kept (t' := tk) hk
    have hf : H h'.objs.size = none := I1.hok.fresh (Nat.le_refl _)
    have I2 := I1.laid (t' := tk) (o := .lst xs) (fun b u e => Heap.get?_push_of_some { cls := .type "list", data := .seq us.toArray } e) (Nat.le_refl _) ⟨by simp at hz; omega, us, 0, rr, Heap.get?_push_size _ rfl⟩
    exact h.run pins _ σ _ [x, .ref h'.objs.size] [u0, .ref h'.objs.size] Q I2 (.cons r0 (.cons rfl .nil)) (hw _ hf)
def mStar (gs : MGs) (m : ME) : MS := fun δ c => (m δ c).fl δ fun d c1 => match lstOf c1 d with
  | some (x :: r) => (lstD r c1).fl δ fun l c2 => (match gs [x, l] δ with
    | some δ' => .nx δ' c2
    | none => .bad)
  | _ => .bad
theorem ds_star {a b e : Expr} {ps p2 : Pos} {k : Nat} {gs : MGs} {m : ME} {sl : List Nat} (hc : X.calm = true) (he : DE X W e m) (hg : DGs X [a, b] sl gs)
    (hs : swapsWithSole [.Tuple [a, .Starred b ps] k p2] e pos.line X.env = pure false := by rfl) (hw : swappedStores [.Tuple [a, .Starred b ps] k p2] e X.env = pure none := by rfl)
    (h1 : (assignEach [.Tuple [a, .Starred b ps] k p2] X.env).map (·.2) = [assign (.Tuple [a, .Starred b ps] k p2) X.env] := by rfl)
    (hn : (assignEach [a, .Starred b ps] X.env).length = 2 := by rfl) (hst : (assignEach [a, .Starred b ps] X.env).findIdx? (·.1) = some 1 := by rfl)
    (h2 : (assignEach [a, .Starred b ps] X.env).map (·.2) = (assignEach [a, b] X.env).map (·.2) := by rfl) : DS X W (.Assign [.Tuple [a, .Starred b ps] k p2] e pos) (mStar gs m) := by
  obtain ⟨t, p, s⟩ := he.ex
  obtain ⟨u, q, s2⟩ := hg.ex
  refine ⟨_, ps_asg p (pg_star hc q hn hst h2) hs hw h1, fun Z R F δ c σ H E w rs h => s Z R F δ c σ H _ w rs ((AftS.fl rs h).imp ?_)⟩
  rintro R1 F1 d c1 H1 p1 e1 w1 ⟨_, _, _, h1⟩ v rv
  split at h1
  · rename_i x r hl
    obtain ⟨l, vs, rfl, q1, r1⟩ := w1.list rv hl
    cases r1 with
    | @cons v0 _ vr _ r0 rr =>
      unfold lstD at h1
      split at h1
      · rename_i hz
        have h1 : AftS X.K Z W R1 F1 (match gs [x, .lst r] δ with
          | some δ' => .nx δ' c1
          | none => .bad) E := h1
        cases eg : gs [x, .lst r] δ with
        | none => rw [eg] at h1; exact h1.elim
        | some δ' =>
          rw [eg] at h1
          refine ⟨l, v0, vr, rfl, q1, fun p n => ?_⟩
          obtain ⟨w2, s3⟩ := w1.frozen n (.lst vr)
          have rx : RelL X.K R1 (upd F1 p (.lst vr)) [v0, .ref p] [x, .lst r] := .cons (r0.mono (List.prefix_refl _) s3) (.cons (.lst upd_same (rr.mono (List.prefix_refl _) s3)) .nil)
          exact s2 Z R1 _ δ c1 σ _ _ _ δ' _ w2 ((rs.mono p1 e1).mono (List.prefix_refl _) s3) rx eg fun σ' rs' _ => h1 R1 _ _ σ' (List.prefix_refl _) s3 w2 rs'
      · exact h1.elim
  · exact h1.elim
end
/-! ### str of a number or a text -/
section
variable {X : Cx}
def strXD (ds : List D) (c : Cells) : Out D := match ds with
  | [.int i] => if i.natAbs.log2 < 1920 then .ok (.str (Str.ofString (toString i))) c else .bad
  | [.str a] => .ok (.str a) c
  | _ => .bad
theorem cs_strX : CallS X (.type "str") strXD := by
  refine ⟨_, CallR.or call_str_int SkE.call_str_str, fun Z W R F c σ H vs ds Q w r h => ?_⟩
  unfold strXD at h
  split at h
  · cases r with
    | cons r t =>
      cases t
      cases r
      split at h
      · rename_i hz
        exact .inl ⟨_, rfl, hz, h.ok w _ (.str _)⟩
      · exact h.elim
  · cases r with
    | cons r t =>
      cases t
      cases r
      exact .inr ⟨_, rfl, h.ok w _ (.str _)⟩
  · exact h.elim
end
/-! ### C() where no class of the program says __init__ -/
structure MkO (K : Frag) (C : Addr) : Prop where
  makes : PySem.W.makesIn K C = true
  init : PySem.W.findIn K (.ref C) "__init__" = some (some (.builtin "object.__init__"))
  kp : PySem.W.keepIn K (.ref C) = true
theorem ck_mko {K : Frag} {x : Str} (c : (Ck.mko x).ok K = true) : MkO K (He.ga K x) := by
  obtain ⟨h1, h2⟩ := He.ba c
  obtain ⟨h2, h3⟩ := He.ba h2
  exact ⟨h1, He.eqO_ok h2, h3⟩
section
variable {X : Cx} {W : WX} {pos p : Pos} {x : Str} {C : Addr}
open PySem.W in
theorem mkO_run {pins : List (Addr × Obj)} {σ : St} {H : Hp} {s : Shared} {Q : VK} (M : MkO X.K C) (I : Inv X pins σ H s)
    (h : ∀ y dy, H y = none → H dy = none → dy ≠ y → Q (.ref y) (upd (upd H dy (.own y)) y (.ins C dy []))) :
    wpAny (model X.prog X.w) X.A (call (.ref C) []) (EP X pins σ Q) X.xe s := by
  have n0 := I.hok.fresh (Nat.le_refl s.heap.objs.size)
  have n1 := I.hok.fresh (Nat.le_succ s.heap.objs.size)
  have J := Inv.made (C := C) I
  have hq := h _ _ n1 n0 (Nat.ne_of_lt (Nat.lt_succ_self _))
  have X0 := I.kIn
  obtain ⟨hh, g, d, t, os⟩ := s
  have Y := makes_of (M := model X.prog X.w) X0 M.makes
  have e2 : ((hh.push emptyDict).push (instObj C hh.objs.size)).get? (hh.objs.size + 1) = some (instObj C hh.objs.size) := by
    have := Heap.get?_push_size (hh.push emptyDict) (o := instObj C hh.objs.size) rfl
    rwa [Heap.size_push] at this
  have t1 : Looks (model X.prog X.w) ((hh.push emptyDict).push (instObj C hh.objs.size)) (typeOf (.ref (hh.objs.size + 1))) (.ref C) := (Looks.ld e2).andThen .now
  have t2 : Looks (model X.prog X.w) ((hh.push emptyDict).push (instObj C hh.objs.size)) (isInstance (.ref (hh.objs.size + 1)) (.type "object")) true := t1.andThen (Y.top.keeps fun b o e => Heap.get?_push_of_some _ (Heap.get?_push_of_some _ e))
  refine wpAny_call (make_map0 X0 M.makes M.init (fun self => Looks.of_pure (oi_bind self)) ?_)
  refine codeAny_call_builtin oi_plain entry_oi (@check_slot (model X.prog X.w) _ _ _ "object.__init__" "object" "__init__" (.ref (hh.objs.size + 1)) [] [] _ oi_kind oi_split t2 (oi_args (.ref (hh.objs.size + 1))) ?_)
  rw [oi_run]
  exact wpAny_pure (And.intro rfl ⟨.ref (hh.objs.size + 1), _, J, rfl, hq⟩)
theorem pe_makeO (M : MkO X.K C) (hg : Gl X x) (hm : X.mg x = some (.ref C)) (hdb : (x == ("__debug__" : Str)) = false) :
    PE X (.Call (.Name x p) [] [] pos) (fun σ H Q => ∀ y dy, H y = none → H dy = none → dy ≠ y → Q (.ref y) (upd (upd H dy (.own y)) y (.ins C dy []))) :=
  ⟨fun pins s σ H Q I z => wpAny_Call_Name_kw (ld_glob I hg hm (PySem.W.callWith_K0 I.kIn M.kp (mkO_run M I z)) hdb)⟩
def mNone : MF := fun _ c => .ok .non c
theorem de_makeO (M : MkO X.K (He.ga X.K x)) (hm : X.mg x = some (.ref (He.ga X.K x))) (hg : Gl X x := by rfl) (hdb : (x == ("__debug__" : Str)) = false := by decide) : DE X W (.Call (.Name x p) [] [] pos) (mMake x mNone mNil) := by
  refine ⟨_, pe_makeO M hg hm hdb, fun Z R F δ c σ H Q w rs h y dy hy hdy ne => ?_⟩
  obtain ⟨Z1, R1, F1, c1, ds, w1, r1, a1⟩ := make_sp (vs := []) (ds := []) (m := mNone) w .nil h y dy hy hdy ne
  exact ((a1.ok w1) _ .non).2
end
end Nw

set_option Elab.async false
set_option linter.all false
set_option maxRecDepth 100000
set_option maxHeartbeats 4000000
namespace Nw
namespace Law
open PySem PySem.Spec
open PyProof.Rows hiding St
open L2
def topS (i : Nat) : Stmt := PySem.Challenge.pw_namewalk_k80_texts_of_rows_and_results.main.body.getD i (.Pass ⟨0, 0, 0, 0⟩)
def tys : List Ty := [Ty.b "NoneType", Ty.b "bool", Ty.b "int", Ty.b "str", Ty.b "tuple", Ty.b "list", Ty.b "dict", Ty.o ("Path" : Str), Ty.o ("MakeFolder" : Str), Ty.o ("MakeFile" : Str), Ty.o ("MakeLink" : Str), Ty.o ("Put" : Str), Ty.o ("Take" : Str), Ty.o ("Move" : Str), Ty.o ("Done" : Str), Ty.o ("Made" : Str), Ty.o ("Came" : Str), Ty.o ("Refused" : Str), Ty.o ("New" : Str)]
def isi_Thing : Ty → Bool := fun t => [Ty.o ("Path" : Str), Ty.o ("MakeFolder" : Str), Ty.o ("MakeFile" : Str), Ty.o ("MakeLink" : Str), Ty.o ("Put" : Str), Ty.o ("Take" : Str), Ty.o ("Move" : Str), Ty.o ("Done" : Str), Ty.o ("Made" : Str), Ty.o ("Came" : Str), Ty.o ("Refused" : Str), Ty.o ("New" : Str)].contains t
def isi_str : Ty → Bool := fun t => [Ty.b "str"].contains t
def isi_Take : Ty → Bool := fun t => [Ty.o ("Take" : Str)].contains t
def isi_Put : Ty → Bool := fun t => [Ty.o ("Put" : Str)].contains t
def isi_MakeLink : Ty → Bool := fun t => [Ty.o ("MakeLink" : Str)].contains t
def isi_MakeFile : Ty → Bool := fun t => [Ty.o ("MakeFile" : Str)].contains t
def isi_MakeFolder : Ty → Bool := fun t => [Ty.o ("MakeFolder" : Str)].contains t
def isi_Made : Ty → Bool := fun t => [Ty.o ("Made" : Str)].contains t
def isi_Refused : Ty → Bool := fun t => [Ty.o ("Refused" : Str)].contains t
def isi_New : Ty → Bool := fun t => [Ty.o ("New" : Str)].contains t
def isi_Came : Ty → Bool := fun t => [Ty.o ("Came" : Str)].contains t
def isi_list : Ty → Bool := fun t => [Ty.b "list"].contains t
def eqcs : List Str := [("Path" : Str), ("MakeFolder" : Str), ("MakeFile" : Str), ("MakeLink" : Str), ("Put" : Str), ("Take" : Str), ("Move" : Str), ("Done" : Str), ("Made" : Str), ("Came" : Str), ("Refused" : Str), ("New" : Str)]
abbrev st_Thing_facts : Stmt := inClass (topS 6) 0
abbrev st_New_facts : Stmt := inClass (topS 30) 2
abbrev st_Refused_facts : Stmt := inClass (topS 28) 2
abbrev st_Came_facts : Stmt := inClass (topS 27) 2
abbrev st_Made_facts : Stmt := inClass (topS 25) 2
abbrev st_Move_facts : Stmt := inClass (topS 22) 2
abbrev st_Take_facts : Stmt := inClass (topS 21) 2
abbrev st_Put_facts : Stmt := inClass (topS 20) 2
abbrev st_MakeLink_facts : Stmt := inClass (topS 19) 2
abbrev st_MakeFile_facts : Stmt := inClass (topS 18) 2
abbrev st_MakeFolder_facts : Stmt := inClass (topS 17) 2
abbrev st_Path_facts : Stmt := inClass (topS 13) 2
abbrev st_Thing_class_name : Stmt := inClass (topS 6) 1
abbrev st_New_class_name : Stmt := inClass (topS 30) 1
abbrev st_Refused_class_name : Stmt := inClass (topS 28) 1
abbrev st_Came_class_name : Stmt := inClass (topS 27) 1
abbrev st_Made_class_name : Stmt := inClass (topS 25) 1
abbrev st_Done_class_name : Stmt := inClass (topS 24) 0
abbrev st_Move_class_name : Stmt := inClass (topS 22) 1
abbrev st_Take_class_name : Stmt := inClass (topS 21) 1
abbrev st_Put_class_name : Stmt := inClass (topS 20) 1
abbrev st_MakeLink_class_name : Stmt := inClass (topS 19) 1
abbrev st_MakeFile_class_name : Stmt := inClass (topS 18) 1
abbrev st_MakeFolder_class_name : Stmt := inClass (topS 17) 1
abbrev st_Path_class_name : Stmt := inClass (topS 13) 1
abbrev st_Thing___eq__ : Stmt := inClass (topS 6) 2
abbrev st_Move___init__ : Stmt := inClass (topS 22) 0
abbrev st_is_name : Stmt := topS 12
abbrev st_BadText___init__ : Stmt := inClass (topS 3) 0
abbrev st_asked_name : Stmt := topS 37
abbrev st_MakeLink___init__ : Stmt := inClass (topS 19) 0
abbrev st_Path___init__ : Stmt := inClass (topS 13) 0
abbrev st_read_path : Stmt := topS 14
abbrev st_is_path_text : Stmt := topS 15
abbrev st_asked_path : Stmt := topS 38
abbrev st_read_number : Stmt := topS 36
abbrev st_Take___init__ : Stmt := inClass (topS 21) 0
abbrev st_MakeFile___init__ : Stmt := inClass (topS 18) 0
abbrev st_Put___init__ : Stmt := inClass (topS 20) 0
abbrev st_MakeFolder___init__ : Stmt := inClass (topS 17) 0
abbrev st_read_making : Stmt := topS 40
abbrev st_read_deed : Stmt := topS 41
abbrev st_read_row : Stmt := topS 43
abbrev st_deed_text : Stmt := topS 39
abbrev st_row_text : Stmt := topS 42
abbrev st_result_text : Stmt := topS 44
abbrev st_Refused___init__ : Stmt := inClass (topS 28) 0
abbrev st_New___init__ : Stmt := inClass (topS 30) 0
abbrev st_Made___init__ : Stmt := inClass (topS 25) 0
abbrev st_Came___init__ : Stmt := inClass (topS 27) 0
abbrev st__law_draw : Stmt := topS 47
abbrev st__law_results_right : Stmt := topS 51
abbrev st__law_deed : Stmt := topS 49
abbrev st__law_pick : Stmt := topS 48
abbrev st__law_deed_row : Stmt := topS 50
abbrev st__law_source : Stmt := topS 46
abbrev st_law : Stmt := topS 52
def d_Thing_facts : He.DefD := ⟨(("Thing" : Str), some ("facts" : Str)), ("facts" : Str), ("Thing.facts" : Str), defArgs st_Thing_facts, defBody st_Thing_facts, defScope st_Thing_facts, [], []⟩
def d_New_facts : He.DefD := ⟨(("New" : Str), some ("facts" : Str)), ("facts" : Str), ("New.facts" : Str), defArgs st_New_facts, defBody st_New_facts, defScope st_New_facts, [], []⟩
def d_Refused_facts : He.DefD := ⟨(("Refused" : Str), some ("facts" : Str)), ("facts" : Str), ("Refused.facts" : Str), defArgs st_Refused_facts, defBody st_Refused_facts, defScope st_Refused_facts, [], []⟩
def d_Came_facts : He.DefD := ⟨(("Came" : Str), some ("facts" : Str)), ("facts" : Str), ("Came.facts" : Str), defArgs st_Came_facts, defBody st_Came_facts, defScope st_Came_facts, [], []⟩
def d_Made_facts : He.DefD := ⟨(("Made" : Str), some ("facts" : Str)), ("facts" : Str), ("Made.facts" : Str), defArgs st_Made_facts, defBody st_Made_facts, defScope st_Made_facts, [], []⟩
def d_Move_facts : He.DefD := ⟨(("Move" : Str), some ("facts" : Str)), ("facts" : Str), ("Move.facts" : Str), defArgs st_Move_facts, defBody st_Move_facts, defScope st_Move_facts, [], []⟩
def d_Take_facts : He.DefD := ⟨(("Take" : Str), some ("facts" : Str)), ("facts" : Str), ("Take.facts" : Str), defArgs st_Take_facts, defBody st_Take_facts, defScope st_Take_facts, [], []⟩
def d_Put_facts : He.DefD := ⟨(("Put" : Str), some ("facts" : Str)), ("facts" : Str), ("Put.facts" : Str), defArgs st_Put_facts, defBody st_Put_facts, defScope st_Put_facts, [], []⟩
def d_MakeLink_facts : He.DefD := ⟨(("MakeLink" : Str), some ("facts" : Str)), ("facts" : Str), ("MakeLink.facts" : Str), defArgs st_MakeLink_facts, defBody st_MakeLink_facts, defScope st_MakeLink_facts, [], []⟩
def d_MakeFile_facts : He.DefD := ⟨(("MakeFile" : Str), some ("facts" : Str)), ("facts" : Str), ("MakeFile.facts" : Str), defArgs st_MakeFile_facts, defBody st_MakeFile_facts, defScope st_MakeFile_facts, [], []⟩
def d_MakeFolder_facts : He.DefD := ⟨(("MakeFolder" : Str), some ("facts" : Str)), ("facts" : Str), ("MakeFolder.facts" : Str), defArgs st_MakeFolder_facts, defBody st_MakeFolder_facts, defScope st_MakeFolder_facts, [], []⟩
def d_Path_facts : He.DefD := ⟨(("Path" : Str), some ("facts" : Str)), ("facts" : Str), ("Path.facts" : Str), defArgs st_Path_facts, defBody st_Path_facts, defScope st_Path_facts, [], []⟩
def d_Thing_class_name : He.DefD := ⟨(("Thing" : Str), some ("class_name" : Str)), ("class_name" : Str), ("Thing.class_name" : Str), defArgs st_Thing_class_name, defBody st_Thing_class_name, defScope st_Thing_class_name, [], []⟩
def d_New_class_name : He.DefD := ⟨(("New" : Str), some ("class_name" : Str)), ("class_name" : Str), ("New.class_name" : Str), defArgs st_New_class_name, defBody st_New_class_name, defScope st_New_class_name, [], []⟩
def d_Refused_class_name : He.DefD := ⟨(("Refused" : Str), some ("class_name" : Str)), ("class_name" : Str), ("Refused.class_name" : Str), defArgs st_Refused_class_name, defBody st_Refused_class_name, defScope st_Refused_class_name, [], []⟩
def d_Came_class_name : He.DefD := ⟨(("Came" : Str), some ("class_name" : Str)), ("class_name" : Str), ("Came.class_name" : Str), defArgs st_Came_class_name, defBody st_Came_class_name, defScope st_Came_class_name, [], []⟩
def d_Made_class_name : He.DefD := ⟨(("Made" : Str), some ("class_name" : Str)), ("class_name" : Str), ("Made.class_name" : Str), defArgs st_Made_class_name, defBody st_Made_class_name, defScope st_Made_class_name, [], []⟩
def d_Done_class_name : He.DefD := ⟨(("Done" : Str), some ("class_name" : Str)), ("class_name" : Str), ("Done.class_name" : Str), defArgs st_Done_class_name, defBody st_Done_class_name, defScope st_Done_class_name, [], []⟩
def d_Move_class_name : He.DefD := ⟨(("Move" : Str), some ("class_name" : Str)), ("class_name" : Str), ("Move.class_name" : Str), defArgs st_Move_class_name, defBody st_Move_class_name, defScope st_Move_class_name, [], []⟩
def d_Take_class_name : He.DefD := ⟨(("Take" : Str), some ("class_name" : Str)), ("class_name" : Str), ("Take.class_name" : Str), defArgs st_Take_class_name, defBody st_Take_class_name, defScope st_Take_class_name, [], []⟩
def d_Put_class_name : He.DefD := ⟨(("Put" : Str), some ("class_name" : Str)), ("class_name" : Str), ("Put.class_name" : Str), defArgs st_Put_class_name, defBody st_Put_class_name, defScope st_Put_class_name, [], []⟩
def d_MakeLink_class_name : He.DefD := ⟨(("MakeLink" : Str), some ("class_name" : Str)), ("class_name" : Str), ("MakeLink.class_name" : Str), defArgs st_MakeLink_class_name, defBody st_MakeLink_class_name, defScope st_MakeLink_class_name, [], []⟩
def d_MakeFile_class_name : He.DefD := ⟨(("MakeFile" : Str), some ("class_name" : Str)), ("class_name" : Str), ("MakeFile.class_name" : Str), defArgs st_MakeFile_class_name, defBody st_MakeFile_class_name, defScope st_MakeFile_class_name, [], []⟩
def d_MakeFolder_class_name : He.DefD := ⟨(("MakeFolder" : Str), some ("class_name" : Str)), ("class_name" : Str), ("MakeFolder.class_name" : Str), defArgs st_MakeFolder_class_name, defBody st_MakeFolder_class_name, defScope st_MakeFolder_class_name, [], []⟩
def d_Path_class_name : He.DefD := ⟨(("Path" : Str), some ("class_name" : Str)), ("class_name" : Str), ("Path.class_name" : Str), defArgs st_Path_class_name, defBody st_Path_class_name, defScope st_Path_class_name, [], []⟩
def d_Thing___eq__ : He.DefD := ⟨(("Thing" : Str), some ("__eq__" : Str)), ("__eq__" : Str), ("Thing.__eq__" : Str), defArgs st_Thing___eq__, defBody st_Thing___eq__, defScope st_Thing___eq__, [], []⟩
def d_Move___init__ : He.DefD := ⟨(("Move" : Str), some ("__init__" : Str)), ("__init__" : Str), ("Move.__init__" : Str), defArgs st_Move___init__, defBody st_Move___init__, defScope st_Move___init__, [], []⟩
def d_is_name : He.DefD := ⟨(("is_name" : Str), none), ("is_name" : Str), ("is_name" : Str), defArgs st_is_name, defBody st_is_name, defScope st_is_name, [], []⟩
def d_BadText___init__ : He.DefD := ⟨(("BadText" : Str), some ("__init__" : Str)), ("__init__" : Str), ("BadText.__init__" : Str), defArgs st_BadText___init__, defBody st_BadText___init__, defScope st_BadText___init__, [], []⟩
def d_asked_name : He.DefD := ⟨(("asked_name" : Str), none), ("asked_name" : Str), ("asked_name" : Str), defArgs st_asked_name, defBody st_asked_name, defScope st_asked_name, [], []⟩
def d_MakeLink___init__ : He.DefD := ⟨(("MakeLink" : Str), some ("__init__" : Str)), ("__init__" : Str), ("MakeLink.__init__" : Str), defArgs st_MakeLink___init__, defBody st_MakeLink___init__, defScope st_MakeLink___init__, [], []⟩
def d_Path___init__ : He.DefD := ⟨(("Path" : Str), some ("__init__" : Str)), ("__init__" : Str), ("Path.__init__" : Str), defArgs st_Path___init__, defBody st_Path___init__, defScope st_Path___init__, [], []⟩
def d_read_path : He.DefD := ⟨(("read_path" : Str), none), ("read_path" : Str), ("read_path" : Str), defArgs st_read_path, defBody st_read_path, defScope st_read_path, [], []⟩
def d_is_path_text : He.DefD := ⟨(("is_path_text" : Str), none), ("is_path_text" : Str), ("is_path_text" : Str), defArgs st_is_path_text, defBody st_is_path_text, defScope st_is_path_text, [], []⟩
def d_asked_path : He.DefD := ⟨(("asked_path" : Str), none), ("asked_path" : Str), ("asked_path" : Str), defArgs st_asked_path, defBody st_asked_path, defScope st_asked_path, [], []⟩
def d_read_number : He.DefD := ⟨(("read_number" : Str), none), ("read_number" : Str), ("read_number" : Str), defArgs st_read_number, defBody st_read_number, defScope st_read_number, [], []⟩
def d_Take___init__ : He.DefD := ⟨(("Take" : Str), some ("__init__" : Str)), ("__init__" : Str), ("Take.__init__" : Str), defArgs st_Take___init__, defBody st_Take___init__, defScope st_Take___init__, [], []⟩
def d_MakeFile___init__ : He.DefD := ⟨(("MakeFile" : Str), some ("__init__" : Str)), ("__init__" : Str), ("MakeFile.__init__" : Str), defArgs st_MakeFile___init__, defBody st_MakeFile___init__, defScope st_MakeFile___init__, [], []⟩
def d_Put___init__ : He.DefD := ⟨(("Put" : Str), some ("__init__" : Str)), ("__init__" : Str), ("Put.__init__" : Str), defArgs st_Put___init__, defBody st_Put___init__, defScope st_Put___init__, [], []⟩
def d_MakeFolder___init__ : He.DefD := ⟨(("MakeFolder" : Str), some ("__init__" : Str)), ("__init__" : Str), ("MakeFolder.__init__" : Str), defArgs st_MakeFolder___init__, defBody st_MakeFolder___init__, defScope st_MakeFolder___init__, [], []⟩
def d_read_making : He.DefD := ⟨(("read_making" : Str), none), ("read_making" : Str), ("read_making" : Str), defArgs st_read_making, defBody st_read_making, defScope st_read_making, [], []⟩
def d_read_deed : He.DefD := ⟨(("read_deed" : Str), none), ("read_deed" : Str), ("read_deed" : Str), defArgs st_read_deed, defBody st_read_deed, defScope st_read_deed, [], []⟩
def d_read_row : He.DefD := ⟨(("read_row" : Str), none), ("read_row" : Str), ("read_row" : Str), defArgs st_read_row, defBody st_read_row, defScope st_read_row, [], []⟩
def d_deed_text : He.DefD := ⟨(("deed_text" : Str), none), ("deed_text" : Str), ("deed_text" : Str), defArgs st_deed_text, defBody st_deed_text, defScope st_deed_text, [], []⟩
def d_row_text : He.DefD := ⟨(("row_text" : Str), none), ("row_text" : Str), ("row_text" : Str), defArgs st_row_text, defBody st_row_text, defScope st_row_text, [], []⟩
def d_result_text : He.DefD := ⟨(("result_text" : Str), none), ("result_text" : Str), ("result_text" : Str), defArgs st_result_text, defBody st_result_text, defScope st_result_text, [], []⟩
def d_Refused___init__ : He.DefD := ⟨(("Refused" : Str), some ("__init__" : Str)), ("__init__" : Str), ("Refused.__init__" : Str), defArgs st_Refused___init__, defBody st_Refused___init__, defScope st_Refused___init__, [], []⟩
def d_New___init__ : He.DefD := ⟨(("New" : Str), some ("__init__" : Str)), ("__init__" : Str), ("New.__init__" : Str), defArgs st_New___init__, defBody st_New___init__, defScope st_New___init__, [], []⟩
def d_Made___init__ : He.DefD := ⟨(("Made" : Str), some ("__init__" : Str)), ("__init__" : Str), ("Made.__init__" : Str), defArgs st_Made___init__, defBody st_Made___init__, defScope st_Made___init__, [], []⟩
def d_Came___init__ : He.DefD := ⟨(("Came" : Str), some ("__init__" : Str)), ("__init__" : Str), ("Came.__init__" : Str), defArgs st_Came___init__, defBody st_Came___init__, defScope st_Came___init__, [], []⟩
def d__law_draw : He.DefD := ⟨(("_law_draw" : Str), none), ("_law_draw" : Str), ("_law_draw" : Str), defArgs st__law_draw, defBody st__law_draw, defScope st__law_draw, [], []⟩
def d__law_results_right : He.DefD := ⟨(("_law_results_right" : Str), none), ("_law_results_right" : Str), ("_law_results_right" : Str), defArgs st__law_results_right, defBody st__law_results_right, defScope st__law_results_right, [], []⟩
def d__law_deed : He.DefD := ⟨(("_law_deed" : Str), none), ("_law_deed" : Str), ("_law_deed" : Str), defArgs st__law_deed, defBody st__law_deed, defScope st__law_deed, [], []⟩
def d__law_pick : He.DefD := ⟨(("_law_pick" : Str), none), ("_law_pick" : Str), ("_law_pick" : Str), defArgs st__law_pick, defBody st__law_pick, defScope st__law_pick, [], []⟩
def d__law_deed_row : He.DefD := ⟨(("_law_deed_row" : Str), none), ("_law_deed_row" : Str), ("_law_deed_row" : Str), defArgs st__law_deed_row, defBody st__law_deed_row, defScope st__law_deed_row, [], []⟩
def d__law_source : He.DefD := ⟨(("_law_source" : Str), none), ("_law_source" : Str), ("_law_source" : Str), defArgs st__law_source, defBody st__law_source, defScope st__law_source, [], []⟩
def d_law : He.DefD := ⟨(("law" : Str), none), ("law" : Str), ("law" : Str), defArgs st_law, defBody st_law, defScope st_law, [], []⟩
def fa_0 : List He.Fa := [.meth ("Thing" : Str) ("facts" : Str),
  .cls ("Thing" : Str),
  .meth ("New" : Str) ("facts" : Str),
  .cls ("New" : Str),
  .meth ("Refused" : Str) ("facts" : Str),
  .cls ("Refused" : Str),
  .meth ("Came" : Str) ("facts" : Str),
  .cls ("Came" : Str),
  .meth ("Made" : Str) ("facts" : Str),
  .cls ("Made" : Str),
  .meth ("Move" : Str) ("facts" : Str),
  .cls ("Move" : Str),
  .meth ("Take" : Str) ("facts" : Str),
  .cls ("Take" : Str),
  .meth ("Put" : Str) ("facts" : Str),
  .cls ("Put" : Str),
  .meth ("MakeLink" : Str) ("facts" : Str),
  .cls ("MakeLink" : Str),
  .meth ("MakeFile" : Str) ("facts" : Str),
  .cls ("MakeFile" : Str),
  .meth ("MakeFolder" : Str) ("facts" : Str),
  .cls ("MakeFolder" : Str),
  .meth ("Path" : Str) ("facts" : Str),
  .cls ("Path" : Str),
  .meth ("Thing" : Str) ("class_name" : Str),
  .meth ("New" : Str) ("class_name" : Str),
  .meth ("Refused" : Str) ("class_name" : Str),
  .meth ("Came" : Str) ("class_name" : Str),
  .meth ("Made" : Str) ("class_name" : Str),
  .meth ("Done" : Str) ("class_name" : Str),
  .cls ("Done" : Str),
  .meth ("Move" : Str) ("class_name" : Str),
  .meth ("Take" : Str) ("class_name" : Str),
  .meth ("Put" : Str) ("class_name" : Str),
  .meth ("MakeLink" : Str) ("class_name" : Str),
  .meth ("MakeFile" : Str) ("class_name" : Str),
  .meth ("MakeFolder" : Str) ("class_name" : Str),
  .meth ("Path" : Str) ("class_name" : Str),
  .free ("isinstance" : Str),
  .glo ("Thing" : Str),
  .str ("BETWEEN_DEEDS" : Str) (", " : Str),
  .free ("enumerate" : Str),
  .mkr ("Move" : Str),
  .glo ("Move" : Str),
  .str ("LETTERS" : Str) ("abcdefghijklmnopqrstuvwxyz0123456789_-." : Str),
  .free ("all" : Str),
  .str ("UP" : Str) (".." : Str),
  .str ("HERE" : Str) ("." : Str),
  .free ("len" : Str),
  .int ("MOST_LETTERS" : Str) 12,
  .free ("str" : Str),
  .glo ("is_name" : Str),
  .glo ("BadText" : Str),
  .glo ("asked_name" : Str),
  .mkr ("MakeLink" : Str),
  .glo ("MakeLink" : Str),
  .glo ("NoPath" : Str),
  .exc ("NoPath" : Str),
  .free ("tuple" : Str),
  .mkr ("Path" : Str)]
def fa_1 : List He.Fa := [.glo ("Path" : Str),
  .glo ("read_path" : Str),
  .glo ("is_path_text" : Str),
  .glo ("asked_path" : Str),
  .free ("int" : Str),
  .str ("FIGURES" : Str) ("0123456789" : Str),
  .int ("MOST_FIGURES" : Str) 9,
  .glo ("read_number" : Str),
  .mkr ("Take" : Str),
  .glo ("Take" : Str),
  .mkr ("MakeFile" : Str),
  .glo ("MakeFile" : Str),
  .mkr ("Put" : Str),
  .glo ("Put" : Str),
  .mkr ("MakeFolder" : Str),
  .glo ("MakeFolder" : Str),
  .glo ("read_making" : Str),
  .glo ("read_deed" : Str),
  .str ("NOTHING" : Str) ("nothing" : Str),
  .glo ("read_row" : Str),
  .glo ("deed_text" : Str),
  .glo ("row_text" : Str),
  .free ("min" : Str),
  .free ("max" : Str),
  .free ("range" : Str),
  .glo ("Made" : Str),
  .glo ("Refused" : Str),
  .glo ("New" : Str),
  .glo ("Came" : Str),
  .glo ("result_text" : Str),
  .mkr ("Refused" : Str),
  .mkr ("New" : Str),
  .mkr ("Made" : Str),
  .glo ("Done" : Str),
  .mkr ("Came" : Str),
  .glo ("_law_draw" : Str),
  .glo ("_law_results_right" : Str),
  .free ("list" : Str),
  .glo ("_law_deed" : Str),
  .glo ("_law_pick" : Str),
  .glo ("_law_deed_row" : Str),
  .free ("abs" : Str),
  .glo ("_law_source" : Str),
  .glo ("law" : Str)]
def ck_0 : List Ck := [.fld ("kind" : Str) [("New" : Str)],
  .fld ("why" : Str) [("Refused" : Str)],
  .fld ("node" : Str) [("Put" : Str), ("Came" : Str)],
  .fld ("call" : Str) [("Made" : Str)],
  .fld ("process" : Str) [("Made" : Str)],
  .fld ("other" : Str) [("Move" : Str)],
  .fld ("goal" : Str) [("Move" : Str)],
  .fld ("name" : Str) [("MakeFolder" : Str), ("MakeFile" : Str), ("MakeLink" : Str), ("Put" : Str), ("Take" : Str), ("Move" : Str)],
  .fld ("folder" : Str) [("Path" : Str), ("MakeFolder" : Str), ("MakeFile" : Str), ("MakeLink" : Str), ("Put" : Str), ("Take" : Str), ("Move" : Str)],
  .fld ("text" : Str) [("MakeLink" : Str)],
  .fld ("owner" : Str) [("MakeFolder" : Str), ("MakeFile" : Str), ("MakeLink" : Str)],
  .fld ("absolute" : Str) [("Path" : Str)],
  .fld ("steps" : Str) [("Path" : Str)],
  .isi tys isi_Thing [Cl.gl ("Thing" : Str)]]
def ck_1 : List Ck := [.tys tys,
  .isi tys isi_str [Cl.ty "str"],
  .oex ("BadText" : Str) [("place" : Str)],
  .fnT ("BadText" : Str) ("__init__" : Str),
  .exm ("BadText" : Str) [(("WalkError" : Str), false), (("BadText" : Str), true), (("NoPath" : Str), false)],
  .isi tys isi_Take [Cl.gl ("Take" : Str)],
  .isi tys isi_Put [Cl.gl ("Put" : Str)],
  .isi tys isi_MakeLink [Cl.gl ("MakeLink" : Str)],
  .isi tys isi_MakeFile [Cl.gl ("MakeFile" : Str)],
  .isi tys isi_MakeFolder [Cl.gl ("MakeFolder" : Str)],
  .isi tys isi_Made [Cl.gl ("Made" : Str)],
  .isi tys isi_Refused [Cl.gl ("Refused" : Str)],
  .isi tys isi_New [Cl.gl ("New" : Str)],
  .isi tys isi_Came [Cl.gl ("Came" : Str)]]
def ck_2 : List Ck := [.mko ("Done" : Str),
  .isi tys isi_list [Cl.ty "list"],
  .dist eqcs,
  .eqc ("Thing" : Str) tys eqcs]
def fn_0 : List He.DefD := [d_Thing_facts, d_New_facts, d_Refused_facts, d_Came_facts, d_Made_facts, d_Move_facts, d_Take_facts, d_Put_facts, d_MakeLink_facts, d_MakeFile_facts, d_MakeFolder_facts, d_Path_facts, d_Thing_class_name, d_New_class_name, d_Refused_class_name, d_Came_class_name, d_Made_class_name, d_Done_class_name, d_Move_class_name, d_Take_class_name, d_Put_class_name, d_MakeLink_class_name, d_MakeFile_class_name, d_MakeFolder_class_name, d_Path_class_name, d_Thing___eq__, d_Move___init__, d_is_name, d_BadText___init__, d_asked_name, d_MakeLink___init__, d_Path___init__, d_read_path, d_is_path_text, d_asked_path, d_read_number, d_Take___init__, d_MakeFile___init__, d_Put___init__, d_MakeFolder___init__]
def fn_1 : List He.DefD := [d_read_making, d_read_deed, d_read_row, d_deed_text, d_row_text, d_result_text, d_Refused___init__, d_New___init__, d_Made___init__, d_Came___init__, d__law_draw, d__law_results_right, d__law_deed, d__law_pick, d__law_deed_row, d__law_source, d_law]
def fa : List He.Fa := List.flatten [fa_0, fa_1]
def ck : List Ck := List.flatten [ck_0, ck_1, ck_2]
def fn : List He.DefD := List.flatten [fn_0, fn_1]
abbrev hk : PySem.W.Hook := hookS fa ck fn
def ob (s : PySem.W.SharedT) : He.AlD := obsSG fa ck fn (HandSHeadRun.getT s)
theorem ob_eq (s : PySem.W.SharedT) : ob s = hk.obs s.abs := obsSG_eq (HandSHeadRun.getT_eq s)
end Law
end Nw

set_option Elab.async false
set_option linter.all false
set_option maxRecDepth 100000
set_option maxHeartbeats 0
namespace Nw
namespace Law
open PySem PySem.Spec
open PyProof.Rows hiding St
open L2
theorem run1 (w : World) (os : OsState) : (ER w os).map (asqF fa) = some true := by
  kernel_rfl
theorem run2 (w : World) (os : OsState) : (ER w os).map (asqC ck) = some true := by
  kernel_rfl
theorem run3 (w : World) (os : OsState) : (ER w os).map (asqD fn) = some (He.valD fn) := by
  kernel_rfl
theorem run (w : World) : HandSHeadRun.RunEq R Qtop hk ob 9000 loose w := by
  intro os
  exact run_join4 (run0 w os) (run1 w os) (run2 w os) (run3 w os)
end Law
end Nw

set_option Elab.async false
set_option linter.all false
set_option maxRecDepth 100000
set_option maxHeartbeats 4000000
namespace Nw
namespace Law
open PySem PySem.Spec
open PyProof.Rows hiding St
open L2
structure Fx (K : Frag) (mg : Str → Option Value) : Prop where
  mt_Thing_facts : Meth K (He.ga K ("Thing" : Str)) ("facts" : Str) (He.ma K (He.ga K ("Thing" : Str)) ("facts" : Str))
  cl_Thing : Cls K (He.ga K ("Thing" : Str))
  fld_kind : FldOk K ("kind" : Str) [("New" : Str)]
  mt_New_facts : Meth K (He.ga K ("New" : Str)) ("facts" : Str) (He.ma K (He.ga K ("New" : Str)) ("facts" : Str))
  cl_New : Cls K (He.ga K ("New" : Str))
  fld_why : FldOk K ("why" : Str) [("Refused" : Str)]
  mt_Refused_facts : Meth K (He.ga K ("Refused" : Str)) ("facts" : Str) (He.ma K (He.ga K ("Refused" : Str)) ("facts" : Str))
  cl_Refused : Cls K (He.ga K ("Refused" : Str))
  fld_node : FldOk K ("node" : Str) [("Put" : Str), ("Came" : Str)]
  mt_Came_facts : Meth K (He.ga K ("Came" : Str)) ("facts" : Str) (He.ma K (He.ga K ("Came" : Str)) ("facts" : Str))
  cl_Came : Cls K (He.ga K ("Came" : Str))
  fld_call : FldOk K ("call" : Str) [("Made" : Str)]
  fld_process : FldOk K ("process" : Str) [("Made" : Str)]
  mt_Made_facts : Meth K (He.ga K ("Made" : Str)) ("facts" : Str) (He.ma K (He.ga K ("Made" : Str)) ("facts" : Str))
  cl_Made : Cls K (He.ga K ("Made" : Str))
  fld_other : FldOk K ("other" : Str) [("Move" : Str)]
  fld_goal : FldOk K ("goal" : Str) [("Move" : Str)]
  fld_name : FldOk K ("name" : Str) [("MakeFolder" : Str), ("MakeFile" : Str), ("MakeLink" : Str), ("Put" : Str), ("Take" : Str), ("Move" : Str)]
  fld_folder : FldOk K ("folder" : Str) [("Path" : Str), ("MakeFolder" : Str), ("MakeFile" : Str), ("MakeLink" : Str), ("Put" : Str), ("Take" : Str), ("Move" : Str)]
  mt_Move_facts : Meth K (He.ga K ("Move" : Str)) ("facts" : Str) (He.ma K (He.ga K ("Move" : Str)) ("facts" : Str))
  cl_Move : Cls K (He.ga K ("Move" : Str))
  mt_Take_facts : Meth K (He.ga K ("Take" : Str)) ("facts" : Str) (He.ma K (He.ga K ("Take" : Str)) ("facts" : Str))
  cl_Take : Cls K (He.ga K ("Take" : Str))
  mt_Put_facts : Meth K (He.ga K ("Put" : Str)) ("facts" : Str) (He.ma K (He.ga K ("Put" : Str)) ("facts" : Str))
  cl_Put : Cls K (He.ga K ("Put" : Str))
  fld_text : FldOk K ("text" : Str) [("MakeLink" : Str)]
  fld_owner : FldOk K ("owner" : Str) [("MakeFolder" : Str), ("MakeFile" : Str), ("MakeLink" : Str)]
  mt_MakeLink_facts : Meth K (He.ga K ("MakeLink" : Str)) ("facts" : Str) (He.ma K (He.ga K ("MakeLink" : Str)) ("facts" : Str))
  cl_MakeLink : Cls K (He.ga K ("MakeLink" : Str))
  mt_MakeFile_facts : Meth K (He.ga K ("MakeFile" : Str)) ("facts" : Str) (He.ma K (He.ga K ("MakeFile" : Str)) ("facts" : Str))
  cl_MakeFile : Cls K (He.ga K ("MakeFile" : Str))
  mt_MakeFolder_facts : Meth K (He.ga K ("MakeFolder" : Str)) ("facts" : Str) (He.ma K (He.ga K ("MakeFolder" : Str)) ("facts" : Str))
  cl_MakeFolder : Cls K (He.ga K ("MakeFolder" : Str))
  fld_absolute : FldOk K ("absolute" : Str) [("Path" : Str)]
  fld_steps : FldOk K ("steps" : Str) [("Path" : Str)]
  mt_Path_facts : Meth K (He.ga K ("Path" : Str)) ("facts" : Str) (He.ma K (He.ga K ("Path" : Str)) ("facts" : Str))
  cl_Path : Cls K (He.ga K ("Path" : Str))
  mt_Thing_class_name : Meth K (He.ga K ("Thing" : Str)) ("class_name" : Str) (He.ma K (He.ga K ("Thing" : Str)) ("class_name" : Str))
  mt_New_class_name : Meth K (He.ga K ("New" : Str)) ("class_name" : Str) (He.ma K (He.ga K ("New" : Str)) ("class_name" : Str))
  mt_Refused_class_name : Meth K (He.ga K ("Refused" : Str)) ("class_name" : Str) (He.ma K (He.ga K ("Refused" : Str)) ("class_name" : Str))
  mt_Came_class_name : Meth K (He.ga K ("Came" : Str)) ("class_name" : Str) (He.ma K (He.ga K ("Came" : Str)) ("class_name" : Str))
  mt_Made_class_name : Meth K (He.ga K ("Made" : Str)) ("class_name" : Str) (He.ma K (He.ga K ("Made" : Str)) ("class_name" : Str))
  mt_Done_class_name : Meth K (He.ga K ("Done" : Str)) ("class_name" : Str) (He.ma K (He.ga K ("Done" : Str)) ("class_name" : Str))
  cl_Done : Cls K (He.ga K ("Done" : Str))
  mt_Move_class_name : Meth K (He.ga K ("Move" : Str)) ("class_name" : Str) (He.ma K (He.ga K ("Move" : Str)) ("class_name" : Str))
  mt_Take_class_name : Meth K (He.ga K ("Take" : Str)) ("class_name" : Str) (He.ma K (He.ga K ("Take" : Str)) ("class_name" : Str))
  mt_Put_class_name : Meth K (He.ga K ("Put" : Str)) ("class_name" : Str) (He.ma K (He.ga K ("Put" : Str)) ("class_name" : Str))
  mt_MakeLink_class_name : Meth K (He.ga K ("MakeLink" : Str)) ("class_name" : Str) (He.ma K (He.ga K ("MakeLink" : Str)) ("class_name" : Str))
  mt_MakeFile_class_name : Meth K (He.ga K ("MakeFile" : Str)) ("class_name" : Str) (He.ma K (He.ga K ("MakeFile" : Str)) ("class_name" : Str))
  mt_MakeFolder_class_name : Meth K (He.ga K ("MakeFolder" : Str)) ("class_name" : Str) (He.ma K (He.ga K ("MakeFolder" : Str)) ("class_name" : Str))
  mt_Path_class_name : Meth K (He.ga K ("Path" : Str)) ("class_name" : Str) (He.ma K (He.ga K ("Path" : Str)) ("class_name" : Str))
  isi_Thing : IsiOk K tys isi_Thing [Cl.gl ("Thing" : Str)]
  f_isinstance : mg ("isinstance" : Str) = none
  g_Thing : mg ("Thing" : Str) = some (.ref (He.ga K ("Thing" : Str)))
  s_BETWEEN_DEEDS : ∃ t, mg ("BETWEEN_DEEDS" : Str) = some (.str (", " : Str) t)
  f_enumerate : mg ("enumerate" : Str) = none
  mk_Move : Mk K (He.ga K ("Move" : Str)) (He.ma K (He.ga K ("Move" : Str)) "__init__")
  g_Move : mg ("Move" : Str) = some (.ref (He.ga K ("Move" : Str)))
  s_LETTERS : ∃ t, mg ("LETTERS" : Str) = some (.str ("abcdefghijklmnopqrstuvwxyz0123456789_-." : Str) t)
  f_all : mg ("all" : Str) = none
  s_UP : ∃ t, mg ("UP" : Str) = some (.str (".." : Str) t)
  s_HERE : ∃ t, mg ("HERE" : Str) = some (.str ("." : Str) t)
  f_len : mg ("len" : Str) = none
  i_MOST_LETTERS : ∃ t, mg ("MOST_LETTERS" : Str) = some (.int 12 t)
  isi_str : IsiOk K tys isi_str [Cl.ty "str"]
  f_str : mg ("str" : Str) = none
  g_is_name : mg ("is_name" : Str) = some (.ref (He.ga K ("is_name" : Str)))
  oex_BadText : OexC K (He.ga K ("BadText" : Str)) ∧ PySem.W.findIn K (.ref (He.ga K ("BadText" : Str))) ("place" : Str) = some none
  fnt_BadText : PySem.W.findIn K (.ref (He.ga K ("BadText" : Str))) "__init__" = some (some (.ref (He.ma K (He.ga K ("BadText" : Str)) "__init__"))) ∧ PySem.W.typeIn K (.ref (He.ma K (He.ga K ("BadText" : Str)) "__init__")) = some (.type "function")
  g_BadText : mg ("BadText" : Str) = some (.ref (He.ga K ("BadText" : Str)))
  g_asked_name : mg ("asked_name" : Str) = some (.ref (He.ga K ("asked_name" : Str)))
  mk_MakeLink : Mk K (He.ga K ("MakeLink" : Str)) (He.ma K (He.ga K ("MakeLink" : Str)) "__init__")
  g_MakeLink : mg ("MakeLink" : Str) = some (.ref (He.ga K ("MakeLink" : Str)))
  x0_NoPath : Exc0 K mg ("NoPath" : Str)
  f_tuple : mg ("tuple" : Str) = none
  mk_Path : Mk K (He.ga K ("Path" : Str)) (He.ma K (He.ga K ("Path" : Str)) "__init__")
  g_Path : mg ("Path" : Str) = some (.ref (He.ga K ("Path" : Str)))
  g_read_path : mg ("read_path" : Str) = some (.ref (He.ga K ("read_path" : Str)))
  xm_BadText : ExmOk K ("BadText" : Str) [(("WalkError" : Str), false), (("BadText" : Str), true), (("NoPath" : Str), false)]
  g_is_path_text : mg ("is_path_text" : Str) = some (.ref (He.ga K ("is_path_text" : Str)))
  g_asked_path : mg ("asked_path" : Str) = some (.ref (He.ga K ("asked_path" : Str)))
  f_int : mg ("int" : Str) = none
  s_FIGURES : ∃ t, mg ("FIGURES" : Str) = some (.str ("0123456789" : Str) t)
  i_MOST_FIGURES : ∃ t, mg ("MOST_FIGURES" : Str) = some (.int 9 t)
  g_read_number : mg ("read_number" : Str) = some (.ref (He.ga K ("read_number" : Str)))
  mk_Take : Mk K (He.ga K ("Take" : Str)) (He.ma K (He.ga K ("Take" : Str)) "__init__")
  g_Take : mg ("Take" : Str) = some (.ref (He.ga K ("Take" : Str)))
  mk_MakeFile : Mk K (He.ga K ("MakeFile" : Str)) (He.ma K (He.ga K ("MakeFile" : Str)) "__init__")
  g_MakeFile : mg ("MakeFile" : Str) = some (.ref (He.ga K ("MakeFile" : Str)))
  mk_Put : Mk K (He.ga K ("Put" : Str)) (He.ma K (He.ga K ("Put" : Str)) "__init__")
  g_Put : mg ("Put" : Str) = some (.ref (He.ga K ("Put" : Str)))
  mk_MakeFolder : Mk K (He.ga K ("MakeFolder" : Str)) (He.ma K (He.ga K ("MakeFolder" : Str)) "__init__")
  g_MakeFolder : mg ("MakeFolder" : Str) = some (.ref (He.ga K ("MakeFolder" : Str)))
  g_read_making : mg ("read_making" : Str) = some (.ref (He.ga K ("read_making" : Str)))
  g_read_deed : mg ("read_deed" : Str) = some (.ref (He.ga K ("read_deed" : Str)))
  s_NOTHING : ∃ t, mg ("NOTHING" : Str) = some (.str ("nothing" : Str) t)
  g_read_row : mg ("read_row" : Str) = some (.ref (He.ga K ("read_row" : Str)))
  isi_Take : IsiOk K tys isi_Take [Cl.gl ("Take" : Str)]
  isi_Put : IsiOk K tys isi_Put [Cl.gl ("Put" : Str)]
  isi_MakeLink : IsiOk K tys isi_MakeLink [Cl.gl ("MakeLink" : Str)]
  isi_MakeFile : IsiOk K tys isi_MakeFile [Cl.gl ("MakeFile" : Str)]
  isi_MakeFolder : IsiOk K tys isi_MakeFolder [Cl.gl ("MakeFolder" : Str)]
  g_deed_text : mg ("deed_text" : Str) = some (.ref (He.ga K ("deed_text" : Str)))
  g_row_text : mg ("row_text" : Str) = some (.ref (He.ga K ("row_text" : Str)))
  f_min : mg ("min" : Str) = none
  f_max : mg ("max" : Str) = none
  f_range : mg ("range" : Str) = none
  isi_Made : IsiOk K tys isi_Made [Cl.gl ("Made" : Str)]
  g_Made : mg ("Made" : Str) = some (.ref (He.ga K ("Made" : Str)))
  isi_Refused : IsiOk K tys isi_Refused [Cl.gl ("Refused" : Str)]
  g_Refused : mg ("Refused" : Str) = some (.ref (He.ga K ("Refused" : Str)))
  isi_New : IsiOk K tys isi_New [Cl.gl ("New" : Str)]
  g_New : mg ("New" : Str) = some (.ref (He.ga K ("New" : Str)))
  isi_Came : IsiOk K tys isi_Came [Cl.gl ("Came" : Str)]
  g_Came : mg ("Came" : Str) = some (.ref (He.ga K ("Came" : Str)))
  g_result_text : mg ("result_text" : Str) = some (.ref (He.ga K ("result_text" : Str)))
  mk_Refused : Mk K (He.ga K ("Refused" : Str)) (He.ma K (He.ga K ("Refused" : Str)) "__init__")
  mk_New : Mk K (He.ga K ("New" : Str)) (He.ma K (He.ga K ("New" : Str)) "__init__")
  mk_Made : Mk K (He.ga K ("Made" : Str)) (He.ma K (He.ga K ("Made" : Str)) "__init__")
  mko_Done : MkO K (He.ga K ("Done" : Str))
  g_Done : mg ("Done" : Str) = some (.ref (He.ga K ("Done" : Str)))
  mk_Came : Mk K (He.ga K ("Came" : Str)) (He.ma K (He.ga K ("Came" : Str)) "__init__")
  g__law_draw : mg ("_law_draw" : Str) = some (.ref (He.ga K ("_law_draw" : Str)))
  g__law_results_right : mg ("_law_results_right" : Str) = some (.ref (He.ga K ("_law_results_right" : Str)))
  isi_list : IsiOk K tys isi_list [Cl.ty "list"]
  f_list : mg ("list" : Str) = none
  g__law_deed : mg ("_law_deed" : Str) = some (.ref (He.ga K ("_law_deed" : Str)))
  g__law_pick : mg ("_law_pick" : Str) = some (.ref (He.ga K ("_law_pick" : Str)))
  g__law_deed_row : mg ("_law_deed_row" : Str) = some (.ref (He.ga K ("_law_deed_row" : Str)))
  f_abs : mg ("abs" : Str) = none
  g__law_source : mg ("_law_source" : Str) = some (.ref (He.ga K ("_law_source" : Str)))
  g_law : mg ("law" : Str) = some (.ref (He.ga K ("law" : Str)))
section
variable {P : Program} {w : World} {K : Frag} {mg : Str → Option Value} {base : Heap}
/-! Thing.facts -/
theorem sc_Thing_facts : FnScope [("self" : Str)] [("self" : Str)] (defScope st_Thing_facts) := ⟨rfl, rfl, rfl, by decide +kernel, rfl, by decide +kernel, by decide +kernel⟩
noncomputable def mb_Thing_facts : MS :=
  (mRet (mTup mNil))
noncomputable def m_Thing_facts : MF := mkFn 1 1 mb_Thing_facts
theorem ok_Thing_facts (T : Fx K mg)  {fd : FuncData} (F : FunD K ("facts" : Str) ("Thing.facts" : Str) (defArgs st_Thing_facts) (defBody st_Thing_facts) (defScope st_Thing_facts) [] [] (He.ma K (He.ga K ("Thing" : Str)) ("facts" : Str)) fd) : MtOk P w K mg base 1 ("facts" : Str) ("Thing" : Str) m_Thing_facts := by
  have G : FnOk P w K mg base (L2.CX P w) 1 (He.ma K (He.ga K ("Thing" : Str)) ("facts" : Str)) fd [("self" : Str)] (spOf K m_Thing_facts) := fn_ok F sc_Thing_facts (fun cdv A outer s H E hr tk hp =>
    (dss_one (ds_ret (de_tup da_nil))))
  exact ⟨T.cl_Thing, fd, [("self" : Str)], T.mt_Thing_facts, G, F.bindsN fun _ _ _ _ _ _ us hl => match us, hl with | [_], _ => rfl⟩
/-! New.facts -/
theorem sc_New_facts : FnScope [("self" : Str)] [("self" : Str)] (defScope st_New_facts) := ⟨rfl, rfl, rfl, by decide +kernel, rfl, by decide +kernel, by decide +kernel⟩
noncomputable def mb_New_facts : MS :=
  (mRet (mTup (mCons (mFld ("kind" : Str) [("New" : Str)] (mVar 0)) mNil)))
noncomputable def m_New_facts : MF := mkFn 1 1 mb_New_facts
theorem ok_New_facts (T : Fx K mg)  {fd : FuncData} (F : FunD K ("facts" : Str) ("New.facts" : Str) (defArgs st_New_facts) (defBody st_New_facts) (defScope st_New_facts) [] [] (He.ma K (He.ga K ("New" : Str)) ("facts" : Str)) fd) : MtOk P w K mg base 1 ("facts" : Str) ("New" : Str) m_New_facts := by
  have G : FnOk P w K mg base (L2.CX P w) 1 (He.ma K (He.ga K ("New" : Str)) ("facts" : Str)) fd [("self" : Str)] (spOf K m_New_facts) := fn_ok F sc_New_facts (fun cdv A outer s H E hr tk hp =>
    (dss_one (ds_ret (de_tup (da_cons (de_fld T.fld_kind (de_v 0)) da_nil)))))
  exact ⟨T.cl_New, fd, [("self" : Str)], T.mt_New_facts, G, F.bindsN fun _ _ _ _ _ _ us hl => match us, hl with | [_], _ => rfl⟩
/-! Refused.facts -/
theorem sc_Refused_facts : FnScope [("self" : Str)] [("self" : Str)] (defScope st_Refused_facts) := ⟨rfl, rfl, rfl, by decide +kernel, rfl, by decide +kernel, by decide +kernel⟩
noncomputable def mb_Refused_facts : MS :=
  (mRet (mTup (mCons (mFld ("why" : Str) [("Refused" : Str)] (mVar 0)) mNil)))
noncomputable def m_Refused_facts : MF := mkFn 1 1 mb_Refused_facts
theorem ok_Refused_facts (T : Fx K mg)  {fd : FuncData} (F : FunD K ("facts" : Str) ("Refused.facts" : Str) (defArgs st_Refused_facts) (defBody st_Refused_facts) (defScope st_Refused_facts) [] [] (He.ma K (He.ga K ("Refused" : Str)) ("facts" : Str)) fd) : MtOk P w K mg base 1 ("facts" : Str) ("Refused" : Str) m_Refused_facts := by
  have G : FnOk P w K mg base (L2.CX P w) 1 (He.ma K (He.ga K ("Refused" : Str)) ("facts" : Str)) fd [("self" : Str)] (spOf K m_Refused_facts) := fn_ok F sc_Refused_facts (fun cdv A outer s H E hr tk hp =>
    (dss_one (ds_ret (de_tup (da_cons (de_fld T.fld_why (de_v 0)) da_nil)))))
  exact ⟨T.cl_Refused, fd, [("self" : Str)], T.mt_Refused_facts, G, F.bindsN fun _ _ _ _ _ _ us hl => match us, hl with | [_], _ => rfl⟩
/-! Came.facts -/
theorem sc_Came_facts : FnScope [("self" : Str)] [("self" : Str)] (defScope st_Came_facts) := ⟨rfl, rfl, rfl, by decide +kernel, rfl, by decide +kernel, by decide +kernel⟩
noncomputable def mb_Came_facts : MS :=
  (mRet (mTup (mCons (mFld ("node" : Str) [("Put" : Str), ("Came" : Str)] (mVar 0)) mNil)))
noncomputable def m_Came_facts : MF := mkFn 1 1 mb_Came_facts
theorem ok_Came_facts (T : Fx K mg)  {fd : FuncData} (F : FunD K ("facts" : Str) ("Came.facts" : Str) (defArgs st_Came_facts) (defBody st_Came_facts) (defScope st_Came_facts) [] [] (He.ma K (He.ga K ("Came" : Str)) ("facts" : Str)) fd) : MtOk P w K mg base 1 ("facts" : Str) ("Came" : Str) m_Came_facts := by
  have G : FnOk P w K mg base (L2.CX P w) 1 (He.ma K (He.ga K ("Came" : Str)) ("facts" : Str)) fd [("self" : Str)] (spOf K m_Came_facts) := fn_ok F sc_Came_facts (fun cdv A outer s H E hr tk hp =>
    (dss_one (ds_ret (de_tup (da_cons (de_fld T.fld_node (de_v 0)) da_nil)))))
  exact ⟨T.cl_Came, fd, [("self" : Str)], T.mt_Came_facts, G, F.bindsN fun _ _ _ _ _ _ us hl => match us, hl with | [_], _ => rfl⟩
/-! Made.facts -/
theorem sc_Made_facts : FnScope [("self" : Str)] [("self" : Str)] (defScope st_Made_facts) := ⟨rfl, rfl, rfl, by decide +kernel, rfl, by decide +kernel, by decide +kernel⟩
noncomputable def mb_Made_facts : MS :=
  (mRet (mTup (mCons (mFld ("process" : Str) [("Made" : Str)] (mVar 0)) (mCons (mFld ("call" : Str) [("Made" : Str)] (mVar 0)) mNil))))
noncomputable def m_Made_facts : MF := mkFn 1 1 mb_Made_facts
theorem ok_Made_facts (T : Fx K mg)  {fd : FuncData} (F : FunD K ("facts" : Str) ("Made.facts" : Str) (defArgs st_Made_facts) (defBody st_Made_facts) (defScope st_Made_facts) [] [] (He.ma K (He.ga K ("Made" : Str)) ("facts" : Str)) fd) : MtOk P w K mg base 1 ("facts" : Str) ("Made" : Str) m_Made_facts := by
  have G : FnOk P w K mg base (L2.CX P w) 1 (He.ma K (He.ga K ("Made" : Str)) ("facts" : Str)) fd [("self" : Str)] (spOf K m_Made_facts) := fn_ok F sc_Made_facts (fun cdv A outer s H E hr tk hp =>
    (dss_one (ds_ret (de_tup (da_cons (de_fld T.fld_process (de_v 0)) (da_cons (de_fld T.fld_call (de_v 0)) da_nil))))))
  exact ⟨T.cl_Made, fd, [("self" : Str)], T.mt_Made_facts, G, F.bindsN fun _ _ _ _ _ _ us hl => match us, hl with | [_], _ => rfl⟩
/-! Move.facts -/
theorem sc_Move_facts : FnScope [("self" : Str)] [("self" : Str)] (defScope st_Move_facts) := ⟨rfl, rfl, rfl, by decide +kernel, rfl, by decide +kernel, by decide +kernel⟩
noncomputable def mb_Move_facts : MS :=
  (mRet (mTup (mCons (mFld ("folder" : Str) [("Path" : Str), ("MakeFolder" : Str), ("MakeFile" : Str), ("MakeLink" : Str), ("Put" : Str), ("Take" : Str), ("Move" : Str)] (mVar 0)) (mCons (mFld ("name" : Str) [("MakeFolder" : Str), ("MakeFile" : Str), ("MakeLink" : Str), ("Put" : Str), ("Take" : Str), ("Move" : Str)] (mVar 0)) (mCons (mFld ("goal" : Str) [("Move" : Str)] (mVar 0)) (mCons (mFld ("other" : Str) [("Move" : Str)] (mVar 0)) mNil))))))
noncomputable def m_Move_facts : MF := mkFn 1 1 mb_Move_facts
theorem ok_Move_facts (T : Fx K mg)  {fd : FuncData} (F : FunD K ("facts" : Str) ("Move.facts" : Str) (defArgs st_Move_facts) (defBody st_Move_facts) (defScope st_Move_facts) [] [] (He.ma K (He.ga K ("Move" : Str)) ("facts" : Str)) fd) : MtOk P w K mg base 1 ("facts" : Str) ("Move" : Str) m_Move_facts := by
  have G : FnOk P w K mg base (L2.CX P w) 1 (He.ma K (He.ga K ("Move" : Str)) ("facts" : Str)) fd [("self" : Str)] (spOf K m_Move_facts) := fn_ok F sc_Move_facts (fun cdv A outer s H E hr tk hp =>
    (dss_one (ds_ret (de_tup (da_cons (de_fld T.fld_folder (de_v 0)) (da_cons (de_fld T.fld_name (de_v 0)) (da_cons (de_fld T.fld_goal (de_v 0)) (da_cons (de_fld T.fld_other (de_v 0)) da_nil))))))))
  exact ⟨T.cl_Move, fd, [("self" : Str)], T.mt_Move_facts, G, F.bindsN fun _ _ _ _ _ _ us hl => match us, hl with | [_], _ => rfl⟩
/-! Take.facts -/
theorem sc_Take_facts : FnScope [("self" : Str)] [("self" : Str)] (defScope st_Take_facts) := ⟨rfl, rfl, rfl, by decide +kernel, rfl, by decide +kernel, by decide +kernel⟩
noncomputable def mb_Take_facts : MS :=
  (mRet (mTup (mCons (mFld ("folder" : Str) [("Path" : Str), ("MakeFolder" : Str), ("MakeFile" : Str), ("MakeLink" : Str), ("Put" : Str), ("Take" : Str), ("Move" : Str)] (mVar 0)) (mCons (mFld ("name" : Str) [("MakeFolder" : Str), ("MakeFile" : Str), ("MakeLink" : Str), ("Put" : Str), ("Take" : Str), ("Move" : Str)] (mVar 0)) mNil))))
noncomputable def m_Take_facts : MF := mkFn 1 1 mb_Take_facts
theorem ok_Take_facts (T : Fx K mg)  {fd : FuncData} (F : FunD K ("facts" : Str) ("Take.facts" : Str) (defArgs st_Take_facts) (defBody st_Take_facts) (defScope st_Take_facts) [] [] (He.ma K (He.ga K ("Take" : Str)) ("facts" : Str)) fd) : MtOk P w K mg base 1 ("facts" : Str) ("Take" : Str) m_Take_facts := by
  have G : FnOk P w K mg base (L2.CX P w) 1 (He.ma K (He.ga K ("Take" : Str)) ("facts" : Str)) fd [("self" : Str)] (spOf K m_Take_facts) := fn_ok F sc_Take_facts (fun cdv A outer s H E hr tk hp =>
    (dss_one (ds_ret (de_tup (da_cons (de_fld T.fld_folder (de_v 0)) (da_cons (de_fld T.fld_name (de_v 0)) da_nil))))))
  exact ⟨T.cl_Take, fd, [("self" : Str)], T.mt_Take_facts, G, F.bindsN fun _ _ _ _ _ _ us hl => match us, hl with | [_], _ => rfl⟩
/-! Put.facts -/
theorem sc_Put_facts : FnScope [("self" : Str)] [("self" : Str)] (defScope st_Put_facts) := ⟨rfl, rfl, rfl, by decide +kernel, rfl, by decide +kernel, by decide +kernel⟩
noncomputable def mb_Put_facts : MS :=
  (mRet (mTup (mCons (mFld ("folder" : Str) [("Path" : Str), ("MakeFolder" : Str), ("MakeFile" : Str), ("MakeLink" : Str), ("Put" : Str), ("Take" : Str), ("Move" : Str)] (mVar 0)) (mCons (mFld ("name" : Str) [("MakeFolder" : Str), ("MakeFile" : Str), ("MakeLink" : Str), ("Put" : Str), ("Take" : Str), ("Move" : Str)] (mVar 0)) (mCons (mFld ("node" : Str) [("Put" : Str), ("Came" : Str)] (mVar 0)) mNil)))))
noncomputable def m_Put_facts : MF := mkFn 1 1 mb_Put_facts
theorem ok_Put_facts (T : Fx K mg)  {fd : FuncData} (F : FunD K ("facts" : Str) ("Put.facts" : Str) (defArgs st_Put_facts) (defBody st_Put_facts) (defScope st_Put_facts) [] [] (He.ma K (He.ga K ("Put" : Str)) ("facts" : Str)) fd) : MtOk P w K mg base 1 ("facts" : Str) ("Put" : Str) m_Put_facts := by
  have G : FnOk P w K mg base (L2.CX P w) 1 (He.ma K (He.ga K ("Put" : Str)) ("facts" : Str)) fd [("self" : Str)] (spOf K m_Put_facts) := fn_ok F sc_Put_facts (fun cdv A outer s H E hr tk hp =>
    (dss_one (ds_ret (de_tup (da_cons (de_fld T.fld_folder (de_v 0)) (da_cons (de_fld T.fld_name (de_v 0)) (da_cons (de_fld T.fld_node (de_v 0)) da_nil)))))))
  exact ⟨T.cl_Put, fd, [("self" : Str)], T.mt_Put_facts, G, F.bindsN fun _ _ _ _ _ _ us hl => match us, hl with | [_], _ => rfl⟩
/-! MakeLink.facts -/
theorem sc_MakeLink_facts : FnScope [("self" : Str)] [("self" : Str)] (defScope st_MakeLink_facts) := ⟨rfl, rfl, rfl, by decide +kernel, rfl, by decide +kernel, by decide +kernel⟩
noncomputable def mb_MakeLink_facts : MS :=
  (mRet (mTup (mCons (mFld ("folder" : Str) [("Path" : Str), ("MakeFolder" : Str), ("MakeFile" : Str), ("MakeLink" : Str), ("Put" : Str), ("Take" : Str), ("Move" : Str)] (mVar 0)) (mCons (mFld ("name" : Str) [("MakeFolder" : Str), ("MakeFile" : Str), ("MakeLink" : Str), ("Put" : Str), ("Take" : Str), ("Move" : Str)] (mVar 0)) (mCons (mFld ("owner" : Str) [("MakeFolder" : Str), ("MakeFile" : Str), ("MakeLink" : Str)] (mVar 0)) (mCons (mFld ("text" : Str) [("MakeLink" : Str)] (mVar 0)) mNil))))))
noncomputable def m_MakeLink_facts : MF := mkFn 1 1 mb_MakeLink_facts
theorem ok_MakeLink_facts (T : Fx K mg)  {fd : FuncData} (F : FunD K ("facts" : Str) ("MakeLink.facts" : Str) (defArgs st_MakeLink_facts) (defBody st_MakeLink_facts) (defScope st_MakeLink_facts) [] [] (He.ma K (He.ga K ("MakeLink" : Str)) ("facts" : Str)) fd) : MtOk P w K mg base 1 ("facts" : Str) ("MakeLink" : Str) m_MakeLink_facts := by
  have G : FnOk P w K mg base (L2.CX P w) 1 (He.ma K (He.ga K ("MakeLink" : Str)) ("facts" : Str)) fd [("self" : Str)] (spOf K m_MakeLink_facts) := fn_ok F sc_MakeLink_facts (fun cdv A outer s H E hr tk hp =>
    (dss_one (ds_ret (de_tup (da_cons (de_fld T.fld_folder (de_v 0)) (da_cons (de_fld T.fld_name (de_v 0)) (da_cons (de_fld T.fld_owner (de_v 0)) (da_cons (de_fld T.fld_text (de_v 0)) da_nil))))))))
  exact ⟨T.cl_MakeLink, fd, [("self" : Str)], T.mt_MakeLink_facts, G, F.bindsN fun _ _ _ _ _ _ us hl => match us, hl with | [_], _ => rfl⟩
/-! MakeFile.facts -/
theorem sc_MakeFile_facts : FnScope [("self" : Str)] [("self" : Str)] (defScope st_MakeFile_facts) := ⟨rfl, rfl, rfl, by decide +kernel, rfl, by decide +kernel, by decide +kernel⟩
noncomputable def mb_MakeFile_facts : MS :=
  (mRet (mTup (mCons (mFld ("folder" : Str) [("Path" : Str), ("MakeFolder" : Str), ("MakeFile" : Str), ("MakeLink" : Str), ("Put" : Str), ("Take" : Str), ("Move" : Str)] (mVar 0)) (mCons (mFld ("name" : Str) [("MakeFolder" : Str), ("MakeFile" : Str), ("MakeLink" : Str), ("Put" : Str), ("Take" : Str), ("Move" : Str)] (mVar 0)) (mCons (mFld ("owner" : Str) [("MakeFolder" : Str), ("MakeFile" : Str), ("MakeLink" : Str)] (mVar 0)) mNil)))))
noncomputable def m_MakeFile_facts : MF := mkFn 1 1 mb_MakeFile_facts
theorem ok_MakeFile_facts (T : Fx K mg)  {fd : FuncData} (F : FunD K ("facts" : Str) ("MakeFile.facts" : Str) (defArgs st_MakeFile_facts) (defBody st_MakeFile_facts) (defScope st_MakeFile_facts) [] [] (He.ma K (He.ga K ("MakeFile" : Str)) ("facts" : Str)) fd) : MtOk P w K mg base 1 ("facts" : Str) ("MakeFile" : Str) m_MakeFile_facts := by
  have G : FnOk P w K mg base (L2.CX P w) 1 (He.ma K (He.ga K ("MakeFile" : Str)) ("facts" : Str)) fd [("self" : Str)] (spOf K m_MakeFile_facts) := fn_ok F sc_MakeFile_facts (fun cdv A outer s H E hr tk hp =>
    (dss_one (ds_ret (de_tup (da_cons (de_fld T.fld_folder (de_v 0)) (da_cons (de_fld T.fld_name (de_v 0)) (da_cons (de_fld T.fld_owner (de_v 0)) da_nil)))))))
  exact ⟨T.cl_MakeFile, fd, [("self" : Str)], T.mt_MakeFile_facts, G, F.bindsN fun _ _ _ _ _ _ us hl => match us, hl with | [_], _ => rfl⟩
/-! MakeFolder.facts -/
theorem sc_MakeFolder_facts : FnScope [("self" : Str)] [("self" : Str)] (defScope st_MakeFolder_facts) := ⟨rfl, rfl, rfl, by decide +kernel, rfl, by decide +kernel, by decide +kernel⟩
noncomputable def mb_MakeFolder_facts : MS :=
  (mRet (mTup (mCons (mFld ("folder" : Str) [("Path" : Str), ("MakeFolder" : Str), ("MakeFile" : Str), ("MakeLink" : Str), ("Put" : Str), ("Take" : Str), ("Move" : Str)] (mVar 0)) (mCons (mFld ("name" : Str) [("MakeFolder" : Str), ("MakeFile" : Str), ("MakeLink" : Str), ("Put" : Str), ("Take" : Str), ("Move" : Str)] (mVar 0)) (mCons (mFld ("owner" : Str) [("MakeFolder" : Str), ("MakeFile" : Str), ("MakeLink" : Str)] (mVar 0)) mNil)))))
noncomputable def m_MakeFolder_facts : MF := mkFn 1 1 mb_MakeFolder_facts
theorem ok_MakeFolder_facts (T : Fx K mg)  {fd : FuncData} (F : FunD K ("facts" : Str) ("MakeFolder.facts" : Str) (defArgs st_MakeFolder_facts) (defBody st_MakeFolder_facts) (defScope st_MakeFolder_facts) [] [] (He.ma K (He.ga K ("MakeFolder" : Str)) ("facts" : Str)) fd) : MtOk P w K mg base 1 ("facts" : Str) ("MakeFolder" : Str) m_MakeFolder_facts := by
  have G : FnOk P w K mg base (L2.CX P w) 1 (He.ma K (He.ga K ("MakeFolder" : Str)) ("facts" : Str)) fd [("self" : Str)] (spOf K m_MakeFolder_facts) := fn_ok F sc_MakeFolder_facts (fun cdv A outer s H E hr tk hp =>
    (dss_one (ds_ret (de_tup (da_cons (de_fld T.fld_folder (de_v 0)) (da_cons (de_fld T.fld_name (de_v 0)) (da_cons (de_fld T.fld_owner (de_v 0)) da_nil)))))))
  exact ⟨T.cl_MakeFolder, fd, [("self" : Str)], T.mt_MakeFolder_facts, G, F.bindsN fun _ _ _ _ _ _ us hl => match us, hl with | [_], _ => rfl⟩
/-! Path.facts -/
theorem sc_Path_facts : FnScope [("self" : Str)] [("self" : Str)] (defScope st_Path_facts) := ⟨rfl, rfl, rfl, by decide +kernel, rfl, by decide +kernel, by decide +kernel⟩
noncomputable def mb_Path_facts : MS :=
  (mRet (mTup (mCons (mFld ("steps" : Str) [("Path" : Str)] (mVar 0)) (mCons (mFld ("absolute" : Str) [("Path" : Str)] (mVar 0)) (mCons (mFld ("folder" : Str) [("Path" : Str), ("MakeFolder" : Str), ("MakeFile" : Str), ("MakeLink" : Str), ("Put" : Str), ("Take" : Str), ("Move" : Str)] (mVar 0)) mNil)))))
noncomputable def m_Path_facts : MF := mkFn 1 1 mb_Path_facts
theorem ok_Path_facts (T : Fx K mg)  {fd : FuncData} (F : FunD K ("facts" : Str) ("Path.facts" : Str) (defArgs st_Path_facts) (defBody st_Path_facts) (defScope st_Path_facts) [] [] (He.ma K (He.ga K ("Path" : Str)) ("facts" : Str)) fd) : MtOk P w K mg base 1 ("facts" : Str) ("Path" : Str) m_Path_facts := by
  have G : FnOk P w K mg base (L2.CX P w) 1 (He.ma K (He.ga K ("Path" : Str)) ("facts" : Str)) fd [("self" : Str)] (spOf K m_Path_facts) := fn_ok F sc_Path_facts (fun cdv A outer s H E hr tk hp =>
    (dss_one (ds_ret (de_tup (da_cons (de_fld T.fld_steps (de_v 0)) (da_cons (de_fld T.fld_absolute (de_v 0)) (da_cons (de_fld T.fld_folder (de_v 0)) da_nil)))))))
  exact ⟨T.cl_Path, fd, [("self" : Str)], T.mt_Path_facts, G, F.bindsN fun _ _ _ _ _ _ us hl => match us, hl with | [_], _ => rfl⟩
/-! Thing.class_name -/
theorem sc_Thing_class_name : FnScope [("self" : Str)] [("self" : Str)] (defScope st_Thing_class_name) := ⟨rfl, rfl, rfl, by decide +kernel, rfl, by decide +kernel, by decide +kernel⟩
noncomputable def mb_Thing_class_name : MS :=
  (mRet (mC (.str ("" : Str))))
noncomputable def m_Thing_class_name : MF := mkFn 1 1 mb_Thing_class_name
theorem ok_Thing_class_name (T : Fx K mg)  {fd : FuncData} (F : FunD K ("class_name" : Str) ("Thing.class_name" : Str) (defArgs st_Thing_class_name) (defBody st_Thing_class_name) (defScope st_Thing_class_name) [] [] (He.ma K (He.ga K ("Thing" : Str)) ("class_name" : Str)) fd) : MtOk P w K mg base 1 ("class_name" : Str) ("Thing" : Str) m_Thing_class_name := by
  have G : FnOk P w K mg base (L2.CX P w) 1 (He.ma K (He.ga K ("Thing" : Str)) ("class_name" : Str)) fd [("self" : Str)] (spOf K m_Thing_class_name) := fn_ok F sc_Thing_class_name (fun cdv A outer s H E hr tk hp =>
    (dss_one (ds_ret de_str)))
  exact ⟨T.cl_Thing, fd, [("self" : Str)], T.mt_Thing_class_name, G, F.bindsN fun _ _ _ _ _ _ us hl => match us, hl with | [_], _ => rfl⟩
/-! New.class_name -/
theorem sc_New_class_name : FnScope [("self" : Str)] [("self" : Str)] (defScope st_New_class_name) := ⟨rfl, rfl, rfl, by decide +kernel, rfl, by decide +kernel, by decide +kernel⟩
noncomputable def mb_New_class_name : MS :=
  (mRet (mC (.str ("new" : Str))))
noncomputable def m_New_class_name : MF := mkFn 1 1 mb_New_class_name
theorem ok_New_class_name (T : Fx K mg)  {fd : FuncData} (F : FunD K ("class_name" : Str) ("New.class_name" : Str) (defArgs st_New_class_name) (defBody st_New_class_name) (defScope st_New_class_name) [] [] (He.ma K (He.ga K ("New" : Str)) ("class_name" : Str)) fd) : MtOk P w K mg base 1 ("class_name" : Str) ("New" : Str) m_New_class_name := by
  have G : FnOk P w K mg base (L2.CX P w) 1 (He.ma K (He.ga K ("New" : Str)) ("class_name" : Str)) fd [("self" : Str)] (spOf K m_New_class_name) := fn_ok F sc_New_class_name (fun cdv A outer s H E hr tk hp =>
    (dss_one (ds_ret de_str)))
  exact ⟨T.cl_New, fd, [("self" : Str)], T.mt_New_class_name, G, F.bindsN fun _ _ _ _ _ _ us hl => match us, hl with | [_], _ => rfl⟩
/-! Refused.class_name -/
theorem sc_Refused_class_name : FnScope [("self" : Str)] [("self" : Str)] (defScope st_Refused_class_name) := ⟨rfl, rfl, rfl, by decide +kernel, rfl, by decide +kernel, by decide +kernel⟩
noncomputable def mb_Refused_class_name : MS :=
  (mRet (mC (.str ("refused" : Str))))
noncomputable def m_Refused_class_name : MF := mkFn 1 1 mb_Refused_class_name
theorem ok_Refused_class_name (T : Fx K mg)  {fd : FuncData} (F : FunD K ("class_name" : Str) ("Refused.class_name" : Str) (defArgs st_Refused_class_name) (defBody st_Refused_class_name) (defScope st_Refused_class_name) [] [] (He.ma K (He.ga K ("Refused" : Str)) ("class_name" : Str)) fd) : MtOk P w K mg base 1 ("class_name" : Str) ("Refused" : Str) m_Refused_class_name := by
  have G : FnOk P w K mg base (L2.CX P w) 1 (He.ma K (He.ga K ("Refused" : Str)) ("class_name" : Str)) fd [("self" : Str)] (spOf K m_Refused_class_name) := fn_ok F sc_Refused_class_name (fun cdv A outer s H E hr tk hp =>
    (dss_one (ds_ret de_str)))
  exact ⟨T.cl_Refused, fd, [("self" : Str)], T.mt_Refused_class_name, G, F.bindsN fun _ _ _ _ _ _ us hl => match us, hl with | [_], _ => rfl⟩
/-! Came.class_name -/
theorem sc_Came_class_name : FnScope [("self" : Str)] [("self" : Str)] (defScope st_Came_class_name) := ⟨rfl, rfl, rfl, by decide +kernel, rfl, by decide +kernel, by decide +kernel⟩
noncomputable def mb_Came_class_name : MS :=
  (mRet (mC (.str ("came" : Str))))
noncomputable def m_Came_class_name : MF := mkFn 1 1 mb_Came_class_name
theorem ok_Came_class_name (T : Fx K mg)  {fd : FuncData} (F : FunD K ("class_name" : Str) ("Came.class_name" : Str) (defArgs st_Came_class_name) (defBody st_Came_class_name) (defScope st_Came_class_name) [] [] (He.ma K (He.ga K ("Came" : Str)) ("class_name" : Str)) fd) : MtOk P w K mg base 1 ("class_name" : Str) ("Came" : Str) m_Came_class_name := by
  have G : FnOk P w K mg base (L2.CX P w) 1 (He.ma K (He.ga K ("Came" : Str)) ("class_name" : Str)) fd [("self" : Str)] (spOf K m_Came_class_name) := fn_ok F sc_Came_class_name (fun cdv A outer s H E hr tk hp =>
    (dss_one (ds_ret de_str)))
  exact ⟨T.cl_Came, fd, [("self" : Str)], T.mt_Came_class_name, G, F.bindsN fun _ _ _ _ _ _ us hl => match us, hl with | [_], _ => rfl⟩
/-! Made.class_name -/
theorem sc_Made_class_name : FnScope [("self" : Str)] [("self" : Str)] (defScope st_Made_class_name) := ⟨rfl, rfl, rfl, by decide +kernel, rfl, by decide +kernel, by decide +kernel⟩
noncomputable def mb_Made_class_name : MS :=
  (mRet (mC (.str ("made" : Str))))
noncomputable def m_Made_class_name : MF := mkFn 1 1 mb_Made_class_name
theorem ok_Made_class_name (T : Fx K mg)  {fd : FuncData} (F : FunD K ("class_name" : Str) ("Made.class_name" : Str) (defArgs st_Made_class_name) (defBody st_Made_class_name) (defScope st_Made_class_name) [] [] (He.ma K (He.ga K ("Made" : Str)) ("class_name" : Str)) fd) : MtOk P w K mg base 1 ("class_name" : Str) ("Made" : Str) m_Made_class_name := by
  have G : FnOk P w K mg base (L2.CX P w) 1 (He.ma K (He.ga K ("Made" : Str)) ("class_name" : Str)) fd [("self" : Str)] (spOf K m_Made_class_name) := fn_ok F sc_Made_class_name (fun cdv A outer s H E hr tk hp =>
    (dss_one (ds_ret de_str)))
  exact ⟨T.cl_Made, fd, [("self" : Str)], T.mt_Made_class_name, G, F.bindsN fun _ _ _ _ _ _ us hl => match us, hl with | [_], _ => rfl⟩
/-! Done.class_name -/
theorem sc_Done_class_name : FnScope [("self" : Str)] [("self" : Str)] (defScope st_Done_class_name) := ⟨rfl, rfl, rfl, by decide +kernel, rfl, by decide +kernel, by decide +kernel⟩
noncomputable def mb_Done_class_name : MS :=
  (mRet (mC (.str ("done" : Str))))
noncomputable def m_Done_class_name : MF := mkFn 1 1 mb_Done_class_name
theorem ok_Done_class_name (T : Fx K mg)  {fd : FuncData} (F : FunD K ("class_name" : Str) ("Done.class_name" : Str) (defArgs st_Done_class_name) (defBody st_Done_class_name) (defScope st_Done_class_name) [] [] (He.ma K (He.ga K ("Done" : Str)) ("class_name" : Str)) fd) : MtOk P w K mg base 1 ("class_name" : Str) ("Done" : Str) m_Done_class_name := by
  have G : FnOk P w K mg base (L2.CX P w) 1 (He.ma K (He.ga K ("Done" : Str)) ("class_name" : Str)) fd [("self" : Str)] (spOf K m_Done_class_name) := fn_ok F sc_Done_class_name (fun cdv A outer s H E hr tk hp =>
    (dss_one (ds_ret de_str)))
  exact ⟨T.cl_Done, fd, [("self" : Str)], T.mt_Done_class_name, G, F.bindsN fun _ _ _ _ _ _ us hl => match us, hl with | [_], _ => rfl⟩
/-! Move.class_name -/
theorem sc_Move_class_name : FnScope [("self" : Str)] [("self" : Str)] (defScope st_Move_class_name) := ⟨rfl, rfl, rfl, by decide +kernel, rfl, by decide +kernel, by decide +kernel⟩
noncomputable def mb_Move_class_name : MS :=
  (mRet (mC (.str ("move" : Str))))
noncomputable def m_Move_class_name : MF := mkFn 1 1 mb_Move_class_name
theorem ok_Move_class_name (T : Fx K mg)  {fd : FuncData} (F : FunD K ("class_name" : Str) ("Move.class_name" : Str) (defArgs st_Move_class_name) (defBody st_Move_class_name) (defScope st_Move_class_name) [] [] (He.ma K (He.ga K ("Move" : Str)) ("class_name" : Str)) fd) : MtOk P w K mg base 1 ("class_name" : Str) ("Move" : Str) m_Move_class_name := by
  have G : FnOk P w K mg base (L2.CX P w) 1 (He.ma K (He.ga K ("Move" : Str)) ("class_name" : Str)) fd [("self" : Str)] (spOf K m_Move_class_name) := fn_ok F sc_Move_class_name (fun cdv A outer s H E hr tk hp =>
    (dss_one (ds_ret de_str)))
  exact ⟨T.cl_Move, fd, [("self" : Str)], T.mt_Move_class_name, G, F.bindsN fun _ _ _ _ _ _ us hl => match us, hl with | [_], _ => rfl⟩
/-! Take.class_name -/
theorem sc_Take_class_name : FnScope [("self" : Str)] [("self" : Str)] (defScope st_Take_class_name) := ⟨rfl, rfl, rfl, by decide +kernel, rfl, by decide +kernel, by decide +kernel⟩
noncomputable def mb_Take_class_name : MS :=
  (mRet (mC (.str ("take" : Str))))
noncomputable def m_Take_class_name : MF := mkFn 1 1 mb_Take_class_name
theorem ok_Take_class_name (T : Fx K mg)  {fd : FuncData} (F : FunD K ("class_name" : Str) ("Take.class_name" : Str) (defArgs st_Take_class_name) (defBody st_Take_class_name) (defScope st_Take_class_name) [] [] (He.ma K (He.ga K ("Take" : Str)) ("class_name" : Str)) fd) : MtOk P w K mg base 1 ("class_name" : Str) ("Take" : Str) m_Take_class_name := by
  have G : FnOk P w K mg base (L2.CX P w) 1 (He.ma K (He.ga K ("Take" : Str)) ("class_name" : Str)) fd [("self" : Str)] (spOf K m_Take_class_name) := fn_ok F sc_Take_class_name (fun cdv A outer s H E hr tk hp =>
    (dss_one (ds_ret de_str)))
  exact ⟨T.cl_Take, fd, [("self" : Str)], T.mt_Take_class_name, G, F.bindsN fun _ _ _ _ _ _ us hl => match us, hl with | [_], _ => rfl⟩
/-! Put.class_name -/
theorem sc_Put_class_name : FnScope [("self" : Str)] [("self" : Str)] (defScope st_Put_class_name) := ⟨rfl, rfl, rfl, by decide +kernel, rfl, by decide +kernel, by decide +kernel⟩
noncomputable def mb_Put_class_name : MS :=
  (mRet (mC (.str ("put" : Str))))
noncomputable def m_Put_class_name : MF := mkFn 1 1 mb_Put_class_name
theorem ok_Put_class_name (T : Fx K mg)  {fd : FuncData} (F : FunD K ("class_name" : Str) ("Put.class_name" : Str) (defArgs st_Put_class_name) (defBody st_Put_class_name) (defScope st_Put_class_name) [] [] (He.ma K (He.ga K ("Put" : Str)) ("class_name" : Str)) fd) : MtOk P w K mg base 1 ("class_name" : Str) ("Put" : Str) m_Put_class_name := by
  have G : FnOk P w K mg base (L2.CX P w) 1 (He.ma K (He.ga K ("Put" : Str)) ("class_name" : Str)) fd [("self" : Str)] (spOf K m_Put_class_name) := fn_ok F sc_Put_class_name (fun cdv A outer s H E hr tk hp =>
    (dss_one (ds_ret de_str)))
  exact ⟨T.cl_Put, fd, [("self" : Str)], T.mt_Put_class_name, G, F.bindsN fun _ _ _ _ _ _ us hl => match us, hl with | [_], _ => rfl⟩
/-! MakeLink.class_name -/
theorem sc_MakeLink_class_name : FnScope [("self" : Str)] [("self" : Str)] (defScope st_MakeLink_class_name) := ⟨rfl, rfl, rfl, by decide +kernel, rfl, by decide +kernel, by decide +kernel⟩
noncomputable def mb_MakeLink_class_name : MS :=
  (mRet (mC (.str ("make link" : Str))))
noncomputable def m_MakeLink_class_name : MF := mkFn 1 1 mb_MakeLink_class_name
theorem ok_MakeLink_class_name (T : Fx K mg)  {fd : FuncData} (F : FunD K ("class_name" : Str) ("MakeLink.class_name" : Str) (defArgs st_MakeLink_class_name) (defBody st_MakeLink_class_name) (defScope st_MakeLink_class_name) [] [] (He.ma K (He.ga K ("MakeLink" : Str)) ("class_name" : Str)) fd) : MtOk P w K mg base 1 ("class_name" : Str) ("MakeLink" : Str) m_MakeLink_class_name := by
  have G : FnOk P w K mg base (L2.CX P w) 1 (He.ma K (He.ga K ("MakeLink" : Str)) ("class_name" : Str)) fd [("self" : Str)] (spOf K m_MakeLink_class_name) := fn_ok F sc_MakeLink_class_name (fun cdv A outer s H E hr tk hp =>
    (dss_one (ds_ret de_str)))
  exact ⟨T.cl_MakeLink, fd, [("self" : Str)], T.mt_MakeLink_class_name, G, F.bindsN fun _ _ _ _ _ _ us hl => match us, hl with | [_], _ => rfl⟩
/-! MakeFile.class_name -/
theorem sc_MakeFile_class_name : FnScope [("self" : Str)] [("self" : Str)] (defScope st_MakeFile_class_name) := ⟨rfl, rfl, rfl, by decide +kernel, rfl, by decide +kernel, by decide +kernel⟩
noncomputable def mb_MakeFile_class_name : MS :=
  (mRet (mC (.str ("make file" : Str))))
noncomputable def m_MakeFile_class_name : MF := mkFn 1 1 mb_MakeFile_class_name
theorem ok_MakeFile_class_name (T : Fx K mg)  {fd : FuncData} (F : FunD K ("class_name" : Str) ("MakeFile.class_name" : Str) (defArgs st_MakeFile_class_name) (defBody st_MakeFile_class_name) (defScope st_MakeFile_class_name) [] [] (He.ma K (He.ga K ("MakeFile" : Str)) ("class_name" : Str)) fd) : MtOk P w K mg base 1 ("class_name" : Str) ("MakeFile" : Str) m_MakeFile_class_name := by
  have G : FnOk P w K mg base (L2.CX P w) 1 (He.ma K (He.ga K ("MakeFile" : Str)) ("class_name" : Str)) fd [("self" : Str)] (spOf K m_MakeFile_class_name) := fn_ok F sc_MakeFile_class_name (fun cdv A outer s H E hr tk hp =>
    (dss_one (ds_ret de_str)))
  exact ⟨T.cl_MakeFile, fd, [("self" : Str)], T.mt_MakeFile_class_name, G, F.bindsN fun _ _ _ _ _ _ us hl => match us, hl with | [_], _ => rfl⟩
/-! MakeFolder.class_name -/
theorem sc_MakeFolder_class_name : FnScope [("self" : Str)] [("self" : Str)] (defScope st_MakeFolder_class_name) := ⟨rfl, rfl, rfl, by decide +kernel, rfl, by decide +kernel, by decide +kernel⟩
noncomputable def mb_MakeFolder_class_name : MS :=
  (mRet (mC (.str ("make folder" : Str))))
noncomputable def m_MakeFolder_class_name : MF := mkFn 1 1 mb_MakeFolder_class_name
theorem ok_MakeFolder_class_name (T : Fx K mg)  {fd : FuncData} (F : FunD K ("class_name" : Str) ("MakeFolder.class_name" : Str) (defArgs st_MakeFolder_class_name) (defBody st_MakeFolder_class_name) (defScope st_MakeFolder_class_name) [] [] (He.ma K (He.ga K ("MakeFolder" : Str)) ("class_name" : Str)) fd) : MtOk P w K mg base 1 ("class_name" : Str) ("MakeFolder" : Str) m_MakeFolder_class_name := by
  have G : FnOk P w K mg base (L2.CX P w) 1 (He.ma K (He.ga K ("MakeFolder" : Str)) ("class_name" : Str)) fd [("self" : Str)] (spOf K m_MakeFolder_class_name) := fn_ok F sc_MakeFolder_class_name (fun cdv A outer s H E hr tk hp =>
    (dss_one (ds_ret de_str)))
  exact ⟨T.cl_MakeFolder, fd, [("self" : Str)], T.mt_MakeFolder_class_name, G, F.bindsN fun _ _ _ _ _ _ us hl => match us, hl with | [_], _ => rfl⟩
/-! Path.class_name -/
theorem sc_Path_class_name : FnScope [("self" : Str)] [("self" : Str)] (defScope st_Path_class_name) := ⟨rfl, rfl, rfl, by decide +kernel, rfl, by decide +kernel, by decide +kernel⟩
noncomputable def mb_Path_class_name : MS :=
  (mRet (mC (.str ("path" : Str))))
noncomputable def m_Path_class_name : MF := mkFn 1 1 mb_Path_class_name
theorem ok_Path_class_name (T : Fx K mg)  {fd : FuncData} (F : FunD K ("class_name" : Str) ("Path.class_name" : Str) (defArgs st_Path_class_name) (defBody st_Path_class_name) (defScope st_Path_class_name) [] [] (He.ma K (He.ga K ("Path" : Str)) ("class_name" : Str)) fd) : MtOk P w K mg base 1 ("class_name" : Str) ("Path" : Str) m_Path_class_name := by
  have G : FnOk P w K mg base (L2.CX P w) 1 (He.ma K (He.ga K ("Path" : Str)) ("class_name" : Str)) fd [("self" : Str)] (spOf K m_Path_class_name) := fn_ok F sc_Path_class_name (fun cdv A outer s H E hr tk hp =>
    (dss_one (ds_ret de_str)))
  exact ⟨T.cl_Path, fd, [("self" : Str)], T.mt_Path_class_name, G, F.bindsN fun _ _ _ _ _ _ us hl => match us, hl with | [_], _ => rfl⟩
/-! Thing.__eq__ -/
theorem sc_Thing___eq__ : FnScope [("self" : Str), ("other" : Str)] [("self" : Str), ("other" : Str)] (defScope st_Thing___eq__) := ⟨rfl, rfl, rfl, by decide +kernel, rfl, by decide +kernel, by decide +kernel⟩
noncomputable def mb_Thing___eq__ (g : E2) : MS :=
  (mSeq (mIfS (mOrT (mNotT (mB (mIsi tys isi_Thing (mVar 1)))) (mB (mOp (neO eqP) (mMeth0 ("class_name" : Str) [(("Path" : Str), m_Path_class_name), (("MakeFolder" : Str), m_MakeFolder_class_name), (("MakeFile" : Str), m_MakeFile_class_name), (("MakeLink" : Str), m_MakeLink_class_name), (("Put" : Str), m_Put_class_name), (("Take" : Str), m_Take_class_name), (("Move" : Str), m_Move_class_name), (("Done" : Str), m_Done_class_name), (("Made" : Str), m_Made_class_name), (("Came" : Str), m_Came_class_name), (("Refused" : Str), m_Refused_class_name), (("New" : Str), m_New_class_name), (("Thing" : Str), m_Thing_class_name)] (mVar 0)) (mMeth0 ("class_name" : Str) [(("Path" : Str), m_Path_class_name), (("MakeFolder" : Str), m_MakeFolder_class_name), (("MakeFile" : Str), m_MakeFile_class_name), (("MakeLink" : Str), m_MakeLink_class_name), (("Put" : Str), m_Put_class_name), (("Take" : Str), m_Take_class_name), (("Move" : Str), m_Move_class_name), (("Done" : Str), m_Done_class_name), (("Made" : Str), m_Made_class_name), (("Came" : Str), m_Came_class_name), (("Refused" : Str), m_Refused_class_name), (("New" : Str), m_New_class_name), (("Thing" : Str), m_Thing_class_name)] (mVar 1))))) (mRet (mC (.bl false))) mSkip)
    (mRet (mOp (eqO g) (mMeth0 ("facts" : Str) [(("Path" : Str), m_Path_facts), (("MakeFolder" : Str), m_MakeFolder_facts), (("MakeFile" : Str), m_MakeFile_facts), (("MakeLink" : Str), m_MakeLink_facts), (("Put" : Str), m_Put_facts), (("Take" : Str), m_Take_facts), (("Move" : Str), m_Move_facts), (("Made" : Str), m_Made_facts), (("Came" : Str), m_Came_facts), (("Refused" : Str), m_Refused_facts), (("New" : Str), m_New_facts), (("Thing" : Str), m_Thing_facts)] (mVar 0)) (mMeth0 ("facts" : Str) [(("Path" : Str), m_Path_facts), (("MakeFolder" : Str), m_MakeFolder_facts), (("MakeFile" : Str), m_MakeFile_facts), (("MakeLink" : Str), m_MakeLink_facts), (("Put" : Str), m_Put_facts), (("Take" : Str), m_Take_facts), (("Move" : Str), m_Move_facts), (("Made" : Str), m_Made_facts), (("Came" : Str), m_Came_facts), (("Refused" : Str), m_Refused_facts), (("New" : Str), m_New_facts), (("Thing" : Str), m_Thing_facts)] (mVar 1)))))
noncomputable def m_Thing___eq__ (g : E2) : MF := mkFn 2 2 (mb_Thing___eq__ g)
theorem ok_Thing___eq__ (T : Fx K mg) (ht_Thing_facts : MtOk P w K mg base 1 ("facts" : Str) ("Thing" : Str) m_Thing_facts) (ht_New_facts : MtOk P w K mg base 1 ("facts" : Str) ("New" : Str) m_New_facts) (ht_Refused_facts : MtOk P w K mg base 1 ("facts" : Str) ("Refused" : Str) m_Refused_facts) (ht_Came_facts : MtOk P w K mg base 1 ("facts" : Str) ("Came" : Str) m_Came_facts) (ht_Made_facts : MtOk P w K mg base 1 ("facts" : Str) ("Made" : Str) m_Made_facts) (ht_Move_facts : MtOk P w K mg base 1 ("facts" : Str) ("Move" : Str) m_Move_facts) (ht_Take_facts : MtOk P w K mg base 1 ("facts" : Str) ("Take" : Str) m_Take_facts) (ht_Put_facts : MtOk P w K mg base 1 ("facts" : Str) ("Put" : Str) m_Put_facts) (ht_MakeLink_facts : MtOk P w K mg base 1 ("facts" : Str) ("MakeLink" : Str) m_MakeLink_facts) (ht_MakeFile_facts : MtOk P w K mg base 1 ("facts" : Str) ("MakeFile" : Str) m_MakeFile_facts) (ht_MakeFolder_facts : MtOk P w K mg base 1 ("facts" : Str) ("MakeFolder" : Str) m_MakeFolder_facts) (ht_Path_facts : MtOk P w K mg base 1 ("facts" : Str) ("Path" : Str) m_Path_facts) (ht_Thing_class_name : MtOk P w K mg base 1 ("class_name" : Str) ("Thing" : Str) m_Thing_class_name) (ht_New_class_name : MtOk P w K mg base 1 ("class_name" : Str) ("New" : Str) m_New_class_name) (ht_Refused_class_name : MtOk P w K mg base 1 ("class_name" : Str) ("Refused" : Str) m_Refused_class_name) (ht_Came_class_name : MtOk P w K mg base 1 ("class_name" : Str) ("Came" : Str) m_Came_class_name) (ht_Made_class_name : MtOk P w K mg base 1 ("class_name" : Str) ("Made" : Str) m_Made_class_name) (ht_Done_class_name : MtOk P w K mg base 1 ("class_name" : Str) ("Done" : Str) m_Done_class_name) (ht_Move_class_name : MtOk P w K mg base 1 ("class_name" : Str) ("Move" : Str) m_Move_class_name) (ht_Take_class_name : MtOk P w K mg base 1 ("class_name" : Str) ("Take" : Str) m_Take_class_name) (ht_Put_class_name : MtOk P w K mg base 1 ("class_name" : Str) ("Put" : Str) m_Put_class_name) (ht_MakeLink_class_name : MtOk P w K mg base 1 ("class_name" : Str) ("MakeLink" : Str) m_MakeLink_class_name) (ht_MakeFile_class_name : MtOk P w K mg base 1 ("class_name" : Str) ("MakeFile" : Str) m_MakeFile_class_name) (ht_MakeFolder_class_name : MtOk P w K mg base 1 ("class_name" : Str) ("MakeFolder" : Str) m_MakeFolder_class_name) (ht_Path_class_name : MtOk P w K mg base 1 ("class_name" : Str) ("Path" : Str) m_Path_class_name) (n : Nat) (g : E2) (hE : EqAll P w K mg base (2 * n + 2) g) {fd : FuncData} (F : FunD K ("__eq__" : Str) ("Thing.__eq__" : Str) (defArgs st_Thing___eq__) (defBody st_Thing___eq__) (defScope st_Thing___eq__) [] [] (He.ma K (He.ga K ("Thing" : Str)) ("__eq__" : Str)) fd) : FnOk P w K mg base (L2.CX P w) (2 * n + 3) (He.ma K (He.ga K ("Thing" : Str)) ("__eq__" : Str)) fd [("self" : Str), ("other" : Str)] (spOf K (m_Thing___eq__ g)) :=
  fn_ok (k := 2 * n + 2) F sc_Thing___eq__ (fun cdv A outer s H E hr tk hp =>
    (dss_cons (ds_if (DW.dt (dw_or (dt_not (dt_val (de_isi T.isi_Thing T.f_isinstance (de_v 1) (dc_gl T.g_Thing)))) (dw_or1 (dt_cmp (os_ne (n := 0) eqX_P (hr.mono (by first | decide | omega))) (de_meth0 (de_v 0) (disp_cons ht_Path_class_name (disp_cons ht_MakeFolder_class_name (disp_cons ht_MakeFile_class_name (disp_cons ht_MakeLink_class_name (disp_cons ht_Put_class_name (disp_cons ht_Take_class_name (disp_cons ht_Move_class_name (disp_cons ht_Done_class_name (disp_cons ht_Made_class_name (disp_cons ht_Came_class_name (disp_cons ht_Refused_class_name (disp_cons ht_New_class_name (disp_cons ht_Thing_class_name .nil))))))))))))) (hr.mono (by first | decide | omega)) tk) (de_meth0 (de_v 1) (disp_cons ht_Path_class_name (disp_cons ht_MakeFolder_class_name (disp_cons ht_MakeFile_class_name (disp_cons ht_MakeLink_class_name (disp_cons ht_Put_class_name (disp_cons ht_Take_class_name (disp_cons ht_Move_class_name (disp_cons ht_Done_class_name (disp_cons ht_Made_class_name (disp_cons ht_Came_class_name (disp_cons ht_Refused_class_name (disp_cons ht_New_class_name (disp_cons ht_Thing_class_name .nil))))))))))))) (hr.mono (by first | decide | omega)) tk))))) (dss_one (ds_ret de_bl)) dss_nil)
    (dss_one (ds_ret (de_cmp (os_eq (hE _ rfl rfl rfl rfl rfl) hr) (de_meth0 (de_v 0) (disp_cons ht_Path_facts (disp_cons ht_MakeFolder_facts (disp_cons ht_MakeFile_facts (disp_cons ht_MakeLink_facts (disp_cons ht_Put_facts (disp_cons ht_Take_facts (disp_cons ht_Move_facts (disp_cons ht_Made_facts (disp_cons ht_Came_facts (disp_cons ht_Refused_facts (disp_cons ht_New_facts (disp_cons ht_Thing_facts .nil)))))))))))) (hr.mono (by first | decide | omega)) tk) (de_meth0 (de_v 1) (disp_cons ht_Path_facts (disp_cons ht_MakeFolder_facts (disp_cons ht_MakeFile_facts (disp_cons ht_MakeLink_facts (disp_cons ht_Put_facts (disp_cons ht_Take_facts (disp_cons ht_Move_facts (disp_cons ht_Made_facts (disp_cons ht_Came_facts (disp_cons ht_Refused_facts (disp_cons ht_New_facts (disp_cons ht_Thing_facts .nil)))))))))))) (hr.mono (by first | decide | omega)) tk))))))
noncomputable def EQ : E2 := eqF eqcs tys m_Thing___eq__ 6
/-! Move.__init__ -/
theorem sc_Move___init__ : FnScope [("self" : Str), ("folder" : Str), ("name" : Str), ("goal" : Str), ("other" : Str)] [("self" : Str), ("folder" : Str), ("name" : Str), ("goal" : Str), ("other" : Str)] (defScope st_Move___init__) := ⟨rfl, rfl, rfl, by decide +kernel, rfl, by decide +kernel, by decide +kernel⟩
noncomputable def mb_Move___init__ : MS :=
  (mSeq (mSetF ("folder" : Str) [("Path" : Str), ("MakeFolder" : Str), ("MakeFile" : Str), ("MakeLink" : Str), ("Put" : Str), ("Take" : Str), ("Move" : Str)] (mVar 0) (mVar 1))
    (mSeq (mSetF ("name" : Str) [("MakeFolder" : Str), ("MakeFile" : Str), ("MakeLink" : Str), ("Put" : Str), ("Take" : Str), ("Move" : Str)] (mVar 0) (mVar 2))
    (mSeq (mSetF ("goal" : Str) [("Move" : Str)] (mVar 0) (mVar 3))
    (mSetF ("other" : Str) [("Move" : Str)] (mVar 0) (mVar 4)))))
noncomputable def m_Move___init__ : MF := mkFn 5 5 mb_Move___init__
theorem ok_Move___init__ (T : Fx K mg)  {fd : FuncData} (F : FunD K ("__init__" : Str) ("Move.__init__" : Str) (defArgs st_Move___init__) (defBody st_Move___init__) (defScope st_Move___init__) [] [] (He.ma K (He.ga K ("Move" : Str)) ("__init__" : Str)) fd) : MkOk P w K mg base 1 ("Move" : Str) m_Move___init__ := by
  have G : FnOk P w K mg base (L2.CX P w) 1 (He.ma K (He.ga K ("Move" : Str)) ("__init__" : Str)) fd [("self" : Str), ("folder" : Str), ("name" : Str), ("goal" : Str), ("other" : Str)] (spOf K m_Move___init__) := fn_ok F sc_Move___init__ (fun cdv A outer s H E hr tk hp =>
    (dss_cons (ds_setF T.fld_folder (de_v 0) (de_v 1))
    (dss_cons (ds_setF T.fld_name (de_v 0) (de_v 2))
    (dss_cons (ds_setF T.fld_goal (de_v 0) (de_v 3))
    (dss_one (ds_setF T.fld_other (de_v 0) (de_v 4)))))))
  exact ⟨T.g_Move, fd, [("self" : Str), ("folder" : Str), ("name" : Str), ("goal" : Str), ("other" : Str)], T.mk_Move, G, F.bindsN fun _ _ _ _ _ _ us hl => match us, hl with | [_, _, _, _, _], _ => rfl⟩
/-! is_name -/
theorem sc_is_name : FnScope [("thing" : Str), ("letter" : Str)] [("thing" : Str)] (defScope st_is_name) := ⟨rfl, rfl, rfl, by decide +kernel, rfl, by decide +kernel, by decide +kernel⟩
noncomputable def mb_is_name : MS :=
  (mSeq (mIfS (mOrT (mNotT (mB (mIsi tys isi_str (mVar 0)))) (mOrT (mNotT (mB (mChain leD leD (mC (.int 1)) (mCB lenD (mCons (mVar 0) mNil)) (mC (.int 12))))) (mB (mOp (inD false) (mVar 0) (mTup (mCons (mC (.str ("." : Str))) (mCons (mC (.str (".." : Str))) mNil))))))) (mRet (mC (.bl false))) mSkip)
    (mRet (mCB allD (mCons (mLc (fun δ c => ((mVar 0) δ c).bind seqAny) (gN 1) (fun _ c => .ok true c) (mOp (inD false) (mVar 1) (mC (.str ("abcdefghijklmnopqrstuvwxyz0123456789_-." : Str)))) [1]) mNil))))
noncomputable def m_is_name : MF := mkFn 1 2 mb_is_name
theorem ok_is_name (T : Fx K mg)  {fd : FuncData} (F : FunD K ("is_name" : Str) ("is_name" : Str) (defArgs st_is_name) (defBody st_is_name) (defScope st_is_name) [] [] (He.ga K ("is_name" : Str)) fd) : DefOk P w K mg base 1 ("is_name" : Str) m_is_name := by
  have G : FnOk P w K mg base (L2.CX P w) 1 (He.ga K ("is_name" : Str)) fd [("thing" : Str)] (spOf K m_is_name) := fn_ok F sc_is_name (fun cdv A outer s H E hr tk hp =>
    (dss_cons (ds_if (DW.dt (dw_or (dt_not (dt_val (de_isi T.isi_str T.f_isinstance (de_v 0) (dc_ty T.f_str (by decide +kernel))))) (dw_or (dt_not (dt_chain (os_le) (os_le) de_int (de_callB (cs_len) T.f_len PySem.boot_len (da_cons (de_v 0) da_nil)) (de_gint T.i_MOST_LETTERS))) (dw_or1 (dt_cmp (os_in) (de_v 0) (de_tup (da_cons (de_gstr T.s_HERE) (da_cons (de_gstr T.s_UP) da_nil)))))))) (dss_one (ds_ret de_bl)) dss_nil)
    (dss_one (ds_ret (de_callB (cs_all rfl) T.f_all PyProof.Rows.boot_all (da_cons (de_lc (own := [(("letter" : Str), 1)]) rfl sc_is_name.nd (di_any (de_v 0)) (by kernel_rfl) rfl (fun _ _ _ _ _ => (dg_name (i := 1) sc_is_name.nd rfl (Or.inl rfl))) (fun _ _ _ _ _ => dts_nil) (fun _ _ _ _ _ => (de_cmp (os_in) (de_v 1) (de_gstr T.s_LETTERS)))) da_nil))))))
  exact ⟨T.g_is_name, F.kp, fd, [("thing" : Str)], G, F.bindsN fun _ _ _ _ _ _ us hl => match us, hl with | [_], _ => rfl⟩
/-! BadText -/
theorem sc_BadText___init__ : FnScope [("self" : Str), ("place" : Str)] [("self" : Str), ("place" : Str)] (defScope st_BadText___init__) := ⟨rfl, rfl, rfl, by decide +kernel, rfl, by decide +kernel, by decide +kernel⟩
theorem ok_BadText___init__ (T : Fx K mg) {fd : FuncData} (F : FunD K "__init__" ("BadText.__init__" : Str) (defArgs st_BadText___init__) (defBody st_BadText___init__) (defScope st_BadText___init__) [] [] (He.ma K (He.ga K ("BadText" : Str)) "__init__") fd) : ExOk P w K mg base 1 ("BadText" : Str) [("place" : Str)] :=
  ⟨T.g_BadText, T.oex_BadText.1, fd, [("self" : Str), ("place" : Str)], T.fnt_BadText.1, T.fnt_BadText.2, exc_init1 F sc_BadText___init__ T.oex_BadText.1 T.oex_BadText.2, F.bindsN fun _ _ _ _ _ _ us hl => match us, hl with | [_, _], _ => rfl⟩
/-! asked_name -/
theorem sc_asked_name : FnScope [("text" : Str), ("place" : Str)] [("text" : Str), ("place" : Str)] (defScope st_asked_name) := ⟨rfl, rfl, rfl, by decide +kernel, rfl, by decide +kernel, by decide +kernel⟩
noncomputable def mb_asked_name : MS :=
  (mSeq (mIfS (mNotT (mB (mCall m_is_name (mCons (mVar 0) mNil)))) (mRaise ("BadText" : Str) [("place" : Str)] (mCons (mVar 1) mNil)) mSkip)
    (mRet (mVar 0)))
noncomputable def m_asked_name : MF := mkFn 2 2 mb_asked_name
theorem ok_asked_name (T : Fx K mg) (h_is_name : DefOk P w K mg base 1 ("is_name" : Str) m_is_name) (hx_BadText : ExOk P w K mg base 1 ("BadText" : Str) [("place" : Str)]) {fd : FuncData} (F : FunD K ("asked_name" : Str) ("asked_name" : Str) (defArgs st_asked_name) (defBody st_asked_name) (defScope st_asked_name) [] [] (He.ga K ("asked_name" : Str)) fd) : DefOk P w K mg base 3 ("asked_name" : Str) m_asked_name := by
  have G : FnOk P w K mg base (L2.CX P w) 3 (He.ga K ("asked_name" : Str)) fd [("text" : Str), ("place" : Str)] (spOf K m_asked_name) := fn_ok F sc_asked_name (fun cdv A outer s H E hr tk hp =>
    (dss_cons (ds_if (dt_not (dt_val (dd_call h_is_name (hr.mono (by first | decide | omega)) tk (da_cons (de_v 0) da_nil)))) (dss_one (dd_raise hx_BadText (hr.mono (by first | decide | omega)) rfl tk (da_cons (de_v 1) da_nil))) dss_nil)
    (dss_one (ds_ret (de_v 0)))))
  exact ⟨T.g_asked_name, F.kp, fd, [("text" : Str), ("place" : Str)], G, F.bindsN fun _ _ _ _ _ _ us hl => match us, hl with | [_, _], _ => rfl⟩
/-! MakeLink.__init__ -/
theorem sc_MakeLink___init__ : FnScope [("self" : Str), ("folder" : Str), ("name" : Str), ("owner" : Str), ("text" : Str)] [("self" : Str), ("folder" : Str), ("name" : Str), ("owner" : Str), ("text" : Str)] (defScope st_MakeLink___init__) := ⟨rfl, rfl, rfl, by decide +kernel, rfl, by decide +kernel, by decide +kernel⟩
noncomputable def mb_MakeLink___init__ : MS :=
  (mSeq (mSetF ("folder" : Str) [("Path" : Str), ("MakeFolder" : Str), ("MakeFile" : Str), ("MakeLink" : Str), ("Put" : Str), ("Take" : Str), ("Move" : Str)] (mVar 0) (mVar 1))
    (mSeq (mSetF ("name" : Str) [("MakeFolder" : Str), ("MakeFile" : Str), ("MakeLink" : Str), ("Put" : Str), ("Take" : Str), ("Move" : Str)] (mVar 0) (mVar 2))
    (mSeq (mSetF ("owner" : Str) [("MakeFolder" : Str), ("MakeFile" : Str), ("MakeLink" : Str)] (mVar 0) (mVar 3))
    (mSetF ("text" : Str) [("MakeLink" : Str)] (mVar 0) (mVar 4)))))
noncomputable def m_MakeLink___init__ : MF := mkFn 5 5 mb_MakeLink___init__
theorem ok_MakeLink___init__ (T : Fx K mg)  {fd : FuncData} (F : FunD K ("__init__" : Str) ("MakeLink.__init__" : Str) (defArgs st_MakeLink___init__) (defBody st_MakeLink___init__) (defScope st_MakeLink___init__) [] [] (He.ma K (He.ga K ("MakeLink" : Str)) ("__init__" : Str)) fd) : MkOk P w K mg base 1 ("MakeLink" : Str) m_MakeLink___init__ := by
  have G : FnOk P w K mg base (L2.CX P w) 1 (He.ma K (He.ga K ("MakeLink" : Str)) ("__init__" : Str)) fd [("self" : Str), ("folder" : Str), ("name" : Str), ("owner" : Str), ("text" : Str)] (spOf K m_MakeLink___init__) := fn_ok F sc_MakeLink___init__ (fun cdv A outer s H E hr tk hp =>
    (dss_cons (ds_setF T.fld_folder (de_v 0) (de_v 1))
    (dss_cons (ds_setF T.fld_name (de_v 0) (de_v 2))
    (dss_cons (ds_setF T.fld_owner (de_v 0) (de_v 3))
    (dss_one (ds_setF T.fld_text (de_v 0) (de_v 4)))))))
  exact ⟨T.g_MakeLink, fd, [("self" : Str), ("folder" : Str), ("name" : Str), ("owner" : Str), ("text" : Str)], T.mk_MakeLink, G, F.bindsN fun _ _ _ _ _ _ us hl => match us, hl with | [_, _, _, _, _], _ => rfl⟩
/-! Path.__init__ -/
theorem sc_Path___init__ : FnScope [("self" : Str), ("steps" : Str), ("absolute" : Str), ("folder" : Str), ("step" : Str)] [("self" : Str), ("steps" : Str), ("absolute" : Str), ("folder" : Str)] (defScope st_Path___init__) := ⟨rfl, rfl, rfl, by decide +kernel, rfl, by decide +kernel, by decide +kernel⟩
noncomputable def mb_Path___init__ : MS :=
  (mSeq (mSetF ("steps" : Str) [("Path" : Str)] (mVar 0) (mCB tupleD (mCons (mVar 1) mNil)))
    (mSeq (mSetF ("absolute" : Str) [("Path" : Str)] (mVar 0) (mVar 2))
    (mSeq (mSetF ("folder" : Str) [("Path" : Str), ("MakeFolder" : Str), ("MakeFile" : Str), ("MakeLink" : Str), ("Put" : Str), ("Take" : Str), ("Move" : Str)] (mVar 0) (mVar 3))
    (mSeq (mIfS (mNotT (mB (mCB allD (mCons (mLc (fun δ c => ((mFld ("steps" : Str) [("Path" : Str)] (mVar 0)) δ c).bind seqAny) (gN 4) (fun _ c => .ok true c) (mOr (mCall m_is_name (mCons (mVar 4) mNil)) (mOp (eqO EQ) (mVar 4) (mC (.str (".." : Str))))) [4]) mNil)))) (fun δ c => .exc ("NoPath" : Str) [] [] δ c) mSkip)
    (mIfS (mAndT (mNotT (mB (mVar 3))) (mOrT (mB (mOp (eqO EQ) (mFld ("steps" : Str) [("Path" : Str)] (mVar 0)) (mTup mNil))) (mB (mOp (eqO EQ) (mOp ixD (mFld ("steps" : Str) [("Path" : Str)] (mVar 0)) (fun δ c => ((mC (.int 1)) δ c).bind negD)) (mC (.str (".." : Str))))))) (fun δ c => .exc ("NoPath" : Str) [] [] δ c) mSkip)))))
noncomputable def m_Path___init__ : MF := mkFn 4 5 mb_Path___init__
theorem ok_Path___init__ (T : Fx K mg) (hE : EqAll P w K mg base 14 EQ) (h_is_name : DefOk P w K mg base 1 ("is_name" : Str) m_is_name) {fd : FuncData} (F : FunD K ("__init__" : Str) ("Path.__init__" : Str) (defArgs st_Path___init__) (defBody st_Path___init__) (defScope st_Path___init__) [] [] (He.ma K (He.ga K ("Path" : Str)) ("__init__" : Str)) fd) : MkOk P w K mg base 15 ("Path" : Str) m_Path___init__ := by
  have G : FnOk P w K mg base (L2.CX P w) 15 (He.ma K (He.ga K ("Path" : Str)) ("__init__" : Str)) fd [("self" : Str), ("steps" : Str), ("absolute" : Str), ("folder" : Str)] (spOf K m_Path___init__) := fn_ok F sc_Path___init__ (fun cdv A outer s H E hr tk hp =>
    (dss_cons (ds_setF T.fld_steps (de_v 0) (de_callTy cs_tuple T.f_tuple (by decide +kernel) (da_cons (de_v 1) da_nil)))
    (dss_cons (ds_setF T.fld_absolute (de_v 0) (de_v 2))
    (dss_cons (ds_setF T.fld_folder (de_v 0) (de_v 3))
    (dss_cons (ds_if (dt_not (dt_val (de_callB (cs_all rfl) T.f_all PyProof.Rows.boot_all (da_cons (de_lc (own := [(("step" : Str), 4)]) rfl sc_Path___init__.nd (di_any (de_fld T.fld_steps (de_v 0))) (by kernel_rfl) rfl (fun _ _ _ _ _ => (dg_name (i := 4) sc_Path___init__.nd rfl (Or.inl rfl))) (fun _ _ _ _ _ => dts_nil) (fun _ _ _ _ _ => (de_or (dd_call h_is_name (hr.mono (by first | decide | omega)) takes0 (da_cons (de_v 4) da_nil)) (de_one (de_cmp (os_eq (hE _ rfl rfl rfl rfl rfl) (hr.mono (by first | decide | omega))) (de_v 4) (de_gstr T.s_UP)))))) da_nil)))) (dss_one (ds_raise0 T.x0_NoPath rfl tk)) dss_nil)
    (dss_one (ds_if (DW.dt (dw_and (dt_not (dt_val (de_v 3))) (dw_and1 (DW.dt (dw_or (dt_cmp (os_eq (hE _ rfl rfl rfl rfl rfl) (hr.mono (by first | decide | omega))) (de_fld T.fld_steps (de_v 0)) (de_tup da_nil)) (dw_or1 (dt_cmp (os_eq (hE _ rfl rfl rfl rfl rfl) (hr.mono (by first | decide | omega))) (de_ix (de_fld T.fld_steps (de_v 0)) (de_neg de_int)) (de_gstr T.s_UP)))))))) (dss_one (ds_raise0 T.x0_NoPath rfl tk)) dss_nil)))))))
  exact ⟨T.g_Path, fd, [("self" : Str), ("steps" : Str), ("absolute" : Str), ("folder" : Str)], T.mk_Path, G, F.bindsN fun _ _ _ _ _ _ us hl => match us, hl with | [_, _, _, _], _ => rfl⟩
/-! read_path -/
theorem sc_read_path : FnScope [("text" : Str), ("components" : Str), ("steps" : Str), ("place" : Str), ("component" : Str)] [("text" : Str)] (defScope st_read_path) := ⟨rfl, rfl, rfl, by decide +kernel, rfl, by decide +kernel, by decide +kernel⟩
noncomputable def mb_read_path : MS :=
  (mSeq (mIfS (mOrT (mNotT (mB (mIsi tys isi_str (mVar 0)))) (mB (mOp (eqO EQ) (mVar 0) (mC (.str ("" : Str)))))) (mRaise ("BadText" : Str) [("place" : Str)] (mCons (mC (.int 0)) mNil)) mSkip)
    (mSeq (mPar [1, 2, 3] (mCons (mBM .s splitD (mVar 0) (mCons (mC (.str ("/" : Str))) mNil)) (mCons (mLstC mNil) (mCons (mC (.int 0)) mNil))))
    (mSeq (mFor (fun δ c => ((mVar 1) δ c).bind seqAny) (gN 4) (mSeq (mIfS (mB (mOp (inD true) (mVar 4) (mTup (mCons (mC (.str ("" : Str))) (mCons (mC (.str ("." : Str))) mNil))))) (mSeq (mIfS (mAndT (mB (mOp (neO EQ) (mVar 4) (mC (.str (".." : Str))))) (mNotT (mB (mCall m_is_name (mCons (mVar 4) mNil))))) (mRaise ("BadText" : Str) [("place" : Str)] (mCons (mVar 3) mNil)) mSkip)
    (mExpr (mBM .l appendD (mVar 2) (mCons (mVar 4) mNil)))) mSkip)
    (mSet 3 (mOp addD (mOp addD (mVar 3) (mCB lenD (mCons (mVar 4) mNil))) (mC (.int 1))))))
    (mRet (mMake ("Path" : Str) m_Path___init__ (mCons (mVar 2) (mCons (mOp (eqO EQ) (mOp ixD (mVar 0) (mC (.int 0))) (mC (.str ("/" : Str)))) (mCons (mOp (inD false) (mOp ixD (mVar 1) (fun δ c => ((mC (.int 1)) δ c).bind negD)) (mTup (mCons (mC (.str ("" : Str))) (mCons (mC (.str ("." : Str))) (mCons (mC (.str (".." : Str))) mNil))))) mNil))))))))
noncomputable def m_read_path : MF := mkFnB 1 5 mb_read_path
theorem ok_read_path (T : Fx K mg) (hm_Path : MkOk P w K mg base 15 ("Path" : Str) m_Path___init__) (hE : EqAll P w K mg base 14 EQ) (h_is_name : DefOk P w K mg base 1 ("is_name" : Str) m_is_name) (hx_BadText : ExOk P w K mg base 1 ("BadText" : Str) [("place" : Str)]) {fd : FuncData} (F : FunD K ("read_path" : Str) ("read_path" : Str) (defArgs st_read_path) (defBody st_read_path) (defScope st_read_path) [] [] (He.ga K ("read_path" : Str)) fd) : DefOk P w K mg base 17 ("read_path" : Str) m_read_path := by
  have G : FnOk P w K mg base (L2.CX P w) 17 (He.ga K ("read_path" : Str)) fd [("text" : Str)] (spOf K m_read_path) := fn_okB F sc_read_path (fun cdv A outer s H E hr tk hp =>
    (dss_cons (ds_if (DW.dt (dw_or (dt_not (dt_val (de_isi T.isi_str T.f_isinstance (de_v 0) (dc_ty T.f_str (by decide +kernel))))) (dw_or1 (dt_cmp (os_eq (hE _ rfl rfl rfl rfl rfl) (hr.mono (by first | decide | omega))) (de_v 0) de_str)))) (dss_one (dd_raise hx_BadText (hr.mono (by first | decide | omega)) rfl tk (da_cons de_int da_nil))) dss_nil)
    (dss_cons (ds_par3 (i := 1) (j := 2) (l := 3) rfl sc_read_path.nd rfl rfl rfl (by decide) (by decide) (by decide) rfl rfl rfl (da_cons (de_bm (T := .s) PySem.F.plainAttrs_str PySem.F.slot_str_split PySem.F.type_str_split ms_split (de_v 0) (da_cons de_str da_nil)) (da_cons (de_lstC da_nil) (da_cons de_int da_nil))) (by kernel_rfl))
    (dss_cons (ds_for hp rfl (di_any (de_v 1)) (dg_name (i := 4) sc_read_path.nd rfl (Or.inl rfl)) (dss_cons (ds_if (dt_cmp (os_notIn) (de_v 4) (de_tup (da_cons de_str (da_cons (de_gstr T.s_HERE) da_nil)))) (dss_cons (ds_if (DW.dt (dw_and (dt_cmp (os_ne (hE _ rfl rfl rfl rfl rfl) (hr.mono (by first | decide | omega))) (de_v 4) (de_gstr T.s_UP)) (dw_and1 (dt_not (dt_val (dd_call h_is_name (hr.mono (by first | decide | omega)) tk (da_cons (de_v 4) da_nil))))))) (dss_one (dd_raise hx_BadText (hr.mono (by first | decide | omega)) rfl tk (da_cons (de_v 3) da_nil))) dss_nil)
    (dss_one (ds_expr (de_bm (T := .l) PySem.F.plainAttrs_list PySem.F.slot_list_append PySem.F.type_list_append ms_append (de_v 2) (da_cons (de_v 4) da_nil))))) dss_nil)
    (dss_one (ds_set (i := 3) sc_read_path.nd rfl (Or.inl rfl) (de_op os_add (de_op os_add (de_v 3) (de_callB (cs_len) T.f_len PySem.boot_len (da_cons (de_v 4) da_nil))) de_int)))))
    (dss_one (ds_ret (dd_make hm_Path (hr.mono (by first | decide | omega)) tk (da_cons (de_v 2) (da_cons (de_cmp (os_eq (hE _ rfl rfl rfl rfl rfl) (hr.mono (by first | decide | omega))) (de_ix (de_v 0) de_int) de_str) (da_cons (de_cmp (os_in) (de_ix (de_v 1) (de_neg de_int)) (de_tup (da_cons de_str (da_cons (de_gstr T.s_HERE) (da_cons (de_gstr T.s_UP) da_nil))))) da_nil))))))))))
  exact ⟨T.g_read_path, F.kp, fd, [("text" : Str)], G, F.bindsN fun _ _ _ _ _ _ us hl => match us, hl with | [_], _ => rfl⟩
/-! is_path_text -/
theorem sc_is_path_text : FnScope [("thing" : Str)] [("thing" : Str)] (defScope st_is_path_text) := ⟨rfl, rfl, rfl, by decide +kernel, rfl, by decide +kernel, by decide +kernel⟩
noncomputable def mb_is_path_text : MS :=
  (mSeq (mTry (mExpr (mCall m_read_path (mCons (mVar 0) mNil))) [([(("WalkError" : Str), false), (("BadText" : Str), true), (("NoPath" : Str), false)], (mRet (mC (.bl false))))])
    (mRet (mC (.bl true))))
noncomputable def m_is_path_text : MF := mkFn 1 1 mb_is_path_text
theorem ok_is_path_text (T : Fx K mg) (h_read_path : DefOk P w K mg base 17 ("read_path" : Str) m_read_path) {fd : FuncData} (F : FunD K ("is_path_text" : Str) ("is_path_text" : Str) (defArgs st_is_path_text) (defBody st_is_path_text) (defScope st_is_path_text) [] [] (He.ga K ("is_path_text" : Str)) fd) : DefOk P w K mg base 18 ("is_path_text" : Str) m_is_path_text := by
  have G : FnOk P w K mg base (L2.CX P w) 18 (He.ga K ("is_path_text" : Str)) fd [("thing" : Str)] (spOf K m_is_path_text) := fn_ok F sc_is_path_text (fun cdv A outer s H E hr tk hp =>
    (dss_cons (ds_try rfl rfl tk (fun W pn xe tkB hpB => (dss_one (ds_expr (dd_call h_read_path (hr.mono (by first | decide | omega)) tkB (da_cons (de_v 0) da_nil))))) (.cons rfl (by decide) T.g_BadText T.xm_BadText (fun a oe pn => (dss_one (ds_ret de_bl))) .nil))
    (dss_one (ds_ret de_bl))))
  exact ⟨T.g_is_path_text, F.kp, fd, [("thing" : Str)], G, F.bindsN fun _ _ _ _ _ _ us hl => match us, hl with | [_], _ => rfl⟩
/-! asked_path -/
theorem sc_asked_path : FnScope [("text" : Str), ("place" : Str)] [("text" : Str), ("place" : Str)] (defScope st_asked_path) := ⟨rfl, rfl, rfl, by decide +kernel, rfl, by decide +kernel, by decide +kernel⟩
noncomputable def mb_asked_path : MS :=
  (mSeq (mIfS (mNotT (mB (mCall m_is_path_text (mCons (mVar 0) mNil)))) (mRaise ("BadText" : Str) [("place" : Str)] (mCons (mVar 1) mNil)) mSkip)
    (mRet (mVar 0)))
noncomputable def m_asked_path : MF := mkFn 2 2 mb_asked_path
theorem ok_asked_path (T : Fx K mg) (h_is_path_text : DefOk P w K mg base 18 ("is_path_text" : Str) m_is_path_text) (hx_BadText : ExOk P w K mg base 1 ("BadText" : Str) [("place" : Str)]) {fd : FuncData} (F : FunD K ("asked_path" : Str) ("asked_path" : Str) (defArgs st_asked_path) (defBody st_asked_path) (defScope st_asked_path) [] [] (He.ga K ("asked_path" : Str)) fd) : DefOk P w K mg base 19 ("asked_path" : Str) m_asked_path := by
  have G : FnOk P w K mg base (L2.CX P w) 19 (He.ga K ("asked_path" : Str)) fd [("text" : Str), ("place" : Str)] (spOf K m_asked_path) := fn_ok F sc_asked_path (fun cdv A outer s H E hr tk hp =>
    (dss_cons (ds_if (dt_not (dt_val (dd_call h_is_path_text (hr.mono (by first | decide | omega)) tk (da_cons (de_v 0) da_nil)))) (dss_one (dd_raise hx_BadText (hr.mono (by first | decide | omega)) rfl tk (da_cons (de_v 1) da_nil))) dss_nil)
    (dss_one (ds_ret (de_v 0)))))
  exact ⟨T.g_asked_path, F.kp, fd, [("text" : Str), ("place" : Str)], G, F.bindsN fun _ _ _ _ _ _ us hl => match us, hl with | [_, _], _ => rfl⟩
/-! read_number -/
theorem sc_read_number : FnScope [("text" : Str), ("place" : Str), ("sign" : Str)] [("text" : Str), ("place" : Str)] (defScope st_read_number) := ⟨rfl, rfl, rfl, by decide +kernel, rfl, by decide +kernel, by decide +kernel⟩
noncomputable def read_number_e0 : ME :=
  (mOp (inD false) (mVar 2) (mC (.str ("0123456789" : Str))))
noncomputable def mb_read_number : MS :=
  (mSeq (mIfS (mOrT (mNotT (mB (mChain leD leD (mC (.int 1)) (mCB lenD (mCons (mVar 0) mNil)) (mC (.int 9))))) (mNotT (mB (mCB allD (mCons (mLc (fun δ c => ((mVar 0) δ c).bind seqAny) (gN 2) (fun _ c => .ok true c) read_number_e0 [2]) mNil))))) (mRaise ("BadText" : Str) [("place" : Str)] (mCons (mVar 1) mNil)) mSkip)
    (mSeq (mIfS (mAndT (mB (mOp (eqO EQ) (mOp ixD (mVar 0) (mC (.int 0))) (mC (.str ("0" : Str))))) (mB (mOp (neO EQ) (mVar 0) (mC (.str ("0" : Str)))))) (mRaise ("BadText" : Str) [("place" : Str)] (mCons (mVar 1) mNil)) mSkip)
    (mRet (mCB intTD (mCons (mVar 0) mNil)))))
noncomputable def m_read_number : MF := mkFn 2 3 mb_read_number
theorem ok_read_number (T : Fx K mg) (hE : EqAll P w K mg base 14 EQ) (hx_BadText : ExOk P w K mg base 1 ("BadText" : Str) [("place" : Str)]) {fd : FuncData} (F : FunD K ("read_number" : Str) ("read_number" : Str) (defArgs st_read_number) (defBody st_read_number) (defScope st_read_number) [] [] (He.ga K ("read_number" : Str)) fd) : DefOk P w K mg base 15 ("read_number" : Str) m_read_number := by
  have G : FnOk P w K mg base (L2.CX P w) 15 (He.ga K ("read_number" : Str)) fd [("text" : Str), ("place" : Str)] (spOf K m_read_number) := fn_ok F sc_read_number (fun cdv A outer s H E hr tk hp =>
    (dss_cons (ds_if (DW.dt (dw_or (dt_not (dt_chain (os_le) (os_le) de_int (de_callB (cs_len) T.f_len PySem.boot_len (da_cons (de_v 0) da_nil)) (de_gint T.i_MOST_FIGURES))) (dw_or1 (dt_not (dt_val (de_callB (cs_all rfl) T.f_all PyProof.Rows.boot_all (da_cons (de_lc (own := [(("sign" : Str), 2)]) rfl sc_read_number.nd (di_any (de_v 0)) (by kernel_rfl) rfl (fun _ _ _ _ _ => (dg_name (i := 2) sc_read_number.nd rfl (Or.inl rfl))) (fun _ _ _ _ _ => dts_nil) (fun _ _ _ _ _ => (de_cmp (os_in) (de_v 2) (de_gstr T.s_FIGURES)))) da_nil))))))) (dss_one (dd_raise hx_BadText (hr.mono (by first | decide | omega)) rfl tk (da_cons (de_v 1) da_nil))) dss_nil)
    (dss_cons (ds_if (DW.dt (dw_and (dt_cmp (os_eq (hE _ rfl rfl rfl rfl rfl) (hr.mono (by first | decide | omega))) (de_ix (de_v 0) de_int) de_str) (dw_and1 (dt_cmp (os_ne (hE _ rfl rfl rfl rfl rfl) (hr.mono (by first | decide | omega))) (de_v 0) de_str)))) (dss_one (dd_raise hx_BadText (hr.mono (by first | decide | omega)) rfl tk (da_cons (de_v 1) da_nil))) dss_nil)
    (dss_one (ds_ret (de_callTy cs_intT T.f_int (by decide +kernel) (da_cons (de_v 0) da_nil)))))))
  exact ⟨T.g_read_number, F.kp, fd, [("text" : Str), ("place" : Str)], G, F.bindsN fun _ _ _ _ _ _ us hl => match us, hl with | [_, _], _ => rfl⟩
/-! Take.__init__ -/
theorem sc_Take___init__ : FnScope [("self" : Str), ("folder" : Str), ("name" : Str)] [("self" : Str), ("folder" : Str), ("name" : Str)] (defScope st_Take___init__) := ⟨rfl, rfl, rfl, by decide +kernel, rfl, by decide +kernel, by decide +kernel⟩
noncomputable def mb_Take___init__ : MS :=
  (mSeq (mSetF ("folder" : Str) [("Path" : Str), ("MakeFolder" : Str), ("MakeFile" : Str), ("MakeLink" : Str), ("Put" : Str), ("Take" : Str), ("Move" : Str)] (mVar 0) (mVar 1))
    (mSetF ("name" : Str) [("MakeFolder" : Str), ("MakeFile" : Str), ("MakeLink" : Str), ("Put" : Str), ("Take" : Str), ("Move" : Str)] (mVar 0) (mVar 2)))
noncomputable def m_Take___init__ : MF := mkFn 3 3 mb_Take___init__
theorem ok_Take___init__ (T : Fx K mg)  {fd : FuncData} (F : FunD K ("__init__" : Str) ("Take.__init__" : Str) (defArgs st_Take___init__) (defBody st_Take___init__) (defScope st_Take___init__) [] [] (He.ma K (He.ga K ("Take" : Str)) ("__init__" : Str)) fd) : MkOk P w K mg base 1 ("Take" : Str) m_Take___init__ := by
  have G : FnOk P w K mg base (L2.CX P w) 1 (He.ma K (He.ga K ("Take" : Str)) ("__init__" : Str)) fd [("self" : Str), ("folder" : Str), ("name" : Str)] (spOf K m_Take___init__) := fn_ok F sc_Take___init__ (fun cdv A outer s H E hr tk hp =>
    (dss_cons (ds_setF T.fld_folder (de_v 0) (de_v 1))
    (dss_one (ds_setF T.fld_name (de_v 0) (de_v 2)))))
  exact ⟨T.g_Take, fd, [("self" : Str), ("folder" : Str), ("name" : Str)], T.mk_Take, G, F.bindsN fun _ _ _ _ _ _ us hl => match us, hl with | [_, _, _], _ => rfl⟩
/-! MakeFile.__init__ -/
theorem sc_MakeFile___init__ : FnScope [("self" : Str), ("folder" : Str), ("name" : Str), ("owner" : Str)] [("self" : Str), ("folder" : Str), ("name" : Str), ("owner" : Str)] (defScope st_MakeFile___init__) := ⟨rfl, rfl, rfl, by decide +kernel, rfl, by decide +kernel, by decide +kernel⟩
noncomputable def mb_MakeFile___init__ : MS :=
  (mSeq (mSetF ("folder" : Str) [("Path" : Str), ("MakeFolder" : Str), ("MakeFile" : Str), ("MakeLink" : Str), ("Put" : Str), ("Take" : Str), ("Move" : Str)] (mVar 0) (mVar 1))
    (mSeq (mSetF ("name" : Str) [("MakeFolder" : Str), ("MakeFile" : Str), ("MakeLink" : Str), ("Put" : Str), ("Take" : Str), ("Move" : Str)] (mVar 0) (mVar 2))
    (mSetF ("owner" : Str) [("MakeFolder" : Str), ("MakeFile" : Str), ("MakeLink" : Str)] (mVar 0) (mVar 3))))
noncomputable def m_MakeFile___init__ : MF := mkFn 4 4 mb_MakeFile___init__
theorem ok_MakeFile___init__ (T : Fx K mg)  {fd : FuncData} (F : FunD K ("__init__" : Str) ("MakeFile.__init__" : Str) (defArgs st_MakeFile___init__) (defBody st_MakeFile___init__) (defScope st_MakeFile___init__) [] [] (He.ma K (He.ga K ("MakeFile" : Str)) ("__init__" : Str)) fd) : MkOk P w K mg base 1 ("MakeFile" : Str) m_MakeFile___init__ := by
  have G : FnOk P w K mg base (L2.CX P w) 1 (He.ma K (He.ga K ("MakeFile" : Str)) ("__init__" : Str)) fd [("self" : Str), ("folder" : Str), ("name" : Str), ("owner" : Str)] (spOf K m_MakeFile___init__) := fn_ok F sc_MakeFile___init__ (fun cdv A outer s H E hr tk hp =>
    (dss_cons (ds_setF T.fld_folder (de_v 0) (de_v 1))
    (dss_cons (ds_setF T.fld_name (de_v 0) (de_v 2))
    (dss_one (ds_setF T.fld_owner (de_v 0) (de_v 3))))))
  exact ⟨T.g_MakeFile, fd, [("self" : Str), ("folder" : Str), ("name" : Str), ("owner" : Str)], T.mk_MakeFile, G, F.bindsN fun _ _ _ _ _ _ us hl => match us, hl with | [_, _, _, _], _ => rfl⟩
/-! Put.__init__ -/
theorem sc_Put___init__ : FnScope [("self" : Str), ("folder" : Str), ("name" : Str), ("node" : Str)] [("self" : Str), ("folder" : Str), ("name" : Str), ("node" : Str)] (defScope st_Put___init__) := ⟨rfl, rfl, rfl, by decide +kernel, rfl, by decide +kernel, by decide +kernel⟩
noncomputable def mb_Put___init__ : MS :=
  (mSeq (mSetF ("folder" : Str) [("Path" : Str), ("MakeFolder" : Str), ("MakeFile" : Str), ("MakeLink" : Str), ("Put" : Str), ("Take" : Str), ("Move" : Str)] (mVar 0) (mVar 1))
    (mSeq (mSetF ("name" : Str) [("MakeFolder" : Str), ("MakeFile" : Str), ("MakeLink" : Str), ("Put" : Str), ("Take" : Str), ("Move" : Str)] (mVar 0) (mVar 2))
    (mSetF ("node" : Str) [("Put" : Str), ("Came" : Str)] (mVar 0) (mVar 3))))
noncomputable def m_Put___init__ : MF := mkFn 4 4 mb_Put___init__
theorem ok_Put___init__ (T : Fx K mg)  {fd : FuncData} (F : FunD K ("__init__" : Str) ("Put.__init__" : Str) (defArgs st_Put___init__) (defBody st_Put___init__) (defScope st_Put___init__) [] [] (He.ma K (He.ga K ("Put" : Str)) ("__init__" : Str)) fd) : MkOk P w K mg base 1 ("Put" : Str) m_Put___init__ := by
  have G : FnOk P w K mg base (L2.CX P w) 1 (He.ma K (He.ga K ("Put" : Str)) ("__init__" : Str)) fd [("self" : Str), ("folder" : Str), ("name" : Str), ("node" : Str)] (spOf K m_Put___init__) := fn_ok F sc_Put___init__ (fun cdv A outer s H E hr tk hp =>
    (dss_cons (ds_setF T.fld_folder (de_v 0) (de_v 1))
    (dss_cons (ds_setF T.fld_name (de_v 0) (de_v 2))
    (dss_one (ds_setF T.fld_node (de_v 0) (de_v 3))))))
  exact ⟨T.g_Put, fd, [("self" : Str), ("folder" : Str), ("name" : Str), ("node" : Str)], T.mk_Put, G, F.bindsN fun _ _ _ _ _ _ us hl => match us, hl with | [_, _, _, _], _ => rfl⟩
/-! MakeFolder.__init__ -/
theorem sc_MakeFolder___init__ : FnScope [("self" : Str), ("folder" : Str), ("name" : Str), ("owner" : Str)] [("self" : Str), ("folder" : Str), ("name" : Str), ("owner" : Str)] (defScope st_MakeFolder___init__) := ⟨rfl, rfl, rfl, by decide +kernel, rfl, by decide +kernel, by decide +kernel⟩
noncomputable def mb_MakeFolder___init__ : MS :=
  (mSeq (mSetF ("folder" : Str) [("Path" : Str), ("MakeFolder" : Str), ("MakeFile" : Str), ("MakeLink" : Str), ("Put" : Str), ("Take" : Str), ("Move" : Str)] (mVar 0) (mVar 1))
    (mSeq (mSetF ("name" : Str) [("MakeFolder" : Str), ("MakeFile" : Str), ("MakeLink" : Str), ("Put" : Str), ("Take" : Str), ("Move" : Str)] (mVar 0) (mVar 2))
    (mSetF ("owner" : Str) [("MakeFolder" : Str), ("MakeFile" : Str), ("MakeLink" : Str)] (mVar 0) (mVar 3))))
noncomputable def m_MakeFolder___init__ : MF := mkFn 4 4 mb_MakeFolder___init__
theorem ok_MakeFolder___init__ (T : Fx K mg)  {fd : FuncData} (F : FunD K ("__init__" : Str) ("MakeFolder.__init__" : Str) (defArgs st_MakeFolder___init__) (defBody st_MakeFolder___init__) (defScope st_MakeFolder___init__) [] [] (He.ma K (He.ga K ("MakeFolder" : Str)) ("__init__" : Str)) fd) : MkOk P w K mg base 1 ("MakeFolder" : Str) m_MakeFolder___init__ := by
  have G : FnOk P w K mg base (L2.CX P w) 1 (He.ma K (He.ga K ("MakeFolder" : Str)) ("__init__" : Str)) fd [("self" : Str), ("folder" : Str), ("name" : Str), ("owner" : Str)] (spOf K m_MakeFolder___init__) := fn_ok F sc_MakeFolder___init__ (fun cdv A outer s H E hr tk hp =>
    (dss_cons (ds_setF T.fld_folder (de_v 0) (de_v 1))
    (dss_cons (ds_setF T.fld_name (de_v 0) (de_v 2))
    (dss_one (ds_setF T.fld_owner (de_v 0) (de_v 3))))))
  exact ⟨T.g_MakeFolder, fd, [("self" : Str), ("folder" : Str), ("name" : Str), ("owner" : Str)], T.mk_MakeFolder, G, F.bindsN fun _ _ _ _ _ _ us hl => match us, hl with | [_, _, _, _], _ => rfl⟩
/-! read_making -/
theorem sc_read_making : FnScope [("kind" : Str), ("words" : Str), ("place" : Str), ("folder" : Str), ("name" : Str), ("number" : Str)] [("kind" : Str), ("words" : Str), ("place" : Str)] (defScope st_read_making) := ⟨rfl, rfl, rfl, by decide +kernel, rfl, by decide +kernel, by decide +kernel⟩
noncomputable def mb_read_making : MS :=
  (mSeq (mPar [3, 4, 5] (mCons (mCall m_read_number (mCons (mOp ixD (mVar 1) (mC (.int 0))) (mCons (mVar 2) mNil))) (mCons (mCall m_asked_name (mCons (mOp ixD (mVar 1) (mC (.int 1))) (mCons (mVar 2) mNil))) (mCons (mCall m_read_number (mCons (mOp ixD (mVar 1) (mC (.int 2))) (mCons (mVar 2) mNil))) mNil))))
    (mSeq (mIfS (mB (mOp (eqO EQ) (mVar 0) (mC (.str ("folder" : Str))))) (mRet (mMake ("MakeFolder" : Str) m_MakeFolder___init__ (mCons (mVar 3) (mCons (mVar 4) (mCons (mVar 5) mNil))))) mSkip)
    (mRet (mIf (mB (mOp (eqO EQ) (mVar 0) (mC (.str ("file" : Str))))) (mMake ("MakeFile" : Str) m_MakeFile___init__ (mCons (mVar 3) (mCons (mVar 4) (mCons (mVar 5) mNil)))) (mMake ("Put" : Str) m_Put___init__ (mCons (mVar 3) (mCons (mVar 4) (mCons (mVar 5) mNil))))))))
noncomputable def m_read_making : MF := mkFn 3 6 mb_read_making
theorem ok_read_making (T : Fx K mg) (hE : EqAll P w K mg base 14 EQ) (hm_MakeFile : MkOk P w K mg base 1 ("MakeFile" : Str) m_MakeFile___init__) (hm_Put : MkOk P w K mg base 1 ("Put" : Str) m_Put___init__) (hm_MakeFolder : MkOk P w K mg base 1 ("MakeFolder" : Str) m_MakeFolder___init__) (h_read_number : DefOk P w K mg base 15 ("read_number" : Str) m_read_number) (h_asked_name : DefOk P w K mg base 3 ("asked_name" : Str) m_asked_name) {fd : FuncData} (F : FunD K ("read_making" : Str) ("read_making" : Str) (defArgs st_read_making) (defBody st_read_making) (defScope st_read_making) [] [] (He.ga K ("read_making" : Str)) fd) : DefOk P w K mg base 16 ("read_making" : Str) m_read_making := by
  have G : FnOk P w K mg base (L2.CX P w) 16 (He.ga K ("read_making" : Str)) fd [("kind" : Str), ("words" : Str), ("place" : Str)] (spOf K m_read_making) := fn_ok F sc_read_making (fun cdv A outer s H E hr tk hp =>
    (dss_cons (ds_par3 (i := 3) (j := 4) (l := 5) rfl sc_read_making.nd rfl rfl rfl (by decide) (by decide) (by decide) rfl rfl rfl (da_cons (dd_call h_read_number (hr.mono (by first | decide | omega)) tk (da_cons (de_ix (de_v 1) de_int) (da_cons (de_v 2) da_nil))) (da_cons (dd_call h_asked_name (hr.mono (by first | decide | omega)) tk (da_cons (de_ix (de_v 1) de_int) (da_cons (de_v 2) da_nil))) (da_cons (dd_call h_read_number (hr.mono (by first | decide | omega)) tk (da_cons (de_ix (de_v 1) de_int) (da_cons (de_v 2) da_nil))) da_nil))) (by kernel_rfl))
    (dss_cons (ds_if (dt_cmp (os_eq (hE _ rfl rfl rfl rfl rfl) (hr.mono (by first | decide | omega))) (de_v 0) de_str) (dss_one (ds_ret (dd_make hm_MakeFolder (hr.mono (by first | decide | omega)) tk (da_cons (de_v 3) (da_cons (de_v 4) (da_cons (de_v 5) da_nil)))))) dss_nil)
    (dss_one (ds_ret (de_if (dt_cmp (os_eq (hE _ rfl rfl rfl rfl rfl) (hr.mono (by first | decide | omega))) (de_v 0) de_str) (dd_make hm_MakeFile (hr.mono (by first | decide | omega)) tk (da_cons (de_v 3) (da_cons (de_v 4) (da_cons (de_v 5) da_nil)))) (dd_make hm_Put (hr.mono (by first | decide | omega)) tk (da_cons (de_v 3) (da_cons (de_v 4) (da_cons (de_v 5) da_nil))))))))))
  exact ⟨T.g_read_making, F.kp, fd, [("kind" : Str), ("words" : Str), ("place" : Str)], G, F.bindsN fun _ _ _ _ _ _ us hl => match us, hl with | [_, _, _], _ => rfl⟩
/-! read_deed -/
theorem sc_read_deed : FnScope [("text" : Str), ("place" : Str), ("kind" : Str), ("words" : Str), ("folder" : Str), ("name" : Str), ("number" : Str)] [("text" : Str), ("place" : Str)] (defScope st_read_deed) := ⟨rfl, rfl, rfl, by decide +kernel, rfl, by decide +kernel, by decide +kernel⟩
noncomputable def mb_read_deed : MS :=
  (mSeq (mStar (gsCons (gN 2) (gsCons (gN 3) gsNil)) (mBM .s splitD (mVar 0) (mCons (mC (.str (" " : Str))) mNil)))
    (mSeq (mIfS (mAndT (mB (mOp (inD false) (mVar 2) (mTup (mCons (mC (.str ("folder" : Str))) (mCons (mC (.str ("file" : Str))) (mCons (mC (.str ("put" : Str))) mNil)))))) (mB (mOp (eqO EQ) (mCB lenD (mCons (mVar 3) mNil)) (mC (.int 3))))) (mRet (mCall m_read_making (mCons (mVar 2) (mCons (mVar 3) (mCons (mVar 1) mNil))))) mSkip)
    (mSeq (mIfS (mAndT (mB (mOp (eqO EQ) (mVar 2) (mC (.str ("take" : Str))))) (mB (mOp (eqO EQ) (mCB lenD (mCons (mVar 3) mNil)) (mC (.int 2))))) (mRet (mMake ("Take" : Str) m_Take___init__ (mCons (mCall m_read_number (mCons (mOp ixD (mVar 3) (mC (.int 0))) (mCons (mVar 1) mNil))) (mCons (mCall m_asked_name (mCons (mOp ixD (mVar 3) (mC (.int 1))) (mCons (mVar 1) mNil))) mNil)))) mSkip)
    (mSeq (mIfS (mOrT (mB (mOp (inD true) (mVar 2) (mTup (mCons (mC (.str ("link" : Str))) (mCons (mC (.str ("move" : Str))) mNil))))) (mB (mOp (neO EQ) (mCB lenD (mCons (mVar 3) mNil)) (mC (.int 4))))) (mRaise ("BadText" : Str) [("place" : Str)] (mCons (mVar 1) mNil)) mSkip)
    (mSeq (mPar [4, 5, 6] (mCons (mCall m_read_number (mCons (mOp ixD (mVar 3) (mC (.int 0))) (mCons (mVar 1) mNil))) (mCons (mCall m_asked_name (mCons (mOp ixD (mVar 3) (mC (.int 1))) (mCons (mVar 1) mNil))) (mCons (mCall m_read_number (mCons (mOp ixD (mVar 3) (mC (.int 2))) (mCons (mVar 1) mNil))) mNil))))
    (mSeq (mIfS (mB (mOp (eqO EQ) (mVar 2) (mC (.str ("link" : Str))))) (mRet (mMake ("MakeLink" : Str) m_MakeLink___init__ (mCons (mVar 4) (mCons (mVar 5) (mCons (mVar 6) (mCons (mCall m_asked_path (mCons (mOp ixD (mVar 3) (mC (.int 3))) (mCons (mVar 1) mNil))) mNil)))))) mSkip)
    (mRet (mMake ("Move" : Str) m_Move___init__ (mCons (mVar 4) (mCons (mVar 5) (mCons (mVar 6) (mCons (mCall m_asked_name (mCons (mOp ixD (mVar 3) (mC (.int 3))) (mCons (mVar 1) mNil))) mNil))))))))))))
noncomputable def m_read_deed : MF := mkFn 2 7 mb_read_deed
theorem ok_read_deed (T : Fx K mg) (hm_Move : MkOk P w K mg base 1 ("Move" : Str) m_Move___init__) (h_asked_name : DefOk P w K mg base 3 ("asked_name" : Str) m_asked_name) (hE : EqAll P w K mg base 14 EQ) (hm_MakeLink : MkOk P w K mg base 1 ("MakeLink" : Str) m_MakeLink___init__) (h_asked_path : DefOk P w K mg base 19 ("asked_path" : Str) m_asked_path) (h_read_number : DefOk P w K mg base 15 ("read_number" : Str) m_read_number) (hx_BadText : ExOk P w K mg base 1 ("BadText" : Str) [("place" : Str)]) (hm_Take : MkOk P w K mg base 1 ("Take" : Str) m_Take___init__) (h_read_making : DefOk P w K mg base 16 ("read_making" : Str) m_read_making) {fd : FuncData} (F : FunD K ("read_deed" : Str) ("read_deed" : Str) (defArgs st_read_deed) (defBody st_read_deed) (defScope st_read_deed) [] [] (He.ga K ("read_deed" : Str)) fd) : DefOk P w K mg base 20 ("read_deed" : Str) m_read_deed := by
  have G : FnOk P w K mg base (L2.CX P w) 20 (He.ga K ("read_deed" : Str)) fd [("text" : Str), ("place" : Str)] (spOf K m_read_deed) := fn_ok F sc_read_deed (fun cdv A outer s H E hr tk hp =>
    (dss_cons (ds_star rfl (de_bm (T := .s) PySem.F.plainAttrs_str PySem.F.slot_str_split PySem.F.type_str_split ms_split (de_v 0) (da_cons de_str da_nil)) (dgs_cons (dg_name (i := 2) sc_read_deed.nd rfl (Or.inl rfl)) (dgs_cons (dg_name (i := 3) sc_read_deed.nd rfl (Or.inl rfl)) dgs_nil)) (by rfl) (by kernel_rfl))
    (dss_cons (ds_if (DW.dt (dw_and (dt_cmp (os_in) (de_v 2) (de_tup (da_cons de_str (da_cons de_str (da_cons de_str da_nil))))) (dw_and1 (dt_cmp (os_eq (hE _ rfl rfl rfl rfl rfl) (hr.mono (by first | decide | omega))) (de_callB (cs_len) T.f_len PySem.boot_len (da_cons (de_v 3) da_nil)) de_int)))) (dss_one (ds_ret (dd_call h_read_making (hr.mono (by first | decide | omega)) tk (da_cons (de_v 2) (da_cons (de_v 3) (da_cons (de_v 1) da_nil)))))) dss_nil)
    (dss_cons (ds_if (DW.dt (dw_and (dt_cmp (os_eq (hE _ rfl rfl rfl rfl rfl) (hr.mono (by first | decide | omega))) (de_v 2) de_str) (dw_and1 (dt_cmp (os_eq (hE _ rfl rfl rfl rfl rfl) (hr.mono (by first | decide | omega))) (de_callB (cs_len) T.f_len PySem.boot_len (da_cons (de_v 3) da_nil)) de_int)))) (dss_one (ds_ret (dd_make hm_Take (hr.mono (by first | decide | omega)) tk (da_cons (dd_call h_read_number (hr.mono (by first | decide | omega)) tk (da_cons (de_ix (de_v 3) de_int) (da_cons (de_v 1) da_nil))) (da_cons (dd_call h_asked_name (hr.mono (by first | decide | omega)) tk (da_cons (de_ix (de_v 3) de_int) (da_cons (de_v 1) da_nil))) da_nil))))) dss_nil)
    (dss_cons (ds_if (DW.dt (dw_or (dt_cmp (os_notIn) (de_v 2) (de_tup (da_cons de_str (da_cons de_str da_nil)))) (dw_or1 (dt_cmp (os_ne (hE _ rfl rfl rfl rfl rfl) (hr.mono (by first | decide | omega))) (de_callB (cs_len) T.f_len PySem.boot_len (da_cons (de_v 3) da_nil)) de_int)))) (dss_one (dd_raise hx_BadText (hr.mono (by first | decide | omega)) rfl tk (da_cons (de_v 1) da_nil))) dss_nil)
    (dss_cons (ds_par3 (i := 4) (j := 5) (l := 6) rfl sc_read_deed.nd rfl rfl rfl (by decide) (by decide) (by decide) rfl rfl rfl (da_cons (dd_call h_read_number (hr.mono (by first | decide | omega)) tk (da_cons (de_ix (de_v 3) de_int) (da_cons (de_v 1) da_nil))) (da_cons (dd_call h_asked_name (hr.mono (by first | decide | omega)) tk (da_cons (de_ix (de_v 3) de_int) (da_cons (de_v 1) da_nil))) (da_cons (dd_call h_read_number (hr.mono (by first | decide | omega)) tk (da_cons (de_ix (de_v 3) de_int) (da_cons (de_v 1) da_nil))) da_nil))) (by kernel_rfl))
    (dss_cons (ds_if (dt_cmp (os_eq (hE _ rfl rfl rfl rfl rfl) (hr.mono (by first | decide | omega))) (de_v 2) de_str) (dss_one (ds_ret (dd_make hm_MakeLink (hr.mono (by first | decide | omega)) tk (da_cons (de_v 4) (da_cons (de_v 5) (da_cons (de_v 6) (da_cons (dd_call h_asked_path (hr.mono (by first | decide | omega)) tk (da_cons (de_ix (de_v 3) de_int) (da_cons (de_v 1) da_nil))) da_nil))))))) dss_nil)
    (dss_one (ds_ret (dd_make hm_Move (hr.mono (by first | decide | omega)) tk (da_cons (de_v 4) (da_cons (de_v 5) (da_cons (de_v 6) (da_cons (dd_call h_asked_name (hr.mono (by first | decide | omega)) tk (da_cons (de_ix (de_v 3) de_int) (da_cons (de_v 1) da_nil))) da_nil))))))))))))))
  exact ⟨T.g_read_deed, F.kp, fd, [("text" : Str), ("place" : Str)], G, F.bindsN fun _ _ _ _ _ _ us hl => match us, hl with | [_, _], _ => rfl⟩
/-! read_row -/
theorem sc_read_row : FnScope [("text" : Str), ("place" : Str), ("part" : Str)] [("text" : Str)] (defScope st_read_row) := ⟨rfl, rfl, rfl, by decide +kernel, rfl, by decide +kernel, by decide +kernel⟩
noncomputable def read_row_e0 : ME :=
  (mCall m_read_deed (mCons (mVar 2) (mCons (mVar 1) mNil)))
noncomputable def mb_read_row : MS :=
  (mSeq (mIfS (mNotT (mB (mIsi tys isi_str (mVar 0)))) (mRaise ("BadText" : Str) [("place" : Str)] (mCons (mC (.int 0)) mNil)) mSkip)
    (mSeq (mIfS (mB (mOp (eqO EQ) (mVar 0) (mC (.str ("nothing" : Str))))) (mRet (mLstC mNil)) mSkip)
    (mRet (mLcC (mEnum (mCons (mBM .s splitD (mVar 0) (mCons (mC (.str (", " : Str))) mNil)) mNil)) (gT 2 (gsCons (gN 1) (gsCons (gN 2) gsNil))) (fun _ c => .ok true c) read_row_e0 [1, 2]))))
noncomputable def m_read_row : MF := mkFn 1 3 mb_read_row
theorem ok_read_row (T : Fx K mg) (h_read_deed : DefOk P w K mg base 20 ("read_deed" : Str) m_read_deed) (hE : EqAll P w K mg base 14 EQ) (hx_BadText : ExOk P w K mg base 1 ("BadText" : Str) [("place" : Str)]) {fd : FuncData} (F : FunD K ("read_row" : Str) ("read_row" : Str) (defArgs st_read_row) (defBody st_read_row) (defScope st_read_row) [] [] (He.ga K ("read_row" : Str)) fd) : DefOk P w K mg base 21 ("read_row" : Str) m_read_row := by
  have G : FnOk P w K mg base (L2.CX P w) 21 (He.ga K ("read_row" : Str)) fd [("text" : Str)] (spOf K m_read_row) := fn_ok F sc_read_row (fun cdv A outer s H E hr tk hp =>
    (dss_cons (ds_if (dt_not (dt_val (de_isi T.isi_str T.f_isinstance (de_v 0) (dc_ty T.f_str (by decide +kernel))))) (dss_one (dd_raise hx_BadText (hr.mono (by first | decide | omega)) rfl tk (da_cons de_int da_nil))) dss_nil)
    (dss_cons (ds_if (dt_cmp (os_eq (hE _ rfl rfl rfl rfl rfl) (hr.mono (by first | decide | omega))) (de_v 0) (de_gstr T.s_NOTHING)) (dss_one (ds_ret (de_lstC da_nil))) dss_nil)
    (dss_one (ds_ret (de_lcC (own := [(("place" : Str), 1), (("part" : Str), 2)]) rfl sc_read_row.nd (di_enum T.f_enumerate (da_cons (de_bm (T := .s) PySem.F.plainAttrs_str PySem.F.slot_str_split PySem.F.type_str_split ms_split (de_v 0) (da_cons (de_gstr T.s_BETWEEN_DEEDS) da_nil)) da_nil)) (by kernel_rfl) rfl (fun _ _ _ _ _ => (dg_tup rfl (dgs_cons (dg_name (i := 1) sc_read_row.nd rfl (Or.inl rfl)) (dgs_cons (dg_name (i := 2) sc_read_row.nd rfl (Or.inl rfl)) dgs_nil)))) (fun _ _ _ _ _ => dts_nil) (fun _ _ _ _ _ => (dd_call h_read_deed (hr.mono (by first | decide | omega)) takes0 (da_cons (de_v 2) (da_cons (de_v 1) da_nil))))))))))
  exact ⟨T.g_read_row, F.kp, fd, [("text" : Str)], G, F.bindsN fun _ _ _ _ _ _ us hl => match us, hl with | [_], _ => rfl⟩
/-! deed_text -/
theorem sc_deed_text : FnScope [("deed" : Str)] [("deed" : Str)] (defScope st_deed_text) := ⟨rfl, rfl, rfl, by decide +kernel, rfl, by decide +kernel, by decide +kernel⟩
noncomputable def mb_deed_text : MS :=
  (mSeq (mIfS (mB (mIsi tys isi_MakeFolder (mVar 0))) (mRet (mJoin [(mC (.str ("folder " : Str))), (mFmt (mFld ("folder" : Str) [("Path" : Str), ("MakeFolder" : Str), ("MakeFile" : Str), ("MakeLink" : Str), ("Put" : Str), ("Take" : Str), ("Move" : Str)] (mVar 0))), (mC (.str (" " : Str))), (mFmt (mFld ("name" : Str) [("MakeFolder" : Str), ("MakeFile" : Str), ("MakeLink" : Str), ("Put" : Str), ("Take" : Str), ("Move" : Str)] (mVar 0))), (mC (.str (" " : Str))), (mFmt (mFld ("owner" : Str) [("MakeFolder" : Str), ("MakeFile" : Str), ("MakeLink" : Str)] (mVar 0)))])) mSkip)
    (mSeq (mIfS (mB (mIsi tys isi_MakeFile (mVar 0))) (mRet (mJoin [(mC (.str ("file " : Str))), (mFmt (mFld ("folder" : Str) [("Path" : Str), ("MakeFolder" : Str), ("MakeFile" : Str), ("MakeLink" : Str), ("Put" : Str), ("Take" : Str), ("Move" : Str)] (mVar 0))), (mC (.str (" " : Str))), (mFmt (mFld ("name" : Str) [("MakeFolder" : Str), ("MakeFile" : Str), ("MakeLink" : Str), ("Put" : Str), ("Take" : Str), ("Move" : Str)] (mVar 0))), (mC (.str (" " : Str))), (mFmt (mFld ("owner" : Str) [("MakeFolder" : Str), ("MakeFile" : Str), ("MakeLink" : Str)] (mVar 0)))])) mSkip)
    (mSeq (mIfS (mB (mIsi tys isi_MakeLink (mVar 0))) (mRet (mJoin [(mC (.str ("link " : Str))), (mFmt (mFld ("folder" : Str) [("Path" : Str), ("MakeFolder" : Str), ("MakeFile" : Str), ("MakeLink" : Str), ("Put" : Str), ("Take" : Str), ("Move" : Str)] (mVar 0))), (mC (.str (" " : Str))), (mFmt (mFld ("name" : Str) [("MakeFolder" : Str), ("MakeFile" : Str), ("MakeLink" : Str), ("Put" : Str), ("Take" : Str), ("Move" : Str)] (mVar 0))), (mC (.str (" " : Str))), (mFmt (mFld ("owner" : Str) [("MakeFolder" : Str), ("MakeFile" : Str), ("MakeLink" : Str)] (mVar 0))), (mC (.str (" " : Str))), (mFmt (mFld ("text" : Str) [("MakeLink" : Str)] (mVar 0)))])) mSkip)
    (mSeq (mIfS (mB (mIsi tys isi_Put (mVar 0))) (mRet (mJoin [(mC (.str ("put " : Str))), (mFmt (mFld ("folder" : Str) [("Path" : Str), ("MakeFolder" : Str), ("MakeFile" : Str), ("MakeLink" : Str), ("Put" : Str), ("Take" : Str), ("Move" : Str)] (mVar 0))), (mC (.str (" " : Str))), (mFmt (mFld ("name" : Str) [("MakeFolder" : Str), ("MakeFile" : Str), ("MakeLink" : Str), ("Put" : Str), ("Take" : Str), ("Move" : Str)] (mVar 0))), (mC (.str (" " : Str))), (mFmt (mFld ("node" : Str) [("Put" : Str), ("Came" : Str)] (mVar 0)))])) mSkip)
    (mSeq (mIfS (mB (mIsi tys isi_Take (mVar 0))) (mRet (mJoin [(mC (.str ("take " : Str))), (mFmt (mFld ("folder" : Str) [("Path" : Str), ("MakeFolder" : Str), ("MakeFile" : Str), ("MakeLink" : Str), ("Put" : Str), ("Take" : Str), ("Move" : Str)] (mVar 0))), (mC (.str (" " : Str))), (mFmt (mFld ("name" : Str) [("MakeFolder" : Str), ("MakeFile" : Str), ("MakeLink" : Str), ("Put" : Str), ("Take" : Str), ("Move" : Str)] (mVar 0)))])) mSkip)
    (mRet (mJoin [(mC (.str ("move " : Str))), (mFmt (mFld ("folder" : Str) [("Path" : Str), ("MakeFolder" : Str), ("MakeFile" : Str), ("MakeLink" : Str), ("Put" : Str), ("Take" : Str), ("Move" : Str)] (mVar 0))), (mC (.str (" " : Str))), (mFmt (mFld ("name" : Str) [("MakeFolder" : Str), ("MakeFile" : Str), ("MakeLink" : Str), ("Put" : Str), ("Take" : Str), ("Move" : Str)] (mVar 0))), (mC (.str (" " : Str))), (mFmt (mFld ("goal" : Str) [("Move" : Str)] (mVar 0))), (mC (.str (" " : Str))), (mFmt (mFld ("other" : Str) [("Move" : Str)] (mVar 0)))])))))))
noncomputable def m_deed_text : MF := mkFn 1 1 mb_deed_text
theorem ok_deed_text (T : Fx K mg)  {fd : FuncData} (F : FunD K ("deed_text" : Str) ("deed_text" : Str) (defArgs st_deed_text) (defBody st_deed_text) (defScope st_deed_text) [] [] (He.ga K ("deed_text" : Str)) fd) : DefOk P w K mg base 1 ("deed_text" : Str) m_deed_text := by
  have G : FnOk P w K mg base (L2.CX P w) 1 (He.ga K ("deed_text" : Str)) fd [("deed" : Str)] (spOf K m_deed_text) := fn_ok F sc_deed_text (fun cdv A outer s H E hr tk hp =>
    (dss_cons (ds_if (dt_val (de_isi T.isi_MakeFolder T.f_isinstance (de_v 0) (dc_gl T.g_MakeFolder))) (dss_one (ds_ret (de_joined (.cons de_str (.cons (de_fmt (de_fld T.fld_folder (de_v 0))) (.cons de_str (.cons (de_fmt (de_fld T.fld_name (de_v 0))) (.cons de_str (.cons (de_fmt (de_fld T.fld_owner (de_v 0))) .nil))))))))) dss_nil)
    (dss_cons (ds_if (dt_val (de_isi T.isi_MakeFile T.f_isinstance (de_v 0) (dc_gl T.g_MakeFile))) (dss_one (ds_ret (de_joined (.cons de_str (.cons (de_fmt (de_fld T.fld_folder (de_v 0))) (.cons de_str (.cons (de_fmt (de_fld T.fld_name (de_v 0))) (.cons de_str (.cons (de_fmt (de_fld T.fld_owner (de_v 0))) .nil))))))))) dss_nil)
    (dss_cons (ds_if (dt_val (de_isi T.isi_MakeLink T.f_isinstance (de_v 0) (dc_gl T.g_MakeLink))) (dss_one (ds_ret (de_joined (.cons de_str (.cons (de_fmt (de_fld T.fld_folder (de_v 0))) (.cons de_str (.cons (de_fmt (de_fld T.fld_name (de_v 0))) (.cons de_str (.cons (de_fmt (de_fld T.fld_owner (de_v 0))) (.cons de_str (.cons (de_fmt (de_fld T.fld_text (de_v 0))) .nil))))))))))) dss_nil)
    (dss_cons (ds_if (dt_val (de_isi T.isi_Put T.f_isinstance (de_v 0) (dc_gl T.g_Put))) (dss_one (ds_ret (de_joined (.cons de_str (.cons (de_fmt (de_fld T.fld_folder (de_v 0))) (.cons de_str (.cons (de_fmt (de_fld T.fld_name (de_v 0))) (.cons de_str (.cons (de_fmt (de_fld T.fld_node (de_v 0))) .nil))))))))) dss_nil)
    (dss_cons (ds_if (dt_val (de_isi T.isi_Take T.f_isinstance (de_v 0) (dc_gl T.g_Take))) (dss_one (ds_ret (de_joined (.cons de_str (.cons (de_fmt (de_fld T.fld_folder (de_v 0))) (.cons de_str (.cons (de_fmt (de_fld T.fld_name (de_v 0))) .nil))))))) dss_nil)
    (dss_one (ds_ret (de_joined (.cons de_str (.cons (de_fmt (de_fld T.fld_folder (de_v 0))) (.cons de_str (.cons (de_fmt (de_fld T.fld_name (de_v 0))) (.cons de_str (.cons (de_fmt (de_fld T.fld_goal (de_v 0))) (.cons de_str (.cons (de_fmt (de_fld T.fld_other (de_v 0))) .nil)))))))))))))))))
  exact ⟨T.g_deed_text, F.kp, fd, [("deed" : Str)], G, F.bindsN fun _ _ _ _ _ _ us hl => match us, hl with | [_], _ => rfl⟩
/-! row_text -/
theorem sc_row_text : FnScope [("deeds" : Str), ("found" : Str), ("deed" : Str)] [("deeds" : Str)] (defScope st_row_text) := ⟨rfl, rfl, rfl, by decide +kernel, rfl, by decide +kernel, by decide +kernel⟩
noncomputable def row_text_e0 : ME :=
  (mCall m_deed_text (mCons (mVar 2) mNil))
noncomputable def mb_row_text : MS :=
  (mSeq (mSet 1 (mLc (fun δ c => ((mVar 0) δ c).bind seqAny) (gN 2) (fun _ c => .ok true c) row_text_e0 [2]))
    (mRet (mIf (mB (mOp (neO EQ) (mVar 1) (mLst mNil))) (mBM .s joinD (mC (.str (", " : Str))) (mCons (mVar 1) mNil)) (mC (.str ("nothing" : Str))))))
noncomputable def m_row_text : MF := mkFn 1 3 mb_row_text
theorem ok_row_text (T : Fx K mg) (hE : EqAll P w K mg base 14 EQ) (h_deed_text : DefOk P w K mg base 1 ("deed_text" : Str) m_deed_text) {fd : FuncData} (F : FunD K ("row_text" : Str) ("row_text" : Str) (defArgs st_row_text) (defBody st_row_text) (defScope st_row_text) [] [] (He.ga K ("row_text" : Str)) fd) : DefOk P w K mg base 15 ("row_text" : Str) m_row_text := by
  have G : FnOk P w K mg base (L2.CX P w) 15 (He.ga K ("row_text" : Str)) fd [("deeds" : Str)] (spOf K m_row_text) := fn_ok F sc_row_text (fun cdv A outer s H E hr tk hp =>
    (dss_cons (ds_setLc (i := 1) (own := [(("deed" : Str), 2)]) rfl sc_row_text.nd rfl rfl (sw_true rfl rfl rfl (by kernel_rfl)) (di_any (de_v 0)) (by kernel_rfl) rfl (fun _ _ _ _ _ => (dg_name (i := 2) sc_row_text.nd rfl (Or.inl rfl))) (fun _ _ _ _ _ => dts_nil) (fun _ _ _ _ _ => (dd_call h_deed_text (hr.mono (by first | decide | omega)) takes0 (da_cons (de_v 2) da_nil))))
    (dss_one (ds_ret (de_if (dt_cmp (os_ne (hE _ rfl rfl rfl rfl rfl) (hr.mono (by first | decide | omega))) (de_v 1) (de_lst da_nil)) (de_bm (T := .s) PySem.F.plainAttrs_str PySem.F.slot_str_join PySem.F.type_str_join ms_join (de_gstr T.s_BETWEEN_DEEDS) (da_cons (de_v 1) da_nil)) (de_gstr T.s_NOTHING))))))
  exact ⟨T.g_row_text, F.kp, fd, [("deeds" : Str)], G, F.bindsN fun _ _ _ _ _ _ us hl => match us, hl with | [_], _ => rfl⟩
/-! result_text -/
theorem sc_result_text : FnScope [("result" : Str)] [("result" : Str)] (defScope st_result_text) := ⟨rfl, rfl, rfl, by decide +kernel, rfl, by decide +kernel, by decide +kernel⟩
noncomputable def mb_result_text : MS :=
  (mSeq (mIfS (mB (mIsi tys isi_Came (mVar 0))) (mRet (mJoin [(mC (.str ("came " : Str))), (mFmt (mFld ("node" : Str) [("Put" : Str), ("Came" : Str)] (mVar 0)))])) mSkip)
    (mSeq (mIfS (mB (mIsi tys isi_New (mVar 0))) (mRet (mJoin [(mC (.str ("new " : Str))), (mFmt (mFld ("kind" : Str) [("New" : Str)] (mVar 0)))])) mSkip)
    (mSeq (mIfS (mB (mIsi tys isi_Refused (mVar 0))) (mRet (mJoin [(mC (.str ("refused " : Str))), (mFmt (mFld ("why" : Str) [("Refused" : Str)] (mVar 0)))])) mSkip)
    (mRet (mIf (mB (mIsi tys isi_Made (mVar 0))) (mJoin [(mC (.str ("made " : Str))), (mFmt (mFld ("process" : Str) [("Made" : Str)] (mVar 0))), (mC (.str (" " : Str))), (mFmt (mFld ("call" : Str) [("Made" : Str)] (mVar 0)))]) (mC (.str ("done" : Str))))))))
noncomputable def m_result_text : MF := mkFn 1 1 mb_result_text
theorem ok_result_text (T : Fx K mg)  {fd : FuncData} (F : FunD K ("result_text" : Str) ("result_text" : Str) (defArgs st_result_text) (defBody st_result_text) (defScope st_result_text) [] [] (He.ga K ("result_text" : Str)) fd) : DefOk P w K mg base 1 ("result_text" : Str) m_result_text := by
  have G : FnOk P w K mg base (L2.CX P w) 1 (He.ga K ("result_text" : Str)) fd [("result" : Str)] (spOf K m_result_text) := fn_ok F sc_result_text (fun cdv A outer s H E hr tk hp =>
    (dss_cons (ds_if (dt_val (de_isi T.isi_Came T.f_isinstance (de_v 0) (dc_gl T.g_Came))) (dss_one (ds_ret (de_joined (.cons de_str (.cons (de_fmt (de_fld T.fld_node (de_v 0))) .nil))))) dss_nil)
    (dss_cons (ds_if (dt_val (de_isi T.isi_New T.f_isinstance (de_v 0) (dc_gl T.g_New))) (dss_one (ds_ret (de_joined (.cons de_str (.cons (de_fmt (de_fld T.fld_kind (de_v 0))) .nil))))) dss_nil)
    (dss_cons (ds_if (dt_val (de_isi T.isi_Refused T.f_isinstance (de_v 0) (dc_gl T.g_Refused))) (dss_one (ds_ret (de_joined (.cons de_str (.cons (de_fmt (de_fld T.fld_why (de_v 0))) .nil))))) dss_nil)
    (dss_one (ds_ret (de_if (dt_val (de_isi T.isi_Made T.f_isinstance (de_v 0) (dc_gl T.g_Made))) (de_joined (.cons de_str (.cons (de_fmt (de_fld T.fld_process (de_v 0))) (.cons de_str (.cons (de_fmt (de_fld T.fld_call (de_v 0))) .nil))))) de_str)))))))
  exact ⟨T.g_result_text, F.kp, fd, [("result" : Str)], G, F.bindsN fun _ _ _ _ _ _ us hl => match us, hl with | [_], _ => rfl⟩
/-! Refused.__init__ -/
theorem sc_Refused___init__ : FnScope [("self" : Str), ("why" : Str)] [("self" : Str), ("why" : Str)] (defScope st_Refused___init__) := ⟨rfl, rfl, rfl, by decide +kernel, rfl, by decide +kernel, by decide +kernel⟩
noncomputable def mb_Refused___init__ : MS :=
  (mSetF ("why" : Str) [("Refused" : Str)] (mVar 0) (mVar 1))
noncomputable def m_Refused___init__ : MF := mkFn 2 2 mb_Refused___init__
theorem ok_Refused___init__ (T : Fx K mg)  {fd : FuncData} (F : FunD K ("__init__" : Str) ("Refused.__init__" : Str) (defArgs st_Refused___init__) (defBody st_Refused___init__) (defScope st_Refused___init__) [] [] (He.ma K (He.ga K ("Refused" : Str)) ("__init__" : Str)) fd) : MkOk P w K mg base 1 ("Refused" : Str) m_Refused___init__ := by
  have G : FnOk P w K mg base (L2.CX P w) 1 (He.ma K (He.ga K ("Refused" : Str)) ("__init__" : Str)) fd [("self" : Str), ("why" : Str)] (spOf K m_Refused___init__) := fn_ok F sc_Refused___init__ (fun cdv A outer s H E hr tk hp =>
    (dss_one (ds_setF T.fld_why (de_v 0) (de_v 1))))
  exact ⟨T.g_Refused, fd, [("self" : Str), ("why" : Str)], T.mk_Refused, G, F.bindsN fun _ _ _ _ _ _ us hl => match us, hl with | [_, _], _ => rfl⟩
/-! New.__init__ -/
theorem sc_New___init__ : FnScope [("self" : Str), ("kind" : Str)] [("self" : Str), ("kind" : Str)] (defScope st_New___init__) := ⟨rfl, rfl, rfl, by decide +kernel, rfl, by decide +kernel, by decide +kernel⟩
noncomputable def mb_New___init__ : MS :=
  (mSetF ("kind" : Str) [("New" : Str)] (mVar 0) (mVar 1))
noncomputable def m_New___init__ : MF := mkFn 2 2 mb_New___init__
theorem ok_New___init__ (T : Fx K mg)  {fd : FuncData} (F : FunD K ("__init__" : Str) ("New.__init__" : Str) (defArgs st_New___init__) (defBody st_New___init__) (defScope st_New___init__) [] [] (He.ma K (He.ga K ("New" : Str)) ("__init__" : Str)) fd) : MkOk P w K mg base 1 ("New" : Str) m_New___init__ := by
  have G : FnOk P w K mg base (L2.CX P w) 1 (He.ma K (He.ga K ("New" : Str)) ("__init__" : Str)) fd [("self" : Str), ("kind" : Str)] (spOf K m_New___init__) := fn_ok F sc_New___init__ (fun cdv A outer s H E hr tk hp =>
    (dss_one (ds_setF T.fld_kind (de_v 0) (de_v 1))))
  exact ⟨T.g_New, fd, [("self" : Str), ("kind" : Str)], T.mk_New, G, F.bindsN fun _ _ _ _ _ _ us hl => match us, hl with | [_, _], _ => rfl⟩
/-! Made.__init__ -/
theorem sc_Made___init__ : FnScope [("self" : Str), ("process" : Str), ("call" : Str)] [("self" : Str), ("process" : Str), ("call" : Str)] (defScope st_Made___init__) := ⟨rfl, rfl, rfl, by decide +kernel, rfl, by decide +kernel, by decide +kernel⟩
noncomputable def mb_Made___init__ : MS :=
  (mSeq (mSetF ("process" : Str) [("Made" : Str)] (mVar 0) (mVar 1))
    (mSetF ("call" : Str) [("Made" : Str)] (mVar 0) (mVar 2)))
noncomputable def m_Made___init__ : MF := mkFn 3 3 mb_Made___init__
theorem ok_Made___init__ (T : Fx K mg)  {fd : FuncData} (F : FunD K ("__init__" : Str) ("Made.__init__" : Str) (defArgs st_Made___init__) (defBody st_Made___init__) (defScope st_Made___init__) [] [] (He.ma K (He.ga K ("Made" : Str)) ("__init__" : Str)) fd) : MkOk P w K mg base 1 ("Made" : Str) m_Made___init__ := by
  have G : FnOk P w K mg base (L2.CX P w) 1 (He.ma K (He.ga K ("Made" : Str)) ("__init__" : Str)) fd [("self" : Str), ("process" : Str), ("call" : Str)] (spOf K m_Made___init__) := fn_ok F sc_Made___init__ (fun cdv A outer s H E hr tk hp =>
    (dss_cons (ds_setF T.fld_process (de_v 0) (de_v 1))
    (dss_one (ds_setF T.fld_call (de_v 0) (de_v 2)))))
  exact ⟨T.g_Made, fd, [("self" : Str), ("process" : Str), ("call" : Str)], T.mk_Made, G, F.bindsN fun _ _ _ _ _ _ us hl => match us, hl with | [_, _, _], _ => rfl⟩
/-! Came.__init__ -/
theorem sc_Came___init__ : FnScope [("self" : Str), ("node" : Str)] [("self" : Str), ("node" : Str)] (defScope st_Came___init__) := ⟨rfl, rfl, rfl, by decide +kernel, rfl, by decide +kernel, by decide +kernel⟩
noncomputable def mb_Came___init__ : MS :=
  (mSetF ("node" : Str) [("Put" : Str), ("Came" : Str)] (mVar 0) (mVar 1))
noncomputable def m_Came___init__ : MF := mkFn 2 2 mb_Came___init__
theorem ok_Came___init__ (T : Fx K mg)  {fd : FuncData} (F : FunD K ("__init__" : Str) ("Came.__init__" : Str) (defArgs st_Came___init__) (defBody st_Came___init__) (defScope st_Came___init__) [] [] (He.ma K (He.ga K ("Came" : Str)) ("__init__" : Str)) fd) : MkOk P w K mg base 1 ("Came" : Str) m_Came___init__ := by
  have G : FnOk P w K mg base (L2.CX P w) 1 (He.ma K (He.ga K ("Came" : Str)) ("__init__" : Str)) fd [("self" : Str), ("node" : Str)] (spOf K m_Came___init__) := fn_ok F sc_Came___init__ (fun cdv A outer s H E hr tk hp =>
    (dss_one (ds_setF T.fld_node (de_v 0) (de_v 1))))
  exact ⟨T.g_Came, fd, [("self" : Str), ("node" : Str)], T.mk_Came, G, F.bindsN fun _ _ _ _ _ _ us hl => match us, hl with | [_, _], _ => rfl⟩
/-! _law_draw -/
theorem sc__law_draw : FnScope [("_law_source_here" : Str), ("_law_many" : Str), ("_law_found" : Str), ("_law_mixed" : Str)] [("_law_source_here" : Str), ("_law_many" : Str)] (defScope st__law_draw) := ⟨rfl, rfl, rfl, by decide +kernel, rfl, by decide +kernel, by decide +kernel⟩
noncomputable def mb__law_draw : MS :=
  (mSeq (mIfS (mB (mOp (gtD) (mOp ixD (mVar 0) (mC (.int 0))) (mC (.int 0)))) (mSeq (mSet 2 (mOp modD (mCB intD (mCons (mOp ixD (mVar 0) (mC (.int 0))) mNil)) (mVar 1)))
    (mSeq (mSetI (mVar 0) (mC (.int 0)) (mOp fdivD (mOp ixD (mVar 0) (mC (.int 0))) (mVar 1)))
    (mRet (mVar 2)))) mSkip)
    (mSeq (mSetI (mVar 0) (mC (.int 2)) (mOp addD (mOp ixD (mVar 0) (mC (.int 2))) (mC (.int 1))))
    (mSeq (mSet 3 (mOp modD (mCB intD (mCons (mOp mulD (mOp addD (mOp addD (mOp ixD (mVar 0) (mC (.int 1))) (mOp mulD (mC (.int 104729)) (mOp ixD (mVar 0) (mC (.int 2))))) (mC (.int 11))) (mC (.int 48271))) mNil)) (mC (.int 2147483647))))
    (mSeq (mSet 3 (mOp modD (mCB intD (mCons (mOp mulD (mVar 3) (mOp addD (mOp addD (mOp fdivD (mVar 3) (mC (.int 1009))) (mC (.int 69621))) (mOp ixD (mVar 0) (mC (.int 2))))) mNil)) (mC (.int 2147483587))))
    (mRet (mOp modD (mCB intD (mCons (mOp fdivD (mOp modD (mCB intD (mCons (mOp mulD (mVar 3) (mOp addD (mOp fdivD (mVar 3) (mC (.int 2003))) (mC (.int 40692)))) mNil)) (mC (.int 2147483563))) (mC (.int 5))) mNil)) (mVar 1)))))))
noncomputable def m__law_draw : MF := mkFn 2 4 mb__law_draw
theorem ok__law_draw (T : Fx K mg)  {fd : FuncData} (F : FunD K ("_law_draw" : Str) ("_law_draw" : Str) (defArgs st__law_draw) (defBody st__law_draw) (defScope st__law_draw) [] [] (He.ga K ("_law_draw" : Str)) fd) : DefOk P w K mg base 1 ("_law_draw" : Str) m__law_draw := by
  have G : FnOk P w K mg base (L2.CX P w) 1 (He.ga K ("_law_draw" : Str)) fd [("_law_source_here" : Str), ("_law_many" : Str)] (spOf K m__law_draw) := fn_ok F sc__law_draw (fun cdv A outer s H E hr tk hp =>
    (dss_cons (ds_if (dt_cmp (os_gt) (de_ix (de_v 0) de_int) de_int) (dss_cons (ds_set (i := 2) sc__law_draw.nd rfl (Or.inl rfl) (de_op os_mod (de_callTy cs_int T.f_int (by decide +kernel) (da_cons (de_ix (de_v 0) de_int) da_nil)) (de_v 1)))
    (dss_cons (ds_setI (de_v 0) de_int (de_op os_fdiv (de_ix (de_v 0) de_int) (de_v 1)))
    (dss_one (ds_ret (de_v 2))))) dss_nil)
    (dss_cons (ds_setI (de_v 0) de_int (de_op os_add (de_ix (de_v 0) de_int) de_int))
    (dss_cons (ds_set (i := 3) sc__law_draw.nd rfl (Or.inl rfl) (de_op os_mod (de_callTy cs_int T.f_int (by decide +kernel) (da_cons (de_op os_mul (de_op os_add (de_op os_add (de_ix (de_v 0) de_int) (de_op os_mul de_int (de_ix (de_v 0) de_int))) de_int) de_int) da_nil)) de_int))
    (dss_cons (ds_set (i := 3) sc__law_draw.nd rfl (Or.inl rfl) (de_op os_mod (de_callTy cs_int T.f_int (by decide +kernel) (da_cons (de_op os_mul (de_v 3) (de_op os_add (de_op os_add (de_op os_fdiv (de_v 3) de_int) de_int) (de_ix (de_v 0) de_int))) da_nil)) de_int))
    (dss_one (ds_ret (de_op os_mod (de_callTy cs_int T.f_int (by decide +kernel) (da_cons (de_op os_fdiv (de_op os_mod (de_callTy cs_int T.f_int (by decide +kernel) (da_cons (de_op os_mul (de_v 3) (de_op os_add (de_op os_fdiv (de_v 3) de_int) de_int)) da_nil)) de_int) de_int) da_nil)) (de_v 1)))))))))
  exact ⟨T.g__law_draw, F.kp, fd, [("_law_source_here" : Str), ("_law_many" : Str)], G, F.bindsN fun _ _ _ _ _ _ us hl => match us, hl with | [_, _], _ => rfl⟩
/-! _law_results_right -/
theorem sc__law_results_right : FnScope [("_law_source_here" : Str), ("_law_many" : Str), ("_law_least" : Str), ("_law_rows" : Str), ("_law_why" : Str), ("_law_kind" : Str), ("_law_one" : Str), ("_law_due" : Str)] [("_law_source_here" : Str)] (defScope st__law_results_right) := ⟨rfl, rfl, rfl, by decide +kernel, rfl, by decide +kernel, by decide +kernel⟩
noncomputable def _law_results_right_t0 : MT :=
  (mB (mOp (neO EQ) (mCall m_result_text (mCons (mVar 6) mNil)) (mVar 7)))
noncomputable def _law_results_right_e0 : ME :=
  (mVar 6)
noncomputable def _law_results_right_b1 : MS :=
  (mExpr (mBM .l appendD (mVar 3) (mCons (mTup (mCons (mMake ("Refused" : Str) m_Refused___init__ (mCons (mVar 4) mNil)) (mCons (mOp addD (mC (.str ("refused " : Str))) (mVar 4)) mNil))) mNil)))
noncomputable def _law_results_right_e2 : ME :=
  (mTup (mCons (mMake ("New" : Str) m_New___init__ (mCons (mVar 5) mNil)) (mCons (mOp addD (mC (.str ("new " : Str))) (mVar 5)) mNil)))
noncomputable def mb__law_results_right : MS :=
  (mSeq (mPar [1, 2] (mCons (mCall m__law_draw (mCons (mVar 0) (mCons (mOp powD (mC (.int 10)) (mC (.int 6))) mNil))) (mCons (mCall m__law_draw (mCons (mVar 0) (mCons (mC (.int 3)) mNil))) mNil)))
    (mSeq (mSet 3 (mLstC (mCons (mTup (mCons (mMake ("Came" : Str) m_Came___init__ (mCons (mC (.int 0)) mNil)) (mCons (mC (.str ("came 0" : Str))) mNil))) (mCons (mTup (mCons (mMake ("Came" : Str) m_Came___init__ (mCons (mVar 1) mNil)) (mCons (mOp addD (mC (.str ("came " : Str))) (mCB strD (mCons (mVar 1) mNil))) mNil))) (mCons (mTup (mCons (mMake ("Done" : Str) mNone mNil) (mCons (mC (.str ("done" : Str))) mNil))) mNil)))))
    (mSeq (mExpr (mBM .l appendD (mVar 3) (mCons (mTup (mCons (mMake ("Made" : Str) m_Made___init__ (mCons (mVar 2) (mCons (mVar 1) mNil))) (mCons (mOp addD (mOp addD (mOp addD (mC (.str ("made " : Str))) (mCB strD (mCons (mVar 2) mNil))) (mC (.str (" " : Str)))) (mCB strD (mCons (mVar 1) mNil))) mNil))) mNil)))
    (mSeq (mSet 3 (mOp addC (mVar 3) (mLc (fun δ c => ((mTup (mCons (mC (.str ("folder" : Str))) (mCons (mC (.str ("file" : Str))) (mCons (mC (.str ("link" : Str))) mNil)))) δ c).bind seqAny) (gN 5) (fun _ c => .ok true c) _law_results_right_e2 [5])))
    (mSeq (mFor (fun δ c => ((mTup (mCons (mC (.str ("none" : Str))) (mCons (mC (.str ("owner" : Str))) (mCons (mC (.str ("file" : Str))) (mCons (mC (.str ("link" : Str))) (mCons (mC (.str ("links" : Str))) (mCons (mC (.str ("folder" : Str))) (mCons (mC (.str ("name" : Str))) (mCons (mC (.str ("taken" : Str))) (mCons (mC (.str ("full" : Str))) (mCons (mC (.str ("below" : Str))) (mCons (mC (.str ("gone" : Str))) mNil)))))))))))) δ c).bind seqAny) (gN 4) _law_results_right_b1)
    (mRet (mOp (eqO EQ) (mLc (fun δ c => ((mVar 3) δ c).bind seqAny) (gT 2 (gsCons (gN 6) (gsCons (gN 7) gsNil))) _law_results_right_t0 _law_results_right_e0 [6, 7]) (mLst mNil))))))))
noncomputable def m__law_results_right : MF := mkFnB 1 8 mb__law_results_right
theorem ok__law_results_right (T : Fx K mg) (h_result_text : DefOk P w K mg base 1 ("result_text" : Str) m_result_text) (hE : EqAll P w K mg base 14 EQ) (hm_Refused : MkOk P w K mg base 1 ("Refused" : Str) m_Refused___init__) (hm_New : MkOk P w K mg base 1 ("New" : Str) m_New___init__) (hm_Made : MkOk P w K mg base 1 ("Made" : Str) m_Made___init__) (hm_Came : MkOk P w K mg base 1 ("Came" : Str) m_Came___init__) (h__law_draw : DefOk P w K mg base 1 ("_law_draw" : Str) m__law_draw) {fd : FuncData} (F : FunD K ("_law_results_right" : Str) ("_law_results_right" : Str) (defArgs st__law_results_right) (defBody st__law_results_right) (defScope st__law_results_right) [] [] (He.ga K ("_law_results_right" : Str)) fd) : DefOk P w K mg base 15 ("_law_results_right" : Str) m__law_results_right := by
  have G : FnOk P w K mg base (L2.CX P w) 15 (He.ga K ("_law_results_right" : Str)) fd [("_law_source_here" : Str)] (spOf K m__law_results_right) := fn_okB F sc__law_results_right (fun cdv A outer s H E hr tk hp =>
    (dss_cons (ds_par (i := 1) (j := 2) rfl sc__law_results_right.nd rfl rfl (by decide) rfl rfl (da_cons (dd_call h__law_draw (hr.mono (by first | decide | omega)) tk (da_cons (de_v 0) (da_cons (de_op os_pow de_int de_int) da_nil))) (da_cons (dd_call h__law_draw (hr.mono (by first | decide | omega)) tk (da_cons (de_v 0) (da_cons de_int da_nil))) da_nil)) (by kernel_rfl))
    (dss_cons (ds_set (i := 3) sc__law_results_right.nd rfl (Or.inl rfl) (de_lstC (da_cons (de_tup (da_cons (dd_make hm_Came (hr.mono (by first | decide | omega)) tk (da_cons de_int da_nil)) (da_cons de_str da_nil))) (da_cons (de_tup (da_cons (dd_make hm_Came (hr.mono (by first | decide | omega)) tk (da_cons (de_v 1) da_nil)) (da_cons (de_op os_add de_str (de_callTy cs_str T.f_str (by decide +kernel) (da_cons (de_v 1) da_nil))) da_nil))) (da_cons (de_tup (da_cons (de_makeO T.mko_Done T.g_Done) (da_cons de_str da_nil))) da_nil)))))
    (dss_cons (ds_expr (de_bm (T := .l) PySem.F.plainAttrs_list PySem.F.slot_list_append PySem.F.type_list_append ms_append (de_v 3) (da_cons (de_tup (da_cons (dd_make hm_Made (hr.mono (by first | decide | omega)) tk (da_cons (de_v 2) (da_cons (de_v 1) da_nil))) (da_cons (de_op os_add (de_op os_add (de_op os_add de_str (de_callTy cs_str T.f_str (by decide +kernel) (da_cons (de_v 2) da_nil))) de_str) (de_callTy cs_str T.f_str (by decide +kernel) (da_cons (de_v 1) da_nil))) da_nil))) da_nil)))
    (dss_cons (ds_set (i := 3) sc__law_results_right.nd rfl (Or.inl rfl) (de_op os_addC (de_v 3) (de_lc (own := [(("_law_kind" : Str), 5)]) rfl sc__law_results_right.nd (di_any (de_tup (da_cons de_str (da_cons de_str (da_cons de_str da_nil))))) (by kernel_rfl) rfl (fun _ _ _ _ _ => (dg_name (i := 5) sc__law_results_right.nd rfl (Or.inl rfl))) (fun _ _ _ _ _ => dts_nil) (fun _ _ _ _ _ => (de_tup (da_cons (dd_make hm_New (hr.mono (by first | decide | omega)) takes0 (da_cons (de_v 5) da_nil)) (da_cons (de_op os_add de_str (de_v 5)) da_nil)))))))
    (dss_cons (ds_for hp rfl (di_any (de_tup (da_cons de_str (da_cons de_str (da_cons de_str (da_cons de_str (da_cons de_str (da_cons de_str (da_cons de_str (da_cons de_str (da_cons de_str (da_cons de_str (da_cons de_str da_nil))))))))))))) (dg_name (i := 4) sc__law_results_right.nd rfl (Or.inl rfl)) (dss_one (ds_expr (de_bm (T := .l) PySem.F.plainAttrs_list PySem.F.slot_list_append PySem.F.type_list_append ms_append (de_v 3) (da_cons (de_tup (da_cons (dd_make hm_Refused (hr.mono (by first | decide | omega)) tk (da_cons (de_v 4) da_nil)) (da_cons (de_op os_add de_str (de_v 4)) da_nil))) da_nil)))))
    (dss_one (ds_ret (de_cmp (os_eq (hE _ rfl rfl rfl rfl rfl) (hr.mono (by first | decide | omega))) (de_lc (own := [(("_law_one" : Str), 6), (("_law_due" : Str), 7)]) rfl sc__law_results_right.nd (di_any (de_v 3)) (by kernel_rfl) rfl (fun _ _ _ _ _ => (dg_tup rfl (dgs_cons (dg_name (i := 6) sc__law_results_right.nd rfl (Or.inl rfl)) (dgs_cons (dg_name (i := 7) sc__law_results_right.nd rfl (Or.inl rfl)) dgs_nil)))) (fun _ _ _ _ _ => (dts_one (dt_cmp (os_ne (hE _ rfl rfl rfl rfl rfl) (hr.mono (by first | decide | omega))) (dd_call h_result_text (hr.mono (by first | decide | omega)) takes0 (da_cons (de_v 6) da_nil)) (de_v 7)))) (fun _ _ _ _ _ => (de_v 6))) (de_lst da_nil))))))))))
  exact ⟨T.g__law_results_right, F.kp, fd, [("_law_source_here" : Str)], G, F.bindsN fun _ _ _ _ _ _ us hl => match us, hl with | [_], _ => rfl⟩
/-! _law_deed -/
theorem sc__law_deed : FnScope [("_law_row" : Str), ("_law_word" : Str), ("_law_folder" : Str), ("_law_name" : Str)] [("_law_row" : Str)] (defScope st__law_deed) := ⟨rfl, rfl, rfl, by decide +kernel, rfl, by decide +kernel, by decide +kernel⟩
noncomputable def mb__law_deed : MS :=
  (mSeq (mAsg (gT 3 (gsCons (gN 1) (gsCons (gN 2) (gsCons (gN 3) gsNil)))) (mSl lstD (mVar 0) (fun _ c => .ok none c) (fun δ c => ((mC (.int 3)) δ c).bind asI)))
    (mSeq (mIfS (mB (mOp (eqO EQ) (mVar 1) (mC (.str ("folder" : Str))))) (mRet (mMake ("MakeFolder" : Str) m_MakeFolder___init__ (mCons (mVar 2) (mCons (mVar 3) (mCons (mOp ixD (mVar 0) (mC (.int 3))) mNil))))) mSkip)
    (mSeq (mIfS (mB (mOp (eqO EQ) (mVar 1) (mC (.str ("file" : Str))))) (mRet (mMake ("MakeFile" : Str) m_MakeFile___init__ (mCons (mVar 2) (mCons (mVar 3) (mCons (mOp ixD (mVar 0) (mC (.int 3))) mNil))))) mSkip)
    (mSeq (mIfS (mB (mOp (eqO EQ) (mVar 1) (mC (.str ("link" : Str))))) (mRet (mMake ("MakeLink" : Str) m_MakeLink___init__ (mCons (mVar 2) (mCons (mVar 3) (mCons (mOp ixD (mVar 0) (mC (.int 3))) (mCons (mOp ixD (mVar 0) (mC (.int 4))) mNil)))))) mSkip)
    (mSeq (mIfS (mB (mOp (eqO EQ) (mVar 1) (mC (.str ("put" : Str))))) (mRet (mMake ("Put" : Str) m_Put___init__ (mCons (mVar 2) (mCons (mVar 3) (mCons (mOp ixD (mVar 0) (mC (.int 3))) mNil))))) mSkip)
    (mRet (mIf (mB (mOp (eqO EQ) (mVar 1) (mC (.str ("take" : Str))))) (mMake ("Take" : Str) m_Take___init__ (mCons (mVar 2) (mCons (mVar 3) mNil))) (mMake ("Move" : Str) m_Move___init__ (mCons (mVar 2) (mCons (mVar 3) (mCons (mOp ixD (mVar 0) (mC (.int 3))) (mCons (mOp ixD (mVar 0) (mC (.int 4))) mNil))))))))))))
noncomputable def m__law_deed : MF := mkFn 1 4 mb__law_deed
theorem ok__law_deed (T : Fx K mg) (hE : EqAll P w K mg base 14 EQ) (hm_Take : MkOk P w K mg base 1 ("Take" : Str) m_Take___init__) (hm_Move : MkOk P w K mg base 1 ("Move" : Str) m_Move___init__) (hm_Put : MkOk P w K mg base 1 ("Put" : Str) m_Put___init__) (hm_MakeLink : MkOk P w K mg base 1 ("MakeLink" : Str) m_MakeLink___init__) (hm_MakeFile : MkOk P w K mg base 1 ("MakeFile" : Str) m_MakeFile___init__) (hm_MakeFolder : MkOk P w K mg base 1 ("MakeFolder" : Str) m_MakeFolder___init__) {fd : FuncData} (F : FunD K ("_law_deed" : Str) ("_law_deed" : Str) (defArgs st__law_deed) (defBody st__law_deed) (defScope st__law_deed) [] [] (He.ga K ("_law_deed" : Str)) fd) : DefOk P w K mg base 15 ("_law_deed" : Str) m__law_deed := by
  have G : FnOk P w K mg base (L2.CX P w) 15 (He.ga K ("_law_deed" : Str)) fd [("_law_row" : Str)] (spOf K m__law_deed) := fn_ok F sc__law_deed (fun cdv A outer s H E hr tk hp =>
    (dss_cons (ds_asg (de_sl newL (de_v 0) do_none (do_some de_int)) (dg_tup rfl (dgs_cons (dg_name (i := 1) sc__law_deed.nd rfl (Or.inl rfl)) (dgs_cons (dg_name (i := 2) sc__law_deed.nd rfl (Or.inl rfl)) (dgs_cons (dg_name (i := 3) sc__law_deed.nd rfl (Or.inl rfl)) dgs_nil)))) (by rfl) (by kernel_rfl))
    (dss_cons (ds_if (dt_cmp (os_eq (hE _ rfl rfl rfl rfl rfl) (hr.mono (by first | decide | omega))) (de_v 1) de_str) (dss_one (ds_ret (dd_make hm_MakeFolder (hr.mono (by first | decide | omega)) tk (da_cons (de_v 2) (da_cons (de_v 3) (da_cons (de_ix (de_v 0) de_int) da_nil)))))) dss_nil)
    (dss_cons (ds_if (dt_cmp (os_eq (hE _ rfl rfl rfl rfl rfl) (hr.mono (by first | decide | omega))) (de_v 1) de_str) (dss_one (ds_ret (dd_make hm_MakeFile (hr.mono (by first | decide | omega)) tk (da_cons (de_v 2) (da_cons (de_v 3) (da_cons (de_ix (de_v 0) de_int) da_nil)))))) dss_nil)
    (dss_cons (ds_if (dt_cmp (os_eq (hE _ rfl rfl rfl rfl rfl) (hr.mono (by first | decide | omega))) (de_v 1) de_str) (dss_one (ds_ret (dd_make hm_MakeLink (hr.mono (by first | decide | omega)) tk (da_cons (de_v 2) (da_cons (de_v 3) (da_cons (de_ix (de_v 0) de_int) (da_cons (de_ix (de_v 0) de_int) da_nil))))))) dss_nil)
    (dss_cons (ds_if (dt_cmp (os_eq (hE _ rfl rfl rfl rfl rfl) (hr.mono (by first | decide | omega))) (de_v 1) de_str) (dss_one (ds_ret (dd_make hm_Put (hr.mono (by first | decide | omega)) tk (da_cons (de_v 2) (da_cons (de_v 3) (da_cons (de_ix (de_v 0) de_int) da_nil)))))) dss_nil)
    (dss_one (ds_ret (de_if (dt_cmp (os_eq (hE _ rfl rfl rfl rfl rfl) (hr.mono (by first | decide | omega))) (de_v 1) de_str) (dd_make hm_Take (hr.mono (by first | decide | omega)) tk (da_cons (de_v 2) (da_cons (de_v 3) da_nil))) (dd_make hm_Move (hr.mono (by first | decide | omega)) tk (da_cons (de_v 2) (da_cons (de_v 3) (da_cons (de_ix (de_v 0) de_int) (da_cons (de_ix (de_v 0) de_int) da_nil))))))))))))))
  exact ⟨T.g__law_deed, F.kp, fd, [("_law_row" : Str)], G, F.bindsN fun _ _ _ _ _ _ us hl => match us, hl with | [_], _ => rfl⟩
/-! _law_pick -/
theorem sc__law_pick : FnScope [("_law_source_here" : Str), ("_law_items" : Str)] [("_law_source_here" : Str), ("_law_items" : Str)] (defScope st__law_pick) := ⟨rfl, rfl, rfl, by decide +kernel, rfl, by decide +kernel, by decide +kernel⟩
noncomputable def mb__law_pick : MS :=
  (mRet (mOp ixD (mVar 1) (mCall m__law_draw (mCons (mVar 0) (mCons (mCB lenD (mCons (mVar 1) mNil)) mNil)))))
noncomputable def m__law_pick : MF := mkFn 2 2 mb__law_pick
theorem ok__law_pick (T : Fx K mg) (h__law_draw : DefOk P w K mg base 1 ("_law_draw" : Str) m__law_draw) {fd : FuncData} (F : FunD K ("_law_pick" : Str) ("_law_pick" : Str) (defArgs st__law_pick) (defBody st__law_pick) (defScope st__law_pick) [] [] (He.ga K ("_law_pick" : Str)) fd) : DefOk P w K mg base 2 ("_law_pick" : Str) m__law_pick := by
  have G : FnOk P w K mg base (L2.CX P w) 2 (He.ga K ("_law_pick" : Str)) fd [("_law_source_here" : Str), ("_law_items" : Str)] (spOf K m__law_pick) := fn_ok F sc__law_pick (fun cdv A outer s H E hr tk hp =>
    (dss_one (ds_ret (de_ix (de_v 1) (dd_call h__law_draw (hr.mono (by first | decide | omega)) tk (da_cons (de_v 0) (da_cons (de_callB (cs_len) T.f_len PySem.boot_len (da_cons (de_v 1) da_nil)) da_nil)))))))
  exact ⟨T.g__law_pick, F.kp, fd, [("_law_source_here" : Str), ("_law_items" : Str)], G, F.bindsN fun _ _ _ _ _ _ us hl => match us, hl with | [_, _], _ => rfl⟩
/-! _law_deed_row -/
theorem sc__law_deed_row : FnScope [("_law_source_here" : Str), ("_law_names" : Str), ("_law_numbers" : Str), ("_law_word" : Str), ("_law_found" : Str)] [("_law_source_here" : Str)] (defScope st__law_deed_row) := ⟨rfl, rfl, rfl, by decide +kernel, rfl, by decide +kernel, by decide +kernel⟩
noncomputable def mb__law_deed_row : MS :=
  (mSeq (mSet 1 (mLst (mCons (mC (.str ("a" : Str))) (mCons (mC (.str ("b.c" : Str))) (mCons (mC (.str ("..." : Str))) (mCons (mC (.str ("-" : Str))) (mCons (mC (.str ("take" : Str))) (mCons (mC (.str ("nothing" : Str))) (mCons (mC (.str ("zzzzzzzzzzzz" : Str))) (mCons (mC (.str ("0" : Str))) (mCons (mC (.str ("_1" : Str))) mNil)))))))))))
    (mSeq (mSet 2 (mLst (mCons (mC (.int 0)) (mCons (mC (.int 1)) (mCons (mC (.int 7)) (mCons (mC (.int 10)) (mCons (mC (.int 999999999)) (mCons (mCall m__law_draw (mCons (mVar 0) (mCons (mOp powD (mC (.int 10)) (mC (.int 9))) mNil))) mNil))))))))
    (mSeq (mSet 3 (mCall m__law_pick (mCons (mVar 0) (mCons (mLst (mCons (mC (.str ("folder" : Str))) (mCons (mC (.str ("file" : Str))) (mCons (mC (.str ("link" : Str))) (mCons (mC (.str ("put" : Str))) (mCons (mC (.str ("take" : Str))) (mCons (mC (.str ("move" : Str))) mNil))))))) mNil))))
    (mSeq (mSet 4 (mTup (mCons (mVar 3) (mCons (mCall m__law_pick (mCons (mVar 0) (mCons (mVar 2) mNil))) (mCons (mCall m__law_pick (mCons (mVar 0) (mCons (mVar 1) mNil))) mNil)))))
    (mSeq (mIfS (mB (mOp (eqO EQ) (mVar 3) (mC (.str ("take" : Str))))) (mRet (mVar 4)) mSkip)
    (mSeq (mSet 4 (mOp addD (mVar 4) (mTup (mCons (mCall m__law_pick (mCons (mVar 0) (mCons (mVar 2) mNil))) mNil))))
    (mSeq (mIfS (mB (mOp (eqO EQ) (mVar 3) (mC (.str ("link" : Str))))) (mRet (mOp addD (mVar 4) (mTup (mCons (mCall m__law_pick (mCons (mVar 0) (mCons (mLst (mCons (mC (.str ("/" : Str))) (mCons (mC (.str ("." : Str))) (mCons (mC (.str ("../a" : Str))) (mCons (mC (.str ("a//b/" : Str))) (mCons (mC (.str ("/x/./.." : Str))) (mCons (mC (.str ("a" : Str))) mNil))))))) mNil))) mNil)))) mSkip)
    (mRet (mOp addD (mVar 4) (mIf (mB (mOp (eqO EQ) (mVar 3) (mC (.str ("move" : Str))))) (mTup (mCons (mCall m__law_pick (mCons (mVar 0) (mCons (mVar 1) mNil))) mNil)) (mTup mNil)))))))))))
noncomputable def m__law_deed_row : MF := mkFn 1 5 mb__law_deed_row
theorem ok__law_deed_row (T : Fx K mg) (hE : EqAll P w K mg base 14 EQ) (h__law_pick : DefOk P w K mg base 2 ("_law_pick" : Str) m__law_pick) (h__law_draw : DefOk P w K mg base 1 ("_law_draw" : Str) m__law_draw) {fd : FuncData} (F : FunD K ("_law_deed_row" : Str) ("_law_deed_row" : Str) (defArgs st__law_deed_row) (defBody st__law_deed_row) (defScope st__law_deed_row) [] [] (He.ga K ("_law_deed_row" : Str)) fd) : DefOk P w K mg base 15 ("_law_deed_row" : Str) m__law_deed_row := by
  have G : FnOk P w K mg base (L2.CX P w) 15 (He.ga K ("_law_deed_row" : Str)) fd [("_law_source_here" : Str)] (spOf K m__law_deed_row) := fn_ok F sc__law_deed_row (fun cdv A outer s H E hr tk hp =>
    (dss_cons (ds_set (i := 1) sc__law_deed_row.nd rfl (Or.inl rfl) (de_lst (da_cons de_str (da_cons de_str (da_cons de_str (da_cons de_str (da_cons de_str (da_cons de_str (da_cons de_str (da_cons de_str (da_cons de_str da_nil)))))))))))
    (dss_cons (ds_set (i := 2) sc__law_deed_row.nd rfl (Or.inl rfl) (de_lst (da_cons de_int (da_cons de_int (da_cons de_int (da_cons de_int (da_cons de_int (da_cons (dd_call h__law_draw (hr.mono (by first | decide | omega)) tk (da_cons (de_v 0) (da_cons (de_op os_pow de_int de_int) da_nil))) da_nil))))))))
    (dss_cons (ds_set (i := 3) sc__law_deed_row.nd rfl (Or.inl rfl) (dd_call h__law_pick (hr.mono (by first | decide | omega)) tk (da_cons (de_v 0) (da_cons (de_lst (da_cons de_str (da_cons de_str (da_cons de_str (da_cons de_str (da_cons de_str (da_cons de_str da_nil))))))) da_nil))))
    (dss_cons (ds_set (i := 4) sc__law_deed_row.nd rfl (Or.inl rfl) (de_tup (da_cons (de_v 3) (da_cons (dd_call h__law_pick (hr.mono (by first | decide | omega)) tk (da_cons (de_v 0) (da_cons (de_v 2) da_nil))) (da_cons (dd_call h__law_pick (hr.mono (by first | decide | omega)) tk (da_cons (de_v 0) (da_cons (de_v 1) da_nil))) da_nil)))))
    (dss_cons (ds_if (dt_cmp (os_eq (hE _ rfl rfl rfl rfl rfl) (hr.mono (by first | decide | omega))) (de_v 3) de_str) (dss_one (ds_ret (de_v 4))) dss_nil)
    (dss_cons (ds_set (i := 4) sc__law_deed_row.nd rfl (Or.inl rfl) (de_op os_add (de_v 4) (de_tup (da_cons (dd_call h__law_pick (hr.mono (by first | decide | omega)) tk (da_cons (de_v 0) (da_cons (de_v 2) da_nil))) da_nil))))
    (dss_cons (ds_if (dt_cmp (os_eq (hE _ rfl rfl rfl rfl rfl) (hr.mono (by first | decide | omega))) (de_v 3) de_str) (dss_one (ds_ret (de_op os_add (de_v 4) (de_tup (da_cons (dd_call h__law_pick (hr.mono (by first | decide | omega)) tk (da_cons (de_v 0) (da_cons (de_lst (da_cons de_str (da_cons de_str (da_cons de_str (da_cons de_str (da_cons de_str (da_cons de_str da_nil))))))) da_nil))) da_nil))))) dss_nil)
    (dss_one (ds_ret (de_op os_add (de_v 4) (de_if (dt_cmp (os_eq (hE _ rfl rfl rfl rfl rfl) (hr.mono (by first | decide | omega))) (de_v 3) de_str) (de_tup (da_cons (dd_call h__law_pick (hr.mono (by first | decide | omega)) tk (da_cons (de_v 0) (da_cons (de_v 1) da_nil))) da_nil)) (de_tup da_nil)))))))))))))
  exact ⟨T.g__law_deed_row, F.kp, fd, [("_law_source_here" : Str)], G, F.bindsN fun _ _ _ _ _ _ us hl => match us, hl with | [_], _ => rfl⟩
/-! _law_source -/
theorem sc__law_source : FnScope [("_law_cell" : Str)] [("_law_cell" : Str)] (defScope st__law_source) := ⟨rfl, rfl, rfl, by decide +kernel, rfl, by decide +kernel, by decide +kernel⟩
noncomputable def mb__law_source : MS :=
  (mRet (mLstC (mCons (mOp mulD (mCB absD (mCons (mVar 0) mNil)) (mCB intD (mCons (mOp (geD) (mCB absD (mCons (mVar 0) mNil)) (mOp powD (mC (.int 10)) (mC (.int 18)))) mNil))) (mCons (mOp modD (mCB intD (mCons (mVar 0) mNil)) (mC (.int 2147483629))) (mCons (mC (.int 0)) mNil)))))
noncomputable def m__law_source : MF := mkFn 1 1 mb__law_source
theorem ok__law_source (T : Fx K mg)  {fd : FuncData} (F : FunD K ("_law_source" : Str) ("_law_source" : Str) (defArgs st__law_source) (defBody st__law_source) (defScope st__law_source) [] [] (He.ga K ("_law_source" : Str)) fd) : DefOk P w K mg base 1 ("_law_source" : Str) m__law_source := by
  have G : FnOk P w K mg base (L2.CX P w) 1 (He.ga K ("_law_source" : Str)) fd [("_law_cell" : Str)] (spOf K m__law_source) := fn_ok F sc__law_source (fun cdv A outer s H E hr tk hp =>
    (dss_one (ds_ret (de_lstC (da_cons (de_op os_mul (de_callB (cs_abs) T.f_abs PyProof.Rows.boot_abs (da_cons (de_v 0) da_nil)) (de_callTy cs_int T.f_int (by decide +kernel) (da_cons (de_cmp (os_ge) (de_callB (cs_abs) T.f_abs PyProof.Rows.boot_abs (da_cons (de_v 0) da_nil)) (de_op os_pow de_int de_int)) da_nil))) (da_cons (de_op os_mod (de_callTy cs_int T.f_int (by decide +kernel) (da_cons (de_v 0) da_nil)) de_int) (da_cons de_int da_nil)))))))
  exact ⟨T.g__law_source, F.kp, fd, [("_law_cell" : Str)], G, F.bindsN fun _ _ _ _ _ _ us hl => match us, hl with | [_], _ => rfl⟩
/-! law -/
theorem sc_law : FnScope [("_law_script" : Str), ("_law_index" : Str), ("_law_source_here" : Str), ("_law_turn" : Str), ("_law_rows" : Str), ("_law_some" : Str), ("_law_due" : Str), ("_law_found" : Str), ("_law_place" : Str), ("_law_row" : Str), ("_law_part" : Str)] [("_law_script" : Str)] (defScope st_law) := ⟨rfl, rfl, rfl, by decide +kernel, rfl, by decide +kernel, by decide +kernel⟩
noncomputable def law_e0 : ME :=
  (mCB strXD (mCons (mVar 10) mNil))
noncomputable def law_e1 : ME :=
  (mBM .s joinD (mC (.str (" " : Str))) (mCons (mLc (fun δ c => ((mVar 9) δ c).bind seqAny) (gN 10) (fun _ c => .ok true c) law_e0 [10]) mNil))
noncomputable def law_e2 : ME :=
  (mCall m__law_deed (mCons (mVar 9) mNil))
noncomputable def law_e3 : ME :=
  (mCall m__law_deed_row (mCons (mVar 2) mNil))
noncomputable def law_b4 : MS :=
  (mSeq (mSet 4 (mLc (fun δ c => ((mCons (mOp addD (mC (.int 1)) (mCall m__law_draw (mCons (mVar 2) (mCons (mC (.int 9)) mNil)))) mNil) δ c).bind rng1) (gN 8) (fun _ c => .ok true c) law_e3 [8]))
    (mSeq (mSet 5 (mLc (fun δ c => ((mVar 4) δ c).bind seqAny) (gN 9) (fun _ c => .ok true c) law_e2 [9]))
    (mSeq (mSet 6 (mBM .s joinD (mC (.str (", " : Str))) (mCons (mLc (fun δ c => ((mVar 4) δ c).bind seqAny) (gN 9) (fun _ c => .ok true c) law_e1 [9]) mNil)))
    (mSeq (mIfS (mOrT (mB (mOp (neO EQ) (mCall m_row_text (mCons (mVar 5) mNil)) (mVar 6))) (mB (mOp (neO EQ) (mCall m_row_text (mCons (mCB tupleD (mCons (mVar 5) mNil)) mNil)) (mVar 6)))) (mRet (mC (.bl false))) mSkip)
    (mSeq (mSet 7 (mCall m_read_row (mCons (mVar 6) mNil)))
    (mSeq (mIfS (mOrT (mB (mOp (neO EQ) (mVar 7) (mVar 5))) (mNotT (mB (mIsi tys isi_list (mVar 7))))) (mRet (mC (.bl false))) mSkip)
    (mSeq (mExpr (mBM .l appendD (mVar 7) (mCons (mC .non) mNil)))
    (mIfS (mB (mOp (neO EQ) (mCall m_read_row (mCons (mVar 6) mNil)) (mVar 5))) (mRet (mC (.bl false))) mSkip))))))))
noncomputable def law_b5 : MS :=
  (mSeq (mSet 2 (mCall m__law_source (mCons (mOp ixD (mOp addD (mVar 0) (mLst (mCons (mC (.int 0)) mNil))) (mVar 1)) mNil)))
    (mSeq (mFor (fun δ c => ((mCons (mC (.int 4)) mNil) δ c).bind rng1) (gN 3) law_b4)
    (mIfS (mNotT (mB (mCall m__law_results_right (mCons (mVar 2) mNil)))) (mRet (mC (.bl false))) mSkip)))
noncomputable def mb_law : MS :=
  (mSeq (mFor (fun δ c => ((mCons (mCB maxD (mCons (mC (.int 1)) (mCons (mCB minD (mCons (mC (.int 3)) (mCons (mCB lenD (mCons (mVar 0) mNil)) mNil))) mNil))) mNil) δ c).bind rng1) (gN 1) law_b5)
    (mRet (mAnd (mOp (eqO EQ) (mCall m_row_text (mCons (mLst mNil) mNil)) (mC (.str ("nothing" : Str)))) (mAnd (mOp (eqO EQ) (mCall m_row_text (mCons (mTup mNil) mNil)) (mC (.str ("nothing" : Str)))) (mOp (eqO EQ) (mCall m_read_row (mCons (mC (.str ("nothing" : Str))) mNil)) (mLst mNil))))))
noncomputable def m_law : MF := mkFn 1 11 mb_law
theorem ok_law (T : Fx K mg) (h_read_row : DefOk P w K mg base 21 ("read_row" : Str) m_read_row) (hE : EqAll P w K mg base 14 EQ) (h_row_text : DefOk P w K mg base 15 ("row_text" : Str) m_row_text) (h__law_results_right : DefOk P w K mg base 15 ("_law_results_right" : Str) m__law_results_right) (h__law_deed : DefOk P w K mg base 15 ("_law_deed" : Str) m__law_deed) (h__law_draw : DefOk P w K mg base 1 ("_law_draw" : Str) m__law_draw) (h__law_deed_row : DefOk P w K mg base 15 ("_law_deed_row" : Str) m__law_deed_row) (h__law_source : DefOk P w K mg base 1 ("_law_source" : Str) m__law_source) {fd : FuncData} (F : FunD K ("law" : Str) ("law" : Str) (defArgs st_law) (defBody st_law) (defScope st_law) [] [] (He.ga K ("law" : Str)) fd) : FnOk P w K mg base (L2.CX P w) 22 (He.ga K ("law" : Str)) fd [("_law_script" : Str)] (spOf K m_law) :=
  fn_ok F sc_law (fun cdv A outer s H E hr tk hp =>
    (dss_cons (ds_for hp rfl (di_range1 T.f_range (da_cons (de_callB (cs_max rfl) T.f_max (by decide +kernel) (da_cons de_int (da_cons (de_callB (cs_min rfl) T.f_min (by decide +kernel) (da_cons de_int (da_cons (de_callB (cs_len) T.f_len PySem.boot_len (da_cons (de_v 0) da_nil)) da_nil))) da_nil))) da_nil)) (dg_name (i := 1) sc_law.nd rfl (Or.inl rfl)) (dss_cons (ds_set (i := 2) sc_law.nd rfl (Or.inr rfl) (dd_call h__law_source (hr.mono (by first | decide | omega)) tk (da_cons (de_ix (de_op os_add (de_v 0) (de_lst (da_cons de_int da_nil))) (de_v 1)) da_nil)))
    (dss_cons (ds_for hp rfl (di_range1 T.f_range (da_cons de_int da_nil)) (dg_name (i := 3) sc_law.nd rfl (Or.inl rfl)) (dss_cons (ds_setLc (i := 4) (own := [(("_law_place" : Str), 8)]) rfl sc_law.nd rfl rfl (sw_true rfl rfl rfl (by kernel_rfl)) (di_range1 T.f_range (da_cons (de_op os_add de_int (dd_call h__law_draw (hr.mono (by first | decide | omega)) tk (da_cons (de_v 2) (da_cons de_int da_nil)))) da_nil)) (by kernel_rfl) rfl (fun _ _ _ _ _ => (dg_name (i := 8) sc_law.nd rfl (Or.inl rfl))) (fun _ _ _ _ _ => dts_nil) (fun _ _ _ _ _ => (dd_call h__law_deed_row (hr.mono (by first | decide | omega)) takes0 (da_cons (de_v 2) da_nil))))
    (dss_cons (ds_setLc (i := 5) (own := [(("_law_row" : Str), 9)]) rfl sc_law.nd rfl rfl (sw_true rfl rfl rfl (by kernel_rfl)) (di_any (de_v 4)) (by kernel_rfl) rfl (fun _ _ _ _ _ => (dg_name (i := 9) sc_law.nd rfl (Or.inl rfl))) (fun _ _ _ _ _ => dts_nil) (fun _ _ _ _ _ => (dd_call h__law_deed (hr.mono (by first | decide | omega)) takes0 (da_cons (de_v 9) da_nil))))
    (dss_cons (ds_set (i := 6) sc_law.nd rfl (Or.inl rfl) (de_bm (T := .s) PySem.F.plainAttrs_str PySem.F.slot_str_join PySem.F.type_str_join ms_join de_str (da_cons (de_lc (own := [(("_law_row" : Str), 9)]) rfl sc_law.nd (di_any (de_v 4)) (by kernel_rfl) rfl (fun _ _ _ _ _ => (dg_name (i := 9) sc_law.nd rfl (Or.inl rfl))) (fun _ _ _ _ _ => dts_nil) (fun _ _ _ _ _ => (de_bm (T := .s) PySem.F.plainAttrs_str PySem.F.slot_str_join PySem.F.type_str_join ms_join de_str (da_cons (de_lc (own := [(("_law_part" : Str), 10)]) rfl sc_law.nd (di_any (de_v 9)) (by kernel_rfl) rfl (fun _ _ _ _ _ => (dg_name (i := 10) sc_law.nd rfl (Or.inl rfl))) (fun _ _ _ _ _ => dts_nil) (fun _ _ _ _ _ => (de_callTy cs_strX T.f_str (by decide +kernel) (da_cons (de_v 10) da_nil)))) da_nil)))) da_nil)))
    (dss_cons (ds_if (DW.dt (dw_or (dt_cmp (os_ne (hE _ rfl rfl rfl rfl rfl) (hr.mono (by first | decide | omega))) (dd_call h_row_text (hr.mono (by first | decide | omega)) tk (da_cons (de_v 5) da_nil)) (de_v 6)) (dw_or1 (dt_cmp (os_ne (hE _ rfl rfl rfl rfl rfl) (hr.mono (by first | decide | omega))) (dd_call h_row_text (hr.mono (by first | decide | omega)) tk (da_cons (de_callTy cs_tuple T.f_tuple (by decide +kernel) (da_cons (de_v 5) da_nil)) da_nil)) (de_v 6))))) (dss_one (ds_ret de_bl)) dss_nil)
    (dss_cons (ds_set (i := 7) sc_law.nd rfl (Or.inl rfl) (dd_call h_read_row (hr.mono (by first | decide | omega)) tk (da_cons (de_v 6) da_nil)))
    (dss_cons (ds_if (DW.dt (dw_or (dt_cmp (os_ne (hE _ rfl rfl rfl rfl rfl) (hr.mono (by first | decide | omega))) (de_v 7) (de_v 5)) (dw_or1 (dt_not (dt_val (de_isi T.isi_list T.f_isinstance (de_v 7) (dc_ty T.f_list (by decide +kernel)))))))) (dss_one (ds_ret de_bl)) dss_nil)
    (dss_cons (ds_expr (de_bm (T := .l) PySem.F.plainAttrs_list PySem.F.slot_list_append PySem.F.type_list_append ms_append (de_v 7) (da_cons de_non da_nil)))
    (dss_one (ds_if (dt_cmp (os_ne (hE _ rfl rfl rfl rfl rfl) (hr.mono (by first | decide | omega))) (dd_call h_read_row (hr.mono (by first | decide | omega)) tk (da_cons (de_v 6) da_nil)) (de_v 5)) (dss_one (ds_ret de_bl)) dss_nil))))))))))
    (dss_one (ds_if (dt_not (dt_val (dd_call h__law_results_right (hr.mono (by first | decide | omega)) tk (da_cons (de_v 2) da_nil)))) (dss_one (ds_ret de_bl)) dss_nil)))))
    (dss_one (ds_ret (de_and (de_cmp (os_eq (hE _ rfl rfl rfl rfl rfl) (hr.mono (by first | decide | omega))) (dd_call h_row_text (hr.mono (by first | decide | omega)) tk (da_cons (de_lst da_nil) da_nil)) de_str) (de_and (de_cmp (os_eq (hE _ rfl rfl rfl rfl rfl) (hr.mono (by first | decide | omega))) (dd_call h_row_text (hr.mono (by first | decide | omega)) tk (da_cons (de_tup da_nil) da_nil)) de_str) (de_one (de_cmp (os_eq (hE _ rfl rfl rfl rfl rfl) (hr.mono (by first | decide | omega))) (dd_call h_read_row (hr.mono (by first | decide | omega)) tk (da_cons de_str da_nil)) (de_lst da_nil)))))))))
end
end Law
end Nw

set_option Elab.async false
set_option linter.all false
set_option maxRecDepth 100000
set_option maxHeartbeats 0
namespace Nw
namespace Law
open PySem PySem.Spec
open PyProof.Rows hiding St
open L2
theorem pu_Thing_facts : PuF m_Thing_facts := by
  unfold m_Thing_facts mb_Thing_facts
  repeat first | exact pu_c | exact pu_var | exact pu_nil | exact pus_skip | apply pu_fn | apply pus_ret | apply pu_tup | apply pu_cons | apply pu_fld
theorem pu_New_facts : PuF m_New_facts := by
  unfold m_New_facts mb_New_facts
  repeat first | exact pu_c | exact pu_var | exact pu_nil | exact pus_skip | apply pu_fn | apply pus_ret | apply pu_tup | apply pu_cons | apply pu_fld
theorem pu_Refused_facts : PuF m_Refused_facts := by
  unfold m_Refused_facts mb_Refused_facts
  repeat first | exact pu_c | exact pu_var | exact pu_nil | exact pus_skip | apply pu_fn | apply pus_ret | apply pu_tup | apply pu_cons | apply pu_fld
theorem pu_Came_facts : PuF m_Came_facts := by
  unfold m_Came_facts mb_Came_facts
  repeat first | exact pu_c | exact pu_var | exact pu_nil | exact pus_skip | apply pu_fn | apply pus_ret | apply pu_tup | apply pu_cons | apply pu_fld
theorem pu_Made_facts : PuF m_Made_facts := by
  unfold m_Made_facts mb_Made_facts
  repeat first | exact pu_c | exact pu_var | exact pu_nil | exact pus_skip | apply pu_fn | apply pus_ret | apply pu_tup | apply pu_cons | apply pu_fld
theorem pu_Move_facts : PuF m_Move_facts := by
  unfold m_Move_facts mb_Move_facts
  repeat first | exact pu_c | exact pu_var | exact pu_nil | exact pus_skip | apply pu_fn | apply pus_ret | apply pu_tup | apply pu_cons | apply pu_fld
theorem pu_Take_facts : PuF m_Take_facts := by
  unfold m_Take_facts mb_Take_facts
  repeat first | exact pu_c | exact pu_var | exact pu_nil | exact pus_skip | apply pu_fn | apply pus_ret | apply pu_tup | apply pu_cons | apply pu_fld
theorem pu_Put_facts : PuF m_Put_facts := by
  unfold m_Put_facts mb_Put_facts
  repeat first | exact pu_c | exact pu_var | exact pu_nil | exact pus_skip | apply pu_fn | apply pus_ret | apply pu_tup | apply pu_cons | apply pu_fld
theorem pu_MakeLink_facts : PuF m_MakeLink_facts := by
  unfold m_MakeLink_facts mb_MakeLink_facts
  repeat first | exact pu_c | exact pu_var | exact pu_nil | exact pus_skip | apply pu_fn | apply pus_ret | apply pu_tup | apply pu_cons | apply pu_fld
theorem pu_MakeFile_facts : PuF m_MakeFile_facts := by
  unfold m_MakeFile_facts mb_MakeFile_facts
  repeat first | exact pu_c | exact pu_var | exact pu_nil | exact pus_skip | apply pu_fn | apply pus_ret | apply pu_tup | apply pu_cons | apply pu_fld
theorem pu_MakeFolder_facts : PuF m_MakeFolder_facts := by
  unfold m_MakeFolder_facts mb_MakeFolder_facts
  repeat first | exact pu_c | exact pu_var | exact pu_nil | exact pus_skip | apply pu_fn | apply pus_ret | apply pu_tup | apply pu_cons | apply pu_fld
theorem pu_Path_facts : PuF m_Path_facts := by
  unfold m_Path_facts mb_Path_facts
  repeat first | exact pu_c | exact pu_var | exact pu_nil | exact pus_skip | apply pu_fn | apply pus_ret | apply pu_tup | apply pu_cons | apply pu_fld
theorem pu_Thing_class_name : PuF m_Thing_class_name := by
  unfold m_Thing_class_name mb_Thing_class_name
  repeat first | exact pu_c | exact pu_var | exact pu_nil | exact pus_skip | apply pu_fn | apply pus_ret | apply pu_tup | apply pu_cons | apply pu_fld
theorem pu_New_class_name : PuF m_New_class_name := by
  unfold m_New_class_name mb_New_class_name
  repeat first | exact pu_c | exact pu_var | exact pu_nil | exact pus_skip | apply pu_fn | apply pus_ret | apply pu_tup | apply pu_cons | apply pu_fld
theorem pu_Refused_class_name : PuF m_Refused_class_name := by
  unfold m_Refused_class_name mb_Refused_class_name
  repeat first | exact pu_c | exact pu_var | exact pu_nil | exact pus_skip | apply pu_fn | apply pus_ret | apply pu_tup | apply pu_cons | apply pu_fld
theorem pu_Came_class_name : PuF m_Came_class_name := by
  unfold m_Came_class_name mb_Came_class_name
  repeat first | exact pu_c | exact pu_var | exact pu_nil | exact pus_skip | apply pu_fn | apply pus_ret | apply pu_tup | apply pu_cons | apply pu_fld
theorem pu_Made_class_name : PuF m_Made_class_name := by
  unfold m_Made_class_name mb_Made_class_name
  repeat first | exact pu_c | exact pu_var | exact pu_nil | exact pus_skip | apply pu_fn | apply pus_ret | apply pu_tup | apply pu_cons | apply pu_fld
theorem pu_Done_class_name : PuF m_Done_class_name := by
  unfold m_Done_class_name mb_Done_class_name
  repeat first | exact pu_c | exact pu_var | exact pu_nil | exact pus_skip | apply pu_fn | apply pus_ret | apply pu_tup | apply pu_cons | apply pu_fld
theorem pu_Move_class_name : PuF m_Move_class_name := by
  unfold m_Move_class_name mb_Move_class_name
  repeat first | exact pu_c | exact pu_var | exact pu_nil | exact pus_skip | apply pu_fn | apply pus_ret | apply pu_tup | apply pu_cons | apply pu_fld
theorem pu_Take_class_name : PuF m_Take_class_name := by
  unfold m_Take_class_name mb_Take_class_name
  repeat first | exact pu_c | exact pu_var | exact pu_nil | exact pus_skip | apply pu_fn | apply pus_ret | apply pu_tup | apply pu_cons | apply pu_fld
theorem pu_Put_class_name : PuF m_Put_class_name := by
  unfold m_Put_class_name mb_Put_class_name
  repeat first | exact pu_c | exact pu_var | exact pu_nil | exact pus_skip | apply pu_fn | apply pus_ret | apply pu_tup | apply pu_cons | apply pu_fld
theorem pu_MakeLink_class_name : PuF m_MakeLink_class_name := by
  unfold m_MakeLink_class_name mb_MakeLink_class_name
  repeat first | exact pu_c | exact pu_var | exact pu_nil | exact pus_skip | apply pu_fn | apply pus_ret | apply pu_tup | apply pu_cons | apply pu_fld
theorem pu_MakeFile_class_name : PuF m_MakeFile_class_name := by
  unfold m_MakeFile_class_name mb_MakeFile_class_name
  repeat first | exact pu_c | exact pu_var | exact pu_nil | exact pus_skip | apply pu_fn | apply pus_ret | apply pu_tup | apply pu_cons | apply pu_fld
theorem pu_MakeFolder_class_name : PuF m_MakeFolder_class_name := by
  unfold m_MakeFolder_class_name mb_MakeFolder_class_name
  repeat first | exact pu_c | exact pu_var | exact pu_nil | exact pus_skip | apply pu_fn | apply pus_ret | apply pu_tup | apply pu_cons | apply pu_fld
theorem pu_Path_class_name : PuF m_Path_class_name := by
  unfold m_Path_class_name mb_Path_class_name
  repeat first | exact pu_c | exact pu_var | exact pu_nil | exact pus_skip | apply pu_fn | apply pus_ret | apply pu_tup | apply pu_cons | apply pu_fld
theorem pul_class_name : ∀ q ∈ [(("Path" : Str), m_Path_class_name), (("MakeFolder" : Str), m_MakeFolder_class_name), (("MakeFile" : Str), m_MakeFile_class_name), (("MakeLink" : Str), m_MakeLink_class_name), (("Put" : Str), m_Put_class_name), (("Take" : Str), m_Take_class_name), (("Move" : Str), m_Move_class_name), (("Done" : Str), m_Done_class_name), (("Made" : Str), m_Made_class_name), (("Came" : Str), m_Came_class_name), (("Refused" : Str), m_Refused_class_name), (("New" : Str), m_New_class_name), (("Thing" : Str), m_Thing_class_name)], PuF q.2 := (pul_cons pu_Path_class_name (pul_cons pu_MakeFolder_class_name (pul_cons pu_MakeFile_class_name (pul_cons pu_MakeLink_class_name (pul_cons pu_Put_class_name (pul_cons pu_Take_class_name (pul_cons pu_Move_class_name (pul_cons pu_Done_class_name (pul_cons pu_Made_class_name (pul_cons pu_Came_class_name (pul_cons pu_Refused_class_name (pul_cons pu_New_class_name (pul_cons pu_Thing_class_name pul_nil)))))))))))))
theorem pul_facts : ∀ q ∈ [(("Path" : Str), m_Path_facts), (("MakeFolder" : Str), m_MakeFolder_facts), (("MakeFile" : Str), m_MakeFile_facts), (("MakeLink" : Str), m_MakeLink_facts), (("Put" : Str), m_Put_facts), (("Take" : Str), m_Take_facts), (("Move" : Str), m_Move_facts), (("Made" : Str), m_Made_facts), (("Came" : Str), m_Came_facts), (("Refused" : Str), m_Refused_facts), (("New" : Str), m_New_facts), (("Thing" : Str), m_Thing_facts)], PuF q.2 := (pul_cons pu_Path_facts (pul_cons pu_MakeFolder_facts (pul_cons pu_MakeFile_facts (pul_cons pu_MakeLink_facts (pul_cons pu_Put_facts (pul_cons pu_Take_facts (pul_cons pu_Move_facts (pul_cons pu_Made_facts (pul_cons pu_Came_facts (pul_cons pu_Refused_facts (pul_cons pu_New_facts (pul_cons pu_Thing_facts pul_nil))))))))))))
theorem pu_eq : ∀ g, PuE g → PuF (m_Thing___eq__ g) := by
  intro g pg
  unfold m_Thing___eq__ mb_Thing___eq__
  have p1 := pu_eqO pg
  have p2 := pu_neO pu_eqP
  refine pu_fn ?_
  repeat first | exact p1 | exact p2 | exact pu_c | exact pu_var | exact pu_nil | exact pus_skip | apply pus_seq | apply pus_ret | apply pus_if | apply pu_or | apply pu_and | apply pu_not | apply pu_b | apply pu_isi | apply pu_op | (refine pu_meth0 ?_ pul_class_name) | (refine pu_meth0 ?_ pul_facts)
theorem fx {K : Frag} {h : Heap} {mg : Str → Option Value} (X : K.In h) (G : h.Ns mainGlobals mg) (c : SaysN fa ck fn K) : Fx K mg where
  mt_Thing_facts := He.meth_ok (c.fact 0 (f := .meth ("Thing" : Str) ("facts" : Str)) rfl)
  cl_Thing := He.cls_ok (c.fact 1 (f := .cls ("Thing" : Str)) rfl)
  fld_kind := ck_fld (c.cka 0 (f := .fld ("kind" : Str) [("New" : Str)]) rfl)
  mt_New_facts := He.meth_ok (c.fact 2 (f := .meth ("New" : Str) ("facts" : Str)) rfl)
  cl_New := He.cls_ok (c.fact 3 (f := .cls ("New" : Str)) rfl)
  fld_why := ck_fld (c.cka 1 (f := .fld ("why" : Str) [("Refused" : Str)]) rfl)
  mt_Refused_facts := He.meth_ok (c.fact 4 (f := .meth ("Refused" : Str) ("facts" : Str)) rfl)
  cl_Refused := He.cls_ok (c.fact 5 (f := .cls ("Refused" : Str)) rfl)
  fld_node := ck_fld (c.cka 2 (f := .fld ("node" : Str) [("Put" : Str), ("Came" : Str)]) rfl)
  mt_Came_facts := He.meth_ok (c.fact 6 (f := .meth ("Came" : Str) ("facts" : Str)) rfl)
  cl_Came := He.cls_ok (c.fact 7 (f := .cls ("Came" : Str)) rfl)
  fld_call := ck_fld (c.cka 3 (f := .fld ("call" : Str) [("Made" : Str)]) rfl)
  fld_process := ck_fld (c.cka 4 (f := .fld ("process" : Str) [("Made" : Str)]) rfl)
  mt_Made_facts := He.meth_ok (c.fact 8 (f := .meth ("Made" : Str) ("facts" : Str)) rfl)
  cl_Made := He.cls_ok (c.fact 9 (f := .cls ("Made" : Str)) rfl)
  fld_other := ck_fld (c.cka 5 (f := .fld ("other" : Str) [("Move" : Str)]) rfl)
  fld_goal := ck_fld (c.cka 6 (f := .fld ("goal" : Str) [("Move" : Str)]) rfl)
  fld_name := ck_fld (c.cka 7 (f := .fld ("name" : Str) [("MakeFolder" : Str), ("MakeFile" : Str), ("MakeLink" : Str), ("Put" : Str), ("Take" : Str), ("Move" : Str)]) rfl)
  fld_folder := ck_fld (c.cka 8 (f := .fld ("folder" : Str) [("Path" : Str), ("MakeFolder" : Str), ("MakeFile" : Str), ("MakeLink" : Str), ("Put" : Str), ("Take" : Str), ("Move" : Str)]) rfl)
  mt_Move_facts := He.meth_ok (c.fact 10 (f := .meth ("Move" : Str) ("facts" : Str)) rfl)
  cl_Move := He.cls_ok (c.fact 11 (f := .cls ("Move" : Str)) rfl)
  mt_Take_facts := He.meth_ok (c.fact 12 (f := .meth ("Take" : Str) ("facts" : Str)) rfl)
  cl_Take := He.cls_ok (c.fact 13 (f := .cls ("Take" : Str)) rfl)
  mt_Put_facts := He.meth_ok (c.fact 14 (f := .meth ("Put" : Str) ("facts" : Str)) rfl)
  cl_Put := He.cls_ok (c.fact 15 (f := .cls ("Put" : Str)) rfl)
  fld_text := ck_fld (c.cka 9 (f := .fld ("text" : Str) [("MakeLink" : Str)]) rfl)
  fld_owner := ck_fld (c.cka 10 (f := .fld ("owner" : Str) [("MakeFolder" : Str), ("MakeFile" : Str), ("MakeLink" : Str)]) rfl)
  mt_MakeLink_facts := He.meth_ok (c.fact 16 (f := .meth ("MakeLink" : Str) ("facts" : Str)) rfl)
  cl_MakeLink := He.cls_ok (c.fact 17 (f := .cls ("MakeLink" : Str)) rfl)
  mt_MakeFile_facts := He.meth_ok (c.fact 18 (f := .meth ("MakeFile" : Str) ("facts" : Str)) rfl)
  cl_MakeFile := He.cls_ok (c.fact 19 (f := .cls ("MakeFile" : Str)) rfl)
  mt_MakeFolder_facts := He.meth_ok (c.fact 20 (f := .meth ("MakeFolder" : Str) ("facts" : Str)) rfl)
  cl_MakeFolder := He.cls_ok (c.fact 21 (f := .cls ("MakeFolder" : Str)) rfl)
  fld_absolute := ck_fld (c.cka 11 (f := .fld ("absolute" : Str) [("Path" : Str)]) rfl)
  fld_steps := ck_fld (c.cka 12 (f := .fld ("steps" : Str) [("Path" : Str)]) rfl)
  mt_Path_facts := He.meth_ok (c.fact 22 (f := .meth ("Path" : Str) ("facts" : Str)) rfl)
  cl_Path := He.cls_ok (c.fact 23 (f := .cls ("Path" : Str)) rfl)
  mt_Thing_class_name := He.meth_ok (c.fact 24 (f := .meth ("Thing" : Str) ("class_name" : Str)) rfl)
  mt_New_class_name := He.meth_ok (c.fact 25 (f := .meth ("New" : Str) ("class_name" : Str)) rfl)
  mt_Refused_class_name := He.meth_ok (c.fact 26 (f := .meth ("Refused" : Str) ("class_name" : Str)) rfl)
  mt_Came_class_name := He.meth_ok (c.fact 27 (f := .meth ("Came" : Str) ("class_name" : Str)) rfl)
  mt_Made_class_name := He.meth_ok (c.fact 28 (f := .meth ("Made" : Str) ("class_name" : Str)) rfl)
  mt_Done_class_name := He.meth_ok (c.fact 29 (f := .meth ("Done" : Str) ("class_name" : Str)) rfl)
  cl_Done := He.cls_ok (c.fact 30 (f := .cls ("Done" : Str)) rfl)
  mt_Move_class_name := He.meth_ok (c.fact 31 (f := .meth ("Move" : Str) ("class_name" : Str)) rfl)
  mt_Take_class_name := He.meth_ok (c.fact 32 (f := .meth ("Take" : Str) ("class_name" : Str)) rfl)
  mt_Put_class_name := He.meth_ok (c.fact 33 (f := .meth ("Put" : Str) ("class_name" : Str)) rfl)
  mt_MakeLink_class_name := He.meth_ok (c.fact 34 (f := .meth ("MakeLink" : Str) ("class_name" : Str)) rfl)
  mt_MakeFile_class_name := He.meth_ok (c.fact 35 (f := .meth ("MakeFile" : Str) ("class_name" : Str)) rfl)
  mt_MakeFolder_class_name := He.meth_ok (c.fact 36 (f := .meth ("MakeFolder" : Str) ("class_name" : Str)) rfl)
  mt_Path_class_name := He.meth_ok (c.fact 37 (f := .meth ("Path" : Str) ("class_name" : Str)) rfl)
  isi_Thing := isiB_ok (c.cka 13 (f := .isi tys isi_Thing [Cl.gl ("Thing" : Str)]) rfl) (c.cka 14 (f := .tys tys) rfl)
  f_isinstance := He.free_ok X G (c.fact 38 (f := .free ("isinstance" : Str)) rfl)
  g_Thing := He.glo_ok X G (c.fact 39 (f := .glo ("Thing" : Str)) rfl)
  s_BETWEEN_DEEDS := He.str_ok X G (c.fact 40 (f := .str ("BETWEEN_DEEDS" : Str) (", " : Str)) rfl)
  f_enumerate := He.free_ok X G (c.fact 41 (f := .free ("enumerate" : Str)) rfl)
  mk_Move := He.mkr_ok (c.fact 42 (f := .mkr ("Move" : Str)) rfl)
  g_Move := He.glo_ok X G (c.fact 43 (f := .glo ("Move" : Str)) rfl)
  s_LETTERS := He.str_ok X G (c.fact 44 (f := .str ("LETTERS" : Str) ("abcdefghijklmnopqrstuvwxyz0123456789_-." : Str)) rfl)
  f_all := He.free_ok X G (c.fact 45 (f := .free ("all" : Str)) rfl)
  s_UP := He.str_ok X G (c.fact 46 (f := .str ("UP" : Str) (".." : Str)) rfl)
  s_HERE := He.str_ok X G (c.fact 47 (f := .str ("HERE" : Str) ("." : Str)) rfl)
  f_len := He.free_ok X G (c.fact 48 (f := .free ("len" : Str)) rfl)
  i_MOST_LETTERS := He.int_ok X G (c.fact 49 (f := .int ("MOST_LETTERS" : Str) 12) rfl)
  isi_str := isiB_ok (c.cka 15 (f := .isi tys isi_str [Cl.ty "str"]) rfl) (c.cka 14 (f := .tys tys) rfl)
  f_str := He.free_ok X G (c.fact 50 (f := .free ("str" : Str)) rfl)
  g_is_name := He.glo_ok X G (c.fact 51 (f := .glo ("is_name" : Str)) rfl)
  oex_BadText := ck_oex1 (c.cka 16 (f := .oex ("BadText" : Str) [("place" : Str)]) rfl)
  fnt_BadText := ck_fnT (c.cka 17 (f := .fnT ("BadText" : Str) ("__init__" : Str)) rfl)
  g_BadText := He.glo_ok X G (c.fact 52 (f := .glo ("BadText" : Str)) rfl)
  g_asked_name := He.glo_ok X G (c.fact 53 (f := .glo ("asked_name" : Str)) rfl)
  mk_MakeLink := He.mkr_ok (c.fact 54 (f := .mkr ("MakeLink" : Str)) rfl)
  g_MakeLink := He.glo_ok X G (c.fact 55 (f := .glo ("MakeLink" : Str)) rfl)
  x0_NoPath := ck_exc0 X G (c.fact 56 (f := .glo ("NoPath" : Str)) rfl) (c.fact 57 (f := .exc ("NoPath" : Str)) rfl)
  f_tuple := He.free_ok X G (c.fact 58 (f := .free ("tuple" : Str)) rfl)
  mk_Path := He.mkr_ok (c.fact 59 (f := .mkr ("Path" : Str)) rfl)
  g_Path := He.glo_ok X G (c.fact 60 (f := .glo ("Path" : Str)) rfl)
  g_read_path := He.glo_ok X G (c.fact 61 (f := .glo ("read_path" : Str)) rfl)
  xm_BadText := ck_exm (c.cka 18 (f := .exm ("BadText" : Str) [(("WalkError" : Str), false), (("BadText" : Str), true), (("NoPath" : Str), false)]) rfl)
  g_is_path_text := He.glo_ok X G (c.fact 62 (f := .glo ("is_path_text" : Str)) rfl)
  g_asked_path := He.glo_ok X G (c.fact 63 (f := .glo ("asked_path" : Str)) rfl)
  f_int := He.free_ok X G (c.fact 64 (f := .free ("int" : Str)) rfl)
  s_FIGURES := He.str_ok X G (c.fact 65 (f := .str ("FIGURES" : Str) ("0123456789" : Str)) rfl)
  i_MOST_FIGURES := He.int_ok X G (c.fact 66 (f := .int ("MOST_FIGURES" : Str) 9) rfl)
  g_read_number := He.glo_ok X G (c.fact 67 (f := .glo ("read_number" : Str)) rfl)
  mk_Take := He.mkr_ok (c.fact 68 (f := .mkr ("Take" : Str)) rfl)
  g_Take := He.glo_ok X G (c.fact 69 (f := .glo ("Take" : Str)) rfl)
  mk_MakeFile := He.mkr_ok (c.fact 70 (f := .mkr ("MakeFile" : Str)) rfl)
  g_MakeFile := He.glo_ok X G (c.fact 71 (f := .glo ("MakeFile" : Str)) rfl)
  mk_Put := He.mkr_ok (c.fact 72 (f := .mkr ("Put" : Str)) rfl)
  g_Put := He.glo_ok X G (c.fact 73 (f := .glo ("Put" : Str)) rfl)
  mk_MakeFolder := He.mkr_ok (c.fact 74 (f := .mkr ("MakeFolder" : Str)) rfl)
  g_MakeFolder := He.glo_ok X G (c.fact 75 (f := .glo ("MakeFolder" : Str)) rfl)
  g_read_making := He.glo_ok X G (c.fact 76 (f := .glo ("read_making" : Str)) rfl)
  g_read_deed := He.glo_ok X G (c.fact 77 (f := .glo ("read_deed" : Str)) rfl)
  s_NOTHING := He.str_ok X G (c.fact 78 (f := .str ("NOTHING" : Str) ("nothing" : Str)) rfl)
  g_read_row := He.glo_ok X G (c.fact 79 (f := .glo ("read_row" : Str)) rfl)
  isi_Take := isiB_ok (c.cka 19 (f := .isi tys isi_Take [Cl.gl ("Take" : Str)]) rfl) (c.cka 14 (f := .tys tys) rfl)
  isi_Put := isiB_ok (c.cka 20 (f := .isi tys isi_Put [Cl.gl ("Put" : Str)]) rfl) (c.cka 14 (f := .tys tys) rfl)
  isi_MakeLink := isiB_ok (c.cka 21 (f := .isi tys isi_MakeLink [Cl.gl ("MakeLink" : Str)]) rfl) (c.cka 14 (f := .tys tys) rfl)
  isi_MakeFile := isiB_ok (c.cka 22 (f := .isi tys isi_MakeFile [Cl.gl ("MakeFile" : Str)]) rfl) (c.cka 14 (f := .tys tys) rfl)
  isi_MakeFolder := isiB_ok (c.cka 23 (f := .isi tys isi_MakeFolder [Cl.gl ("MakeFolder" : Str)]) rfl) (c.cka 14 (f := .tys tys) rfl)
  g_deed_text := He.glo_ok X G (c.fact 80 (f := .glo ("deed_text" : Str)) rfl)
  g_row_text := He.glo_ok X G (c.fact 81 (f := .glo ("row_text" : Str)) rfl)
  f_min := He.free_ok X G (c.fact 82 (f := .free ("min" : Str)) rfl)
  f_max := He.free_ok X G (c.fact 83 (f := .free ("max" : Str)) rfl)
  f_range := He.free_ok X G (c.fact 84 (f := .free ("range" : Str)) rfl)
  isi_Made := isiB_ok (c.cka 24 (f := .isi tys isi_Made [Cl.gl ("Made" : Str)]) rfl) (c.cka 14 (f := .tys tys) rfl)
  g_Made := He.glo_ok X G (c.fact 85 (f := .glo ("Made" : Str)) rfl)
  isi_Refused := isiB_ok (c.cka 25 (f := .isi tys isi_Refused [Cl.gl ("Refused" : Str)]) rfl) (c.cka 14 (f := .tys tys) rfl)
  g_Refused := He.glo_ok X G (c.fact 86 (f := .glo ("Refused" : Str)) rfl)
  isi_New := isiB_ok (c.cka 26 (f := .isi tys isi_New [Cl.gl ("New" : Str)]) rfl) (c.cka 14 (f := .tys tys) rfl)
  g_New := He.glo_ok X G (c.fact 87 (f := .glo ("New" : Str)) rfl)
  isi_Came := isiB_ok (c.cka 27 (f := .isi tys isi_Came [Cl.gl ("Came" : Str)]) rfl) (c.cka 14 (f := .tys tys) rfl)
  g_Came := He.glo_ok X G (c.fact 88 (f := .glo ("Came" : Str)) rfl)
  g_result_text := He.glo_ok X G (c.fact 89 (f := .glo ("result_text" : Str)) rfl)
  mk_Refused := He.mkr_ok (c.fact 90 (f := .mkr ("Refused" : Str)) rfl)
  mk_New := He.mkr_ok (c.fact 91 (f := .mkr ("New" : Str)) rfl)
  mk_Made := He.mkr_ok (c.fact 92 (f := .mkr ("Made" : Str)) rfl)
  mko_Done := ck_mko (c.cka 28 (f := .mko ("Done" : Str)) rfl)
  g_Done := He.glo_ok X G (c.fact 93 (f := .glo ("Done" : Str)) rfl)
  mk_Came := He.mkr_ok (c.fact 94 (f := .mkr ("Came" : Str)) rfl)
  g__law_draw := He.glo_ok X G (c.fact 95 (f := .glo ("_law_draw" : Str)) rfl)
  g__law_results_right := He.glo_ok X G (c.fact 96 (f := .glo ("_law_results_right" : Str)) rfl)
  isi_list := isiB_ok (c.cka 29 (f := .isi tys isi_list [Cl.ty "list"]) rfl) (c.cka 14 (f := .tys tys) rfl)
  f_list := He.free_ok X G (c.fact 97 (f := .free ("list" : Str)) rfl)
  g__law_deed := He.glo_ok X G (c.fact 98 (f := .glo ("_law_deed" : Str)) rfl)
  g__law_pick := He.glo_ok X G (c.fact 99 (f := .glo ("_law_pick" : Str)) rfl)
  g__law_deed_row := He.glo_ok X G (c.fact 100 (f := .glo ("_law_deed_row" : Str)) rfl)
  f_abs := He.free_ok X G (c.fact 101 (f := .free ("abs" : Str)) rfl)
  g__law_source := He.glo_ok X G (c.fact 102 (f := .glo ("_law_source" : Str)) rfl)
  g_law := He.glo_ok X G (c.fact 103 (f := .glo ("law" : Str)) rfl)
theorem facts {P : Program} {w : World} {K : Frag} {h : Heap} {mg : Str → Option Value} {f : Addr} (X : K.In h) (G : h.Ns mainGlobals mg) (hfa : mg ("law" : Str) = some (.ref f)) (c : SaysN fa ck fn K) :
    ∃ fd : FuncData, (∀ (s : Shared) (v : Value), BindsTo s fd ⟨[v], []⟩ [(("_law_script" : Str), v)]) ∧ ∀ base : Heap, FnOk P w K mg base (L2.CX P w) 22 f fd [("_law_script" : Str)] (spOf K m_law) := by
  have T := fx X G c
  obtain ⟨fd_Thing_facts, F_Thing_facts⟩ := c.def_ 0 (d := d_Thing_facts) rfl
  obtain ⟨fd_New_facts, F_New_facts⟩ := c.def_ 1 (d := d_New_facts) rfl
  obtain ⟨fd_Refused_facts, F_Refused_facts⟩ := c.def_ 2 (d := d_Refused_facts) rfl
  obtain ⟨fd_Came_facts, F_Came_facts⟩ := c.def_ 3 (d := d_Came_facts) rfl
  obtain ⟨fd_Made_facts, F_Made_facts⟩ := c.def_ 4 (d := d_Made_facts) rfl
  obtain ⟨fd_Move_facts, F_Move_facts⟩ := c.def_ 5 (d := d_Move_facts) rfl
  obtain ⟨fd_Take_facts, F_Take_facts⟩ := c.def_ 6 (d := d_Take_facts) rfl
  obtain ⟨fd_Put_facts, F_Put_facts⟩ := c.def_ 7 (d := d_Put_facts) rfl
  obtain ⟨fd_MakeLink_facts, F_MakeLink_facts⟩ := c.def_ 8 (d := d_MakeLink_facts) rfl
  obtain ⟨fd_MakeFile_facts, F_MakeFile_facts⟩ := c.def_ 9 (d := d_MakeFile_facts) rfl
  obtain ⟨fd_MakeFolder_facts, F_MakeFolder_facts⟩ := c.def_ 10 (d := d_MakeFolder_facts) rfl
  obtain ⟨fd_Path_facts, F_Path_facts⟩ := c.def_ 11 (d := d_Path_facts) rfl
  obtain ⟨fd_Thing_class_name, F_Thing_class_name⟩ := c.def_ 12 (d := d_Thing_class_name) rfl
  obtain ⟨fd_New_class_name, F_New_class_name⟩ := c.def_ 13 (d := d_New_class_name) rfl
  obtain ⟨fd_Refused_class_name, F_Refused_class_name⟩ := c.def_ 14 (d := d_Refused_class_name) rfl
  obtain ⟨fd_Came_class_name, F_Came_class_name⟩ := c.def_ 15 (d := d_Came_class_name) rfl
  obtain ⟨fd_Made_class_name, F_Made_class_name⟩ := c.def_ 16 (d := d_Made_class_name) rfl
  obtain ⟨fd_Done_class_name, F_Done_class_name⟩ := c.def_ 17 (d := d_Done_class_name) rfl
  obtain ⟨fd_Move_class_name, F_Move_class_name⟩ := c.def_ 18 (d := d_Move_class_name) rfl
  obtain ⟨fd_Take_class_name, F_Take_class_name⟩ := c.def_ 19 (d := d_Take_class_name) rfl
  obtain ⟨fd_Put_class_name, F_Put_class_name⟩ := c.def_ 20 (d := d_Put_class_name) rfl
  obtain ⟨fd_MakeLink_class_name, F_MakeLink_class_name⟩ := c.def_ 21 (d := d_MakeLink_class_name) rfl
  obtain ⟨fd_MakeFile_class_name, F_MakeFile_class_name⟩ := c.def_ 22 (d := d_MakeFile_class_name) rfl
  obtain ⟨fd_MakeFolder_class_name, F_MakeFolder_class_name⟩ := c.def_ 23 (d := d_MakeFolder_class_name) rfl
  obtain ⟨fd_Path_class_name, F_Path_class_name⟩ := c.def_ 24 (d := d_Path_class_name) rfl
  obtain ⟨fd_Thing___eq__, F_Thing___eq__⟩ := c.def_ 25 (d := d_Thing___eq__) rfl
  obtain ⟨fd_Move___init__, F_Move___init__⟩ := c.def_ 26 (d := d_Move___init__) rfl
  obtain ⟨fd_is_name, F_is_name⟩ := c.def_ 27 (d := d_is_name) rfl
  obtain ⟨fd_BadText___init__, F_BadText___init__⟩ := c.def_ 28 (d := d_BadText___init__) rfl
  obtain ⟨fd_asked_name, F_asked_name⟩ := c.def_ 29 (d := d_asked_name) rfl
  obtain ⟨fd_MakeLink___init__, F_MakeLink___init__⟩ := c.def_ 30 (d := d_MakeLink___init__) rfl
  obtain ⟨fd_Path___init__, F_Path___init__⟩ := c.def_ 31 (d := d_Path___init__) rfl
  obtain ⟨fd_read_path, F_read_path⟩ := c.def_ 32 (d := d_read_path) rfl
  obtain ⟨fd_is_path_text, F_is_path_text⟩ := c.def_ 33 (d := d_is_path_text) rfl
  obtain ⟨fd_asked_path, F_asked_path⟩ := c.def_ 34 (d := d_asked_path) rfl
  obtain ⟨fd_read_number, F_read_number⟩ := c.def_ 35 (d := d_read_number) rfl
  obtain ⟨fd_Take___init__, F_Take___init__⟩ := c.def_ 36 (d := d_Take___init__) rfl
  obtain ⟨fd_MakeFile___init__, F_MakeFile___init__⟩ := c.def_ 37 (d := d_MakeFile___init__) rfl
  obtain ⟨fd_Put___init__, F_Put___init__⟩ := c.def_ 38 (d := d_Put___init__) rfl
  obtain ⟨fd_MakeFolder___init__, F_MakeFolder___init__⟩ := c.def_ 39 (d := d_MakeFolder___init__) rfl
  obtain ⟨fd_read_making, F_read_making⟩ := c.def_ 40 (d := d_read_making) rfl
  obtain ⟨fd_read_deed, F_read_deed⟩ := c.def_ 41 (d := d_read_deed) rfl
  obtain ⟨fd_read_row, F_read_row⟩ := c.def_ 42 (d := d_read_row) rfl
  obtain ⟨fd_deed_text, F_deed_text⟩ := c.def_ 43 (d := d_deed_text) rfl
  obtain ⟨fd_row_text, F_row_text⟩ := c.def_ 44 (d := d_row_text) rfl
  obtain ⟨fd_result_text, F_result_text⟩ := c.def_ 45 (d := d_result_text) rfl
  obtain ⟨fd_Refused___init__, F_Refused___init__⟩ := c.def_ 46 (d := d_Refused___init__) rfl
  obtain ⟨fd_New___init__, F_New___init__⟩ := c.def_ 47 (d := d_New___init__) rfl
  obtain ⟨fd_Made___init__, F_Made___init__⟩ := c.def_ 48 (d := d_Made___init__) rfl
  obtain ⟨fd_Came___init__, F_Came___init__⟩ := c.def_ 49 (d := d_Came___init__) rfl
  obtain ⟨fd__law_draw, F__law_draw⟩ := c.def_ 50 (d := d__law_draw) rfl
  obtain ⟨fd__law_results_right, F__law_results_right⟩ := c.def_ 51 (d := d__law_results_right) rfl
  obtain ⟨fd__law_deed, F__law_deed⟩ := c.def_ 52 (d := d__law_deed) rfl
  obtain ⟨fd__law_pick, F__law_pick⟩ := c.def_ 53 (d := d__law_pick) rfl
  obtain ⟨fd__law_deed_row, F__law_deed_row⟩ := c.def_ 54 (d := d__law_deed_row) rfl
  obtain ⟨fd__law_source, F__law_source⟩ := c.def_ 55 (d := d__law_source) rfl
  obtain ⟨fd_law, F_law⟩ := c.def_ 56 (d := d_law) rfl
  have e := hfa.symm.trans T.g_law
  cases e
  have b := FunD.bindsA (ps := [("_law_script" : Str)]) F_law fun _ _ _ _ _ _ us hl => match us, hl with | [_], _ => rfl
  refine ⟨fd_law, fun s v => b s [v] rfl, fun base => ?_⟩
  have ht_Thing_facts := ok_Thing_facts (P := P) (w := w) (base := base) T  F_Thing_facts
  have ht_New_facts := ok_New_facts (P := P) (w := w) (base := base) T  F_New_facts
  have ht_Refused_facts := ok_Refused_facts (P := P) (w := w) (base := base) T  F_Refused_facts
  have ht_Came_facts := ok_Came_facts (P := P) (w := w) (base := base) T  F_Came_facts
  have ht_Made_facts := ok_Made_facts (P := P) (w := w) (base := base) T  F_Made_facts
  have ht_Move_facts := ok_Move_facts (P := P) (w := w) (base := base) T  F_Move_facts
  have ht_Take_facts := ok_Take_facts (P := P) (w := w) (base := base) T  F_Take_facts
  have ht_Put_facts := ok_Put_facts (P := P) (w := w) (base := base) T  F_Put_facts
  have ht_MakeLink_facts := ok_MakeLink_facts (P := P) (w := w) (base := base) T  F_MakeLink_facts
  have ht_MakeFile_facts := ok_MakeFile_facts (P := P) (w := w) (base := base) T  F_MakeFile_facts
  have ht_MakeFolder_facts := ok_MakeFolder_facts (P := P) (w := w) (base := base) T  F_MakeFolder_facts
  have ht_Path_facts := ok_Path_facts (P := P) (w := w) (base := base) T  F_Path_facts
  have ht_Thing_class_name := ok_Thing_class_name (P := P) (w := w) (base := base) T  F_Thing_class_name
  have ht_New_class_name := ok_New_class_name (P := P) (w := w) (base := base) T  F_New_class_name
  have ht_Refused_class_name := ok_Refused_class_name (P := P) (w := w) (base := base) T  F_Refused_class_name
  have ht_Came_class_name := ok_Came_class_name (P := P) (w := w) (base := base) T  F_Came_class_name
  have ht_Made_class_name := ok_Made_class_name (P := P) (w := w) (base := base) T  F_Made_class_name
  have ht_Done_class_name := ok_Done_class_name (P := P) (w := w) (base := base) T  F_Done_class_name
  have ht_Move_class_name := ok_Move_class_name (P := P) (w := w) (base := base) T  F_Move_class_name
  have ht_Take_class_name := ok_Take_class_name (P := P) (w := w) (base := base) T  F_Take_class_name
  have ht_Put_class_name := ok_Put_class_name (P := P) (w := w) (base := base) T  F_Put_class_name
  have ht_MakeLink_class_name := ok_MakeLink_class_name (P := P) (w := w) (base := base) T  F_MakeLink_class_name
  have ht_MakeFile_class_name := ok_MakeFile_class_name (P := P) (w := w) (base := base) T  F_MakeFile_class_name
  have ht_MakeFolder_class_name := ok_MakeFolder_class_name (P := P) (w := w) (base := base) T  F_MakeFolder_class_name
  have ht_Path_class_name := ok_Path_class_name (P := P) (w := w) (base := base) T  F_Path_class_name
  have hE : EqAll P w K mg base 14 EQ := eq_tower (ps := [("self" : Str), ("other" : Str)]) (ck_dist (c.cka 30 (f := .dist eqcs) rfl)) (ck_eqc (c.cka 31 (f := .eqc ("Thing" : Str) tys eqcs) rfl)) (F_Thing___eq__.bindsN fun _ _ _ _ _ _ us hl => match us, hl with | [_, _], _ => rfl) (fun n g hg => ok_Thing___eq__ T ht_Thing_facts ht_New_facts ht_Refused_facts ht_Came_facts ht_Made_facts ht_Move_facts ht_Take_facts ht_Put_facts ht_MakeLink_facts ht_MakeFile_facts ht_MakeFolder_facts ht_Path_facts ht_Thing_class_name ht_New_class_name ht_Refused_class_name ht_Came_class_name ht_Made_class_name ht_Done_class_name ht_Move_class_name ht_Take_class_name ht_Put_class_name ht_MakeLink_class_name ht_MakeFile_class_name ht_MakeFolder_class_name ht_Path_class_name n g hg F_Thing___eq__) pu_eq 6
  have hm_Move := ok_Move___init__ (P := P) (w := w) (base := base) T  F_Move___init__
  have h_is_name := ok_is_name (P := P) (w := w) (base := base) T  F_is_name
  have hx_BadText := ok_BadText___init__ (P := P) (w := w) (base := base) T F_BadText___init__
  have h_asked_name := ok_asked_name (P := P) (w := w) (base := base) T h_is_name hx_BadText F_asked_name
  have hm_MakeLink := ok_MakeLink___init__ (P := P) (w := w) (base := base) T  F_MakeLink___init__
  have hm_Path := ok_Path___init__ (P := P) (w := w) (base := base) T hE h_is_name F_Path___init__
  have h_read_path := ok_read_path (P := P) (w := w) (base := base) T hm_Path hE h_is_name hx_BadText F_read_path
  have h_is_path_text := ok_is_path_text (P := P) (w := w) (base := base) T h_read_path F_is_path_text
  have h_asked_path := ok_asked_path (P := P) (w := w) (base := base) T h_is_path_text hx_BadText F_asked_path
  have h_read_number := ok_read_number (P := P) (w := w) (base := base) T hE hx_BadText F_read_number
  have hm_Take := ok_Take___init__ (P := P) (w := w) (base := base) T  F_Take___init__
  have hm_MakeFile := ok_MakeFile___init__ (P := P) (w := w) (base := base) T  F_MakeFile___init__
  have hm_Put := ok_Put___init__ (P := P) (w := w) (base := base) T  F_Put___init__
  have hm_MakeFolder := ok_MakeFolder___init__ (P := P) (w := w) (base := base) T  F_MakeFolder___init__
  have h_read_making := ok_read_making (P := P) (w := w) (base := base) T hE hm_MakeFile hm_Put hm_MakeFolder h_read_number h_asked_name F_read_making
  have h_read_deed := ok_read_deed (P := P) (w := w) (base := base) T hm_Move h_asked_name hE hm_MakeLink h_asked_path h_read_number hx_BadText hm_Take h_read_making F_read_deed
  have h_read_row := ok_read_row (P := P) (w := w) (base := base) T h_read_deed hE hx_BadText F_read_row
  have h_deed_text := ok_deed_text (P := P) (w := w) (base := base) T  F_deed_text
  have h_row_text := ok_row_text (P := P) (w := w) (base := base) T hE h_deed_text F_row_text
  have h_result_text := ok_result_text (P := P) (w := w) (base := base) T  F_result_text
  have hm_Refused := ok_Refused___init__ (P := P) (w := w) (base := base) T  F_Refused___init__
  have hm_New := ok_New___init__ (P := P) (w := w) (base := base) T  F_New___init__
  have hm_Made := ok_Made___init__ (P := P) (w := w) (base := base) T  F_Made___init__
  have hm_Came := ok_Came___init__ (P := P) (w := w) (base := base) T  F_Came___init__
  have h__law_draw := ok__law_draw (P := P) (w := w) (base := base) T  F__law_draw
  have h__law_results_right := ok__law_results_right (P := P) (w := w) (base := base) T h_result_text hE hm_Refused hm_New hm_Made hm_Came h__law_draw F__law_results_right
  have h__law_deed := ok__law_deed (P := P) (w := w) (base := base) T hE hm_Take hm_Move hm_Put hm_MakeLink hm_MakeFile hm_MakeFolder F__law_deed
  have h__law_pick := ok__law_pick (P := P) (w := w) (base := base) T h__law_draw F__law_pick
  have h__law_deed_row := ok__law_deed_row (P := P) (w := w) (base := base) T hE h__law_pick h__law_draw F__law_deed_row
  have h__law_source := ok__law_source (P := P) (w := w) (base := base) T  F__law_source
  exact ok_law T h_read_row hE h_row_text h__law_results_right h__law_deed h__law_draw h__law_deed_row h__law_source F_law
end Law
end Nw

set_option Elab.async false
set_option linter.all false
set_option maxRecDepth 100000
set_option maxHeartbeats 1000000
namespace Nw
namespace Law
open PySem PySem.Spec
open PyProof.Rows hiding St
open L2
/-! cells that are forgotten -/
theorem mapM_self {f : D → Option D} : ∀ {l : List D}, (∀ d ∈ l, f d = some d) → l.mapM f = some l
  | [], _ => rfl
  | d :: r, h => by
    rw [List.mapM_cons, h d List.mem_cons_self, mapM_self fun x hx => h x (List.mem_cons_of_mem _ hx)]
    rfl
theorem frz_nc {c : Cells} {n f : Nat} {d : D} (h : nc n d = true) : frz c n (f + 1) d = some d := by
  unfold frz
  rw [if_pos h]
theorem get_last {c : Cells} {k : Cell} : (c ++ [k])[c.length]? = some k := by simp
theorem set_last {c : Cells} {k k' : Cell} : (c ++ [k]).set c.length k' = c ++ [k'] := by simp
theorem fin_ins {c : Cells} {cn : Str} {ns : List Str} {ds : List D} (h : ∀ d ∈ ds, nc c.length d = true) : fin c (c ++ [.ins cn ns ds]) (.cell c.length) = .ok (.obj cn ns ds) c := by
  have e : (c ++ [Cell.ins cn ns ds]).take c.length = c := List.take_left
  have k : nc c.length (.cell c.length) = false := by unfold nc; simp
  unfold fin
  rw [e, if_pos (Or.inr rfl)]
  have e2 : frz (c ++ [.ins cn ns ds]) c.length 30 (.cell c.length) = some (.obj cn ns ds) := by
    show (if nc c.length (.cell c.length) = true then _ else _) = _
    rw [k, if_neg (by decide)]
    dsimp only
    rw [get_last]
    dsimp only
    rw [mapM_self fun d hd => frz_nc (h d hd)]
    rfl
  rw [e2]
theorem nc_int {n : Nat} {i : Int} : nc n (.int i) = true := by unfold nc; rfl
theorem nc_str {n : Nat} {s : Str} : nc n (.str s) = true := by unfold nc; rfl
theorem nc_bl {n : Nat} {s : Bool} : nc n (.bl s) = true := by unfold nc; rfl
theorem ncL_of {n : Nat} : ∀ {l : List D}, (∀ d ∈ l, nc n d = true) → ncL n l = true
  | [], _ => by unfold ncL; rfl
  | d :: r, h => by unfold ncL; rw [h d List.mem_cons_self, ncL_of fun x hx => h x (List.mem_cons_of_mem _ hx)]; rfl
theorem nc_tup {n : Nat} {l : List D} (h : ∀ d ∈ l, nc n d = true) : nc n (.tup l) = true := by unfold nc; exact ncL_of h
theorem nc_lst {n : Nat} {l : List D} (h : ∀ d ∈ l, nc n d = true) : nc n (.lst l) = true := by unfold nc; exact ncL_of h
theorem nc_obj {n : Nat} {cn : Str} {ns : List Str} {l : List D} (h : ∀ d ∈ l, nc n d = true) : nc n (.obj cn ns l) = true := by unfold nc; exact ncL_of h
theorem seq_ct {a b : MS} {δ δ' : En} {c c' : Cells} (h : a δ c = .ct δ' c') : mSeq a b δ c = .ct δ' c' := by
  unfold mSeq
  rw [h]
/-! names -/
def LET : List Nat := ("abcdefghijklmnopqrstuvwxyz0123456789_-." : Str).cps.toList
def isNm (s : Str) : Bool := decide (1 ≤ s.length) && (decide (s.length ≤ 12) && (!(s == ("." : Str) || s == (".." : Str)) && s.cps.toList.all fun k => decide (k ∈ LET)))
theorem letters_ok {δ : En} {s : Str} {c : Cells} (hs : s.length ≤ 12) :
    lcGo (fun _ => true) (gN 1) (fun _ c => .ok true c) (mOp (inD false) (mVar 1) (mC (.str ("abcdefghijklmnopqrstuvwxyz0123456789_-." : Str)))) [some (.str s), none] (s.cps.toList.map fun k => .str ⟨#[k]⟩) [] c
      = .ok ((s.cps.toList.map fun k => decide (k ∈ LET)).map D.bl) c := by
  have hz : s.cps.toList.length ≤ sizeLine := Nat.le_trans (show s.cps.size ≤ 12 from hs) (by decide)
  rw [lcGo_map (f := fun d => match d with
    | .str x => .bl (match x.cps.toList with
      | [k] => decide (k ∈ LET)
      | _ => false)
    | d => d) rfl]
  · rw [List.nil_append, List.map_map, List.map_map]
    rfl
  · intro d hd
    obtain ⟨k, hk, rfl⟩ := List.mem_map.mp hd
    refine ⟨_, rfl, ?_⟩
    simp [mOp, mVar, mC, Out.bind, inD, LET]
  · simpa using hz
theorem allBl_comp {α : Type} (f : α → Bool) (l : List α) : allBl (l.map (D.bl ∘ f)) = some (l.map f) := by
  have := allBl_map (l.map f)
  rwa [List.map_map] at this
theorem in_pair {s a b : Str} {c : Cells} : inD false (.str s) (.tup [.str a, .str b]) c = .ok (.bl (s == a || s == b)) c := by
  have e : ∀ x y : Str, (x == y) = (y == x) := fun x y => by rw [Bool.eq_iff_iff, beq_iff_eq, beq_iff_eq]; exact ⟨Eq.symm, Eq.symm⟩
  simp [inD, items, flatD, eqFl, e s]
theorem is_name_str (s : Str) (c : Cells) (hs : s.length ≤ sizeLine) : m_is_name [.str s] c = .ok (.bl (isNm s)) c := by
  unfold m_is_name mb_is_name
  have t1 : Ty.b "str" ∈ tys := by decide
  have f1 : isi_str (Ty.b "str") = true := by decide
  by_cases h1 : (1 : Int) ≤ (s.length : Int)
  · by_cases h2 : (s.length : Int) ≤ 12
    · by_cases h3 : (s == ("." : Str) || s == (".." : Str)) = true
      · have e : isNm s = false := by unfold isNm; rw [h3]; simp
        have z2 : (2 : Nat) ≤ sizeLine := by decide
        simp only [Bool.or_eq_true, beq_iff_eq] at h3
        simp [mkFn, mSeq, mIfS, mB, mOp, mVar, mC, mCB, mCons, mNil, mRet, mSkip, mOrT, mNotT, mChain, mIsi, isiD, tyD, t1, f1, Out.bind, Out.fl, asB, leD, lenD, hs, h1, h2, e, mTup, tupD, in_pair, z2, h3]
      · have e : isNm s = s.cps.toList.all fun k => decide (k ∈ LET) := by
          unfold isNm
          rw [decide_eq_true (show 1 ≤ s.length by omega), decide_eq_true (show s.length ≤ 12 by omega), Bool.eq_false_iff.mpr h3]
          simp
        have z2 : (2 : Nat) ≤ sizeLine := by decide
        have h4 : (s == ("." : Str) || s == (".." : Str)) = false := Bool.eq_false_iff.mpr h3
        have hl := letters_ok (δ := []) (s := s) (c := c) (by omega)
        have h4' : ¬ (s = ("." : Str) ∨ s = (".." : Str)) := by simpa using h3
        simp [mkFn, mSeq, mIfS, mB, mOp, mVar, mC, mCB, mCons, mNil, mRet, mSkip, mOrT, mNotT, mChain, mIsi, isiD, tyD, t1, f1, Out.bind, Out.fl, asB, leD, lenD, hs, h1, h2, e, mTup, tupD, in_pair, z2, h4', mLc, mLcL, seqAny, strSeq, wipeE, allD, lstOf, hl, allBl_comp]
    · have e : isNm s = false := by
        unfold isNm
        rw [decide_eq_false (show ¬ s.length ≤ 12 by omega)]
        simp
      simp [mkFn, mSeq, mIfS, mB, mOp, mVar, mC, mCB, mCons, mNil, mRet, mSkip, mOrT, mNotT, mChain, mIsi, isiD, tyD, t1, f1, Out.bind, Out.fl, asB, leD, lenD, hs, h1, h2, e]
  · have e : isNm s = false := by
      unfold isNm
      rw [decide_eq_false (show ¬ 1 ≤ s.length by omega)]
      simp
    simp [mkFn, mSeq, mIfS, mB, mOp, mVar, mC, mCB, mCons, mNil, mRet, mSkip, mOrT, mNotT, mChain, mIsi, isiD, tyD, t1, f1, Out.bind, Out.fl, asB, leD, lenD, hs, h1, e]
/-! paths -/
mutual
theorem nc_okp {n : Nat} : ∀ (d : D) (m : Nat), okp d m = true → nc n d = true
  | .non, _, _ => by unfold nc; rfl
  | .bl _, _, _ => by unfold nc; rfl
  | .int _, _, _ => by unfold nc; rfl
  | .str _, _, _ => by unfold nc; rfl
  | .tup l, m, h => by
    unfold okp at h
    unfold nc
    exact ncL_okp l (m - 1) (Bool.and_eq_true_iff.mp h).2
  | .lst l, m, h => by
    unfold okp at h
    unfold nc
    exact ncL_okp l (m - 1) (Bool.and_eq_true_iff.mp h).2
  | .ty _, _, h => by unfold okp at h; cases h
  | .gl _, _, h => by unfold okp at h; cases h
  | .scr _, _, h => by unfold okp at h; cases h
  | .obj _ _ _, _, h => by unfold okp at h; cases h
  | .cell _, _, h => by unfold okp at h; cases h
  | .exo _ _ _ _ _, _, h => by unfold okp at h; cases h
  | .dic _ _, _, h => by unfold okp at h; cases h
  | .dit _ _, _, h => by unfold okp at h; cases h
theorem ncL_okp {n : Nat} : ∀ (l : List D) (m : Nat), okpL l m = true → ncL n l = true
  | [], _, _ => by unfold ncL; rfl
  | d :: r, m, h => by
    unfold okpL at h
    obtain ⟨h1, h2⟩ := Bool.and_eq_true_iff.mp h
    unfold ncL
    rw [nc_okp d m h1, ncL_okp r m h2]
    rfl
end
theorem okp_mem {l : List D} {n : Nat} (h : okpL l n = true) : ∀ d ∈ l, okp d n = true := by
  induction l with
  | nil => intro d hd; cases hd
  | cons a r ih =>
    unfold okpL at h
    obtain ⟨h1, h2⟩ := Bool.and_eq_true_iff.mp h
    intro d hd
    rcases List.mem_cons.mp hd with rfl | hd
    · exact h1
    · exact ih h2 d hd
theorem okp_tup {l : List D} {n : Nat} (h : okpL l n = true) : okp (.tup l) (n + 1) = true := by
  unfold okp
  simpa using h
/-- a datum that a step may be: plain, no long text -/
def Fit (d : D) : Prop := okp d 40 = true ∧ ∀ s, d = .str s → s.length ≤ sizeLine
mutual
theorem okp_mono : ∀ (d : D) (n m : Nat), okp d n = true → n ≤ m → okp d m = true
  | .non, _, _, _, _ => by unfold okp; rfl
  | .bl _, _, _, _, _ => by unfold okp; rfl
  | .int _, _, _, _, _ => by unfold okp; rfl
  | .str x, _, _, h, _ => by unfold okp at h ⊢; exact h
  | .tup l, n, m, h, hm => by
    unfold okp at h ⊢
    obtain ⟨h1, h2⟩ := Bool.and_eq_true_iff.mp h
    have h1 := of_decide_eq_true h1
    rw [decide_eq_true (show 0 < m by omega), okpL_mono l (n - 1) (m - 1) h2 (by omega)]
    rfl
  | .lst l, n, m, h, hm => by
    unfold okp at h ⊢
    obtain ⟨h1, h2⟩ := Bool.and_eq_true_iff.mp h
    have h1 := of_decide_eq_true h1
    rw [decide_eq_true (show 0 < m by omega), okpL_mono l (n - 1) (m - 1) h2 (by omega)]
    rfl
  | .ty _, _, _, h, _ => by unfold okp at h; cases h
  | .gl _, _, _, h, _ => by unfold okp at h; cases h
  | .scr _, _, _, h, _ => by unfold okp at h; cases h
  | .obj _ _ _, _, _, h, _ => by unfold okp at h; cases h
  | .cell _, _, _, h, _ => by unfold okp at h; cases h
  | .exo _ _ _ _ _, _, _, h, _ => by unfold okp at h; cases h
  | .dic _ _, _, _, h, _ => by unfold okp at h; cases h
  | .dit _ _, _, _, h, _ => by unfold okp at h; cases h
theorem okpL_mono : ∀ (l : List D) (n m : Nat), okpL l n = true → n ≤ m → okpL l m = true
  | [], _, _, _, _ => by unfold okpL; rfl
  | d :: r, n, m, h, hm => by
    unfold okpL at h ⊢
    obtain ⟨h1, h2⟩ := Bool.and_eq_true_iff.mp h
    rw [okp_mono d n m h1 hm, okpL_mono r n m h2 hm]
    rfl
end
def stepOk : D → Bool
  | .str s => isNm s || s == (".." : Str)
  | _ => false
theorem EQ_ok {d e : D} {c : Cells} (h1 : okp d 50 = true) (h2 : okp e 50 = true) : EQ d e c = .ok (PyData.eqv (py d) (py e)) c := eqF_ok h1 h2
theorem strOk_dd : PyData.strOk (".." : Str) = true := by decide +kernel
theorem is_name_no {d : D} {c : Cells} {T : String} (ht : tyD c d = some (.b T)) (t1 : Ty.b T ∈ tys) (f1 : isi_str (Ty.b T) = false) : m_is_name [d] c = .ok (.bl false) c := by
  simp [m_is_name, mb_is_name, mkFn, mSeq, mIfS, mB, mVar, mC, mRet, mOrT, mNotT, mIsi, isiD, ht, t1, f1, Out.bind, Out.fl, asB]
theorem step_ok {δ : En} {d : D} {c : Cells} (h : Fit d) (hδ : δ[4]? = some (some d)) : mOr (mCall m_is_name (mCons (mVar 4) mNil)) (mOp (eqO EQ) (mVar 4) (mC (.str (".." : Str)))) δ c = .ok (.bl (stepOk d)) c := by
  obtain ⟨h1, h2⟩ := h
  have h3 := okp_mono d 40 50 h1 (by decide)
  have h4 : okp (.str (".." : Str)) 50 = true := by unfold okp; exact strOk_dd
  have e := EQ_ok (c := c) h3 h4
  cases d with
  | str s =>
    have k := is_name_str s c (h2 s rfl)
    simp [mOr, mB, mCall, mCons, mVar, mNil, mOp, mC, Out.bind, hδ, k, asB, eqO, e, py, PyData.eqv, stepOk]
    cases isNm s <;> simp
  | non =>
    have k : m_is_name [.non] c = .ok (.bl false) c := is_name_no (T := "NoneType") rfl (by decide) (by decide)
    simp [mOr, mB, mCall, mCons, mVar, mNil, mOp, mC, Out.bind, hδ, k, asB, eqO, e, py, PyData.eqv, stepOk]
  | bl b =>
    have k : m_is_name [.bl b] c = .ok (.bl false) c := is_name_no (T := "bool") rfl (by decide) (by decide)
    simp [mOr, mB, mCall, mCons, mVar, mNil, mOp, mC, Out.bind, hδ, k, asB, eqO, e, py, PyData.eqv, stepOk]
  | int i =>
    have k : m_is_name [.int i] c = .ok (.bl false) c := is_name_no (T := "int") rfl (by decide) (by decide)
    simp [mOr, mB, mCall, mCons, mVar, mNil, mOp, mC, Out.bind, hδ, k, asB, eqO, e, py, PyData.eqv, stepOk]
  | tup l =>
    have k : m_is_name [.tup l] c = .ok (.bl false) c := is_name_no (T := "tuple") rfl (by decide) (by decide)
    simp [mOr, mB, mCall, mCons, mVar, mNil, mOp, mC, Out.bind, hδ, k, asB, eqO, e, py, PyData.eqv, stepOk]
  | lst l =>
    have k : m_is_name [.lst l] c = .ok (.bl false) c := is_name_no (T := "list") rfl (by decide) (by decide)
    simp [mOr, mB, mCall, mCons, mVar, mNil, mOp, mC, Out.bind, hδ, k, asB, eqO, e, py, PyData.eqv, stepOk]
  | ty _ => unfold okp at h1; cases h1
  | gl _ => unfold okp at h1; cases h1
  | scr _ => unfold okp at h1; cases h1
  | obj _ _ _ => unfold okp at h1; cases h1
  | cell _ => unfold okp at h1; cases h1
  | exo _ _ _ _ _ => unfold okp at h1; cases h1
  | dic _ _ => unfold okp at h1; cases h1
  | dit _ _ => unfold okp at h1; cases h1
/-! Path(..) -/
def isUp : D → Bool
  | .str s => s == (".." : Str)
  | _ => false
def badEnd (l : List D) : Bool := match l.getLast? with
  | none => true
  | some d => isUp d
def goodP (l : List D) (f : Bool) : Bool := l.all stepOk && (f || !badEnd l)
def pathD (l : List D) (a f : Bool) : D := .obj ("Path" : Str) [("steps" : Str), ("absolute" : Str), ("folder" : Str)] [.tup l, .bl a, .bl f]
def pathK (l : List D) (a f : Bool) : Cell := .ins ("Path" : Str) [("steps" : Str), ("absolute" : Str), ("folder" : Str)] [.tup l, .bl a, .bl f]
theorem fit_okpL : ∀ {l : List D}, (∀ d ∈ l, Fit d) → okpL l 40 = true
  | [], _ => by unfold okpL; rfl
  | d :: r, h => by
    unfold okpL
    rw [(h d List.mem_cons_self).1, fit_okpL fun x hx => h x (List.mem_cons_of_mem _ hx)]
    rfl
theorem EQ_nil {l : List D} {c : Cells} (h : ∀ d ∈ l, Fit d) : EQ (.tup l) (.tup []) c = .ok l.isEmpty c := by
  have h1 : okp (.tup l) 50 = true := okp_mono _ 41 50 (okp_tup (fit_okpL h)) (by decide)
  have h2 : okp (.tup []) 50 = true := by decide
  rw [EQ_ok h1 h2]
  cases l <;> simp [py, pyL, PyData.eqv, PyData.eqvAll]
theorem EQ_up {d : D} {c : Cells} (h : Fit d) : EQ d (.str (".." : Str)) c = .ok (isUp d) c := by
  have h3 := okp_mono d 40 50 h.1 (by decide)
  have h4 : okp (.str (".." : Str)) 50 = true := by unfold okp; exact strOk_dd
  rw [EQ_ok h3 h4]
  cases d <;> first | (simp [py, PyData.eqv, isUp]; done) | (exact absurd h.1 (by unfold okp; decide))
theorem allBl_f {α : Type} (f : α → Bool) (l : List α) : allBl (l.map fun d => D.bl (f d)) = some (l.map f) := allBl_comp f l
theorem atI_last {l : List D} {d : D} (h : l.getLast? = some d) : atI l (-1) = some d := by
  have hne : l ≠ [] := fun e => by rw [e] at h; cases h
  have hp : 0 < l.length := List.length_pos_iff.mpr hne
  rw [List.getLast?_eq_getElem?] at h
  unfold atI ixN
  rw [if_neg (by decide), if_pos (by omega)]
  show l[((l.length : Int) + -1).toNat]? = some d
  rw [show ((l.length : Int) + -1).toNat = l.length - 1 by omega]
  exact h
theorem steps_lc {l : List D} {δ : En} {c : Cells} (hδ : 4 < δ.length) (h : ∀ d ∈ l, Fit d) (hz : l.length ≤ sizeLine) :
    lcGo (chkI (.tup l) l) (gN 4) (fun _ c => .ok true c) (mOr (mCall m_is_name (mCons (mVar 4) mNil)) (mOp (eqO EQ) (mVar 4) (mC (.str (".." : Str))))) δ l [] c = .ok (l.map fun d => .bl (stepOk d)) c := by
  rw [lcGo_map (chk := chkI (.tup l) l) (f := fun d => .bl (stepOk d)) rfl]
  · rfl
  · intro d hd
    exact ⟨_, rfl, step_ok (h d hd) (by rw [List.getElem?_set_self hδ])⟩
  · simpa using hz
theorem init_run {sd : D} {l : List D} {a f : Bool} {c : Cells} (ht : ∀ k, tupleD [sd] (c ++ [k]) = .ok (.tup l) (c ++ [k])) (hl : ∀ d ∈ l, Fit d) (hn : l.length ≤ sizeLine) :
    mb_Path___init__ [some (.cell c.length), some sd, some (.bl a), some (.bl f), none] (c ++ [.ins ("Path" : Str) [] []]) = if goodP l f = true then .nx [some (.cell c.length), some sd, some (.bl a), some (.bl f), none] (c ++ [pathK l a f]) else .exc ("NoPath" : Str) [] [] [some (.cell c.length), some sd, some (.bl a), some (.bl f), none] (c ++ [pathK l a f]) := by
  have hset : ∀ x y : Cell, (c ++ [x]).set c.length y = c ++ [y] := fun x y => by simp
  have hget : ∀ x : Cell, (c ++ [x])[c.length]? = some x := fun x => List.getElem?_concat_length
  have n1 : ("steps" : Str) ≠ ("absolute" : Str) := by decide +kernel
  have n2 : ("steps" : Str) ≠ ("folder" : Str) := by decide +kernel
  have n3 : ("absolute" : Str) ≠ ("folder" : Str) := by decide +kernel
  have hlc := fun (K : Cell) => steps_lc (l := l) (δ := [some (.cell c.length), some sd, some (.bl a), some (.bl f), none]) (c := c ++ [K]) (by simp) hl hn
  unfold mb_Path___init__
  have m1 : ¬ ("absolute" : Str) = ("steps" : Str) := fun e => n1 e.symm
  have m2 : ¬ ("folder" : Str) = ("steps" : Str) := fun e => n2 e.symm
  have m3 : ¬ ("folder" : Str) = ("absolute" : Str) := fun e => n3 e.symm
  have hE0 := fun (K : Cell) => EQ_nil (c := c ++ [K]) hl
  cases hA : l.all stepOk with
  | false =>
    have hg : goodP l f = false := by unfold goodP; rw [hA]; rfl
    rw [hg]
    have hA' : ∃ x, x ∈ l ∧ stepOk x = false := by simpa using hA
    simp [mSeq, mSetF, mCB, mCons, mNil, mVar, mC, mOp, mTup, tupD, mIfS, mB, mNotT, mAndT, mOrT, mSkip, mLc, mLcL, mFld, fldGo, insOf, lookF, seqAny, seqOf, wipeE, Out.bind, Out.fl, ht, setFGo, hget, hset, putN, putL, n1, n2, n3, items, lstOf, allD, allBl_f, asB, eqO, ixD, negD, pathK, hlc, hA']
  | true =>
    have hA' : ¬ ∃ x, x ∈ l ∧ stepOk x = false := by simpa using hA
    cases f with
    | true =>
      have hg : goodP l true = true := by unfold goodP; rw [hA]; rfl
      rw [hg]
      simp [mSeq, mSetF, mCB, mCons, mNil, mVar, mC, mOp, mTup, tupD, mIfS, mB, mNotT, mAndT, mOrT, mSkip, mLc, mLcL, mFld, fldGo, insOf, lookF, seqAny, seqOf, wipeE, Out.bind, Out.fl, ht, setFGo, hget, hset, putN, putL, n1, n2, n3, items, lstOf, allD, allBl_f, asB, eqO, ixD, negD, pathK, hlc, hA']
    | false =>
      cases hL : l.getLast? with
      | none =>
        have he : l = [] := List.getLast?_eq_none_iff.mp hL
        have hg : goodP l false = false := by unfold goodP badEnd; rw [hL]; simp
        rw [hg]
        subst he
        simp [mSeq, mSetF, mCB, mCons, mNil, mVar, mC, mOp, mTup, tupD, mIfS, mB, mNotT, mAndT, mOrT, mSkip, mLc, mLcL, mFld, fldGo, insOf, lookF, seqAny, seqOf, wipeE, Out.bind, Out.fl, ht, setFGo, hget, hset, putN, putL, n1, n2, n3, items, lstOf, allD, allBl_f, asB, eqO, ixD, negD, pathK, hlc, hA', hE0, allBl]
      | some d =>
        have hd : d ∈ l := List.mem_of_getLast? hL
        have hg : goodP l false = !isUp d := by unfold goodP badEnd; rw [hL, hA]; simp
        have hu := fun (K : Cell) => EQ_up (c := c ++ [K]) (hl d hd)
        have hi : l.isEmpty = false := by cases l with | nil => cases hd | cons => rfl
        have hne : l ≠ [] := fun e => by rw [e] at hd; cases hd
        rw [hg]
        cases hq : isUp d <;> simp [mSeq, mSetF, mCB, mCons, mNil, mVar, mC, mOp, mTup, tupD, mIfS, mB, mNotT, mAndT, mOrT, mSkip, mLc, mLcL, mFld, fldGo, insOf, lookF, seqAny, seqOf, wipeE, Out.bind, Out.fl, ht, setFGo, hget, hset, putN, putL, n1, n2, n3, items, lstOf, allD, allBl_f, asB, eqO, ixD, negD, pathK, hlc, hA', hE0, hi, hne, atI_last hL, hu, hq]
theorem mem_nc {l : List D} {n : Nat} (h : ∀ d ∈ l, Fit d) : nc n (.tup l) = true := nc_okp (.tup l) 41 (okp_tup (fit_okpL h))
theorem fin_path {l : List D} {a f : Bool} {c : Cells} (h : ∀ d ∈ l, Fit d) : fin c (c ++ [pathK l a f]) (.cell c.length) = .ok (pathD l a f) c := by
  have e : (c ++ [pathK l a f]).take c.length = c := by simp
  have k1 : nc c.length (.cell c.length) = false := by unfold nc; simp
  have k2 : nc c.length (.tup l) = true := mem_nc h
  have k3 : ∀ b, nc c.length (.bl b) = true := fun b => by unfold nc; rfl
  have hf : frz (c ++ [pathK l a f]) c.length 30 (.cell c.length) = some (pathD l a f) := by
    unfold frz
    rw [k1]
    simp only [Bool.false_eq_true, if_false, List.getElem?_concat_length, pathK]
    have g : ∀ d, nc c.length d = true → frz (c ++ [.ins ("Path" : Str) [("steps" : Str), ("absolute" : Str), ("folder" : Str)] [.tup l, .bl a, .bl f]]) c.length 29 d = some d := fun d hd => by
      unfold frz
      rw [if_pos hd]
    simp [List.mapM_cons, g _ k2, g _ (k3 _), pathD]
  unfold fin
  rw [e, if_pos (Or.inr rfl), hf]
theorem make_path {sd : D} {l : List D} {a f : Bool} {c : Cells} (ht : ∀ k, tupleD [sd] (c ++ [k]) = .ok (.tup l) (c ++ [k])) (hl : ∀ d ∈ l, Fit d) (hn : l.length ≤ sizeLine) :
    makeGo ("Path" : Str) m_Path___init__ [sd, .bl a, .bl f] c = if goodP l f = true then .ok (pathD l a f) c else .exc ("NoPath" : Str) [] [] (c ++ [pathK l a f]) := by
  have r := init_run (a := a) (f := f) ht hl hn
  unfold makeGo m_Path___init__ mkFn
  rw [if_pos (by simp)]
  show Out.bind (match mb_Path___init__ [some (.cell c.length), some sd, some (.bl a), some (.bl f), none] (c ++ [.ins ("Path" : Str) [] []]) with
    | .nx _ c' => .ok .non c'
    | .rt d c' => .ok d c'
    | .exc k ns es _ c' => .exc k ns es c'
    | _ => .bad) _ = _
  rw [r]
  cases goodP l f with
  | true =>
    rw [if_pos rfl, if_pos rfl]
    exact fin_path hl
  | false =>
    rw [if_neg (by decide), if_neg (by decide)]
    rfl
/-! read_path, path_text -/
def keepC (p : Str) : Bool := !(p == ("" : Str) || p == ("." : Str))
def okC (p : Str) : Bool := !keepC p || (p == (".." : Str) || isNm p)
theorem notIn_pair {s a b : Str} {c : Cells} : inD true (.str s) (.tup [.str a, .str b]) c = .ok (.bl (!(s == a || s == b))) c := by
  have e : ∀ x y : Str, (x == y) = (y == x) := fun x y => by rw [Bool.eq_iff_iff, beq_iff_eq, beq_iff_eq]; exact ⟨Eq.symm, Eq.symm⟩
  simp [inD, items, flatD, eqFl, e s]
theorem in_three {s a b d : Str} {c : Cells} : inD false (.str s) (.tup [.str a, .str b, .str d]) c = .ok (.bl (s == a || (s == b || s == d))) c := by
  have e : ∀ x y : Str, (x == y) = (y == x) := fun x y => by rw [Bool.eq_iff_iff, beq_iff_eq, beq_iff_eq]; exact ⟨Eq.symm, Eq.symm⟩
  simp [inD, items, flatD, eqFl, e s]
theorem EQ_str {x y : Str} {c : Cells} (hx : PyData.strOk x = true) (hy : PyData.strOk y = true) : EQ (.str x) (.str y) c = .ok (x == y) c := by
  rw [EQ_ok (by unfold okp; exact hx) (by unfold okp; exact hy)]
  simp [py, PyData.eqv]
/-- the loop over the components -/
noncomputable def rdBody : MS := (mSeq (mIfS (mB (mOp (inD true) (mVar 4) (mTup (mCons (mC (.str ("" : Str))) (mCons (mC (.str ("." : Str))) mNil))))) (mSeq (mIfS (mAndT (mB (mOp (neO EQ) (mVar 4) (mC (.str (".." : Str))))) (mNotT (mB (mCall m_is_name (mCons (mVar 4) mNil))))) (mRaise ("BadText" : Str) [("place" : Str)] (mCons (mVar 3) mNil)) mSkip)
    (mExpr (mBM .l appendD (mVar 2) (mCons (mVar 4) mNil)))) mSkip)
    (mSet 3 (mOp addD (mOp addD (mVar 3) (mCB lenD (mCons (mVar 4) mNil))) (mC (.int 1)))))
theorem rd_turn {t cs : D} {p : Str} {n : Int} {c : Cells} {l : List D} (hp : okC p = true) (hs : PyData.strOk p = true) (hz : p.length ≤ sizeLine) (hl : l.length < sizeLine) :
    rdBody [some t, some cs, some (.cell c.length), some (.int n), some (.str p)] (c ++ [.lst l]) = .nx [some t, some cs, some (.cell c.length), some (.int (n + p.length + 1)), some (.str p)] (c ++ [.lst (l ++ (if keepC p = true then [.str p] else []))]) := by
  have hset : ∀ x y : Cell, (c ++ [x]).set c.length y = c ++ [y] := fun x y => by simp
  have hget : ∀ x : Cell, (c ++ [x])[c.length]? = some x := fun x => List.getElem?_concat_length
  have z2 : (2 : Nat) ≤ sizeLine := by decide
  have e1 := EQ_str (c := c ++ [.lst l]) hs strOk_dd
  have e2 := is_name_str p (c ++ [.lst l]) hz
  unfold rdBody
  cases hk : keepC p with
  | false =>
    have hk0 : (p == ("" : Str) || p == ("." : Str)) = true := by
      unfold keepC at hk
      cases q : (p == ("" : Str) || p == ("." : Str)) with
      | true => rfl
      | false => rw [q] at hk; cases hk
    rw [Bool.or_eq_true, beq_iff_eq, beq_iff_eq] at hk0
    have hk' : ¬ (¬ p = ("" : Str) ∧ ¬ p = ("." : Str)) := fun z => hk0.elim z.1 z.2
    simp [mSeq, mIfS, mB, mOp, mVar, mC, mTup, tupD, mCons, mNil, mSkip, mSet, mCB, Out.bind, Out.fl, asB, notIn_pair, hk', z2, addD, addG, lenD, hz]
  | true =>
    have hk' : (p == ("" : Str) || p == ("." : Str)) = false := by unfold keepC at hk; simpa using hk
    have hk2 : ¬ (p = ("" : Str) ∨ p = ("." : Str)) := by simpa using hk'
    have ho : (p == (".." : Str) || isNm p) = true := by unfold okC at hp; rw [hk] at hp; simpa using hp
    rw [not_or] at hk2
    cases hu : (p == (".." : Str)) with
    | true =>
      simp [mSeq, mIfS, mB, mOp, mVar, mC, mTup, tupD, mCons, mNil, mSkip, mSet, mCB, Out.bind, Out.fl, asB, notIn_pair, hk2, z2, addD, addG, lenD, hz, mAndT, mNotT, neO, e1, hu, mExpr, mBM, isBt, lstOf, hget, appendD, hl, hset]
    | false =>
      have hn : isNm p = true := by rw [hu] at ho; simpa using ho
      simp [mSeq, mIfS, mB, mOp, mVar, mC, mTup, tupD, mCons, mNil, mSkip, mSet, mCB, Out.bind, Out.fl, asB, notIn_pair, hk2, z2, addD, addG, lenD, hz, mAndT, mNotT, neO, e1, hu, mExpr, mBM, isBt, lstOf, hget, appendD, hl, hset, mCall, e2, hn]
theorem rd_loop {t : D} {cs : List Str} {c : Cells} (hp : ∀ p ∈ cs, okC p = true ∧ PyData.strOk p = true ∧ p.length ≤ sizeLine) (hn : cs.length < sizeLine) :
    ∃ δ4 n, loopGo (chkI (.lst (cs.map D.str)) (cs.map D.str)) (gN 4) rdBody (cs.map D.str) [some t, some (.lst (cs.map D.str)), some (.cell c.length), some (.int 0), none] (c ++ [.lst []])
      = .nx [some t, some (.lst (cs.map D.str)), some (.cell c.length), some (.int n), δ4] (c ++ [.lst ((cs.filter keepC).map D.str)]) := by
  obtain ⟨δ', c', h1, pre, rest, n, x4, h2, h3, h4, h5⟩ := loopGo_inv (chk := chkI (.lst (cs.map D.str)) (cs.map D.str)) (g := gN 4) (mb := rdBody) (δ := [some t, some (.lst (cs.map D.str)), some (.cell c.length), some (.int 0), none]) (c := c ++ [.lst []])
    (fun ds δ c' => ∃ (pre rest : List Str) (n : Int) (x4 : Option D), cs = pre ++ rest ∧ ds = rest.map D.str ∧ δ = [some t, some (.lst (cs.map D.str)), some (.cell c.length), some (.int n), x4] ∧ c' = c ++ [.lst ((pre.filter keepC).map D.str)]) (ds := cs.map D.str)
    ⟨[], cs, 0, none, rfl, rfl, rfl, rfl⟩ (fun _ _ _ _ => rfl) (by
      rintro d r δ c' ⟨pre, rest, n, x4, e1, e2, rfl, rfl⟩
      cases rest with
      | nil => cases e2
      | cons p rest =>
        injection e2 with e3 e4
        subst e3 e4
        have hm : p ∈ cs := by rw [e1]; simp
        obtain ⟨k1, k2, k3⟩ := hp p hm
        have hlen : ((pre.filter keepC).map D.str).length < sizeLine := by
          rw [List.length_map]
          have a1 := List.length_filter_le keepC pre
          have a2 : pre.length ≤ cs.length := by rw [e1, List.length_append]; omega
          omega
        refine ⟨_, _, _, rfl, .inl (rd_turn k1 k2 k3 hlen), pre ++ [p], rest, _, _, by rw [e1]; simp, rfl, rfl, ?_⟩
        rw [List.filter_append, List.map_append]
        cases hk : keepC p <;> simp [hk])
  have hr : rest = [] := by cases rest with | nil => rfl | cons => cases h3
  subst hr
  rw [List.append_nil] at h2
  subst h2
  exact ⟨x4, n, by rw [h1, h4, h5]⟩
theorem seqAny_lst {l : List D} {c : Cells} : seqAny (.lst l) c = .ok ⟨l, chkI (.lst l) l⟩ c := rfl
theorem ix_last {l : List D} {d : D} {c : Cells} (h : l.getLast? = some d) : ixD (.lst l) (.int (-1)) c = .ok d c := by
  show (match atI l (-1) with | some v => Out.ok v c | none => .bad) = _
  rw [atI_last h]
theorem ix_first {t : Str} {k : Nat} {c : Cells} (h : t.cps.toList.head? = some k) (hz : t.length ≤ sizeLine) : ixD (.str t) (.int 0) c = .ok (.str ⟨#[k]⟩) c := by
  show (if t.length ≤ sizeLine then (match atI t.cps.toList 0 with | some k => Out.ok (D.str ⟨#[k]⟩) c | none => .bad) else .bad) = _
  rw [if_pos hz]
  cases e : t.cps.toList with
  | nil => rw [e] at h; cases h
  | cons a r =>
    rw [e] at h
    cases h
    simp [atI, ixN]
theorem fit_strs {l : List Str} (h : ∀ p ∈ l, PyData.strOk p = true ∧ p.length ≤ sizeLine) : ∀ d ∈ l.map D.str, Fit d := by
  intro d hd
  obtain ⟨p, hp, rfl⟩ := List.mem_map.mp hd
  refine ⟨by unfold okp; exact (h p hp).1, fun s e => ?_⟩
  cases e
  exact (h p hp).2
theorem fin_nc {c : Cells} {k : Cell} {d : D} (h : nc c.length d = true) : fin c (c ++ [k]) d = .ok d c := by
  have e : (c ++ [k]).take c.length = c := by simp
  unfold fin
  rw [e, if_pos (Or.inr rfl)]
  unfold frz
  rw [if_pos h]
theorem nc_path {l : List D} {a f : Bool} {n : Nat} (h : ∀ d ∈ l, Fit d) : nc n (pathD l a f) = true := by
  have k2 : nc n (.tup l) = true := mem_nc h
  unfold pathD nc ncL ncL ncL ncL
  rw [k2]
  unfold nc
  rfl
theorem read_ok {cs : List Str} {t z : Str} {k : Nat} {c : Cells} (ht : Txt.split t ("/" : Str) = cs) (hs : PyData.strOk t = true) (hz : t.length + 2 ≤ sizeLine) (hk : t.cps.toList.head? = some k) (hk2 : k < 1114112) (hl : cs.getLast? = some z)
    (hp : ∀ p ∈ cs, okC p = true ∧ PyData.strOk p = true ∧ p.length ≤ sizeLine) (hn : cs.length < sizeLine) (hg : goodP ((cs.filter keepC).map D.str) (z == ("" : Str) || (z == ("." : Str) || z == (".." : Str))) = true) :
    m_read_path [.str t] c = .ok (pathD ((cs.filter keepC).map D.str) ((⟨#[k]⟩ : Str) == ("/" : Str)) (z == ("" : Str) || (z == ("." : Str) || z == (".." : Str)))) c := by
  have t1 : Ty.b "str" ∈ tys := by decide
  have f1 : isi_str (Ty.b "str") = true := by decide
  have z3 : (3 : Nat) ≤ sizeLine := by decide
  have z0 : (0 : Nat) ≤ sizeLine := by decide
  have s0 : PyData.strOk ("" : Str) = true := by decide +kernel
  have sk : PyData.strOk (⟨#[k]⟩ : Str) = true := by simpa [PyData.strOk] using hk2
  have ss : PyData.strOk ("/" : Str) = true := by decide +kernel
  have hne : (t == ("" : Str)) = false := by
    rw [beq_eq_false_iff_ne]
    intro e
    rw [e] at hk
    have e0 : ("" : Str).cps.toList = [] := by decide +kernel
    rw [e0] at hk
    cases hk
  have e1 := EQ_str (c := c) hs s0
  have e2 := fun K : Cell => EQ_str (c := c ++ [K]) sk ss
  obtain ⟨δ4, n, hL⟩ := rd_loop (t := .str t) (c := c) hp hn
  have hsp : splitD (.str t) [.str ("/" : Str)] c = .ok (.lst (cs.map D.str)) c := by
    show (if ((("/" : Str)).length == 0) = false ∧ t.length + 2 ≤ sizeLine then Out.ok (D.lst ((Txt.split t ("/" : Str)).map D.str)) c else .bad) = _
    rw [if_pos ⟨by decide +kernel, hz⟩, ht]
  have hll : (cs.map D.str).getLast? = some (.str z) := by rw [List.getLast?_map, hl]; rfl
  have hfit : ∀ d ∈ (cs.filter keepC).map D.str, Fit d := fit_strs fun p hp' => (hp p ((List.mem_filter.mp hp').1)).2
  have hlen : ((cs.filter keepC).map D.str).length ≤ sizeLine := by
    rw [List.length_map]
    have := List.length_filter_le keepC cs
    omega
  have hmk := make_path (sd := .cell c.length) (l := (cs.filter keepC).map D.str) (a := (⟨#[k]⟩ : Str) == ("/" : Str)) (f := z == ("" : Str) || (z == ("." : Str) || z == (".." : Str))) (c := c ++ [.lst ((cs.filter keepC).map D.str)]) (fun K => by
    have : ((c ++ [Cell.lst ((cs.filter keepC).map D.str)]) ++ [K])[c.length]? = some (.lst ((cs.filter keepC).map D.str)) := by simp
    simp [tupleD, lstOf, this]) hfit hlen
  rw [if_pos hg] at hmk
  have body : mb_read_path [some (.str t), none, none, none, none] c = .rt (pathD ((cs.filter keepC).map D.str) ((⟨#[k]⟩ : Str) == ("/" : Str)) (z == ("" : Str) || (z == ("." : Str) || z == (".." : Str)))) (c ++ [.lst ((cs.filter keepC).map D.str)]) := by
    show (mSeq _ (mSeq _ (mSeq (mFor (fun δ c => ((mVar 1) δ c).bind seqAny) (gN 4) rdBody) _))) _ _ = _
    simp [mSeq, mIfS, mOrT, mNotT, mB, mIsi, isiD, tyD, t1, f1, mVar, mC, mOp, Out.bind, Out.fl, asB, eqO, e1, hne, mSkip, mPar, mCons, mNil, mBM, isBt, hsp, mLstC, lstC, mFor, seqAny_lst, hL, mRet, mMake, ix_first hk (show t.length ≤ sizeLine by omega), e2, negD, ix_last hll, mTup, tupD, z3, in_three, hmk]
  unfold m_read_path mkFnB
  rw [if_pos (by simp)]
  show (match mb_read_path [some (.str t), none, none, none, none] c with
    | .nx _ c' => fin c c' .non
    | .rt d c' => fin c c' d
    | .exc k ns es _ c' => (match fin c c' (.tup es) with
      | .ok (.tup es') c2 => .exc k ns es' c2
      | _ => .bad)
    | _ => .bad) = _
  rw [body]
  exact fin_nc (nc_path hfit)
/-! components, read -/
structure CompS (p : Str) : Prop where
  okC : okC p = true
  ok : PyData.strOk p = true
  len : p.length ≤ 12
  ns : ∀ k ∈ p.cps.toList, k < 128 ∧ k ≠ 47
def flS (z : Str) : Bool := z == ("" : Str) || (z == ("." : Str) || z == (".." : Str))
def flC (cs : List Str) : Bool := match cs.getLast? with
  | some z => flS z
  | none => true
def absT (t : Str) : Bool := match t.cps.toList with
  | k :: _ => k == 47
  | [] => false
theorem gmem_join {S : List Nat} {k : Nat} : ∀ {ps : List (List Nat)}, k ∈ TL.joinL S ps → k ∈ S ∨ ∃ p ∈ ps, k ∈ p
  | [], h => by cases h
  | [p], h => .inr ⟨p, List.mem_singleton.mpr rfl, h⟩
  | p :: q :: r, h => by
    have h : k ∈ p ++ (S ++ TL.joinL S (q :: r)) := h
    rcases List.mem_append.mp h with h | h
    · exact .inr ⟨p, List.mem_cons_self, h⟩
    · rcases List.mem_append.mp h with h | h
      · exact .inl h
      · rcases gmem_join h with h | ⟨x, hx, hk⟩
        · exact .inl h
        · exact .inr ⟨x, List.mem_cons_of_mem _ hx, hk⟩
theorem filter_last {α : Type} {p : α → Bool} {z : α} (hz : p z = true) : ∀ {l : List α}, l.getLast? = some z → (l.filter p).getLast? = some z := by
  intro l h
  obtain ⟨r, rfl⟩ := List.getLast?_eq_some_iff.mp h
  rw [List.filter_append, List.filter_cons_of_pos hz, List.filter_nil]
  simp
theorem good_comps {cs : List Str} {z : Str} (h : ∀ p ∈ cs, okC p = true) (hl : cs.getLast? = some z) : goodP ((cs.filter keepC).map D.str) (flS z) = true := by
  unfold goodP
  rw [Bool.and_eq_true]
  refine ⟨?_, ?_⟩
  · rw [List.all_map, List.all_eq_true]
    intro p hp
    obtain ⟨h1, h2⟩ := List.mem_filter.mp hp
    have := h p h1
    unfold okC at this
    rw [h2] at this
    show (isNm p || p == (".." : Str)) = true
    rw [Bool.or_comm]
    simpa using this
  · cases hf : flS z with
    | true => rfl
    | false =>
      unfold flS at hf
      have h1 : (z == ("" : Str)) = false := by
        cases q : z == ("" : Str) with
        | false => rfl
        | true => rw [q] at hf; cases hf
      rw [h1, Bool.false_or] at hf
      have h2 : (z == ("." : Str)) = false := by
        cases q : z == ("." : Str) with
        | false => rfl
        | true => rw [q] at hf; cases hf
      rw [h2, Bool.false_or] at hf
      have hk : keepC z = true := by
        unfold keepC
        rw [h1, h2]
        rfl
      have e : ((cs.filter keepC).map D.str).getLast? = some (.str z) := by
        rw [List.getLast?_map, filter_last hk hl]
        rfl
      unfold badEnd
      rw [e]
      show (false || !(isUp (.str z))) = true
      have : isUp (.str z) = false := hf
      rw [this]
      rfl
theorem comps_str {cs : List Str} {t : Str} (all : ∀ p ∈ cs, CompS p) (hn : cs.length ≤ 1000) (ht : t = Txt.join ("/" : Str) cs) : (∀ k ∈ t.cps.toList, k < 128) ∧ PyData.strOk t = true ∧ t.length ≤ 14000 := by
  have es : ("/" : Str).cps.toList = [47] := by decide +kernel
  have hjm : ∀ k ∈ t.cps.toList, k < 128 := by
    intro k hk
    rw [ht, TL.join_eq] at hk
    have hk : k ∈ TL.tl (Str.join ("/" : Str) cs) := hk
    rw [TL.tl_join] at hk
    rcases gmem_join hk with h | ⟨p, hp, h⟩
    · have h : k ∈ ("/" : Str).cps.toList := h
      rw [es] at h
      simp at h
      omega
    · obtain ⟨q, hq, rfl⟩ := List.mem_map.mp hp
      exact ((all q hq).ns k h).1
  have hstr : PyData.strOk t = true := by
    unfold PyData.strOk
    rw [← Array.all_toList, List.all_eq_true]
    intro k hk
    exact decide_eq_true (Nat.lt_trans (hjm k hk) (by decide))
  have htl : t.length ≤ 14000 := by
    rw [ht, TL.join_eq]
    have h1 := StrLaws.join_length_le ("/" : Str) cs
    have l1 : ("/" : Str).length = 1 := by decide +kernel
    have hsum : ∀ l : List Str, (∀ p ∈ l, p.length ≤ 12) → (l.map (·.length)).sum ≤ 12 * l.length := by
      intro l
      induction l with
      | nil => intro _; simp
      | cons x r ih =>
        intro h
        have := ih fun p hp => h p (List.mem_cons_of_mem _ hp)
        have h1 := h x List.mem_cons_self
        simp only [List.map_cons, List.sum_cons, List.length_cons]
        omega
    have h2 := hsum _ fun p hp => (all p hp).len
    rw [l1] at h1
    omega
  exact ⟨hjm, hstr, htl⟩
theorem comps_read {cs : List Str} {t : Str} {c : Cells} (hne : cs ≠ []) (all : ∀ p ∈ cs, CompS p) (hn : cs.length ≤ 1000) (ht : t = Txt.join ("/" : Str) cs) (h0 : t ≠ ("" : Str)) :
    m_read_path [.str t] c = .ok (pathD ((cs.filter keepC).map D.str) (absT t) (flC cs)) c := by
  have es : ("/" : Str).cps.toList = [47] := by decide +kernel
  have zz : 15000 ≤ sizeLine := by decide
  have hsp : Txt.split t ("/" : Str) = cs := by
    rw [ht]
    exact TL.split_join (s := 47) (S := []) es (by decide +kernel) hne fun p hp hk => ((all p hp).ns 47 hk).2 rfl
  obtain ⟨hjm, hstr, htl⟩ := comps_str all hn ht
  obtain ⟨k, u, hku⟩ : ∃ k u, t.cps.toList = k :: u := by
    cases e : t.cps.toList with
    | nil => exact absurd (TL.ext_tl (show TL.tl t = TL.tl ("" : Str) from e.trans (show ([] : List Nat) = TL.tl ("" : Str) by decide +kernel))) h0
    | cons k u => exact ⟨k, u, rfl⟩
  have hk : t.cps.toList.head? = some k := by rw [hku]; rfl
  have hk2 : k < 128 := hjm k (by rw [hku]; exact List.mem_cons_self)
  obtain ⟨z, hz⟩ : ∃ z, cs.getLast? = some z := by
    cases q : cs.getLast? with
    | none => exact absurd (List.getLast?_eq_none_iff.mp q) hne
    | some z => exact ⟨z, rfl⟩
  have R := read_ok (c := c) hsp hstr (by omega) hk (by omega) hz (fun p hp => ⟨(all p hp).okC, (all p hp).ok, Nat.le_trans (all p hp).len (by omega)⟩) (by omega) (good_comps (fun p hp => (all p hp).okC) hz)
  rw [R]
  have e1 : absT t = ((⟨#[k]⟩ : Str) == ("/" : Str)) := by
    unfold absT
    rw [hku]
    by_cases e : k = 47
    · subst e
      show ((47 : Nat) == 47) = _
      decide +kernel
    · have a1 : (k == 47) = false := beq_eq_false_iff_ne.mpr e
      have a2 : ((⟨#[k]⟩ : Str) == ("/" : Str)) = false := by
        rw [beq_eq_false_iff_ne]
        intro q
        have e2 : (⟨#[k]⟩ : Str).cps.toList = ("/" : Str).cps.toList := by rw [q]
        rw [es] at e2
        simp at e2
        exact e e2
      rw [a2]
      exact a1
  have e2 : flC cs = flS z := by unfold flC; rw [hz]
  rw [e1, e2]
  rfl
/-! slashes round the components -/
theorem gapp_nil (x : Str) : x ++ ("" : Str) = x := TL.ext_tl (by rw [TL.tl_append]; exact List.append_nil _)
theorem gnil_app (x : Str) : ("" : Str) ++ x = x := TL.ext_tl (by rw [TL.tl_append]; rfl)
theorem gapp_app (x y z : Str) : x ++ y ++ z = x ++ (y ++ z) := TL.ext_tl (by rw [TL.tl_append, TL.tl_append, TL.tl_append, TL.tl_append, List.append_assoc])
theorem gjoin_cons (x y : Str) (r : List Str) : Str.join ("/" : Str) (x :: y :: r) = x ++ ("/" : Str) ++ Str.join ("/" : Str) (y :: r) := rfl
theorem gjoin_end : ∀ (ss : List Str), ss ≠ [] → Str.join ("/" : Str) (ss ++ [("" : Str)]) = Str.join ("/" : Str) ss ++ ("/" : Str)
  | [], h => absurd rfl h
  | [x], _ => by
    show x ++ ("/" : Str) ++ ("" : Str) = x ++ ("/" : Str)
    rw [gapp_nil]
  | x :: y :: r, _ => by
    have ih := gjoin_end (y :: r) (by simp)
    show x ++ ("/" : Str) ++ Str.join ("/" : Str) ((y :: r) ++ [("" : Str)]) = _
    rw [ih, gjoin_cons, gapp_app (x ++ ("/" : Str))]
def sl (b : Bool) : Str := if b = true then ("/" : Str) else ("" : Str)
def slC (b : Bool) : List Str := if b = true then [("" : Str)] else []
theorem sl_join {ss : List Str} (h : ss ≠ []) (a f : Bool) : (sl a ++ Txt.join ("/" : Str) ss) ++ sl f = Txt.join ("/" : Str) (slC a ++ (ss ++ slC f)) := by
  rw [TL.join_eq, TL.join_eq]
  have e1 : Str.join ("/" : Str) (ss ++ slC f) = Str.join ("/" : Str) ss ++ sl f := by
    cases f with
    | true => exact gjoin_end ss h
    | false => show Str.join ("/" : Str) (ss ++ []) = Str.join ("/" : Str) ss ++ ("" : Str); rw [List.append_nil, gapp_nil]
  cases a with
  | false =>
    show (("" : Str) ++ Str.join ("/" : Str) ss) ++ _ = Str.join ("/" : Str) ([] ++ _)
    rw [List.nil_append, e1, gnil_app]
  | true =>
    have : ∀ m : List Str, m ≠ [] → Str.join ("/" : Str) ([("" : Str)] ++ m) = ("/" : Str) ++ Str.join ("/" : Str) m := fun m hm => by
      cases m with
      | nil => exact absurd rfl hm
      | cons y r =>
        show ("" : Str) ++ ("/" : Str) ++ Str.join ("/" : Str) (y :: r) = _
        rw [gnil_app]
    show (("/" : Str) ++ Str.join ("/" : Str) ss) ++ sl f = Str.join ("/" : Str) ([("" : Str)] ++ (ss ++ slC f))
    rw [this _ (by simp [h]), e1, gapp_app]
theorem compS_nil : CompS ("" : Str) := ⟨by decide +kernel, by decide +kernel, by decide +kernel, by decide +kernel⟩
theorem slC_mem {b : Bool} {p : Str} (h : p ∈ slC b) : CompS p := by
  cases b with
  | true => rw [List.mem_singleton.mp h]; exact compS_nil
  | false => cases h
def TxC (t : Str) : Prop := ∃ cs : List Str, cs ≠ [] ∧ (∀ p ∈ cs, CompS p) ∧ cs.length ≤ 1000 ∧ t = Txt.join ("/" : Str) cs ∧ t ≠ ("" : Str)
/-! sizes -/
theorem zz0 : (0 : Nat) ≤ sizeLine := by decide
theorem zz1 : (1 : Nat) ≤ sizeLine := by decide
theorem zz2 : (2 : Nat) ≤ sizeLine := by decide
theorem zz3 : (3 : Nat) ≤ sizeLine := by decide
theorem zz4 : (4 : Nat) ≤ sizeLine := by decide
theorem zz5 : (5 : Nat) ≤ sizeLine := by decide
theorem zz6 : (6 : Nat) ≤ sizeLine := by decide
theorem zz8 : (8 : Nat) ≤ sizeLine := by decide
theorem zz10 : (10 : Nat) ≤ sizeLine := by decide
theorem zz13 : (13 : Nat) ≤ sizeLine := by decide
theorem zz16 : (16 : Nat) ≤ sizeLine := by decide
theorem zzm : (16777216 : Nat) ≤ sizeLine := by decide
def cI (l : List Nat) : List D := l.map fun i => .int (i : Nat)
theorem cI_get {l : List Nat} {i k : Nat} (h : l[i]? = some k) : (cI l)[i]? = some (.int (k : Nat)) := by
  unfold cI
  rw [List.getElem?_map, h]
  rfl
theorem cI_set {l : List Nat} {i k : Nat} : (cI l).set i (.int (k : Nat)) = cI (l.set i k) := by
  unfold cI
  rw [List.map_set]
theorem range_cI {n : Nat} : (rangeD 0 n).ds = cI (List.range n) := by
  unfold rangeD cI
  dsimp only
  refine List.map_congr_left fun i _ => ?_
  simp
theorem rngI {n : Int} {c : Cells} (h0 : 0 ≤ n) (h1 : n < 1000) : rng1 [.int n] c = .ok (rangeD 0 n.toNat) c := by
  unfold rng1
  dsimp only
  rw [if_pos (by constructor <;> omega)]
theorem rng_len {n : Nat} : (rangeD 0 n).ds.length = n := by rw [range_cI]; unfold cI; simp
theorem cI_snoc {l : List Nat} {n : Nat} : cI l ++ [.int (n : Nat)] = cI (l ++ [n]) := by
  unfold cI
  rw [List.map_append]
  rfl
theorem cI_len {l : List Nat} : (cI l).length = l.length := by unfold cI; rw [List.length_map]
end Law
end Nw

set_option Elab.async false
set_option linter.all false
set_option maxRecDepth 100000
set_option maxHeartbeats 1000000
namespace Nw
namespace Law
open PySem PySem.Spec
open PyProof.Rows hiding St
open L2
/-! trees, plainly: nodes -/
inductive Nd where
/-! the classes of things -/
noncomputable def CNL : List (Str × MF) := [(("Path" : Str), m_Path_class_name), (("MakeFolder" : Str), m_MakeFolder_class_name), (("MakeFile" : Str), m_MakeFile_class_name), (("MakeLink" : Str), m_MakeLink_class_name), (("Put" : Str), m_Put_class_name), (("Take" : Str), m_Take_class_name), (("Move" : Str), m_Move_class_name), (("Done" : Str), m_Done_class_name), (("Made" : Str), m_Made_class_name), (("Came" : Str), m_Came_class_name), (("Refused" : Str), m_Refused_class_name), (("New" : Str), m_New_class_name), (("Thing" : Str), m_Thing_class_name)]
noncomputable def FCL : List (Str × MF) := [(("Path" : Str), m_Path_facts), (("MakeFolder" : Str), m_MakeFolder_facts), (("MakeFile" : Str), m_MakeFile_facts), (("MakeLink" : Str), m_MakeLink_facts), (("Put" : Str), m_Put_facts), (("Take" : Str), m_Take_facts), (("Move" : Str), m_Move_facts), (("Made" : Str), m_Made_facts), (("Came" : Str), m_Came_facts), (("Refused" : Str), m_Refused_facts), (("New" : Str), m_New_facts), (("Thing" : Str), m_Thing_facts)]
theorem thing_unf (g : E2) : mb_Thing___eq__ g = (mSeq (mIfS (mOrT (mNotT (mB (mIsi tys isi_Thing (mVar 1)))) (mB (mOp (neO eqP) (mMeth0 ("class_name" : Str) CNL (mVar 0)) (mMeth0 ("class_name" : Str) CNL (mVar 1))))) (mRet (mC (.bl false))) mSkip) (mRet (mOp (eqO g) (mMeth0 ("facts" : Str) FCL (mVar 0)) (mMeth0 ("facts" : Str) FCL (mVar 1))))) := rfl
/-! == of things in general -/
structure ThI (c : Cells) (d : D) (q : Str × List Str × List D) (mc mf : MF) (w : Str) (fd : D) : Prop where
  py : pyD c 60 d = none
  ins : insOf c d = some q
  cs : eqcs.contains q.1 = true
  ty : tyD c d = some (.o q.1)
  tm : Ty.o q.1 ∈ tys
  th : isi_Thing (Ty.o q.1) = true
  n1 : q.2.1.contains ("class_name" : Str) = false
  n2 : q.2.1.contains ("facts" : Str) = false
  l1 : CNL.lookup q.1 = some mc
  l2 : FCL.lookup q.1 = some mf
  cn : mc [d] c = .ok (.str w) c
  fa : mf [d] c = .ok fd c
  ok : PyData.strOk w = true
structure ClsOk (cn : Str) (ns : List Str) (mc mf : MF) : Prop where
  cs : eqcs.contains cn = true
  tm : Ty.o cn ∈ tys
  th : isi_Thing (Ty.o cn) = true
  n1 : ns.contains ("class_name" : Str) = false
  n2 : ns.contains ("facts" : Str) = false
  l1 : CNL.lookup cn = some mc
  l2 : FCL.lookup cn = some mf
theorem ClsOk.thi {cn : Str} {ns : List Str} {mc mf : MF} {c : Cells} {ds : List D} {w : Str} {fd : D} (h : ClsOk cn ns mc mf) (h1 : mc [.obj cn ns ds] c = .ok (.str w) c) (h2 : mf [.obj cn ns ds] c = .ok fd c) (h3 : PyData.strOk w = true) : ThI c (.obj cn ns ds) (cn, ns, ds) mc mf w fd :=
  ⟨rfl, rfl, h.cs, rfl, h.tm, h.th, h.n1, h.n2, h.l1, h.l2, h1, h2, h3⟩
theorem eqF_objT {n : Nat} {c : Cells} {d e : D} {q : Str × List Str × List D} {t : Ty} (h0 : pyD c 60 d = none) (h1 : insOf c d = some q) (h2 : eqcs.contains q.1 = true) (h3 : tyD c e = some t) (h4 : t ∈ tys) :
    eqF eqcs tys m_Thing___eq__ (n + 1) d e c = (m_Thing___eq__ (eqF eqcs tys m_Thing___eq__ n) [d, e] c).bind asB := by
  unfold eqF
  rw [h0]
  dsimp only
  unfold eqG
  rw [h1]
  dsimp only
  rw [if_pos ⟨h2, by rw [h3]; simpa using h4⟩]
theorem eqP_strs {x y : Str} {c : Cells} (hx : PyData.strOk x = true) (hy : PyData.strOk y = true) : eqP (.str x) (.str y) c = .ok (x == y) c := by
  unfold eqP
  have ex : okp (.str x) 50 = true := by unfold okp; exact hx
  have ey : okp (.str y) 50 = true := by unfold okp; exact hy
  rw [pyD_okp _ 50 60 ex (by decide), pyD_okp _ 50 60 ey (by decide)]
  dsimp only
  rw [if_pos ⟨shaped_okp ex, shaped_okp ey⟩]
  simp [Nw.py, PyData.eqv]
theorem meth0_at {mn : Str} {L : List (Str × MF)} {δ : En} {c : Cells} {d : D} {q : Str × List Str × List D} {m : MF} {i : Nat} {r : Out D} (hv : δ[i]? = some (some d)) (h1 : insOf c d = some q) (h2 : q.2.1.contains mn = false) (h3 : L.lookup q.1 = some m) (h4 : m [d] c = r) : mMeth0 mn L (mVar i) δ c = r := by
  unfold mMeth0 mVar
  rw [hv]
  dsimp only [Out.bind]
  unfold methOf
  rw [h1]
  dsimp only
  rw [h2, if_neg (by decide), h3]
  exact h4
section
variable {c : Cells} {d e : D} {q p : Str × List Str × List D} {mc mf mc' mf' : MF} {w v : Str} {fd fe : D} {n : Nat} {b : Bool}
theorem things (x : ThI c d q mc mf w fd) (y : ThI c e p mc' mf' v fe) (hG : w = v → eqF eqcs tys m_Thing___eq__ n fd fe c = .ok b c) : eqF eqcs tys m_Thing___eq__ (n + 1) d e c = .ok (w == v && b) c := by
  rw [eqF_objT x.py x.ins x.cs y.ty y.tm]
  obtain ⟨G, hGG⟩ : ∃ G, G = eqF eqcs tys m_Thing___eq__ n := ⟨_, rfl⟩
  rw [← hGG] at hG ⊢
  have ty : isiD tys isi_Thing e c = .ok (.bl true) c := by
    unfold isiD
    rw [y.ty]
    simp [y.tm, y.th]
  have M0 : mMeth0 ("class_name" : Str) CNL (mVar 0) [some d, some e] c = .ok (.str w) c := meth0_at rfl x.ins x.n1 x.l1 x.cn
  have M1 : mMeth0 ("class_name" : Str) CNL (mVar 1) [some d, some e] c = .ok (.str v) c := meth0_at rfl y.ins y.n1 y.l1 y.cn
  have F0 : mMeth0 ("facts" : Str) FCL (mVar 0) [some d, some e] c = .ok fd c := meth0_at rfl x.ins x.n2 x.l2 x.fa
  have F1 : mMeth0 ("facts" : Str) FCL (mVar 1) [some d, some e] c = .ok fe c := meth0_at rfl y.ins y.n2 y.l2 y.fa
  have e3 := eqP_strs (c := c) x.ok y.ok
  unfold m_Thing___eq__
  rw [thing_unf]
  cases hwv : (w == v) with
  | false =>
    rw [hwv] at e3
    simp only [mkFn, mSeq, mIfS, mOrT, mNotT, mB, mIsi, mVar, mOp, mRet, mSkip, mC, Out.bind, Out.fl, asB, neO, ty, M0, M1, e3, List.length_cons, List.length_nil, List.map_cons, List.map_nil, List.replicate, List.cons_append, List.nil_append, List.append_nil, List.getElem?_cons_zero, List.getElem?_cons_succ, Nat.reduceAdd, Nat.reduceSub, Bool.not_true, Bool.not_false, Bool.false_eq_true, Bool.false_and, ↓reduceIte]
  | true =>
    rw [hwv] at e3
    have hG := hG (by simpa using hwv)
    simp only [mkFn, mSeq, mIfS, mOrT, mNotT, mB, mIsi, mVar, mOp, mRet, mSkip, mC, Out.bind, Out.fl, asB, neO, eqO, ty, M0, M1, F0, F1, e3, hG, List.length_cons, List.length_nil, List.map_cons, List.map_nil, List.replicate, List.cons_append, List.nil_append, List.append_nil, List.getElem?_cons_zero, List.getElem?_cons_succ, Nat.reduceAdd, Nat.reduceSub, Bool.not_true, Bool.not_false, Bool.false_eq_true, Bool.true_and, ↓reduceIte]
end
def TextOk (t : Str) : Prop := (∀ c, m_is_path_text [.str t] c = .ok (.bl true) c) ∧ TxC t
theorem gLET_lt : ∀ k ∈ LET, k < 128 ∧ k ≠ 47 := by decide +kernel
theorem nm_comp {s : Str} (h : isNm s = true) : CompS s := by
  have h0 := h
  unfold isNm at h
  simp only [Bool.and_eq_true, decide_eq_true_eq, List.all_eq_true, Bool.not_eq_true', Bool.or_eq_false_iff, beq_eq_false_iff_ne] at h
  have z : ∀ k ∈ s.cps.toList, k < 128 ∧ k ≠ 47 := fun k hk => gLET_lt k (h.2.2.2 k hk)
  refine ⟨?_, ?_, h.2.1, z⟩
  · unfold okC
    rw [h0]
    simp
  · unfold PyData.strOk
    rw [← Array.all_toList, List.all_eq_true]
    intro k hk
    exact decide_eq_true (Nat.lt_trans (z k hk).1 (by decide))
/-! texts of links -/
theorem text_ok {cs : List Str} {t : Str} (hne : cs ≠ []) (all : ∀ p ∈ cs, CompS p) (hn : cs.length ≤ 1000) (ht : t = Txt.join ("/" : Str) cs) (h0 : t ≠ ("" : Str)) : TextOk t := by
  refine ⟨fun c => ?_, cs, hne, all, hn, ht, h0⟩
  have h := comps_read (c := c) hne all hn ht h0
  unfold m_is_path_text mb_is_path_text
  simp [mkFn, mSeq, mIfS, mB, mOp, mVar, mC, mCB, mCons, mNil, mSet, mRet, mExpr, mSkip, mOrT, mAndT, mNotT, mAnd, mOr, mNot, mIf, mChain, mIsi, isiD, Out.bind, Out.fl, asB, mTup, tupD, mLst, mCall, mFld, fldGo, insOf, lookF, mMeth0, mMeth, methOf, mRaise, mTry, tryGo, noExc, mMake, mPar, h]
inductive Dd where
  | mfo (f : Int) (n : Str) (o : Int) | mfi (f : Int) (n : Str) (o : Int) | mli (f : Int) (n : Str) (o : Int) (t : Str)
  | put (f : Int) (n : Str) (k : Int) | tak (f : Int) (n : Str) | mov (f : Int) (n : Str) (g : Int) (m : Str)
/-! deeds as data -/
theorem kf_folder_name : ¬ ("folder" : Str) = ("name" : Str) := by decide +kernel
theorem kf_folder_owner : ¬ ("folder" : Str) = ("owner" : Str) := by decide +kernel
theorem kf_folder_text : ¬ ("folder" : Str) = ("text" : Str) := by decide +kernel
theorem kf_folder_node : ¬ ("folder" : Str) = ("node" : Str) := by decide +kernel
theorem kf_folder_goal : ¬ ("folder" : Str) = ("goal" : Str) := by decide +kernel
theorem kf_folder_other : ¬ ("folder" : Str) = ("other" : Str) := by decide +kernel
theorem kf_name_folder : ¬ ("name" : Str) = ("folder" : Str) := by decide +kernel
theorem kf_name_owner : ¬ ("name" : Str) = ("owner" : Str) := by decide +kernel
theorem kf_name_text : ¬ ("name" : Str) = ("text" : Str) := by decide +kernel
theorem kf_name_node : ¬ ("name" : Str) = ("node" : Str) := by decide +kernel
theorem kf_name_goal : ¬ ("name" : Str) = ("goal" : Str) := by decide +kernel
theorem kf_name_other : ¬ ("name" : Str) = ("other" : Str) := by decide +kernel
theorem kf_owner_folder : ¬ ("owner" : Str) = ("folder" : Str) := by decide +kernel
theorem kf_owner_name : ¬ ("owner" : Str) = ("name" : Str) := by decide +kernel
theorem kf_owner_text : ¬ ("owner" : Str) = ("text" : Str) := by decide +kernel
theorem kf_owner_node : ¬ ("owner" : Str) = ("node" : Str) := by decide +kernel
theorem kf_owner_goal : ¬ ("owner" : Str) = ("goal" : Str) := by decide +kernel
theorem kf_owner_other : ¬ ("owner" : Str) = ("other" : Str) := by decide +kernel
theorem kf_text_folder : ¬ ("text" : Str) = ("folder" : Str) := by decide +kernel
theorem kf_text_name : ¬ ("text" : Str) = ("name" : Str) := by decide +kernel
theorem kf_text_owner : ¬ ("text" : Str) = ("owner" : Str) := by decide +kernel
theorem kf_text_node : ¬ ("text" : Str) = ("node" : Str) := by decide +kernel
theorem kf_text_goal : ¬ ("text" : Str) = ("goal" : Str) := by decide +kernel
theorem kf_text_other : ¬ ("text" : Str) = ("other" : Str) := by decide +kernel
theorem kf_node_folder : ¬ ("node" : Str) = ("folder" : Str) := by decide +kernel
theorem kf_node_name : ¬ ("node" : Str) = ("name" : Str) := by decide +kernel
theorem kf_node_owner : ¬ ("node" : Str) = ("owner" : Str) := by decide +kernel
theorem kf_node_text : ¬ ("node" : Str) = ("text" : Str) := by decide +kernel
theorem kf_node_goal : ¬ ("node" : Str) = ("goal" : Str) := by decide +kernel
theorem kf_node_other : ¬ ("node" : Str) = ("other" : Str) := by decide +kernel
theorem kf_goal_folder : ¬ ("goal" : Str) = ("folder" : Str) := by decide +kernel
theorem kf_goal_name : ¬ ("goal" : Str) = ("name" : Str) := by decide +kernel
theorem kf_goal_owner : ¬ ("goal" : Str) = ("owner" : Str) := by decide +kernel
theorem kf_goal_text : ¬ ("goal" : Str) = ("text" : Str) := by decide +kernel
theorem kf_goal_node : ¬ ("goal" : Str) = ("node" : Str) := by decide +kernel
theorem kf_goal_other : ¬ ("goal" : Str) = ("other" : Str) := by decide +kernel
theorem kf_other_folder : ¬ ("other" : Str) = ("folder" : Str) := by decide +kernel
theorem kf_other_name : ¬ ("other" : Str) = ("name" : Str) := by decide +kernel
theorem kf_other_owner : ¬ ("other" : Str) = ("owner" : Str) := by decide +kernel
theorem kf_other_text : ¬ ("other" : Str) = ("text" : Str) := by decide +kernel
theorem kf_other_node : ¬ ("other" : Str) = ("node" : Str) := by decide +kernel
theorem kf_other_goal : ¬ ("other" : Str) = ("goal" : Str) := by decide +kernel
def deedD : Dd → D
  | .mfo f n o => .obj ("MakeFolder" : Str) [("folder" : Str), ("name" : Str), ("owner" : Str)] [.int f, .str n, .int o]
  | .mfi f n o => .obj ("MakeFile" : Str) [("folder" : Str), ("name" : Str), ("owner" : Str)] [.int f, .str n, .int o]
  | .mli f n o t => .obj ("MakeLink" : Str) [("folder" : Str), ("name" : Str), ("owner" : Str), ("text" : Str)] [.int f, .str n, .int o, .str t]
  | .put f n k => .obj ("Put" : Str) [("folder" : Str), ("name" : Str), ("node" : Str)] [.int f, .str n, .int k]
  | .tak f n => .obj ("Take" : Str) [("folder" : Str), ("name" : Str)] [.int f, .str n]
  | .mov f n g m => .obj ("Move" : Str) [("folder" : Str), ("name" : Str), ("goal" : Str), ("other" : Str)] [.int f, .str n, .int g, .str m]
theorem make_mfo {f : Int} {n : Str} {o : Int} {c : Cells} : makeGo ("MakeFolder" : Str) m_MakeFolder___init__ [.int f, .str n, .int o] c = .ok (deedD (.mfo f n o)) c := by
  unfold makeGo m_MakeFolder___init__ mb_MakeFolder___init__
  have h := fin_ins (c := c) (cn := ("MakeFolder" : Str)) (ns := [("folder" : Str), ("name" : Str), ("owner" : Str)]) (ds := [.int f, .str n, .int o]) (fun d hd => by simp at hd; rcases hd with rfl | rfl | rfl <;> first | exact nc_int | exact nc_str)
  simp [mkFn, mSeq, mIfS, mB, mOp, mVar, mC, mCB, mCons, mNil, mSet, mRet, mExpr, mSkip, mOrT, mAndT, mNotT, mAnd, mOr, mNot, mIf, mChain, mIsi, isiD, Out.bind, Out.fl, asB, mTup, tupD, mLst, mCall, mFld, fldGo, insOf, lookF, mMeth0, mMeth, methOf, mRaise, mTry, tryGo, noExc, mMake, mPar, mSetF, setFGo, putN, putL, h, deedD, kf_folder_name, kf_folder_owner, kf_folder_text, kf_folder_node, kf_folder_goal, kf_folder_other, kf_name_folder, kf_name_owner, kf_name_text, kf_name_node, kf_name_goal, kf_name_other, kf_owner_folder, kf_owner_name, kf_owner_text, kf_owner_node, kf_owner_goal, kf_owner_other, kf_text_folder, kf_text_name, kf_text_owner, kf_text_node, kf_text_goal, kf_text_other, kf_node_folder, kf_node_name, kf_node_owner, kf_node_text, kf_node_goal, kf_node_other, kf_goal_folder, kf_goal_name, kf_goal_owner, kf_goal_text, kf_goal_node, kf_goal_other, kf_other_folder, kf_other_name, kf_other_owner, kf_other_text, kf_other_node, kf_other_goal]
theorem make_mfi {f : Int} {n : Str} {o : Int} {c : Cells} : makeGo ("MakeFile" : Str) m_MakeFile___init__ [.int f, .str n, .int o] c = .ok (deedD (.mfi f n o)) c := by
  unfold makeGo m_MakeFile___init__ mb_MakeFile___init__
  have h := fin_ins (c := c) (cn := ("MakeFile" : Str)) (ns := [("folder" : Str), ("name" : Str), ("owner" : Str)]) (ds := [.int f, .str n, .int o]) (fun d hd => by simp at hd; rcases hd with rfl | rfl | rfl <;> first | exact nc_int | exact nc_str)
  simp [mkFn, mSeq, mIfS, mB, mOp, mVar, mC, mCB, mCons, mNil, mSet, mRet, mExpr, mSkip, mOrT, mAndT, mNotT, mAnd, mOr, mNot, mIf, mChain, mIsi, isiD, Out.bind, Out.fl, asB, mTup, tupD, mLst, mCall, mFld, fldGo, insOf, lookF, mMeth0, mMeth, methOf, mRaise, mTry, tryGo, noExc, mMake, mPar, mSetF, setFGo, putN, putL, h, deedD, kf_folder_name, kf_folder_owner, kf_folder_text, kf_folder_node, kf_folder_goal, kf_folder_other, kf_name_folder, kf_name_owner, kf_name_text, kf_name_node, kf_name_goal, kf_name_other, kf_owner_folder, kf_owner_name, kf_owner_text, kf_owner_node, kf_owner_goal, kf_owner_other, kf_text_folder, kf_text_name, kf_text_owner, kf_text_node, kf_text_goal, kf_text_other, kf_node_folder, kf_node_name, kf_node_owner, kf_node_text, kf_node_goal, kf_node_other, kf_goal_folder, kf_goal_name, kf_goal_owner, kf_goal_text, kf_goal_node, kf_goal_other, kf_other_folder, kf_other_name, kf_other_owner, kf_other_text, kf_other_node, kf_other_goal]
theorem make_mli {f : Int} {n : Str} {o : Int} {t : Str} {c : Cells} : makeGo ("MakeLink" : Str) m_MakeLink___init__ [.int f, .str n, .int o, .str t] c = .ok (deedD (.mli f n o t)) c := by
  unfold makeGo m_MakeLink___init__ mb_MakeLink___init__
  have h := fin_ins (c := c) (cn := ("MakeLink" : Str)) (ns := [("folder" : Str), ("name" : Str), ("owner" : Str), ("text" : Str)]) (ds := [.int f, .str n, .int o, .str t]) (fun d hd => by simp at hd; rcases hd with rfl | rfl | rfl | rfl <;> first | exact nc_int | exact nc_str)
  simp [mkFn, mSeq, mIfS, mB, mOp, mVar, mC, mCB, mCons, mNil, mSet, mRet, mExpr, mSkip, mOrT, mAndT, mNotT, mAnd, mOr, mNot, mIf, mChain, mIsi, isiD, Out.bind, Out.fl, asB, mTup, tupD, mLst, mCall, mFld, fldGo, insOf, lookF, mMeth0, mMeth, methOf, mRaise, mTry, tryGo, noExc, mMake, mPar, mSetF, setFGo, putN, putL, h, deedD, kf_folder_name, kf_folder_owner, kf_folder_text, kf_folder_node, kf_folder_goal, kf_folder_other, kf_name_folder, kf_name_owner, kf_name_text, kf_name_node, kf_name_goal, kf_name_other, kf_owner_folder, kf_owner_name, kf_owner_text, kf_owner_node, kf_owner_goal, kf_owner_other, kf_text_folder, kf_text_name, kf_text_owner, kf_text_node, kf_text_goal, kf_text_other, kf_node_folder, kf_node_name, kf_node_owner, kf_node_text, kf_node_goal, kf_node_other, kf_goal_folder, kf_goal_name, kf_goal_owner, kf_goal_text, kf_goal_node, kf_goal_other, kf_other_folder, kf_other_name, kf_other_owner, kf_other_text, kf_other_node, kf_other_goal]
theorem make_put {f : Int} {n : Str} {k : Int} {c : Cells} : makeGo ("Put" : Str) m_Put___init__ [.int f, .str n, .int k] c = .ok (deedD (.put f n k)) c := by
  unfold makeGo m_Put___init__ mb_Put___init__
  have h := fin_ins (c := c) (cn := ("Put" : Str)) (ns := [("folder" : Str), ("name" : Str), ("node" : Str)]) (ds := [.int f, .str n, .int k]) (fun d hd => by simp at hd; rcases hd with rfl | rfl | rfl <;> first | exact nc_int | exact nc_str)
  simp [mkFn, mSeq, mIfS, mB, mOp, mVar, mC, mCB, mCons, mNil, mSet, mRet, mExpr, mSkip, mOrT, mAndT, mNotT, mAnd, mOr, mNot, mIf, mChain, mIsi, isiD, Out.bind, Out.fl, asB, mTup, tupD, mLst, mCall, mFld, fldGo, insOf, lookF, mMeth0, mMeth, methOf, mRaise, mTry, tryGo, noExc, mMake, mPar, mSetF, setFGo, putN, putL, h, deedD, kf_folder_name, kf_folder_owner, kf_folder_text, kf_folder_node, kf_folder_goal, kf_folder_other, kf_name_folder, kf_name_owner, kf_name_text, kf_name_node, kf_name_goal, kf_name_other, kf_owner_folder, kf_owner_name, kf_owner_text, kf_owner_node, kf_owner_goal, kf_owner_other, kf_text_folder, kf_text_name, kf_text_owner, kf_text_node, kf_text_goal, kf_text_other, kf_node_folder, kf_node_name, kf_node_owner, kf_node_text, kf_node_goal, kf_node_other, kf_goal_folder, kf_goal_name, kf_goal_owner, kf_goal_text, kf_goal_node, kf_goal_other, kf_other_folder, kf_other_name, kf_other_owner, kf_other_text, kf_other_node, kf_other_goal]
theorem make_tak {f : Int} {n : Str} {c : Cells} : makeGo ("Take" : Str) m_Take___init__ [.int f, .str n] c = .ok (deedD (.tak f n)) c := by
  unfold makeGo m_Take___init__ mb_Take___init__
  have h := fin_ins (c := c) (cn := ("Take" : Str)) (ns := [("folder" : Str), ("name" : Str)]) (ds := [.int f, .str n]) (fun d hd => by simp at hd; rcases hd with rfl | rfl <;> first | exact nc_int | exact nc_str)
  simp [mkFn, mSeq, mIfS, mB, mOp, mVar, mC, mCB, mCons, mNil, mSet, mRet, mExpr, mSkip, mOrT, mAndT, mNotT, mAnd, mOr, mNot, mIf, mChain, mIsi, isiD, Out.bind, Out.fl, asB, mTup, tupD, mLst, mCall, mFld, fldGo, insOf, lookF, mMeth0, mMeth, methOf, mRaise, mTry, tryGo, noExc, mMake, mPar, mSetF, setFGo, putN, putL, h, deedD, kf_folder_name, kf_folder_owner, kf_folder_text, kf_folder_node, kf_folder_goal, kf_folder_other, kf_name_folder, kf_name_owner, kf_name_text, kf_name_node, kf_name_goal, kf_name_other, kf_owner_folder, kf_owner_name, kf_owner_text, kf_owner_node, kf_owner_goal, kf_owner_other, kf_text_folder, kf_text_name, kf_text_owner, kf_text_node, kf_text_goal, kf_text_other, kf_node_folder, kf_node_name, kf_node_owner, kf_node_text, kf_node_goal, kf_node_other, kf_goal_folder, kf_goal_name, kf_goal_owner, kf_goal_text, kf_goal_node, kf_goal_other, kf_other_folder, kf_other_name, kf_other_owner, kf_other_text, kf_other_node, kf_other_goal]
theorem make_mov {f : Int} {n : Str} {g : Int} {m : Str} {c : Cells} : makeGo ("Move" : Str) m_Move___init__ [.int f, .str n, .int g, .str m] c = .ok (deedD (.mov f n g m)) c := by
  unfold makeGo m_Move___init__ mb_Move___init__
  have h := fin_ins (c := c) (cn := ("Move" : Str)) (ns := [("folder" : Str), ("name" : Str), ("goal" : Str), ("other" : Str)]) (ds := [.int f, .str n, .int g, .str m]) (fun d hd => by simp at hd; rcases hd with rfl | rfl | rfl | rfl <;> first | exact nc_int | exact nc_str)
  simp [mkFn, mSeq, mIfS, mB, mOp, mVar, mC, mCB, mCons, mNil, mSet, mRet, mExpr, mSkip, mOrT, mAndT, mNotT, mAnd, mOr, mNot, mIf, mChain, mIsi, isiD, Out.bind, Out.fl, asB, mTup, tupD, mLst, mCall, mFld, fldGo, insOf, lookF, mMeth0, mMeth, methOf, mRaise, mTry, tryGo, noExc, mMake, mPar, mSetF, setFGo, putN, putL, h, deedD, kf_folder_name, kf_folder_owner, kf_folder_text, kf_folder_node, kf_folder_goal, kf_folder_other, kf_name_folder, kf_name_owner, kf_name_text, kf_name_node, kf_name_goal, kf_name_other, kf_owner_folder, kf_owner_name, kf_owner_text, kf_owner_node, kf_owner_goal, kf_owner_other, kf_text_folder, kf_text_name, kf_text_owner, kf_text_node, kf_text_goal, kf_text_other, kf_node_folder, kf_node_name, kf_node_owner, kf_node_text, kf_node_goal, kf_node_other, kf_goal_folder, kf_goal_name, kf_goal_owner, kf_goal_text, kf_goal_node, kf_goal_other, kf_other_folder, kf_other_name, kf_other_owner, kf_other_text, kf_other_node, kf_other_goal]
def fldr : Dd → Int
  | .mfo f n o => f
  | .mfi f n o => f
  | .mli f n o t => f
  | .put f n k => f
  | .tak f n => f
  | .mov f n g m => f
def nmOf : Dd → Str
  | .mfo f n o => n
  | .mfi f n o => n
  | .mli f n o t => n
  | .put f n k => n
  | .tak f n => n
  | .mov f n g m => n
theorem dfl_folder {d : Dd} {c : Cells} : fldGo ("folder" : Str) [("Path" : Str), ("MakeFolder" : Str), ("MakeFile" : Str), ("MakeLink" : Str), ("Put" : Str), ("Take" : Str), ("Move" : Str)] (deedD d) c = .ok (.int (fldr d)) c := by
  cases d <;> simp [fldGo, deedD, insOf, lookF, fldr, nmOf, kf_folder_name, kf_folder_owner, kf_folder_text, kf_folder_node, kf_folder_goal, kf_folder_other, kf_name_folder, kf_name_owner, kf_name_text, kf_name_node, kf_name_goal, kf_name_other, kf_owner_folder, kf_owner_name, kf_owner_text, kf_owner_node, kf_owner_goal, kf_owner_other, kf_text_folder, kf_text_name, kf_text_owner, kf_text_node, kf_text_goal, kf_text_other, kf_node_folder, kf_node_name, kf_node_owner, kf_node_text, kf_node_goal, kf_node_other, kf_goal_folder, kf_goal_name, kf_goal_owner, kf_goal_text, kf_goal_node, kf_goal_other, kf_other_folder, kf_other_name, kf_other_owner, kf_other_text, kf_other_node, kf_other_goal]
theorem dfl_name {d : Dd} {c : Cells} : fldGo ("name" : Str) [("MakeFolder" : Str), ("MakeFile" : Str), ("MakeLink" : Str), ("Put" : Str), ("Take" : Str), ("Move" : Str)] (deedD d) c = .ok (.str (nmOf d)) c := by
  cases d <;> simp [fldGo, deedD, insOf, lookF, fldr, nmOf, kf_folder_name, kf_folder_owner, kf_folder_text, kf_folder_node, kf_folder_goal, kf_folder_other, kf_name_folder, kf_name_owner, kf_name_text, kf_name_node, kf_name_goal, kf_name_other, kf_owner_folder, kf_owner_name, kf_owner_text, kf_owner_node, kf_owner_goal, kf_owner_other, kf_text_folder, kf_text_name, kf_text_owner, kf_text_node, kf_text_goal, kf_text_other, kf_node_folder, kf_node_name, kf_node_owner, kf_node_text, kf_node_goal, kf_node_other, kf_goal_folder, kf_goal_name, kf_goal_owner, kf_goal_text, kf_goal_node, kf_goal_other, kf_other_folder, kf_other_name, kf_other_owner, kf_other_text, kf_other_node, kf_other_goal]
theorem dfl_owner_mfo {f : Int} {n : Str} {o : Int} {c : Cells} : fldGo ("owner" : Str) [("MakeFolder" : Str), ("MakeFile" : Str), ("MakeLink" : Str)] (deedD (.mfo f n o)) c = .ok (.int o) c := by
  simp [fldGo, deedD, insOf, lookF, kf_folder_name, kf_folder_owner, kf_folder_text, kf_folder_node, kf_folder_goal, kf_folder_other, kf_name_folder, kf_name_owner, kf_name_text, kf_name_node, kf_name_goal, kf_name_other, kf_owner_folder, kf_owner_name, kf_owner_text, kf_owner_node, kf_owner_goal, kf_owner_other, kf_text_folder, kf_text_name, kf_text_owner, kf_text_node, kf_text_goal, kf_text_other, kf_node_folder, kf_node_name, kf_node_owner, kf_node_text, kf_node_goal, kf_node_other, kf_goal_folder, kf_goal_name, kf_goal_owner, kf_goal_text, kf_goal_node, kf_goal_other, kf_other_folder, kf_other_name, kf_other_owner, kf_other_text, kf_other_node, kf_other_goal]
theorem dfl_owner_mfi {f : Int} {n : Str} {o : Int} {c : Cells} : fldGo ("owner" : Str) [("MakeFolder" : Str), ("MakeFile" : Str), ("MakeLink" : Str)] (deedD (.mfi f n o)) c = .ok (.int o) c := by
  simp [fldGo, deedD, insOf, lookF, kf_folder_name, kf_folder_owner, kf_folder_text, kf_folder_node, kf_folder_goal, kf_folder_other, kf_name_folder, kf_name_owner, kf_name_text, kf_name_node, kf_name_goal, kf_name_other, kf_owner_folder, kf_owner_name, kf_owner_text, kf_owner_node, kf_owner_goal, kf_owner_other, kf_text_folder, kf_text_name, kf_text_owner, kf_text_node, kf_text_goal, kf_text_other, kf_node_folder, kf_node_name, kf_node_owner, kf_node_text, kf_node_goal, kf_node_other, kf_goal_folder, kf_goal_name, kf_goal_owner, kf_goal_text, kf_goal_node, kf_goal_other, kf_other_folder, kf_other_name, kf_other_owner, kf_other_text, kf_other_node, kf_other_goal]
theorem dfl_owner_mli {f : Int} {n : Str} {o : Int} {t : Str} {c : Cells} : fldGo ("owner" : Str) [("MakeFolder" : Str), ("MakeFile" : Str), ("MakeLink" : Str)] (deedD (.mli f n o t)) c = .ok (.int o) c := by
  simp [fldGo, deedD, insOf, lookF, kf_folder_name, kf_folder_owner, kf_folder_text, kf_folder_node, kf_folder_goal, kf_folder_other, kf_name_folder, kf_name_owner, kf_name_text, kf_name_node, kf_name_goal, kf_name_other, kf_owner_folder, kf_owner_name, kf_owner_text, kf_owner_node, kf_owner_goal, kf_owner_other, kf_text_folder, kf_text_name, kf_text_owner, kf_text_node, kf_text_goal, kf_text_other, kf_node_folder, kf_node_name, kf_node_owner, kf_node_text, kf_node_goal, kf_node_other, kf_goal_folder, kf_goal_name, kf_goal_owner, kf_goal_text, kf_goal_node, kf_goal_other, kf_other_folder, kf_other_name, kf_other_owner, kf_other_text, kf_other_node, kf_other_goal]
theorem dfl_text_mli {f : Int} {n : Str} {o : Int} {t : Str} {c : Cells} : fldGo ("text" : Str) [("MakeLink" : Str)] (deedD (.mli f n o t)) c = .ok (.str t) c := by
  simp [fldGo, deedD, insOf, lookF, kf_folder_name, kf_folder_owner, kf_folder_text, kf_folder_node, kf_folder_goal, kf_folder_other, kf_name_folder, kf_name_owner, kf_name_text, kf_name_node, kf_name_goal, kf_name_other, kf_owner_folder, kf_owner_name, kf_owner_text, kf_owner_node, kf_owner_goal, kf_owner_other, kf_text_folder, kf_text_name, kf_text_owner, kf_text_node, kf_text_goal, kf_text_other, kf_node_folder, kf_node_name, kf_node_owner, kf_node_text, kf_node_goal, kf_node_other, kf_goal_folder, kf_goal_name, kf_goal_owner, kf_goal_text, kf_goal_node, kf_goal_other, kf_other_folder, kf_other_name, kf_other_owner, kf_other_text, kf_other_node, kf_other_goal]
theorem dfl_node_put {f : Int} {n : Str} {k : Int} {c : Cells} : fldGo ("node" : Str) [("Put" : Str), ("Came" : Str)] (deedD (.put f n k)) c = .ok (.int k) c := by
  simp [fldGo, deedD, insOf, lookF, kf_folder_name, kf_folder_owner, kf_folder_text, kf_folder_node, kf_folder_goal, kf_folder_other, kf_name_folder, kf_name_owner, kf_name_text, kf_name_node, kf_name_goal, kf_name_other, kf_owner_folder, kf_owner_name, kf_owner_text, kf_owner_node, kf_owner_goal, kf_owner_other, kf_text_folder, kf_text_name, kf_text_owner, kf_text_node, kf_text_goal, kf_text_other, kf_node_folder, kf_node_name, kf_node_owner, kf_node_text, kf_node_goal, kf_node_other, kf_goal_folder, kf_goal_name, kf_goal_owner, kf_goal_text, kf_goal_node, kf_goal_other, kf_other_folder, kf_other_name, kf_other_owner, kf_other_text, kf_other_node, kf_other_goal]
theorem dfl_goal_mov {f : Int} {n : Str} {g : Int} {m : Str} {c : Cells} : fldGo ("goal" : Str) [("Move" : Str)] (deedD (.mov f n g m)) c = .ok (.int g) c := by
  simp [fldGo, deedD, insOf, lookF, kf_folder_name, kf_folder_owner, kf_folder_text, kf_folder_node, kf_folder_goal, kf_folder_other, kf_name_folder, kf_name_owner, kf_name_text, kf_name_node, kf_name_goal, kf_name_other, kf_owner_folder, kf_owner_name, kf_owner_text, kf_owner_node, kf_owner_goal, kf_owner_other, kf_text_folder, kf_text_name, kf_text_owner, kf_text_node, kf_text_goal, kf_text_other, kf_node_folder, kf_node_name, kf_node_owner, kf_node_text, kf_node_goal, kf_node_other, kf_goal_folder, kf_goal_name, kf_goal_owner, kf_goal_text, kf_goal_node, kf_goal_other, kf_other_folder, kf_other_name, kf_other_owner, kf_other_text, kf_other_node, kf_other_goal]
theorem dfl_other_mov {f : Int} {n : Str} {g : Int} {m : Str} {c : Cells} : fldGo ("other" : Str) [("Move" : Str)] (deedD (.mov f n g m)) c = .ok (.str m) c := by
  simp [fldGo, deedD, insOf, lookF, kf_folder_name, kf_folder_owner, kf_folder_text, kf_folder_node, kf_folder_goal, kf_folder_other, kf_name_folder, kf_name_owner, kf_name_text, kf_name_node, kf_name_goal, kf_name_other, kf_owner_folder, kf_owner_name, kf_owner_text, kf_owner_node, kf_owner_goal, kf_owner_other, kf_text_folder, kf_text_name, kf_text_owner, kf_text_node, kf_text_goal, kf_text_other, kf_node_folder, kf_node_name, kf_node_owner, kf_node_text, kf_node_goal, kf_node_other, kf_goal_folder, kf_goal_name, kf_goal_owner, kf_goal_text, kf_goal_node, kf_goal_other, kf_other_folder, kf_other_name, kf_other_owner, kf_other_text, kf_other_node, kf_other_goal]
theorem isi_of {f : Ty → Bool} {t : Ty} {b : Bool} {d : D} {c : Cells} (h1 : tyD c d = some t) (h2 : t ∈ tys) (h3 : f t = b) : isiD tys f d c = .ok (.bl b) c := by
  unfold isiD
  rw [h1]
  simp [h2, h3]
def isMakeFolder : Dd → Bool
  | .mfo _ _ _ => true
  | _ => false
theorem disi_MakeFolder {d : Dd} {c : Cells} : isiD tys isi_MakeFolder (deedD d) c = .ok (.bl (isMakeFolder d)) c := by
  cases d
  · exact isi_of (t := .o ("MakeFolder" : Str)) (b := true) rfl (by decide +kernel) (by decide +kernel)
  · exact isi_of (t := .o ("MakeFile" : Str)) (b := false) rfl (by decide +kernel) (by decide +kernel)
  · exact isi_of (t := .o ("MakeLink" : Str)) (b := false) rfl (by decide +kernel) (by decide +kernel)
  · exact isi_of (t := .o ("Put" : Str)) (b := false) rfl (by decide +kernel) (by decide +kernel)
  · exact isi_of (t := .o ("Take" : Str)) (b := false) rfl (by decide +kernel) (by decide +kernel)
  · exact isi_of (t := .o ("Move" : Str)) (b := false) rfl (by decide +kernel) (by decide +kernel)
def isMakeFile : Dd → Bool
  | .mfi _ _ _ => true
  | _ => false
theorem disi_MakeFile {d : Dd} {c : Cells} : isiD tys isi_MakeFile (deedD d) c = .ok (.bl (isMakeFile d)) c := by
  cases d
  · exact isi_of (t := .o ("MakeFolder" : Str)) (b := false) rfl (by decide +kernel) (by decide +kernel)
  · exact isi_of (t := .o ("MakeFile" : Str)) (b := true) rfl (by decide +kernel) (by decide +kernel)
  · exact isi_of (t := .o ("MakeLink" : Str)) (b := false) rfl (by decide +kernel) (by decide +kernel)
  · exact isi_of (t := .o ("Put" : Str)) (b := false) rfl (by decide +kernel) (by decide +kernel)
  · exact isi_of (t := .o ("Take" : Str)) (b := false) rfl (by decide +kernel) (by decide +kernel)
  · exact isi_of (t := .o ("Move" : Str)) (b := false) rfl (by decide +kernel) (by decide +kernel)
def isMakeLink : Dd → Bool
  | .mli _ _ _ _ => true
  | _ => false
theorem disi_MakeLink {d : Dd} {c : Cells} : isiD tys isi_MakeLink (deedD d) c = .ok (.bl (isMakeLink d)) c := by
  cases d
  · exact isi_of (t := .o ("MakeFolder" : Str)) (b := false) rfl (by decide +kernel) (by decide +kernel)
  · exact isi_of (t := .o ("MakeFile" : Str)) (b := false) rfl (by decide +kernel) (by decide +kernel)
  · exact isi_of (t := .o ("MakeLink" : Str)) (b := true) rfl (by decide +kernel) (by decide +kernel)
  · exact isi_of (t := .o ("Put" : Str)) (b := false) rfl (by decide +kernel) (by decide +kernel)
  · exact isi_of (t := .o ("Take" : Str)) (b := false) rfl (by decide +kernel) (by decide +kernel)
  · exact isi_of (t := .o ("Move" : Str)) (b := false) rfl (by decide +kernel) (by decide +kernel)
def isPut : Dd → Bool
  | .put _ _ _ => true
  | _ => false
theorem disi_Put {d : Dd} {c : Cells} : isiD tys isi_Put (deedD d) c = .ok (.bl (isPut d)) c := by
  cases d
  · exact isi_of (t := .o ("MakeFolder" : Str)) (b := false) rfl (by decide +kernel) (by decide +kernel)
  · exact isi_of (t := .o ("MakeFile" : Str)) (b := false) rfl (by decide +kernel) (by decide +kernel)
  · exact isi_of (t := .o ("MakeLink" : Str)) (b := false) rfl (by decide +kernel) (by decide +kernel)
  · exact isi_of (t := .o ("Put" : Str)) (b := true) rfl (by decide +kernel) (by decide +kernel)
  · exact isi_of (t := .o ("Take" : Str)) (b := false) rfl (by decide +kernel) (by decide +kernel)
  · exact isi_of (t := .o ("Move" : Str)) (b := false) rfl (by decide +kernel) (by decide +kernel)
def isMove : Dd → Bool
  | .mov _ _ _ _ => true
  | _ => false
def isTake : Dd → Bool
  | .tak _ _ => true
  | _ => false
theorem disi_Take {d : Dd} {c : Cells} : isiD tys isi_Take (deedD d) c = .ok (.bl (isTake d)) c := by
  cases d
  · exact isi_of (t := .o ("MakeFolder" : Str)) (b := false) rfl (by decide +kernel) (by decide +kernel)
  · exact isi_of (t := .o ("MakeFile" : Str)) (b := false) rfl (by decide +kernel) (by decide +kernel)
  · exact isi_of (t := .o ("MakeLink" : Str)) (b := false) rfl (by decide +kernel) (by decide +kernel)
  · exact isi_of (t := .o ("Put" : Str)) (b := false) rfl (by decide +kernel) (by decide +kernel)
  · exact isi_of (t := .o ("Take" : Str)) (b := true) rfl (by decide +kernel) (by decide +kernel)
  · exact isi_of (t := .o ("Move" : Str)) (b := false) rfl (by decide +kernel) (by decide +kernel)
end Law
end Nw

set_option Elab.async false
set_option linter.all false
set_option maxRecDepth 100000
set_option maxHeartbeats 1000000
namespace Nw
namespace Law
open PySem PySem.Spec
open PyProof.Rows hiding St
open L2
/-! numerals, texts of words with blanks between -/
theorem strOk_lt {s : Str} (h : ∀ k ∈ TL.tl s, k < 128) : PyData.strOk s = true := by
  unfold PyData.strOk
  rw [← Array.all_toList, List.all_eq_true]
  intro k hk
  have := h k hk
  exact decide_eq_true (by omega)
def nz (i : Int) : Str := Str.ofString (toString i)
def NumOk (i : Int) : Prop := 0 ≤ i ∧ i < 1000000000
theorem NumOk.nat {i : Int} (h : NumOk i) : ∃ n : Nat, i = (n : Int) ∧ n < 1000000000 := ⟨i.toNat, by have := h.1; omega, by have := h.1; have := h.2; omega⟩
theorem nz_tl (n : Nat) : TL.tl (nz (n : Int)) = TL.numL n := TL.tl_num n
theorem nz_len {i : Int} (h : NumOk i) : 1 ≤ (nz i).length ∧ (nz i).length ≤ 9 := by
  obtain ⟨n, rfl, hn⟩ := h.nat
  rw [TL.len_tl, nz_tl]
  refine ⟨List.length_pos_iff.mpr (TL.numL_ne n), TL.numL_len (by decide) (by simpa using hn)⟩
theorem nz_free {i : Int} (h : NumOk i) {s : Nat} (hs : s < 48 ∨ 57 < s) : s ∉ TL.tl (nz i) := by
  obtain ⟨n, rfl, hn⟩ := h.nat
  rw [nz_tl]
  exact TL.numL_free hs
theorem nz_digits {i : Int} (h : NumOk i) : ∀ k ∈ TL.tl (nz i), 48 ≤ k ∧ k ≤ 57 := fun k hk => by
  have a : ¬ (k < 48 ∨ 57 < k) := fun z => nz_free h z hk
  omega
theorem numL_head : ∀ (m n : Nat), n ≤ m → 0 < n → (TL.numL n).head? ≠ some 48
  | 0, n, h, h0 => by omega
  | m + 1, n, h, h0 => by
    by_cases h1 : n < 10
    · rw [TL.numL_lt h1]
      intro e
      have : 48 + n = 48 := Option.some.inj e
      omega
    · rw [TL.numL_step (by omega), List.head?_append]
      have ih := numL_head m (n / 10) (by omega) (by omega)
      cases q : TL.numL (n / 10) with
      | nil => exact absurd q (TL.numL_ne _)
      | cons a r =>
        rw [q] at ih
        exact ih
theorem nz_head {i : Int} (h : NumOk i) (h0 : i ≠ 0) : (TL.tl (nz i)).head? ≠ some 48 := by
  obtain ⟨n, rfl, hn⟩ := h.nat
  rw [nz_tl]
  exact numL_head n n (Nat.le_refl _) (by omega)
theorem nz_zero : nz 0 = ("0" : Str) := by decide +kernel
theorem nz_ok {i : Int} (h : NumOk i) : PyData.strOk (nz i) = true := strOk_lt fun k hk => by have := nz_digits h k hk; omega
theorem nz_log {i : Int} (h : NumOk i) : i.natAbs.log2 < 1920 := by
  have h1 : i.natAbs < 1000000000 := by have := h.1; have := h.2; omega
  have h2 : i.natAbs < 2 ^ 1920 := Nat.lt_trans (Nat.lt_of_lt_of_le h1 (by decide : 1000000000 ≤ 2 ^ 30)) (Nat.pow_lt_pow_right (by decide) (by decide))
  by_cases h0 : i.natAbs = 0
  · rw [h0]
    decide
  · exact (Nat.log2_lt h0).mpr h2
theorem nz_int {i : Int} (h : NumOk i) : PySem.intText? (nz i) = some i := by
  obtain ⟨n, rfl, hn⟩ := h.nat
  exact TL.int_num (Nat.le_trans (TL.numL_len (k := 9) (by decide) (by simpa using hn)) (by decide))
theorem app_len (a b : Str) : (a ++ b).length = a.length + b.length := by rw [TL.len_tl, TL.tl_append, List.length_append, ← TL.len_tl, ← TL.len_tl]
theorem joinGo_cons {m : ME} {ms : List ME} {acc y : Str} {δ : En} {c : Cells} (h : m δ c = .ok (.str y) c) (hl : acc.length + y.length ≤ 100000) : joinGo (m :: ms) acc δ c = joinGo ms (acc ++ y) δ c := by
  have zz := zzm
  show (m δ c).bind _ = _
  rw [h]
  show (if (acc ++ y).length ≤ sizeLine then joinGo ms (acc ++ y) δ c else .bad) = _
  rw [if_pos (by rw [app_len]; omega)]
def altL : List ME → List ME
  | [] => []
  | [m] => [m]
  | m :: n :: r => m :: mC (.str (" " : Str)) :: altL (n :: r)
abbrev bl1 : Str := (" " : Str)
theorem bl1_len : bl1.length = 1 := by decide +kernel
theorem join_cons2 (x y : Str) (r : List Str) : Txt.join bl1 (x :: y :: r) = x ++ (bl1 ++ Txt.join bl1 (y :: r)) := by
  rw [TL.join_eq, TL.join_eq]
  refine TL.ext_tl ?_
  rw [TL.tl_join, TL.tl_append, TL.tl_append, TL.tl_join]
  show TL.tl x ++ (TL.tl bl1 ++ _) = _
  rfl
theorem join_one (x : Str) : Txt.join bl1 [x] = x := by
  rw [TL.join_eq]
  refine TL.ext_tl ?_
  rw [TL.tl_join]
  rfl
theorem alt_go {δ : En} {c : Cells} : ∀ {ps : List (ME × Str)} {acc : Str}, ps ≠ [] → (∀ p ∈ ps, p.1 δ c = .ok (.str p.2) c ∧ p.2.length ≤ 5000) → acc.length + 6000 * ps.length ≤ 90000 →
    joinGo (altL (ps.map (·.1))) acc δ c = .ok (.str (acc ++ Txt.join bl1 (ps.map (·.2)))) c
  | [], _, h, _, _ => absurd rfl h
  | [p], acc, _, h, hl => by
    obtain ⟨a, b⟩ := h p List.mem_cons_self
    rw [List.length_singleton] at hl
    show joinGo [p.1] acc δ c = _
    rw [joinGo_cons a (by omega), List.map_singleton, join_one]
    rfl
  | p :: q :: r, acc, _, h, hl => by
    obtain ⟨a, b⟩ := h p List.mem_cons_self
    have b1 := bl1_len
    rw [List.length_cons] at hl
    show joinGo (p.1 :: mC (.str bl1) :: altL ((q :: r).map (·.1))) acc δ c = _
    rw [joinGo_cons a (by omega), joinGo_cons (y := bl1) rfl (by rw [app_len]; omega), alt_go (ps := q :: r) (by simp) (fun x hx => h x (List.mem_cons_of_mem _ hx)) (by rw [app_len, app_len]; omega)]
    have e : Txt.join bl1 ((p :: q :: r).map (·.2)) = p.2 ++ (bl1 ++ Txt.join bl1 ((q :: r).map (·.2))) := join_cons2 _ _ _
    have e2 : acc ++ p.2 ++ bl1 ++ Txt.join bl1 ((q :: r).map (·.2)) = acc ++ Txt.join bl1 ((p :: q :: r).map (·.2)) := by
      rw [e]
      refine TL.ext_tl ?_
      simp only [TL.tl_append, List.append_assoc]
    rw [e2]
theorem fs_ok {δ : En} {c : Cells} {w0 w : Str} {ps : List (ME × Str)} (hw : w = w0 ++ bl1) (hl : w.length ≤ 100) (h0 : ps ≠ []) (h : ∀ p ∈ ps, p.1 δ c = .ok (.str p.2) c ∧ p.2.length ≤ 5000) (hn : ps.length ≤ 10) : mJoin (mC (.str w) :: altL (ps.map (·.1))) δ c = .ok (.str (Txt.join bl1 (w0 :: ps.map (·.2)))) c := by
  have e0 : (Str.empty : Str).length = 0 := rfl
  unfold mJoin
  rw [joinGo_cons (y := w) rfl (by omega), alt_go h0 h (by rw [app_len]; omega)]
  cases ps with
  | nil => exact absurd rfl h0
  | cons p r =>
    have e : Txt.join bl1 (w0 :: (p :: r).map (·.2)) = w0 ++ (bl1 ++ Txt.join bl1 ((p :: r).map (·.2))) := join_cons2 _ _ _
    have e2 : Str.empty ++ w ++ Txt.join bl1 ((p :: r).map (·.2)) = Txt.join bl1 (w0 :: (p :: r).map (·.2)) := by
      rw [e, hw]
      refine TL.ext_tl ?_
      simp only [TL.tl_append, List.append_assoc]
      rfl
    rw [e2]
/-! the texts of deeds -/
def txL6 : List Str := [("/" : Str), ("." : Str), ("../a" : Str), ("a//b/" : Str), ("/x/./.." : Str), ("a" : Str)]
def Rd : Dd → Prop
  | .mfo f n o => NumOk f ∧ isNm n = true ∧ NumOk o
  | .mfi f n o => NumOk f ∧ isNm n = true ∧ NumOk o
  | .mli f n o t => NumOk f ∧ isNm n = true ∧ NumOk o ∧ t ∈ txL6
  | .put f n k => NumOk f ∧ isNm n = true ∧ NumOk k
  | .tak f n => NumOk f ∧ isNm n = true
  | .mov f n g m => NumOk f ∧ isNm n = true ∧ NumOk g ∧ isNm m = true
def parS : Dd → List Str
  | .mfo f n o => [("folder" : Str), nz f, n, nz o]
  | .mfi f n o => [("file" : Str), nz f, n, nz o]
  | .mli f n o t => [("link" : Str), nz f, n, nz o, t]
  | .put f n k => [("put" : Str), nz f, n, nz k]
  | .tak f n => [("take" : Str), nz f, n]
  | .mov f n g m => [("move" : Str), nz f, n, nz g, m]
def tx (d : Dd) : Str := Txt.join bl1 (parS d)
theorem nm_len {n : Str} (h : isNm n = true) : 1 ≤ n.length ∧ n.length ≤ 12 := by
  unfold isNm at h
  simp only [Bool.and_eq_true, decide_eq_true_eq] at h
  exact ⟨h.1, h.2.1⟩
theorem nm_let {n : Str} (h : isNm n = true) : ∀ k ∈ TL.tl n, k ∈ LET := by
  unfold isNm at h
  simp only [Bool.and_eq_true, List.all_eq_true, decide_eq_true_eq] at h
  exact h.2.2.2
theorem let_lt : ∀ k ∈ LET, 45 ≤ k ∧ k < 128 := by decide +kernel
theorem nm_str {n : Str} (h : isNm n = true) : PyData.strOk n = true := strOk_lt fun k hk => (let_lt k (nm_let h k hk)).2
theorem txl_ok : ∀ t ∈ txL6, t.length ≤ 12 ∧ (∀ k ∈ TL.tl t, k < 128) ∧ 32 ∉ TL.tl t ∧ 44 ∉ TL.tl t := by decide +kernel
theorem word_ok : ∀ w ∈ [("folder" : Str), ("file" : Str), ("link" : Str), ("put" : Str), ("take" : Str), ("move" : Str)], w.length ≤ 12 ∧ (∀ k ∈ TL.tl w, k < 128) ∧ 32 ∉ TL.tl w ∧ 44 ∉ TL.tl w := by decide +kernel
structure WdOk (w : Str) : Prop where
  len : w.length ≤ 12
  lt : ∀ k ∈ TL.tl w, k < 128
  f32 : 32 ∉ TL.tl w
  f44 : 44 ∉ TL.tl w
theorem WdOk.str {w : Str} (h : WdOk w) : PyData.strOk w = true := strOk_lt h.lt
theorem wd_nz {i : Int} (h : NumOk i) : WdOk (nz i) := ⟨by have := (nz_len h).2; omega, fun k hk => by have := nz_digits h k hk; omega, nz_free h (by decide), nz_free h (by decide)⟩
theorem wd_nm {n : Str} (h : isNm n = true) : WdOk n := ⟨(nm_len h).2, fun k hk => (let_lt k (nm_let h k hk)).2, fun z => by have := (let_lt _ (nm_let h _ z)).1; omega, fun z => by have := (let_lt _ (nm_let h _ z)).1; omega⟩
theorem wd_tx {t : Str} (h : t ∈ txL6) : WdOk t := ⟨(txl_ok t h).1, (txl_ok t h).2.1, (txl_ok t h).2.2.1, (txl_ok t h).2.2.2⟩
theorem wd_wd {w : Str} (h : w ∈ [("folder" : Str), ("file" : Str), ("link" : Str), ("put" : Str), ("take" : Str), ("move" : Str)]) : WdOk w := ⟨(word_ok w h).1, (word_ok w h).2.1, (word_ok w h).2.2.1, (word_ok w h).2.2.2⟩
theorem par_ok {d : Dd} (h : Rd d) : ∀ w ∈ parS d, WdOk w := fun w hw => by
  cases d with
  | mfo f n o =>
    obtain ⟨a, b, e⟩ := h
    simp only [parS, List.mem_cons, List.not_mem_nil, or_false] at hw
    rcases hw with rfl | rfl | rfl | rfl
    · exact wd_wd (by simp)
    · exact wd_nz a
    · exact wd_nm b
    · exact wd_nz e
  | mfi f n o =>
    obtain ⟨a, b, e⟩ := h
    simp only [parS, List.mem_cons, List.not_mem_nil, or_false] at hw
    rcases hw with rfl | rfl | rfl | rfl
    · exact wd_wd (by simp)
    · exact wd_nz a
    · exact wd_nm b
    · exact wd_nz e
  | mli f n o t =>
    obtain ⟨a, b, e, g⟩ := h
    simp only [parS, List.mem_cons, List.not_mem_nil, or_false] at hw
    rcases hw with rfl | rfl | rfl | rfl | rfl
    · exact wd_wd (by simp)
    · exact wd_nz a
    · exact wd_nm b
    · exact wd_nz e
    · exact wd_tx g
  | put f n k =>
    obtain ⟨a, b, e⟩ := h
    simp only [parS, List.mem_cons, List.not_mem_nil, or_false] at hw
    rcases hw with rfl | rfl | rfl | rfl
    · exact wd_wd (by simp)
    · exact wd_nz a
    · exact wd_nm b
    · exact wd_nz e
  | tak f n =>
    obtain ⟨a, b⟩ := h
    simp only [parS, List.mem_cons, List.not_mem_nil, or_false] at hw
    rcases hw with rfl | rfl | rfl
    · exact wd_wd (by simp)
    · exact wd_nz a
    · exact wd_nm b
  | mov f n g m =>
    obtain ⟨a, b, e, k⟩ := h
    simp only [parS, List.mem_cons, List.not_mem_nil, or_false] at hw
    rcases hw with rfl | rfl | rfl | rfl | rfl
    · exact wd_wd (by simp)
    · exact wd_nz a
    · exact wd_nm b
    · exact wd_nz e
    · exact wd_nm k
theorem par_len (d : Dd) : 3 ≤ (parS d).length ∧ (parS d).length ≤ 5 := by cases d <;> (unfold parS; simp)
theorem tl_bl : TL.tl bl1 = [32] := by decide +kernel
theorem tx_split {d : Dd} (h : Rd d) : Txt.split (tx d) bl1 = parS d := by
  have hl := par_len d
  exact TL.split_join (s := 32) (S := []) tl_bl (by decide +kernel) (fun e => by rw [e] at hl; exact absurd hl.1 (by decide)) fun p hp => (par_ok h p hp).f32
theorem mem_joinT {S : List Nat} {k : Nat} : ∀ {ps : List (List Nat)}, k ∈ TL.joinL S ps → k ∈ S ∨ ∃ p ∈ ps, k ∈ p
  | [], h => by cases h
  | [p], h => .inr ⟨p, List.mem_cons_self, h⟩
  | p :: q :: r, h => by
    have h : k ∈ p ++ (S ++ TL.joinL S (q :: r)) := h
    rcases List.mem_append.mp h with h | h
    · exact .inr ⟨p, List.mem_cons_self, h⟩
    · rcases List.mem_append.mp h with h | h
      · exact .inl h
      · rcases mem_joinT h with h | ⟨x, hx, h⟩
        · exact .inl h
        · exact .inr ⟨x, List.mem_cons_of_mem _ hx, h⟩
theorem tx_tl (d : Dd) : TL.tl (tx d) = TL.joinL [32] ((parS d).map TL.tl) := by
  unfold tx
  rw [TL.join_eq, TL.tl_join, tl_bl]
theorem tx_free {d : Dd} (h : Rd d) : 44 ∉ TL.tl (tx d) := fun z => by
  rw [tx_tl] at z
  rcases mem_joinT z with z | ⟨p, hp, z⟩
  · simp at z
  · obtain ⟨w, hw, rfl⟩ := List.mem_map.mp hp
    exact (par_ok h w hw).f44 z
theorem tx_has (d : Dd) : 32 ∈ TL.tl (tx d) := by
  rw [tx_tl]
  cases d <;> exact List.mem_append_right _ (List.mem_append_left _ (List.mem_singleton.mpr rfl))
theorem joinL_len : ∀ {ps : List (List Nat)} {b : Nat} {S : List Nat}, (∀ p ∈ ps, p.length ≤ b) → (TL.joinL S ps).length ≤ (b + S.length) * ps.length
  | [], b, S, _ => Nat.zero_le _
  | [p], b, S, h => by
    have := h p List.mem_cons_self
    show p.length ≤ _
    simp
    omega
  | p :: q :: r, b, S, h => by
    have h1 := h p List.mem_cons_self
    have ih := joinL_len (ps := q :: r) (b := b) (S := S) fun x hx => h x (List.mem_cons_of_mem _ hx)
    show (p ++ (S ++ TL.joinL S (q :: r))).length ≤ _
    rw [List.length_append, List.length_append, List.length_cons, Nat.mul_succ]
    omega
theorem tx_len {d : Dd} (h : Rd d) : (tx d).length ≤ 65 := by
  have hl := par_len d
  have := joinL_len (ps := (parS d).map TL.tl) (b := 12) (S := [32]) fun p hp => by
    obtain ⟨w, hw, rfl⟩ := List.mem_map.mp hp
    rw [← TL.len_tl]
    exact (par_ok h w hw).len
  rw [TL.len_tl, tx_tl]
  rw [List.length_map, List.length_singleton] at this
  have e : (12 + 1) * (parS d).length ≤ 13 * 5 := Nat.mul_le_mul_left 13 hl.2
  omega
theorem tx_str {d : Dd} (h : Rd d) : PyData.strOk (tx d) = true := by
  refine strOk_lt fun k hk => ?_
  rw [tx_tl] at hk
  rcases mem_joinT hk with z | ⟨p, hp, z⟩
  · simp at z
    omega
  · obtain ⟨w, hw, rfl⟩ := List.mem_map.mp hp
    exact (par_ok h w hw).lt k z
end Law
end Nw

set_option Elab.async false
set_option linter.all false
set_option maxRecDepth 100000
set_option maxHeartbeats 1000000
namespace Nw
namespace Law
open PySem PySem.Spec
open PyProof.Rows hiding St
open L2
/-! deeds' texts by the program -/
theorem ret_of {m : ME} {δ : En} {c c' : Cells} {d : D} (h : m δ c = .ok d c') : (mRet m) δ c = .rt d c' := by
  unfold mRet
  rw [h]
  rfl
theorem fmt_int {m : ME} {δ : En} {c : Cells} {i : Int} (h : m δ c = .ok (.int i) c) (hi : NumOk i) : (mFmt m) δ c = .ok (.str (nz i)) c ∧ (nz i).length ≤ 5000 := by
  refine ⟨?_, by have := (nz_len hi).2; omega⟩
  unfold mFmt
  rw [h]
  show fmtGo (.int i) c = _
  unfold fmtGo
  dsimp only
  rw [if_pos (nz_log hi)]
  rfl
theorem fmt_str {m : ME} {δ : En} {c : Cells} {s : Str} (h : m δ c = .ok (.str s) c) (hs : s.length ≤ 12) : (mFmt m) δ c = .ok (.str s) c ∧ s.length ≤ 5000 := by
  have zz := zzm
  refine ⟨?_, by omega⟩
  unfold mFmt
  rw [h]
  show fmtGo (.str s) c = _
  unfold fmtGo
  dsimp only
  rw [if_pos (by omega)]
theorem fld0 {f : Str} {cs : List Str} {d v : D} {c : Cells} (h : fldGo f cs d c = .ok v c) : (mFld f cs (mVar 0)) [some d] c = .ok v c := h
theorem deed_text_ok {d : Dd} {c : Cells} (h : Rd d) : m_deed_text [deedD d] c = .ok (.str (tx d)) c := by
  have i1 := disi_MakeFolder (d := d) (c := c)
  have i2 := disi_MakeFile (d := d) (c := c)
  have i3 := disi_MakeLink (d := d) (c := c)
  have i4 := disi_Put (d := d) (c := c)
  have i5 := disi_Take (d := d) (c := c)
  have ff := fld0 (dfl_folder (d := d) (c := c))
  have fn := fld0 (dfl_name (d := d) (c := c))
  have B : mb_deed_text [some (deedD d)] c = .rt (.str (tx d)) c := by
    have sk : ∀ {P : Ty → Bool} {s k : MS}, isiD tys P (deedD d) c = .ok (.bl false) c → (mSeq (mIfS (mB (mIsi tys P (mVar 0))) s mSkip) k) [some (deedD d)] c = k [some (deedD d)] c := fun {P s k} hi => by
      simp only [mSeq, mIfS, mB, mIsi, mVar, mSkip, Out.bind, Out.fl, asB, hi, List.getElem?_cons_zero, Bool.false_eq_true, ↓reduceIte]
    have go : ∀ {P : Ty → Bool} {m : ME} {k : MS} {r : D}, isiD tys P (deedD d) c = .ok (.bl true) c → m [some (deedD d)] c = .ok r c → (mSeq (mIfS (mB (mIsi tys P (mVar 0))) (mRet m) mSkip) k) [some (deedD d)] c = .rt r c := fun {P m k r} hi hm => by
      simp only [mSeq, mIfS, mB, mIsi, mVar, mSkip, mRet, Out.bind, Out.fl, asB, hi, hm, List.getElem?_cons_zero, ↓reduceIte]
    unfold mb_deed_text
    cases d with
    | mfo f n o =>
      obtain ⟨a, b, e⟩ := h
      have fo := fld0 (dfl_owner_mfo (f := f) (n := n) (o := o) (c := c))
      exact go i1 (fs_ok (w0 := ("folder" : Str)) (ps := [(_, nz f), (_, n), (_, nz o)]) (by decide +kernel) (by decide +kernel) (by simp) (fun p hp => by
        simp only [List.mem_cons, List.not_mem_nil, or_false] at hp
        rcases hp with rfl | rfl | rfl
        · exact fmt_int ff a
        · exact fmt_str fn (nm_len b).2
        · exact fmt_int fo e) (by simp))
    | mfi f n o =>
      obtain ⟨a, b, e⟩ := h
      have fo := fld0 (dfl_owner_mfi (f := f) (n := n) (o := o) (c := c))
      rw [sk i1]
      exact go i2 (fs_ok (w0 := ("file" : Str)) (ps := [(_, nz f), (_, n), (_, nz o)]) (by decide +kernel) (by decide +kernel) (by simp) (fun p hp => by
        simp only [List.mem_cons, List.not_mem_nil, or_false] at hp
        rcases hp with rfl | rfl | rfl
        · exact fmt_int ff a
        · exact fmt_str fn (nm_len b).2
        · exact fmt_int fo e) (by simp))
    | mli f n o t =>
      obtain ⟨a, b, e, g⟩ := h
      have fo := fld0 (dfl_owner_mli (f := f) (n := n) (o := o) (t := t) (c := c))
      have ft := fld0 (dfl_text_mli (f := f) (n := n) (o := o) (t := t) (c := c))
      rw [sk i1, sk i2]
      exact go i3 (fs_ok (w0 := ("link" : Str)) (ps := [(_, nz f), (_, n), (_, nz o), (_, t)]) (by decide +kernel) (by decide +kernel) (by simp) (fun p hp => by
        simp only [List.mem_cons, List.not_mem_nil, or_false] at hp
        rcases hp with rfl | rfl | rfl | rfl
        · exact fmt_int ff a
        · exact fmt_str fn (nm_len b).2
        · exact fmt_int fo e
        · exact fmt_str ft (txl_ok t g).1) (by simp))
    | put f n k =>
      obtain ⟨a, b, e⟩ := h
      have fk := fld0 (dfl_node_put (f := f) (n := n) (k := k) (c := c))
      rw [sk i1, sk i2, sk i3]
      exact go i4 (fs_ok (w0 := ("put" : Str)) (ps := [(_, nz f), (_, n), (_, nz k)]) (by decide +kernel) (by decide +kernel) (by simp) (fun p hp => by
        simp only [List.mem_cons, List.not_mem_nil, or_false] at hp
        rcases hp with rfl | rfl | rfl
        · exact fmt_int ff a
        · exact fmt_str fn (nm_len b).2
        · exact fmt_int fk e) (by simp))
    | tak f n =>
      obtain ⟨a, b⟩ := h
      rw [sk i1, sk i2, sk i3, sk i4]
      exact go i5 (fs_ok (w0 := ("take" : Str)) (ps := [(_, nz f), (_, n)]) (by decide +kernel) (by decide +kernel) (by simp) (fun p hp => by
        simp only [List.mem_cons, List.not_mem_nil, or_false] at hp
        rcases hp with rfl | rfl
        · exact fmt_int ff a
        · exact fmt_str fn (nm_len b).2) (by simp))
    | mov f n g m =>
      obtain ⟨a, b, e, k⟩ := h
      have fg := fld0 (dfl_goal_mov (f := f) (n := n) (g := g) (m := m) (c := c))
      have fm := fld0 (dfl_other_mov (f := f) (n := n) (g := g) (m := m) (c := c))
      rw [sk i1, sk i2, sk i3, sk i4, sk i5]
      exact ret_of (fs_ok (w0 := ("move" : Str)) (ps := [(_, nz f), (_, n), (_, nz g), (_, m)]) (by decide +kernel) (by decide +kernel) (by simp) (fun p hp => by
        simp only [List.mem_cons, List.not_mem_nil, or_false] at hp
        rcases hp with rfl | rfl | rfl | rfl
        · exact fmt_int ff a
        · exact fmt_str fn (nm_len b).2
        · exact fmt_int fg e
        · exact fmt_str fm (nm_len k).2) (by simp))
  unfold m_deed_text mkFn
  rw [if_pos (show ([deedD d] : List D).length = 1 from rfl)]
  have e9 : ([deedD d] : List D).map some ++ List.replicate (1 - 1) none = [some (deedD d)] := rfl
  rw [e9, B]
/-! numbers, names, paths read -/
theorem fig_mem : ∀ k, k < 58 → 48 ≤ k → k ∈ ("0123456789" : Str).cps.toList := by decide +kernel
theorem read_number_ok {i : Int} {p : D} {c : Cells} (h : NumOk i) : m_read_number [.str (nz i), p] c = .ok (.int i) c := by
  have zz := zzm
  obtain ⟨l1, l2⟩ := nz_len h
  obtain ⟨t, ht⟩ : ∃ t, t = nz i := ⟨_, rfl⟩
  have hs := nz_ok h
  have hdg := nz_digits h
  have hint := nz_int h
  have hhd := nz_head h
  rw [← ht] at l1 l2 hs hdg hint hhd ⊢
  have ln : lenD [.str t] c = .ok (.int (t.length : Nat)) c := by
    show (if t.length ≤ sizeLine then Out.ok (D.int (t.length : Nat)) c else .bad) = _
    rw [if_pos (by omega)]
  have g1 : (1 : Int) ≤ ((t.length : Nat) : Int) := by omega
  have g2 : ((t.length : Nat) : Int) ≤ 9 := by omega
  have lc := lc_map (chk := (strSeq t).chk) (g := gN 2) (me := read_number_e0) (δ := [some (.str t), some p, none]) (c := c) (enc := fun k : Nat => D.str ⟨#[k]⟩) (dec := fun _ => D.bl true) (l := t.cps.toList) rfl
    (fun k hk => ⟨[some (.str t), some p, some (.str ⟨#[k]⟩)], rfl, by
      have hk := hdg k hk
      have hm := fig_mem k (by omega) hk.1
      unfold read_number_e0
      simp [mOp, mVar, mC, Out.bind, inD, hm]⟩) (by
      have : t.cps.toList.length ≤ 9 := l2
      omega)
  have hsq : seqAny (.str t) c = .ok (strSeq t) c := rfl
  have hds : (strSeq t).ds = t.cps.toList.map fun k : Nat => D.str ⟨#[k]⟩ := rfl
  have al : allD [.lst (t.cps.toList.map fun _ => D.bl true)] c = .ok (.bl true) c := by
    have e : (t.cps.toList.map fun _ => D.bl true) = (t.cps.toList.map fun _ => true).map D.bl := by rw [List.map_map]; rfl
    unfold allD
    have : lstOf c (.lst (t.cps.toList.map fun _ => D.bl true)) = some (t.cps.toList.map fun _ => D.bl true) := rfl
    dsimp only
    rw [this, e]
    dsimp only
    rw [allBl_map]
    dsimp only
    congr 2
    simp
  have cz : t.cps.toList ≠ [] := fun e => by
    have : t.cps.toList.length = 0 := by rw [e]; rfl
    have : t.length = 0 := this
    omega
  obtain ⟨k0, hk0⟩ : ∃ k, t.cps.toList.head? = some k := by
    cases q : t.cps.toList with
    | nil => exact absurd q cz
    | cons a r => exact ⟨a, rfl⟩
  have ix := ix_first (c := c) hk0 (by omega)
  have hk0m : k0 ∈ t.cps.toList := List.mem_of_mem_head? (by rw [hk0]; rfl)
  have hk0d := hdg k0 hk0m
  have q1 : EQ (.str ⟨#[k0]⟩) (.str ("0" : Str)) c = .ok ((⟨#[k0]⟩ : Str) == ("0" : Str)) c := EQ_str (strOk_lt fun k hk => by
    have : k = k0 := by simpa [TL.tl] using hk
    omega) (by decide +kernel)
  have e0 : ("0" : Str) = ⟨#[48]⟩ := by decide +kernel
  have it : intTD [.str t] c = .ok (.int i) c := by
    unfold intTD
    dsimp only
    rw [hint]
    dsimp only
    rw [if_pos (by omega)]
  unfold m_read_number mb_read_number
  by_cases hi : i = 0
  · have et : t = ("0" : Str) := by rw [ht, hi]; exact nz_zero
    have q2 : EQ (.str t) (.str ("0" : Str)) c = .ok true c := by
      rw [EQ_str hs (by decide +kernel), et, beq_self_eq_true]
    have q1 : EQ (.str ⟨#[k0]⟩) (.str ("0" : Str)) c = .ok true c := by
      rw [q1]
      have : k0 = 48 := by
        rw [et, e0] at hk0
        exact (Option.some.inj hk0).symm
      rw [this, e0, beq_self_eq_true]
    simp only [mkFn, mkFnB, mSeq, mIfS, mB, mOp, mVar, mC, mCB, mCons, mNil, mSet, mRet, mExpr, mSkip, mOrT, mAndT, mNotT, mAnd, mOr, mNot, mIf, mChain, mIsi, mSl, mLc, mLcL, mLcC, mEnum, mBM, mBM0, mAsg, mPar, mLst, lstD, mLstC, lstC, mTup, tupD, mCall, mCallV, mFld, mMeth0, mMeth, mMake, mRaise, mTry, mTryN, wipeE, eqO, neO, asB, asI, negD, Out.bind, Out.fl, zz0, zz1, zz2, zz3, zz4, zz5, zz6, zz8, zz10, zz13, zz16, List.length_cons, List.length_nil, List.map_cons, List.map_nil, List.replicate, List.cons_append, List.nil_append, List.append_nil, List.set_cons_zero, List.set_cons_succ, List.getElem?_cons_zero, List.getElem?_cons_succ, List.zip_cons_cons, List.zip_nil_right, List.foldl_cons, List.foldl_nil, Nat.reduceAdd, Nat.reduceSub, Bool.not_true, Bool.not_false, Bool.false_eq_true, Bool.true_eq_false, decide_true, decide_false, ↓reduceIte, ln, leD, g1, g2, hsq, hds, lc, al, ix, q1, q2, it]
  · have hne := hhd hi
    have q1 : EQ (.str ⟨#[k0]⟩) (.str ("0" : Str)) c = .ok false c := by
      rw [q1]
      have : ((⟨#[k0]⟩ : Str) == ("0" : Str)) = false := by
        rw [beq_eq_false_iff_ne, e0]
        intro e
        have : k0 = 48 := by simpa using e
        rw [this] at hk0
        exact hne hk0
      rw [this]
    simp only [mkFn, mkFnB, mSeq, mIfS, mB, mOp, mVar, mC, mCB, mCons, mNil, mSet, mRet, mExpr, mSkip, mOrT, mAndT, mNotT, mAnd, mOr, mNot, mIf, mChain, mIsi, mSl, mLc, mLcL, mLcC, mEnum, mBM, mBM0, mAsg, mPar, mLst, lstD, mLstC, lstC, mTup, tupD, mCall, mCallV, mFld, mMeth0, mMeth, mMake, mRaise, mTry, mTryN, wipeE, eqO, neO, asB, asI, negD, Out.bind, Out.fl, zz0, zz1, zz2, zz3, zz4, zz5, zz6, zz8, zz10, zz13, zz16, List.length_cons, List.length_nil, List.map_cons, List.map_nil, List.replicate, List.cons_append, List.nil_append, List.append_nil, List.set_cons_zero, List.set_cons_succ, List.getElem?_cons_zero, List.getElem?_cons_succ, List.zip_cons_cons, List.zip_nil_right, List.foldl_cons, List.foldl_nil, Nat.reduceAdd, Nat.reduceSub, Bool.not_true, Bool.not_false, Bool.false_eq_true, Bool.true_eq_false, decide_true, decide_false, ↓reduceIte, ln, leD, g1, g2, hsq, hds, lc, al, ix, q1, it]
theorem asked_name_ok {n : Str} {p : D} {c : Cells} (h : isNm n = true) : m_asked_name [.str n, p] c = .ok (.str n) c := by
  have zz := zzm
  have nk := is_name_str n c (by have := (nm_len h).2; omega)
  rw [h] at nk
  obtain ⟨F, hF⟩ : ∃ F : MF, F = m_is_name := ⟨_, rfl⟩
  unfold m_asked_name mb_asked_name
  rw [← hF] at nk ⊢
  simp only [mkFn, mkFnB, mSeq, mIfS, mB, mOp, mVar, mC, mCB, mCons, mNil, mSet, mRet, mExpr, mSkip, mOrT, mAndT, mNotT, mAnd, mOr, mNot, mIf, mChain, mIsi, mSl, mLc, mLcL, mLcC, mEnum, mBM, mBM0, mAsg, mPar, mLst, lstD, mLstC, lstC, mTup, tupD, mCall, mCallV, mFld, mMeth0, mMeth, mMake, mRaise, mTry, mTryN, wipeE, eqO, neO, asB, asI, negD, Out.bind, Out.fl, zz0, zz1, zz2, zz3, zz4, zz5, zz6, zz8, zz10, zz13, zz16, List.length_cons, List.length_nil, List.map_cons, List.map_nil, List.replicate, List.cons_append, List.nil_append, List.append_nil, List.set_cons_zero, List.set_cons_succ, List.getElem?_cons_zero, List.getElem?_cons_succ, List.zip_cons_cons, List.zip_nil_right, List.foldl_cons, List.foldl_nil, Nat.reduceAdd, Nat.reduceSub, Bool.not_true, Bool.not_false, Bool.false_eq_true, Bool.true_eq_false, decide_true, decide_false, ↓reduceIte, nk]
theorem comp6 : ∀ p ∈ [("" : Str), ("." : Str), (".." : Str), ("a" : Str), ("b" : Str), ("x" : Str)], CompS p := fun p hp => by
  simp only [List.mem_cons, List.not_mem_nil, or_false] at hp
  rcases hp with rfl | rfl | rfl | rfl | rfl | rfl <;> exact ⟨by decide +kernel, by decide +kernel, by decide +kernel, by decide +kernel⟩
theorem tx6_ok {t : Str} (h : t ∈ txL6) : TextOk t := by
  unfold txL6 at h
  simp only [List.mem_cons, List.not_mem_nil, or_false] at h
  have go : ∀ {cs : List Str} {t : Str}, cs ≠ [] → (∀ p ∈ cs, p ∈ [("" : Str), ("." : Str), (".." : Str), ("a" : Str), ("b" : Str), ("x" : Str)]) → cs.length ≤ 1000 → t = Txt.join ("/" : Str) cs → t ≠ ("" : Str) → TextOk t := fun h1 h2 h3 h4 h5 => text_ok h1 (fun p hp => comp6 p (h2 p hp)) h3 h4 h5
  rcases h with rfl | rfl | rfl | rfl | rfl | rfl
  · exact go (cs := [("" : Str), ("" : Str)]) (by decide) (by decide +kernel) (by decide) (by decide +kernel) (by decide +kernel)
  · exact go (cs := [("." : Str)]) (by decide) (by decide +kernel) (by decide) (by decide +kernel) (by decide +kernel)
  · exact go (cs := [(".." : Str), ("a" : Str)]) (by decide) (by decide +kernel) (by decide) (by decide +kernel) (by decide +kernel)
  · exact go (cs := [("a" : Str), ("" : Str), ("b" : Str), ("" : Str)]) (by decide) (by decide +kernel) (by decide) (by decide +kernel) (by decide +kernel)
  · exact go (cs := [("" : Str), ("x" : Str), ("." : Str), (".." : Str)]) (by decide) (by decide +kernel) (by decide) (by decide +kernel) (by decide +kernel)
  · exact go (cs := [("a" : Str)]) (by decide) (by decide +kernel) (by decide) (by decide +kernel) (by decide +kernel)
theorem asked_path_ok {t : Str} {p : D} {c : Cells} (h : t ∈ txL6) : m_asked_path [.str t, p] c = .ok (.str t) c := by
  have nk := (tx6_ok h).1 c
  obtain ⟨F, hF⟩ : ∃ F : MF, F = m_is_path_text := ⟨_, rfl⟩
  unfold m_asked_path mb_asked_path
  rw [← hF] at nk ⊢
  simp only [mkFn, mkFnB, mSeq, mIfS, mB, mOp, mVar, mC, mCB, mCons, mNil, mSet, mRet, mExpr, mSkip, mOrT, mAndT, mNotT, mAnd, mOr, mNot, mIf, mChain, mIsi, mSl, mLc, mLcL, mLcC, mEnum, mBM, mBM0, mAsg, mPar, mLst, lstD, mLstC, lstC, mTup, tupD, mCall, mCallV, mFld, mMeth0, mMeth, mMake, mRaise, mTry, mTryN, wipeE, eqO, neO, asB, asI, negD, Out.bind, Out.fl, zz0, zz1, zz2, zz3, zz4, zz5, zz6, zz8, zz10, zz13, zz16, List.length_cons, List.length_nil, List.map_cons, List.map_nil, List.replicate, List.cons_append, List.nil_append, List.append_nil, List.set_cons_zero, List.set_cons_succ, List.getElem?_cons_zero, List.getElem?_cons_succ, List.zip_cons_cons, List.zip_nil_right, List.foldl_cons, List.foldl_nil, Nat.reduceAdd, Nat.reduceSub, Bool.not_true, Bool.not_false, Bool.false_eq_true, Bool.true_eq_false, decide_true, decide_false, ↓reduceIte, nk]
end Law
end Nw

set_option Elab.async false
set_option linter.all false
set_option maxRecDepth 100000
set_option maxHeartbeats 1000000
namespace Nw
namespace Law
open PySem PySem.Spec
open PyProof.Rows hiding St
open L2
theorem seq_rt {a b : MS} {δ : En} {c c' : Cells} {d : D} (h : a δ c = .rt d c') : mSeq a b δ c = .rt d c' := by
  unfold mSeq
  rw [h]
/-! alike -/
theorem in_strs {s : Str} {l : List Str} {c : Cells} : inD false (.str s) (.lst (l.map D.str)) c = .ok (.bl (decide (s ∈ l))) c := by
  have e : ∀ x y : Str, (x == y) = (y == x) := fun x y => by rw [Bool.eq_iff_iff, beq_iff_eq, beq_iff_eq]; exact ⟨Eq.symm, Eq.symm⟩
  have h1 : (l.map D.str).all flatD = true := by
    rw [List.all_map]
    exact List.all_eq_true.mpr fun x _ => rfl
  have h2 : ((l.map D.str).any fun d => eqFl d (.str s)) = decide (s ∈ l) := by
    rw [List.any_map, Bool.eq_iff_iff, List.any_eq_true, decide_eq_true_iff]
    constructor
    · rintro ⟨x, hx, h⟩
      have h : (x == s) = true := h
      rw [← eq_of_beq h]
      exact hx
    · intro h
      exact ⟨s, h, by show (s == s) = true; exact beq_self_eq_true s⟩
  simp only [inD, items, flatD, h1, h2]
  simp
theorem in_tup {s : Str} {l : List Str} {b : Bool} {c : Cells} (hb : decide (s ∈ l) = b) : inD false (.str s) (.tup (l.map D.str)) c = .ok (.bl b) c := by
  have := in_strs (s := s) (l := l) (c := c)
  rw [hb] at this
  exact this
/-! rows read -/
theorem star_of {gs : MGs} {m : ME} {δ δ' : En} {c : Cells} {x : D} {r : List D} (h : m δ c = .ok (.lst (x :: r)) c) (hz : r.length ≤ 1000) (hg : gs [x, .lst r] δ = some δ') : mStar gs m δ c = .nx δ' c := by
  have zz := zzm
  unfold mStar
  rw [h]
  show (match lstOf c (.lst (x :: r)) with
    | some (x :: r) => (lstD r c).fl δ fun l c2 => (match gs [x, l] δ with
      | some δ' => Fl.nx δ' c2
      | none => Fl.bad)
    | _ => Fl.bad) = _
  have e : lstOf c (.lst (x :: r)) = some (x :: r) := rfl
  rw [e]
  dsimp only
  unfold lstD
  rw [if_pos (by omega)]
  show (match gs [x, .lst r] δ with
      | some δ' => Fl.nx δ' c
      | none => Fl.bad) = _
  rw [hg]
theorem split_tx {d : Dd} {c : Cells} (h : Rd d) : splitD (.str (tx d)) [.str (" " : Str)] c = .ok (.lst ((parS d).map D.str)) c := by
  have zz := zzm
  have hl := tx_len h
  unfold splitD
  dsimp only
  rw [if_pos ⟨by decide +kernel, by omega⟩, tx_split h]
theorem EQ_ii {i : Int} {c : Cells} : EQ (.int i) (.int i) c = .ok true c := by
  rw [EQ_ok rfl rfl]
  show Out.ok (i == i) c = _
  rw [beq_self_eq_true]
theorem EQ_ij {i j : Int} {c : Cells} (h : (i == j) = false) : EQ (.int i) (.int j) c = .ok false c := by
  rw [EQ_ok rfl rfl]
  show Out.ok (i == j) c = _
  rw [h]
abbrev wds : List Str := [("folder" : Str), ("file" : Str), ("link" : Str), ("put" : Str), ("take" : Str), ("move" : Str)]
theorem EQw {x y : Str} {b : Bool} {c : Cells} (hx : x ∈ wds) (hy : y ∈ wds) (hb : (x == y) = b) : EQ (.str x) (.str y) c = .ok b c := by rw [EQ_str (wd_wd hx).str (wd_wd hy).str, hb]
theorem making_ok {w n : Str} {f o : Int} {p r : D} {c : Cells} (hf : NumOk f) (hn : isNm n = true) (ho : NumOk o)
    (h : (w = ("folder" : Str) ∧ r = deedD (.mfo f n o)) ∨ (w = ("file" : Str) ∧ r = deedD (.mfi f n o)) ∨ (w = ("put" : Str) ∧ r = deedD (.put f n o))) : m_read_making [.str w, .lst [.str (nz f), .str n, .str (nz o)], p] c = .ok r c := by
  have i0 : ixD (.lst [.str (nz f), .str n, .str (nz o)]) (.int 0) c = .ok (.str (nz f)) c := ixD_lst (i := 0) rfl
  have i1 : ixD (.lst [.str (nz f), .str n, .str (nz o)]) (.int 1) c = .ok (.str n) c := ixD_lst (i := 1) rfl
  have i2 : ixD (.lst [.str (nz f), .str n, .str (nz o)]) (.int 2) c = .ok (.str (nz o)) c := ixD_lst (i := 2) rfl
  have r0 := read_number_ok (p := p) (c := c) hf
  have r1 := asked_name_ok (p := p) (c := c) hn
  have r2 := read_number_ok (p := p) (c := c) ho
  have m1 := make_mfo (f := f) (n := n) (o := o) (c := c)
  have m2 := make_mfi (f := f) (n := n) (o := o) (c := c)
  have m3 := make_put (f := f) (n := n) (k := o) (c := c)
  obtain ⟨F, hF⟩ : ∃ F : MF, F = m_read_number := ⟨_, rfl⟩
  obtain ⟨F2, hF2⟩ : ∃ F : MF, F = m_asked_name := ⟨_, rfl⟩
  unfold m_read_making mb_read_making
  rw [← hF] at r0 r2 ⊢
  rw [← hF2] at r1 ⊢
  rcases h with ⟨rfl, rfl⟩ | ⟨rfl, rfl⟩ | ⟨rfl, rfl⟩
  · have q1 : EQ (.str ("folder" : Str)) (.str ("folder" : Str)) c = .ok true c := EQw (by simp) (by simp) (by decide +kernel)
    simp only [mkFn, mkFnB, mSeq, mIfS, mB, mOp, mVar, mC, mCB, mCons, mNil, mSet, mRet, mExpr, mSkip, mOrT, mAndT, mNotT, mAnd, mOr, mNot, mIf, mChain, mIsi, mSl, mLc, mLcL, mLcC, mEnum, mBM, mBM0, mAsg, mPar, mLst, lstD, mLstC, lstC, mTup, tupD, mCall, mCallV, mFld, mMeth0, mMeth, mMake, mRaise, mTry, mTryN, wipeE, eqO, neO, asB, asI, negD, Out.bind, Out.fl, zz0, zz1, zz2, zz3, zz4, zz5, zz6, zz8, zz10, zz13, zz16, List.length_cons, List.length_nil, List.map_cons, List.map_nil, List.replicate, List.cons_append, List.nil_append, List.append_nil, List.set_cons_zero, List.set_cons_succ, List.getElem?_cons_zero, List.getElem?_cons_succ, List.zip_cons_cons, List.zip_nil_right, List.foldl_cons, List.foldl_nil, Nat.reduceAdd, Nat.reduceSub, Bool.not_true, Bool.not_false, Bool.false_eq_true, Bool.true_eq_false, decide_true, decide_false, ↓reduceIte, i0, i1, i2, r0, r1, r2, q1, m1]
  · have q1 : EQ (.str ("file" : Str)) (.str ("folder" : Str)) c = .ok false c := EQw (by simp) (by simp) (by decide +kernel)
    have q2 : EQ (.str ("file" : Str)) (.str ("file" : Str)) c = .ok true c := EQw (by simp) (by simp) (by decide +kernel)
    simp only [mkFn, mkFnB, mSeq, mIfS, mB, mOp, mVar, mC, mCB, mCons, mNil, mSet, mRet, mExpr, mSkip, mOrT, mAndT, mNotT, mAnd, mOr, mNot, mIf, mChain, mIsi, mSl, mLc, mLcL, mLcC, mEnum, mBM, mBM0, mAsg, mPar, mLst, lstD, mLstC, lstC, mTup, tupD, mCall, mCallV, mFld, mMeth0, mMeth, mMake, mRaise, mTry, mTryN, wipeE, eqO, neO, asB, asI, negD, Out.bind, Out.fl, zz0, zz1, zz2, zz3, zz4, zz5, zz6, zz8, zz10, zz13, zz16, List.length_cons, List.length_nil, List.map_cons, List.map_nil, List.replicate, List.cons_append, List.nil_append, List.append_nil, List.set_cons_zero, List.set_cons_succ, List.getElem?_cons_zero, List.getElem?_cons_succ, List.zip_cons_cons, List.zip_nil_right, List.foldl_cons, List.foldl_nil, Nat.reduceAdd, Nat.reduceSub, Bool.not_true, Bool.not_false, Bool.false_eq_true, Bool.true_eq_false, decide_true, decide_false, ↓reduceIte, i0, i1, i2, r0, r1, r2, q1, q2, m2]
  · have q1 : EQ (.str ("put" : Str)) (.str ("folder" : Str)) c = .ok false c := EQw (by simp) (by simp) (by decide +kernel)
    have q2 : EQ (.str ("put" : Str)) (.str ("file" : Str)) c = .ok false c := EQw (by simp) (by simp) (by decide +kernel)
    simp only [mkFn, mkFnB, mSeq, mIfS, mB, mOp, mVar, mC, mCB, mCons, mNil, mSet, mRet, mExpr, mSkip, mOrT, mAndT, mNotT, mAnd, mOr, mNot, mIf, mChain, mIsi, mSl, mLc, mLcL, mLcC, mEnum, mBM, mBM0, mAsg, mPar, mLst, lstD, mLstC, lstC, mTup, tupD, mCall, mCallV, mFld, mMeth0, mMeth, mMake, mRaise, mTry, mTryN, wipeE, eqO, neO, asB, asI, negD, Out.bind, Out.fl, zz0, zz1, zz2, zz3, zz4, zz5, zz6, zz8, zz10, zz13, zz16, List.length_cons, List.length_nil, List.map_cons, List.map_nil, List.replicate, List.cons_append, List.nil_append, List.append_nil, List.set_cons_zero, List.set_cons_succ, List.getElem?_cons_zero, List.getElem?_cons_succ, List.zip_cons_cons, List.zip_nil_right, List.foldl_cons, List.foldl_nil, Nat.reduceAdd, Nat.reduceSub, Bool.not_true, Bool.not_false, Bool.false_eq_true, Bool.true_eq_false, decide_true, decide_false, ↓reduceIte, i0, i1, i2, r0, r1, r2, q1, q2, m3]
theorem read_deed_ok {d : Dd} {p : D} {c : Cells} (h : Rd d) : m_read_deed [.str (tx d), p] c = .ok (deedD d) c := by
  have zz := zzm
  have sp := split_tx (c := c) h
  obtain ⟨T, hT⟩ : ∃ T, T = tx d := ⟨_, rfl⟩
  rw [← hT] at sp ⊢
  have bs : isBt .s c (.str T) = true := rfl
  have hv : (mBM .s splitD (mVar 0) (mCons (mC (.str (" " : Str))) mNil)) [some (.str T), some p, none, none, none, none, none] c = .ok (.lst ((parS d).map D.str)) c := by
    simp only [mBM, mVar, mCons, mNil, mC, Out.bind, bs, sp, List.getElem?_cons_zero, ↓reduceIte]
  have key : ∀ {w : Str} {r : List D}, (parS d).map D.str = .str w :: r → r.length ≤ 1000 → (mStar (gsCons (gN 2) (gsCons (gN 3) gsNil)) (mBM .s splitD (mVar 0) (mCons (mC (.str (" " : Str))) mNil))) [some (.str T), some p, none, none, none, none, none] c = .nx [some (.str T), some p, some (.str w), some (.lst r), none, none, none] c := fun {w r} e hr => by
    rw [e] at hv
    exact star_of hv hr rfl
  have in3 : ∀ (w : Str) (b : Bool), decide (w ∈ [("folder" : Str), ("file" : Str), ("put" : Str)]) = b → inD false (.str w) (.tup [.str ("folder" : Str), .str ("file" : Str), .str ("put" : Str)]) c = .ok (.bl b) c := fun w b hb => in_tup (l := [("folder" : Str), ("file" : Str), ("put" : Str)]) hb
  have B : mb_read_deed [some (.str T), some p, none, none, none, none, none] c = .rt (deedD d) c := by
    unfold mb_read_deed
    obtain ⟨F, hF⟩ : ∃ F : MF, F = m_read_number := ⟨_, rfl⟩
    obtain ⟨F2, hF2⟩ : ∃ F : MF, F = m_asked_name := ⟨_, rfl⟩
    obtain ⟨F3, hF3⟩ : ∃ F : MF, F = m_read_making := ⟨_, rfl⟩
    obtain ⟨F4, hF4⟩ : ∃ F : MF, F = m_asked_path := ⟨_, rfl⟩
    cases d with
    | mfo f n o =>
      obtain ⟨a, b, e⟩ := h
      rw [seq_nx (key (w := ("folder" : Str)) (r := [.str (nz f), .str n, .str (nz o)]) rfl (by simp))]
      have i := in3 ("folder" : Str) true (by decide +kernel)
      have ln : lenD [.lst [.str (nz f), .str n, .str (nz o)]] c = .ok (.int 3) c := rfl
      have q := EQ_ii (i := 3) (c := c)
      have mk := making_ok (w := ("folder" : Str)) (p := p) (c := c) a b e (.inl ⟨rfl, rfl⟩)
      refine seq_rt ?_
      rw [← hF3] at mk ⊢
      simp only [mkFn, mkFnB, mSeq, mIfS, mB, mOp, mVar, mC, mCB, mCons, mNil, mSet, mRet, mExpr, mSkip, mOrT, mAndT, mNotT, mAnd, mOr, mNot, mIf, mChain, mIsi, mSl, mLc, mLcL, mLcC, mEnum, mBM, mBM0, mAsg, mPar, mLst, lstD, mLstC, lstC, mTup, tupD, mCall, mCallV, mFld, mMeth0, mMeth, mMake, mRaise, mTry, mTryN, wipeE, eqO, neO, asB, asI, negD, Out.bind, Out.fl, zz0, zz1, zz2, zz3, zz4, zz5, zz6, zz8, zz10, zz13, zz16, List.length_cons, List.length_nil, List.map_cons, List.map_nil, List.replicate, List.cons_append, List.nil_append, List.append_nil, List.set_cons_zero, List.set_cons_succ, List.getElem?_cons_zero, List.getElem?_cons_succ, List.zip_cons_cons, List.zip_nil_right, List.foldl_cons, List.foldl_nil, Nat.reduceAdd, Nat.reduceSub, Bool.not_true, Bool.not_false, Bool.false_eq_true, Bool.true_eq_false, decide_true, decide_false, ↓reduceIte, i, ln, q, mk]
    | mfi f n o =>
      obtain ⟨a, b, e⟩ := h
      rw [seq_nx (key (w := ("file" : Str)) (r := [.str (nz f), .str n, .str (nz o)]) rfl (by simp))]
      have i := in3 ("file" : Str) true (by decide +kernel)
      have ln : lenD [.lst [.str (nz f), .str n, .str (nz o)]] c = .ok (.int 3) c := rfl
      have q := EQ_ii (i := 3) (c := c)
      have mk := making_ok (w := ("file" : Str)) (p := p) (c := c) a b e (.inr (.inl ⟨rfl, rfl⟩))
      refine seq_rt ?_
      rw [← hF3] at mk ⊢
      simp only [mkFn, mkFnB, mSeq, mIfS, mB, mOp, mVar, mC, mCB, mCons, mNil, mSet, mRet, mExpr, mSkip, mOrT, mAndT, mNotT, mAnd, mOr, mNot, mIf, mChain, mIsi, mSl, mLc, mLcL, mLcC, mEnum, mBM, mBM0, mAsg, mPar, mLst, lstD, mLstC, lstC, mTup, tupD, mCall, mCallV, mFld, mMeth0, mMeth, mMake, mRaise, mTry, mTryN, wipeE, eqO, neO, asB, asI, negD, Out.bind, Out.fl, zz0, zz1, zz2, zz3, zz4, zz5, zz6, zz8, zz10, zz13, zz16, List.length_cons, List.length_nil, List.map_cons, List.map_nil, List.replicate, List.cons_append, List.nil_append, List.append_nil, List.set_cons_zero, List.set_cons_succ, List.getElem?_cons_zero, List.getElem?_cons_succ, List.zip_cons_cons, List.zip_nil_right, List.foldl_cons, List.foldl_nil, Nat.reduceAdd, Nat.reduceSub, Bool.not_true, Bool.not_false, Bool.false_eq_true, Bool.true_eq_false, decide_true, decide_false, ↓reduceIte, i, ln, q, mk]
    | put f n o =>
      obtain ⟨a, b, e⟩ := h
      rw [seq_nx (key (w := ("put" : Str)) (r := [.str (nz f), .str n, .str (nz o)]) rfl (by simp))]
      have i := in3 ("put" : Str) true (by decide +kernel)
      have ln : lenD [.lst [.str (nz f), .str n, .str (nz o)]] c = .ok (.int 3) c := rfl
      have q := EQ_ii (i := 3) (c := c)
      have mk := making_ok (w := ("put" : Str)) (p := p) (c := c) a b e (.inr (.inr ⟨rfl, rfl⟩))
      refine seq_rt ?_
      rw [← hF3] at mk ⊢
      simp only [mkFn, mkFnB, mSeq, mIfS, mB, mOp, mVar, mC, mCB, mCons, mNil, mSet, mRet, mExpr, mSkip, mOrT, mAndT, mNotT, mAnd, mOr, mNot, mIf, mChain, mIsi, mSl, mLc, mLcL, mLcC, mEnum, mBM, mBM0, mAsg, mPar, mLst, lstD, mLstC, lstC, mTup, tupD, mCall, mCallV, mFld, mMeth0, mMeth, mMake, mRaise, mTry, mTryN, wipeE, eqO, neO, asB, asI, negD, Out.bind, Out.fl, zz0, zz1, zz2, zz3, zz4, zz5, zz6, zz8, zz10, zz13, zz16, List.length_cons, List.length_nil, List.map_cons, List.map_nil, List.replicate, List.cons_append, List.nil_append, List.append_nil, List.set_cons_zero, List.set_cons_succ, List.getElem?_cons_zero, List.getElem?_cons_succ, List.zip_cons_cons, List.zip_nil_right, List.foldl_cons, List.foldl_nil, Nat.reduceAdd, Nat.reduceSub, Bool.not_true, Bool.not_false, Bool.false_eq_true, Bool.true_eq_false, decide_true, decide_false, ↓reduceIte, i, ln, q, mk]
    | tak f n =>
      obtain ⟨a, b⟩ := h
      rw [seq_nx (key (w := ("take" : Str)) (r := [.str (nz f), .str n]) rfl (by simp))]
      have i := in3 ("take" : Str) false (by decide +kernel)
      have ln : lenD [.lst [.str (nz f), .str n]] c = .ok (.int 2) c := rfl
      have q := EQ_ii (i := 2) (c := c)
      have q1 : EQ (.str ("take" : Str)) (.str ("take" : Str)) c = .ok true c := EQw (by simp) (by simp) (by decide +kernel)
      have i0 : ixD (.lst [.str (nz f), .str n]) (.int 0) c = .ok (.str (nz f)) c := ixD_lst (i := 0) rfl
      have i1 : ixD (.lst [.str (nz f), .str n]) (.int 1) c = .ok (.str n) c := ixD_lst (i := 1) rfl
      have r0 := read_number_ok (p := p) (c := c) a
      have r1 := asked_name_ok (p := p) (c := c) b
      have mk := make_tak (f := f) (n := n) (c := c)
      have s1 : (mIfS (mAndT (mB (mOp (inD false) (mVar 2) (mTup (mCons (mC (.str ("folder" : Str))) (mCons (mC (.str ("file" : Str))) (mCons (mC (.str ("put" : Str))) mNil)))))) (mB (mOp (eqO EQ) (mCB lenD (mCons (mVar 3) mNil)) (mC (.int 3))))) (mRet (mCall m_read_making (mCons (mVar 2) (mCons (mVar 3) (mCons (mVar 1) mNil))))) mSkip) [some (.str T), some p, some (.str ("take" : Str)), some (.lst [.str (nz f), .str n]), none, none, none] c = .nx [some (.str T), some p, some (.str ("take" : Str)), some (.lst [.str (nz f), .str n]), none, none, none] c := by
        simp only [mkFn, mkFnB, mSeq, mIfS, mB, mOp, mVar, mC, mCB, mCons, mNil, mSet, mRet, mExpr, mSkip, mOrT, mAndT, mNotT, mAnd, mOr, mNot, mIf, mChain, mIsi, mSl, mLc, mLcL, mLcC, mEnum, mBM, mBM0, mAsg, mPar, mLst, lstD, mLstC, lstC, mTup, tupD, mCall, mCallV, mFld, mMeth0, mMeth, mMake, mRaise, mTry, mTryN, wipeE, eqO, neO, asB, asI, negD, Out.bind, Out.fl, zz0, zz1, zz2, zz3, zz4, zz5, zz6, zz8, zz10, zz13, zz16, List.length_cons, List.length_nil, List.map_cons, List.map_nil, List.replicate, List.cons_append, List.nil_append, List.append_nil, List.set_cons_zero, List.set_cons_succ, List.getElem?_cons_zero, List.getElem?_cons_succ, List.zip_cons_cons, List.zip_nil_right, List.foldl_cons, List.foldl_nil, Nat.reduceAdd, Nat.reduceSub, Bool.not_true, Bool.not_false, Bool.false_eq_true, Bool.true_eq_false, decide_true, decide_false, ↓reduceIte, i]
      have e1 : ([.str (nz f), .str n] : List D) = [("take" : Str), nz f, n].tail.map D.str := rfl
      rw [seq_nx s1]
      refine seq_rt ?_
      rw [← hF] at r0 ⊢
      rw [← hF2] at r1 ⊢
      simp only [mkFn, mkFnB, mSeq, mIfS, mB, mOp, mVar, mC, mCB, mCons, mNil, mSet, mRet, mExpr, mSkip, mOrT, mAndT, mNotT, mAnd, mOr, mNot, mIf, mChain, mIsi, mSl, mLc, mLcL, mLcC, mEnum, mBM, mBM0, mAsg, mPar, mLst, lstD, mLstC, lstC, mTup, tupD, mCall, mCallV, mFld, mMeth0, mMeth, mMake, mRaise, mTry, mTryN, wipeE, eqO, neO, asB, asI, negD, Out.bind, Out.fl, zz0, zz1, zz2, zz3, zz4, zz5, zz6, zz8, zz10, zz13, zz16, List.length_cons, List.length_nil, List.map_cons, List.map_nil, List.replicate, List.cons_append, List.nil_append, List.append_nil, List.set_cons_zero, List.set_cons_succ, List.getElem?_cons_zero, List.getElem?_cons_succ, List.zip_cons_cons, List.zip_nil_right, List.foldl_cons, List.foldl_nil, Nat.reduceAdd, Nat.reduceSub, Bool.not_true, Bool.not_false, Bool.false_eq_true, Bool.true_eq_false, decide_true, decide_false, ↓reduceIte, q1, ln, q, i0, i1, r0, r1, mk]
    | mli f n o t =>
      obtain ⟨a, b, e, g⟩ := h
      rw [seq_nx (key (w := ("link" : Str)) (r := [.str (nz f), .str n, .str (nz o), .str t]) rfl (by simp))]
      obtain ⟨L, hL⟩ : ∃ L : D, L = .lst [.str (nz f), .str n, .str (nz o), .str t] := ⟨_, rfl⟩
      have i := in3 ("link" : Str) false (by decide +kernel)
      have ln : lenD [L] c = .ok (.int 4) c := by rw [hL]; rfl
      have q := EQ_ii (i := 4) (c := c)
      have q1 : EQ (.str ("link" : Str)) (.str ("take" : Str)) c = .ok false c := EQw (by simp) (by simp) (by decide +kernel)
      have q2 : EQ (.str ("link" : Str)) (.str ("link" : Str)) c = .ok true c := EQw (by simp) (by simp) (by decide +kernel)
      have ni : inD true (.str ("link" : Str)) (.tup [.str ("link" : Str), .str ("move" : Str)]) c = .ok (.bl false) c := by
        rw [notIn_pair]
        rfl
      have i0 : ixD L (.int 0) c = .ok (.str (nz f)) c := by rw [hL]; exact ixD_lst (i := 0) rfl
      have i1 : ixD L (.int 1) c = .ok (.str n) c := by rw [hL]; exact ixD_lst (i := 1) rfl
      have i2 : ixD L (.int 2) c = .ok (.str (nz o)) c := by rw [hL]; exact ixD_lst (i := 2) rfl
      have i3 : ixD L (.int 3) c = .ok (.str t) c := by rw [hL]; exact ixD_lst (i := 3) rfl
      have r0 := read_number_ok (p := p) (c := c) a
      have r1 := asked_name_ok (p := p) (c := c) b
      have r2 := read_number_ok (p := p) (c := c) e
      have r3 := asked_path_ok (p := p) (c := c) g
      have mk := make_mli (f := f) (n := n) (o := o) (t := t) (c := c)
      rw [← hF] at r0 r2 ⊢
      rw [← hF2] at r1 ⊢
      rw [← hF4] at r3 ⊢
      show _ = Fl.rt _ _
      have eL : (.lst [.str (nz f), .str n, .str (nz o), .str t] : D) = L := hL.symm
      rw [eL]
      simp only [mkFn, mkFnB, mSeq, mIfS, mB, mOp, mVar, mC, mCB, mCons, mNil, mSet, mRet, mExpr, mSkip, mOrT, mAndT, mNotT, mAnd, mOr, mNot, mIf, mChain, mIsi, mSl, mLc, mLcL, mLcC, mEnum, mBM, mBM0, mAsg, mPar, mLst, lstD, mLstC, lstC, mTup, tupD, mCall, mCallV, mFld, mMeth0, mMeth, mMake, mRaise, mTry, mTryN, wipeE, eqO, neO, asB, asI, negD, Out.bind, Out.fl, zz0, zz1, zz2, zz3, zz4, zz5, zz6, zz8, zz10, zz13, zz16, List.length_cons, List.length_nil, List.map_cons, List.map_nil, List.replicate, List.cons_append, List.nil_append, List.append_nil, List.set_cons_zero, List.set_cons_succ, List.getElem?_cons_zero, List.getElem?_cons_succ, List.zip_cons_cons, List.zip_nil_right, List.foldl_cons, List.foldl_nil, Nat.reduceAdd, Nat.reduceSub, Bool.not_true, Bool.not_false, Bool.false_eq_true, Bool.true_eq_false, decide_true, decide_false, ↓reduceIte, i, q1, ni, ln, q, i0, i1, i2, i3, r0, r1, r2, r3, q2, mk]
    | mov f n o m =>
      obtain ⟨a, b, e, g⟩ := h
      rw [seq_nx (key (w := ("move" : Str)) (r := [.str (nz f), .str n, .str (nz o), .str m]) rfl (by simp))]
      obtain ⟨L, hL⟩ : ∃ L : D, L = .lst [.str (nz f), .str n, .str (nz o), .str m] := ⟨_, rfl⟩
      have i := in3 ("move" : Str) false (by decide +kernel)
      have ln : lenD [L] c = .ok (.int 4) c := by rw [hL]; rfl
      have q := EQ_ii (i := 4) (c := c)
      have q1 : EQ (.str ("move" : Str)) (.str ("take" : Str)) c = .ok false c := EQw (by simp) (by simp) (by decide +kernel)
      have q2 : EQ (.str ("move" : Str)) (.str ("link" : Str)) c = .ok false c := EQw (by simp) (by simp) (by decide +kernel)
      have ni : inD true (.str ("move" : Str)) (.tup [.str ("link" : Str), .str ("move" : Str)]) c = .ok (.bl false) c := by
        rw [notIn_pair]
        have : (("move" : Str) == ("link" : Str) || ("move" : Str) == ("move" : Str)) = true := by decide +kernel
        rw [this]
        rfl
      have i0 : ixD L (.int 0) c = .ok (.str (nz f)) c := by rw [hL]; exact ixD_lst (i := 0) rfl
      have i1 : ixD L (.int 1) c = .ok (.str n) c := by rw [hL]; exact ixD_lst (i := 1) rfl
      have i2 : ixD L (.int 2) c = .ok (.str (nz o)) c := by rw [hL]; exact ixD_lst (i := 2) rfl
      have i3 : ixD L (.int 3) c = .ok (.str m) c := by rw [hL]; exact ixD_lst (i := 3) rfl
      have r0 := read_number_ok (p := p) (c := c) a
      have r1 := asked_name_ok (p := p) (c := c) b
      have r2 := read_number_ok (p := p) (c := c) e
      have r3 := asked_name_ok (p := p) (c := c) g
      have mk := make_mov (f := f) (n := n) (g := o) (m := m) (c := c)
      rw [← hF] at r0 r2 ⊢
      rw [← hF2] at r1 r3 ⊢
      have eL : (.lst [.str (nz f), .str n, .str (nz o), .str m] : D) = L := hL.symm
      rw [eL]
      simp only [mkFn, mkFnB, mSeq, mIfS, mB, mOp, mVar, mC, mCB, mCons, mNil, mSet, mRet, mExpr, mSkip, mOrT, mAndT, mNotT, mAnd, mOr, mNot, mIf, mChain, mIsi, mSl, mLc, mLcL, mLcC, mEnum, mBM, mBM0, mAsg, mPar, mLst, lstD, mLstC, lstC, mTup, tupD, mCall, mCallV, mFld, mMeth0, mMeth, mMake, mRaise, mTry, mTryN, wipeE, eqO, neO, asB, asI, negD, Out.bind, Out.fl, zz0, zz1, zz2, zz3, zz4, zz5, zz6, zz8, zz10, zz13, zz16, List.length_cons, List.length_nil, List.map_cons, List.map_nil, List.replicate, List.cons_append, List.nil_append, List.append_nil, List.set_cons_zero, List.set_cons_succ, List.getElem?_cons_zero, List.getElem?_cons_succ, List.zip_cons_cons, List.zip_nil_right, List.foldl_cons, List.foldl_nil, Nat.reduceAdd, Nat.reduceSub, Bool.not_true, Bool.not_false, Bool.false_eq_true, Bool.true_eq_false, decide_true, decide_false, ↓reduceIte, i, q1, ni, ln, q, i0, i1, i2, i3, r0, r1, r2, r3, q2, mk]
  unfold m_read_deed mkFn
  rw [if_pos (show ([.str T, p] : List D).length = 2 from rfl)]
  have e9 : ([.str T, p] : List D).map some ++ List.replicate (7 - 2) none = [some (.str T), some p, none, none, none, none, none] := rfl
  rw [e9, B]
end Law
end Nw

set_option Elab.async false
set_option linter.all false
set_option maxRecDepth 100000
set_option maxHeartbeats 1000000
namespace Nw
namespace Law
open PySem PySem.Spec
open PyProof.Rows hiding St
open L2
theorem EQ_ne {l : List D} {c : Cells} (h : okpL l 40 = true) : EQ (.lst l) (.lst []) c = .ok l.isEmpty c := by
  have h2 : okp (.lst l) 50 = true := by
    unfold okp
    rw [okpL_mono l 40 49 h (by decide)]
    rfl
  unfold EQ
  rw [eqF_ok h2 (by decide)]
  cases l <;> simp [py, pyL, PyData.eqv, PyData.eqvAll]
/-! rows' texts -/
theorem allStr_G : ∀ ss : List Str, allStr (ss.map D.str) = some ss
  | [] => rfl
  | s :: r => by rw [List.map_cons, allStr, allStr_G r]; rfl
theorem join_G {a : Str} {ss : List Str} {d : D} {c : Cells} {b : Nat} (hd : items c d = some (ss.map D.str)) (h : ∀ s ∈ ss, s.length ≤ b) (ha : a.length ≤ 10) (hn : ss.length ≤ 100) (hb : b ≤ 1000) : joinD (.str a) [d] c = .ok (.str (Txt.join a ss)) c := by
  have hsum : ∀ l : List Str, (∀ p ∈ l, p.length ≤ b) → (l.map (·.length)).sum ≤ b * l.length := by
    intro l
    induction l with
    | nil => intro _; simp
    | cons x r ih =>
      intro h
      have := ih fun p hp => h p (List.mem_cons_of_mem _ hp)
      have h1 := h x List.mem_cons_self
      simp only [List.map_cons, List.sum_cons, List.length_cons, Nat.mul_succ]
      omega
  have h1 := hsum ss h
  have h2 : b * ss.length ≤ 1000 * 100 := Nat.mul_le_mul hb hn
  have h3 : ss.length * a.length ≤ 100 * 10 := Nat.mul_le_mul hn ha
  unfold joinD
  dsimp only
  rw [hd]
  dsimp only
  rw [allStr_G]
  dsimp only
  rw [if_pos (by omega)]
abbrev cm2 : Str := (", " : Str)
theorem tl_cm : TL.tl cm2 = [44, 32] := by decide +kernel
def rowT (ds : List Dd) : Str := Txt.join cm2 (ds.map tx)
theorem rowT_tl (ds : List Dd) : TL.tl (rowT ds) = TL.joinL [44, 32] ((ds.map tx).map TL.tl) := by
  unfold rowT
  rw [TL.join_eq, TL.tl_join, tl_cm]
theorem rowT_split {ds : List Dd} (h : ∀ d ∈ ds, Rd d) (h0 : ds ≠ []) : Txt.split (rowT ds) cm2 = ds.map tx :=
  TL.split_join (s := 44) (S := [32]) tl_cm (by decide +kernel) (fun e => h0 (List.map_eq_nil_iff.mp e)) fun p hp => by
    obtain ⟨d, hd, rfl⟩ := List.mem_map.mp hp
    exact tx_free (h d hd)
theorem rowT_len {ds : List Dd} (h : ∀ d ∈ ds, Rd d) (hn : ds.length ≤ 100) : (rowT ds).length ≤ 6700 := by
  have := joinL_len (ps := (ds.map tx).map TL.tl) (b := 65) (S := [44, 32]) fun p hp => by
    obtain ⟨t, ht, rfl⟩ := List.mem_map.mp hp
    obtain ⟨d, hd, rfl⟩ := List.mem_map.mp ht
    rw [← TL.len_tl]
    exact tx_len (h d hd)
  rw [TL.len_tl, rowT_tl]
  rw [List.length_map, List.length_map] at this
  have e : (65 + 2) * ds.length ≤ 67 * 100 := Nat.mul_le_mul_left 67 hn
  exact Nat.le_trans this e
theorem par_lt {d : Dd} (h : Rd d) : ∀ k ∈ TL.tl (tx d), k < 128 := fun k hk => by
  rw [tx_tl] at hk
  rcases mem_joinT hk with z | ⟨p, hp, z⟩
  · simp at z
    omega
  · obtain ⟨w, hw, rfl⟩ := List.mem_map.mp hp
    exact (par_ok h w hw).lt k z
theorem rowT_str {ds : List Dd} (h : ∀ d ∈ ds, Rd d) : PyData.strOk (rowT ds) = true := by
  refine strOk_lt fun k hk => ?_
  rw [rowT_tl] at hk
  rcases mem_joinT hk with z | ⟨p, hp, z⟩
  · simp at z
    omega
  · obtain ⟨w, hw, rfl⟩ := List.mem_map.mp hp
    obtain ⟨d, hd, rfl⟩ := List.mem_map.mp hw
    exact par_lt (h d hd) k z
theorem mem_joinL2 {S : List Nat} {k : Nat} : ∀ {ps : List (List Nat)} {p : List Nat}, p ∈ ps → k ∈ p → k ∈ TL.joinL S ps
  | [], _, h, _ => by cases h
  | [q], p, h, hk => by
    rw [List.mem_singleton.mp h] at hk
    exact hk
  | q :: r :: s, p, h, hk => by
    show k ∈ q ++ (S ++ TL.joinL S (r :: s))
    rcases List.mem_cons.mp h with rfl | h
    · exact List.mem_append_left _ hk
    · exact List.mem_append_right _ (List.mem_append_right _ (mem_joinL2 h hk))
theorem rowT_ne {ds : List Dd} (h0 : ds ≠ []) : (rowT ds == ("nothing" : Str)) = false := by
  rw [beq_eq_false_iff_ne]
  intro e
  cases ds with
  | nil => exact h0 rfl
  | cons d r =>
    have : 32 ∈ TL.tl (rowT (d :: r)) := by
      rw [rowT_tl]
      exact mem_joinL2 (List.mem_map_of_mem (List.mem_map_of_mem List.mem_cons_self)) (tx_has d)
    rw [e] at this
    exact absurd this (by decide +kernel)
theorem okpL_strs {n : Nat} : ∀ {ss : List Str}, (∀ s ∈ ss, PyData.strOk s = true) → okpL (ss.map D.str) n = true
  | [], _ => by unfold okpL; rfl
  | s :: r, h => by
    rw [List.map_cons]
    unfold okpL okp
    rw [h s List.mem_cons_self, okpL_strs fun x hx => h x (List.mem_cons_of_mem _ hx)]
    rfl
theorem row_text_ok {ds : List Dd} {src : D} {chk : Cells → Bool} {c : Cells} (hq : seqAny src c = .ok ⟨ds.map deedD, chk⟩ c) (hc : chk c = true) (h : ∀ d ∈ ds, Rd d) (h0 : ds ≠ []) (hn : ds.length ≤ 100) : m_row_text [src] c = .ok (.str (rowT ds)) c := by
  have zz := zzm
  have lc := lc_map (chk := chk) (g := gN 2) (me := row_text_e0) (δ := [some src, none, none]) (c := c) (enc := deedD) (dec := fun d => .str (tx d)) (l := ds) hc
    (fun d hd => ⟨[some src, none, some (deedD d)], rfl, by
      have t := deed_text_ok (c := c) (h d hd)
      unfold row_text_e0
      simp only [mCall, mCons, mNil, mVar, Out.bind, t, List.getElem?_cons_zero, List.getElem?_cons_succ]⟩) (by omega)
  have e : ds.map (fun d => D.str (tx d)) = (ds.map tx).map D.str := by rw [List.map_map]; rfl
  rw [e] at lc
  have hne : ds.map tx ≠ [] := fun z => h0 (List.map_eq_nil_iff.mp z)
  have q : EQ (.lst ((ds.map tx).map D.str)) (.lst []) c = .ok false c := by
    rw [EQ_ne (okpL_strs fun s hs => by
      obtain ⟨d, hd, rfl⟩ := List.mem_map.mp hs
      exact tx_str (h d hd))]
    cases q : ds.map tx with
    | nil => exact absurd q hne
    | cons a r => rfl
  have jn := join_G (a := cm2) (ss := ds.map tx) (d := .lst ((ds.map tx).map D.str)) (c := c) (b := 65) rfl (fun s hs => by
    obtain ⟨d, hd, rfl⟩ := List.mem_map.mp hs
    exact tx_len (h d hd)) (by decide +kernel) (by rw [List.length_map]; omega) (by decide)
  have bs : isBt .s c (.str cm2) = true := rfl
  obtain ⟨L, hL⟩ : ∃ L : List D, L = (ds.map tx).map D.str := ⟨_, rfl⟩
  rw [← hL] at lc q jn
  have lnil : ∀ (δ : En) (c : Cells), (mLst mNil) δ c = .ok (.lst []) c := fun δ c => rfl
  have B : mb_row_text [some src, none, none] c = .rt (.str (rowT ds)) c := by
    unfold mb_row_text
    simp only [mkFn, mkFnB, mSeq, mIfS, mB, mOp, mVar, mC, mCB, mCons, mNil, mSet, mRet, mExpr, mSkip, mOrT, mAndT, mNotT, mAnd, mOr, mNot, mIf, mChain, mIsi, mSl, mLc, mLcL, mLcC, mEnum, mBM, mBM0, mAsg, mPar, mLst, lstD, mLstC, lstC, mTup, tupD, mCall, mCallV, mFld, mMeth0, mMeth, mMake, mRaise, mTry, mTryN, wipeE, eqO, neO, asB, asI, negD, Out.bind, Out.fl, zz0, zz1, zz2, zz3, zz4, zz5, zz6, zz8, zz10, zz13, zz16, List.length_cons, List.length_nil, List.map_cons, List.map_nil, List.replicate, List.cons_append, List.nil_append, List.append_nil, List.set_cons_zero, List.set_cons_succ, List.getElem?_cons_zero, List.getElem?_cons_succ, List.zip_cons_cons, List.zip_nil_right, List.foldl_cons, List.foldl_nil, Nat.reduceAdd, Nat.reduceSub, Bool.not_true, Bool.not_false, Bool.false_eq_true, Bool.true_eq_false, decide_true, decide_false, ↓reduceIte, hq, lc, q, bs, jn]
    rfl
  unfold m_row_text mkFn
  rw [if_pos (show ([src] : List D).length = 1 from rfl)]
  have e9 : ([src] : List D).map some ++ List.replicate (3 - 1) none = [some src, none, none] := rfl
  rw [e9, B]
theorem row_none {src : D} {chk : Cells → Bool} {c : Cells} (hq : seqAny src c = .ok ⟨[], chk⟩ c) (hc : chk c = true) : m_row_text [src] c = .ok (.str ("nothing" : Str)) c := by
  have zz := zzm
  have lc : lcGo chk (gN 2) (fun _ c => .ok true c) row_text_e0 [some src, none, none] [] [] c = .ok [] c := lc_map (chk := chk) (g := gN 2) (me := row_text_e0) (δ := [some src, none, none]) (c := c) (enc := deedD) (dec := deedD) (l := []) hc (fun d hd => by cases hd) (Nat.zero_le _)
  have q : EQ (.lst []) (.lst []) c = .ok true c := EQ_ne (l := []) (by unfold okpL; rfl)
  have B : mb_row_text [some src, none, none] c = .rt (.str ("nothing" : Str)) c := by
    unfold mb_row_text
    simp only [mkFn, mkFnB, mSeq, mIfS, mB, mOp, mVar, mC, mCB, mCons, mNil, mSet, mRet, mExpr, mSkip, mOrT, mAndT, mNotT, mAnd, mOr, mNot, mIf, mChain, mIsi, mSl, mLc, mLcL, mLcC, mEnum, mBM, mBM0, mAsg, mPar, mLst, lstD, mLstC, lstC, mTup, tupD, mCall, mCallV, mFld, mMeth0, mMeth, mMake, mRaise, mTry, mTryN, wipeE, eqO, neO, asB, asI, negD, Out.bind, Out.fl, zz0, zz1, zz2, zz3, zz4, zz5, zz6, zz8, zz10, zz13, zz16, List.length_cons, List.length_nil, List.map_cons, List.map_nil, List.replicate, List.cons_append, List.nil_append, List.append_nil, List.set_cons_zero, List.set_cons_succ, List.getElem?_cons_zero, List.getElem?_cons_succ, List.zip_cons_cons, List.zip_nil_right, List.foldl_cons, List.foldl_nil, Nat.reduceAdd, Nat.reduceSub, Bool.not_true, Bool.not_false, Bool.false_eq_true, Bool.true_eq_false, decide_true, decide_false, ↓reduceIte, hq, lc, q]
  unfold m_row_text mkFn
  rw [if_pos (show ([src] : List D).length = 1 from rfl)]
  have e9 : ([src] : List D).map some ++ List.replicate (3 - 1) none = [some src, none, none] := rfl
  rw [e9, B]
theorem isi_strY {t : Str} {c : Cells} : isiD tys isi_str (.str t) c = .ok (.bl true) c := isi_of (t := .b "str") rfl (by decide +kernel) (by decide +kernel)
theorem read_row_ok {ds : List Dd} {c : Cells} (h : ∀ d ∈ ds, Rd d) (h0 : ds ≠ []) (hn : ds.length ≤ 100) : m_read_row [.str (rowT ds)] c = .ok (.cell c.length) (c ++ [.lst (ds.map deedD)]) := by
  have zz := zzm
  have hl := rowT_len h hn
  obtain ⟨T, hT⟩ : ∃ T, T = rowT ds := ⟨_, rfl⟩
  have q : EQ (.str T) (.str ("nothing" : Str)) c = .ok false c := by
    rw [hT, EQ_str (rowT_str h) (by decide +kernel), rowT_ne h0]
  have is := isi_strY (t := T) (c := c)
  have bs : isBt .s c (.str T) = true := rfl
  have sp : splitD (.str T) [.str (", " : Str)] c = .ok (.lst ((ds.map tx).map D.str)) c := by
    unfold splitD
    dsimp only
    rw [if_pos ⟨by decide +kernel, by rw [hT]; omega⟩, hT, rowT_split h h0]
  obtain ⟨L, hL⟩ : ∃ L : List D, L = (ds.map tx).map D.str := ⟨_, rfl⟩
  rw [← hL] at sp
  have it : (mEnum (mCons (mBM .s splitD (mVar 0) (mCons (mC (.str (", " : Str))) mNil)) mNil)) [some (.str T), none, none] c = .ok ⟨ds.zipIdx.map fun p => .tup [.int (p.2 : Nat), .str (tx p.1)], chkI (.lst L) L⟩ c := by
    have hv : (mCons (mBM .s splitD (mVar 0) (mCons (mC (.str (", " : Str))) mNil)) mNil) [some (.str T), none, none] c = .ok [.lst L] c := by
      simp only [mBM, mVar, mCons, mNil, mC, Out.bind, bs, sp, List.getElem?_cons_zero, ↓reduceIte]
    unfold mEnum
    rw [hv]
    show enumSeq (.lst L) c = _
    unfold enumSeq
    have : items c (.lst L) = some L := rfl
    rw [this]
    dsimp only
    have e : L = ds.map fun d => D.str (tx d) := by rw [hL, List.map_map]; rfl
    rw [e, enum_map]
  have lc := lc_map (chk := chkI (.lst L) L) (g := gT 2 (gsCons (gN 1) (gsCons (gN 2) gsNil))) (me := read_row_e0) (δ := [some (.str T), none, none]) (c := c) (enc := fun p : Dd × Nat => .tup [.int (p.2 : Nat), .str (tx p.1)]) (dec := fun p => deedD p.1) (l := ds.zipIdx) rfl
    (fun p hp => ⟨[some (.str T), some (.int (p.2 : Nat)), some (.str (tx p.1))], rfl, by
      have hm : p.1 ∈ ds := List.mem_of_getElem? (List.mem_zipIdx_iff_getElem?.mp hp)
      have t := read_deed_ok (p := .int (p.2 : Nat)) (c := c) (h p.1 hm)
      unfold read_row_e0
      simp only [mCall, mCons, mNil, mVar, Out.bind, t, List.getElem?_cons_zero, List.getElem?_cons_succ]⟩) (by rw [List.length_zipIdx]; omega)
  have e : ds.zipIdx.map (fun p => deedD p.1) = ds.map deedD := by
    have : ds.zipIdx.map (fun p => deedD p.1) = (ds.zipIdx.map Prod.fst).map deedD := by rw [List.map_map]; rfl
    rw [this, List.zipIdx_map_fst]
  rw [e] at lc
  obtain ⟨m, hm⟩ : ∃ m : En → Cells → Out Seq, m = mEnum (mCons (mBM .s splitD (mVar 0) (mCons (mC (.str (", " : Str))) mNil)) mNil) := ⟨_, rfl⟩
  have B : mb_read_row [some (.str T), none, none] c = .rt (.cell c.length) (c ++ [.lst (ds.map deedD)]) := by
    unfold mb_read_row
    rw [← hm] at it ⊢
    simp only [mkFn, mkFnB, mSeq, mIfS, mB, mOp, mVar, mC, mCB, mCons, mNil, mSet, mRet, mExpr, mSkip, mOrT, mAndT, mNotT, mAnd, mOr, mNot, mIf, mChain, mIsi, mSl, mLc, mLcL, mLcC, mEnum, mBM, mBM0, mAsg, mPar, mLst, lstD, mLstC, lstC, mTup, tupD, mCall, mCallV, mFld, mMeth0, mMeth, mMake, mRaise, mTry, mTryN, wipeE, eqO, neO, asB, asI, negD, Out.bind, Out.fl, zz0, zz1, zz2, zz3, zz4, zz5, zz6, zz8, zz10, zz13, zz16, List.length_cons, List.length_nil, List.map_cons, List.map_nil, List.replicate, List.cons_append, List.nil_append, List.append_nil, List.set_cons_zero, List.set_cons_succ, List.getElem?_cons_zero, List.getElem?_cons_succ, List.zip_cons_cons, List.zip_nil_right, List.foldl_cons, List.foldl_nil, Nat.reduceAdd, Nat.reduceSub, Bool.not_true, Bool.not_false, Bool.false_eq_true, Bool.true_eq_false, decide_true, decide_false, ↓reduceIte, is, q, it, lc]
  rw [← hT]
  unfold m_read_row mkFn
  rw [if_pos (show ([.str T] : List D).length = 1 from rfl)]
  have e9 : ([.str T] : List D).map some ++ List.replicate (3 - 1) none = [some (.str T), none, none] := rfl
  rw [e9, B]
theorem read_none_ok {c : Cells} : m_read_row [.str ("nothing" : Str)] c = .ok (.cell c.length) (c ++ [.lst []]) := by
  have zz := zzm
  have q : EQ (.str ("nothing" : Str)) (.str ("nothing" : Str)) c = .ok true c := by
    rw [EQ_str (by decide +kernel) (by decide +kernel), beq_self_eq_true]
  have is := isi_strY (t := ("nothing" : Str)) (c := c)
  have B : mb_read_row [some (.str ("nothing" : Str)), none, none] c = .rt (.cell c.length) (c ++ [.lst []]) := by
    unfold mb_read_row
    simp only [mkFn, mkFnB, mSeq, mIfS, mB, mOp, mVar, mC, mCB, mCons, mNil, mSet, mRet, mExpr, mSkip, mOrT, mAndT, mNotT, mAnd, mOr, mNot, mIf, mChain, mIsi, mSl, mLc, mLcL, mLcC, mEnum, mBM, mBM0, mAsg, mPar, mLst, lstD, mLstC, lstC, mTup, tupD, mCall, mCallV, mFld, mMeth0, mMeth, mMake, mRaise, mTry, mTryN, wipeE, eqO, neO, asB, asI, negD, Out.bind, Out.fl, zz0, zz1, zz2, zz3, zz4, zz5, zz6, zz8, zz10, zz13, zz16, List.length_cons, List.length_nil, List.map_cons, List.map_nil, List.replicate, List.cons_append, List.nil_append, List.append_nil, List.set_cons_zero, List.set_cons_succ, List.getElem?_cons_zero, List.getElem?_cons_succ, List.zip_cons_cons, List.zip_nil_right, List.foldl_cons, List.foldl_nil, Nat.reduceAdd, Nat.reduceSub, Bool.not_true, Bool.not_false, Bool.false_eq_true, Bool.true_eq_false, decide_true, decide_false, ↓reduceIte, is, q]
  unfold m_read_row mkFn
  rw [if_pos (show ([.str ("nothing" : Str)] : List D).length = 1 from rfl)]
  have e9 : ([.str ("nothing" : Str)] : List D).map some ++ List.replicate (3 - 1) none = [some (.str ("nothing" : Str)), none, none] := rfl
  rw [e9, B]
end Law
end Nw

set_option Elab.async false
set_option linter.all false
set_option maxRecDepth 100000
set_option maxHeartbeats 1000000
namespace Nw
namespace Law
open PySem PySem.Spec
open PyProof.Rows hiding St
open L2
/-! == of deeds -/
theorem cls_mfo : ClsOk ("MakeFolder" : Str) [("folder" : Str), ("name" : Str), ("owner" : Str)] m_MakeFolder_class_name m_MakeFolder_facts := ⟨by decide +kernel, by decide +kernel, by decide +kernel, by decide +kernel, by decide +kernel, by kernel_rfl, by kernel_rfl⟩
theorem cls_mfi : ClsOk ("MakeFile" : Str) [("folder" : Str), ("name" : Str), ("owner" : Str)] m_MakeFile_class_name m_MakeFile_facts := ⟨by decide +kernel, by decide +kernel, by decide +kernel, by decide +kernel, by decide +kernel, by kernel_rfl, by kernel_rfl⟩
theorem cls_mli : ClsOk ("MakeLink" : Str) [("folder" : Str), ("name" : Str), ("owner" : Str), ("text" : Str)] m_MakeLink_class_name m_MakeLink_facts := ⟨by decide +kernel, by decide +kernel, by decide +kernel, by decide +kernel, by decide +kernel, by kernel_rfl, by kernel_rfl⟩
theorem cls_put : ClsOk ("Put" : Str) [("folder" : Str), ("name" : Str), ("node" : Str)] m_Put_class_name m_Put_facts := ⟨by decide +kernel, by decide +kernel, by decide +kernel, by decide +kernel, by decide +kernel, by kernel_rfl, by kernel_rfl⟩
theorem cls_tak : ClsOk ("Take" : Str) [("folder" : Str), ("name" : Str)] m_Take_class_name m_Take_facts := ⟨by decide +kernel, by decide +kernel, by decide +kernel, by decide +kernel, by decide +kernel, by kernel_rfl, by kernel_rfl⟩
theorem cls_mov : ClsOk ("Move" : Str) [("folder" : Str), ("name" : Str), ("goal" : Str), ("other" : Str)] m_Move_class_name m_Move_facts := ⟨by decide +kernel, by decide +kernel, by decide +kernel, by decide +kernel, by decide +kernel, by kernel_rfl, by kernel_rfl⟩
def fcD : Dd → D
  | .mfo f n o => .tup [.int f, .str n, .int o]
  | .mfi f n o => .tup [.int f, .str n, .int o]
  | .mli f n o t => .tup [.int f, .str n, .int o, .str t]
  | .put f n k => .tup [.int f, .str n, .int k]
  | .tak f n => .tup [.int f, .str n]
  | .mov f n g m => .tup [.int f, .str n, .int g, .str m]
theorem fc_ok {d : Dd} (h : Rd d) : okp (fcD d) 50 = true := by
  cases d with
  | mfo f n o => have := nm_str h.2.1; simp [fcD, okp, okpL, this]
  | mfi f n o => have := nm_str h.2.1; simp [fcD, okp, okpL, this]
  | mli f n o t => have := nm_str h.2.1; have := (wd_tx h.2.2.2).str; simp [fcD, okp, okpL, *]
  | put f n k => have := nm_str h.2.1; simp [fcD, okp, okpL, this]
  | tak f n => have := nm_str h.2; simp [fcD, okp, okpL, this]
  | mov f n g m => have := nm_str h.2.1; have := nm_str h.2.2.2; simp [fcD, okp, okpL, *]
theorem thi_dd (d : Dd) (c : Cells) : ∃ q mc mf w, ThI c (deedD d) q mc mf w (fcD d) := by
  have ff := dfl_folder (d := d) (c := c)
  have fn := dfl_name (d := d) (c := c)
  have z2 : (2 : Nat) ≤ sizeLine := by decide
  have z3 : (3 : Nat) ≤ sizeLine := by decide
  have z4 : (4 : Nat) ≤ sizeLine := by decide
  cases d with
  | mfo f n o =>
    have fo := dfl_owner_mfo (f := f) (n := n) (o := o) (c := c)
    refine ⟨_, m_MakeFolder_class_name, m_MakeFolder_facts, ("make folder" : Str), cls_mfo.thi ?_ ?_ (by decide +kernel)⟩
    · simp [m_MakeFolder_class_name, mb_MakeFolder_class_name, mkFn, mRet, mC, Out.fl]
    · show m_MakeFolder_facts [deedD (.mfo f n o)] c = _
      simp [m_MakeFolder_facts, mb_MakeFolder_facts, mkFn, mRet, mC, Out.fl, Out.bind, mTup, tupD, mCons, mNil, mFld, mVar, ff, fn, fo, fcD, fldr, nmOf, z3]
  | mfi f n o =>
    have fo := dfl_owner_mfi (f := f) (n := n) (o := o) (c := c)
    refine ⟨_, m_MakeFile_class_name, m_MakeFile_facts, ("make file" : Str), cls_mfi.thi ?_ ?_ (by decide +kernel)⟩
    · simp [m_MakeFile_class_name, mb_MakeFile_class_name, mkFn, mRet, mC, Out.fl]
    · show m_MakeFile_facts [deedD (.mfi f n o)] c = _
      simp [m_MakeFile_facts, mb_MakeFile_facts, mkFn, mRet, mC, Out.fl, Out.bind, mTup, tupD, mCons, mNil, mFld, mVar, ff, fn, fo, fcD, fldr, nmOf, z3]
  | mli f n o t =>
    have fo := dfl_owner_mli (f := f) (n := n) (o := o) (t := t) (c := c)
    have ft := dfl_text_mli (f := f) (n := n) (o := o) (t := t) (c := c)
    refine ⟨_, m_MakeLink_class_name, m_MakeLink_facts, ("make link" : Str), cls_mli.thi ?_ ?_ (by decide +kernel)⟩
    · simp [m_MakeLink_class_name, mb_MakeLink_class_name, mkFn, mRet, mC, Out.fl]
    · show m_MakeLink_facts [deedD (.mli f n o t)] c = _
      simp [m_MakeLink_facts, mb_MakeLink_facts, mkFn, mRet, mC, Out.fl, Out.bind, mTup, tupD, mCons, mNil, mFld, mVar, ff, fn, fo, ft, fcD, fldr, nmOf, z4]
  | put f n k =>
    have fk := dfl_node_put (f := f) (n := n) (k := k) (c := c)
    refine ⟨_, m_Put_class_name, m_Put_facts, ("put" : Str), cls_put.thi ?_ ?_ (by decide +kernel)⟩
    · simp [m_Put_class_name, mb_Put_class_name, mkFn, mRet, mC, Out.fl]
    · show m_Put_facts [deedD (.put f n k)] c = _
      simp [m_Put_facts, mb_Put_facts, mkFn, mRet, mC, Out.fl, Out.bind, mTup, tupD, mCons, mNil, mFld, mVar, ff, fn, fk, fcD, fldr, nmOf, z3]
  | tak f n =>
    refine ⟨_, m_Take_class_name, m_Take_facts, ("take" : Str), cls_tak.thi ?_ ?_ (by decide +kernel)⟩
    · simp [m_Take_class_name, mb_Take_class_name, mkFn, mRet, mC, Out.fl]
    · show m_Take_facts [deedD (.tak f n)] c = _
      simp [m_Take_facts, mb_Take_facts, mkFn, mRet, mC, Out.fl, Out.bind, mTup, tupD, mCons, mNil, mFld, mVar, ff, fn, fcD, fldr, nmOf, z2]
  | mov f n g m =>
    have fg := dfl_goal_mov (f := f) (n := n) (g := g) (m := m) (c := c)
    have fm := dfl_other_mov (f := f) (n := n) (g := g) (m := m) (c := c)
    refine ⟨_, m_Move_class_name, m_Move_facts, ("move" : Str), cls_mov.thi ?_ ?_ (by decide +kernel)⟩
    · simp [m_Move_class_name, mb_Move_class_name, mkFn, mRet, mC, Out.fl]
    · show m_Move_facts [deedD (.mov f n g m)] c = _
      simp [m_Move_facts, mb_Move_facts, mkFn, mRet, mC, Out.fl, Out.bind, mTup, tupD, mCons, mNil, mFld, mVar, ff, fn, fg, fm, fcD, fldr, nmOf, z4]
theorem eq_dd {d : Dd} {c : Cells} (h : Rd d) : eqF eqcs tys m_Thing___eq__ 5 (deedD d) (deedD d) c = .ok true c := by
  obtain ⟨q, mc, mf, w, X⟩ := thi_dd d c
  have ok := fc_ok h
  have := things (n := 4) (b := true) X X (fun _ => by rw [eqF_ok ok ok, eqv_self ok])
  rw [beq_self_eq_true, Bool.true_and] at this
  exact this
theorem okE_dd (d : Dd) : okE eqcs (deedD d) = true := by
  have k1 : eqcs.contains ("MakeFolder" : Str) = true := by decide +kernel
  have k2 : eqcs.contains ("MakeFile" : Str) = true := by decide +kernel
  have k3 : eqcs.contains ("MakeLink" : Str) = true := by decide +kernel
  have k4 : eqcs.contains ("Put" : Str) = true := by decide +kernel
  have k5 : eqcs.contains ("Take" : Str) = true := by decide +kernel
  have k6 : eqcs.contains ("Move" : Str) = true := by decide +kernel
  cases d <;> (unfold deedD okE; simp only [k1, k2, k3, k4, k5, k6]; simp [Nw.okL, Nw.okE])
theorem seq_dds {c : Cells} : ∀ {ds : List Dd}, (∀ d ∈ ds, Rd d) → seqEq (eqB eqcs (eqF eqcs tys m_Thing___eq__ 5)) (ds.map deedD) (ds.map deedD) c = .ok true c
  | [], _ => rfl
  | d :: r, h => by
    have e := eq_dd (c := c) (h d List.mem_cons_self)
    have eb : eqB eqcs (eqF eqcs tys m_Thing___eq__ 5) (deedD d) (deedD d) c = .ok true c := by
      unfold eqB
      rw [if_pos ⟨okE_dd d, okE_dd d⟩, if_pos rfl, isT_of e, if_pos rfl]
    rw [List.map_cons]
    unfold seqEq
    rw [eb]
    dsimp only
    rw [if_pos rfl]
    exact seq_dds fun x hx => h x (List.mem_cons_of_mem _ hx)
theorem py_dds {ds : List Dd} {C : Cells} (h0 : ds ≠ []) : ((ds.map deedD).mapM (pyD C 59)).map PyData.list = none := by
  cases ds with
  | nil => exact absurd rfl h0
  | cons x r =>
    rw [List.map_cons, List.mapM_cons]
    cases x <;> rfl
theorem EQ_ddsC {C : Cells} {j : Nat} {ds : List Dd} (hj : C[j]? = some (.lst (ds.map deedD))) (h0 : ds ≠ []) (h : ∀ d ∈ ds, Rd d) : EQ (.cell j) (.lst (ds.map deedD)) C = .ok true C := by
  have hp : pyD C 60 (.cell j) = none := by
    show (match C[j]? with
      | some (.lst l) => (l.mapM (pyD C 59)).map PyData.list
      | _ => none) = none
    rw [hj]
    exact py_dds h0
  have i2 : insOf C (.cell j) = none := by
    unfold insOf
    dsimp only
    rw [hj]
  have l2 : lstOwn C (.cell j) = some (ds.map deedD) := by
    unfold lstOwn
    dsimp only
    rw [hj]
  show eqF eqcs tys m_Thing___eq__ (5 + 1) (.cell j) (.lst (ds.map deedD)) C = _
  unfold eqF
  rw [hp]
  dsimp only
  unfold eqG
  have i1 : insOf C (.lst (ds.map deedD)) = none := rfl
  rw [i1, i2]
  dsimp only
  have l1 : lstOwn C (.lst (ds.map deedD)) = some (ds.map deedD) := rfl
  rw [l1, l2]
  dsimp only
  rw [if_pos rfl]
  exact seq_dds h
/-! numbers drawn -/
def SrcAt (c : Cells) (i : Nat) : Prop := ∃ a0 a1 a2 : Int, c[i]? = some (.lst [.int a0, .int a1, .int a2])
theorem SrcAt.append {c c' : Cells} {i : Nat} (h : SrcAt c i) : SrcAt (c ++ c') i := by
  obtain ⟨a0, a1, a2, e⟩ := h
  exact ⟨a0, a1, a2, by rw [List.getElem?_append_left (List.getElem?_eq_some_iff.mp e).1]; exact e⟩
theorem SrcAt.lt {c : Cells} {i : Nat} (h : SrcAt c i) : i < c.length := by
  obtain ⟨a0, a1, a2, e⟩ := h
  exact (List.getElem?_eq_some_iff.mp e).1
theorem draw_ok {c : Cells} {i : Nat} {b : Int} (h : SrcAt c i) (hb : 0 < b) (hb2 : b < 1073741824) : ∃ (k : Int) (q : Cell), 0 ≤ k ∧ k < b ∧ m__law_draw [.cell i, .int b] c = .ok (.int k) (c.set i q) ∧ SrcAt (c.set i q) i := by
  obtain ⟨a0, a1, a2, e⟩ := h
  have hi := (List.getElem?_eq_some_iff.mp e).1
  have hd : CDiv a0 b := ⟨hb, hb2⟩
  have e' : c[i] = .lst [.int a0, .int a1, .int a2] := (List.getElem?_eq_some_iff.mp e).2
  unfold m__law_draw mb__law_draw
  by_cases h0 : 0 < a0
  · refine ⟨a0 % b, .lst [.int (a0 / b), .int a1, .int a2], Int.emod_nonneg _ (by omega), Int.emod_lt_of_pos _ hb, ?_, a0 / b, a1, a2, by simp [hi]⟩
    simp [mkFn, mSeq, mIfS, mB, mOp, mVar, mC, mCB, mCons, mNil, mSet, mSetI, mRet, mSkip, Out.bind, Out.fl, gtD, asB, ixD, items, e, e', atI, intD, modD, fdivD, hb, hd, h0, setIGo, ixN, hi]
  · obtain ⟨x, hx⟩ : ∃ x : Int, x = (a1 + 104729 * (a2 + 1) + 11) * 48271 % 2147483647 := ⟨_, rfl⟩
    have x1 : 0 ≤ x := by rw [hx]; exact Int.emod_nonneg _ (by omega)
    have x2 : x < 2147483647 := by rw [hx]; exact Int.emod_lt_of_pos _ (by omega)
    obtain ⟨y, hy⟩ : ∃ y : Int, y = x * (x / 1009 + 69621 + (a2 + 1)) % 2147483587 := ⟨_, rfl⟩
    have y1 : 0 ≤ y := by rw [hy]; exact Int.emod_nonneg _ (by omega)
    have y2 : y < 2147483587 := by rw [hy]; exact Int.emod_lt_of_pos _ (by omega)
    obtain ⟨z, hz⟩ : ∃ z : Int, z = y * (y / 2003 + 40692) % 2147483563 := ⟨_, rfl⟩
    have m1 : CMul 104729 (a2 + 1) := .inl ⟨by decide, by decide⟩
    have m2 : CMul (a1 + 104729 * (a2 + 1) + 11) 48271 := .inr ⟨by decide, by decide⟩
    have m3 : CMul x (x / 1009 + 69621 + (a2 + 1)) := .inl ⟨by omega, by omega⟩
    have m4 : CMul y (y / 2003 + 40692) := .inl ⟨by omega, by omega⟩
    have d1 : CDiv x 1009 := ⟨by decide, by decide⟩
    have d2 : CDiv y 2003 := ⟨by decide, by decide⟩
    have d3 : CDiv z 5 := ⟨by decide, by decide⟩
    refine ⟨z / 5 % b, .lst [.int a0, .int a1, .int (a2 + 1)], Int.emod_nonneg _ (by omega), Int.emod_lt_of_pos _ hb, ?_, a0, a1, a2 + 1, by simp [hi]⟩
    have h0' : ¬ (0 < a0) := h0
    simp [mkFn, mSeq, mIfS, mB, mOp, mVar, mC, mCB, mCons, mNil, mSet, mSetI, mRet, mSkip, Out.bind, Out.fl, gtD, asB, ixD, items, e, e', atI, intD, modD, fdivD, mulD, addD, addG, hb, m1, m2, h0, setIGo, ixN, hi, ← hx, m3, d1, ← hy, m4, d2, ← hz, d3]
theorem source_ok {c : Cells} {n : Int} : ∃ q : Cell, m__law_source [.int n] c = .ok (.cell c.length) (c ++ [q]) ∧ SrcAt (c ++ [q]) c.length := by
  obtain ⟨a, ha⟩ : ∃ a : Int, a = if n < 0 then -n else n := ⟨_, rfl⟩
  have hp : CPow 10 18 := ⟨by decide, by decide, by decide⟩
  have hm : ∀ k : Bool, CMul a (if k = true then 1 else 0) := fun k => .inr (by cases k <;> simp)
  have z : (10 : Int) ^ (18 : Int).toNat = 1000000000000000000 := by decide
  refine ⟨.lst [.int (a * (if decide ((1000000000000000000 : Int) ≤ a) = true then 1 else 0)), .int (n % 2147483629), .int 0], ?_, _, _, _, List.getElem?_concat_length⟩
  unfold m__law_source mb__law_source
  have h1 := hm (decide ((1000000000000000000 : Int) ≤ a))
  have hs : (3 : Nat) ≤ sizeLine := by decide
  subst ha
  simp only [mkFn, mSeq, mB, mOp, mVar, mC, mCB, mCons, mNil, mSet, mRet, mLstC, lstC, Out.bind, Out.fl, geD, intD, modD, powD, mulD, addD, addG, absD, List.length, List.map, List.replicate, List.append, List.set, List.getElem?_cons_zero, List.getElem?_cons_succ, hp, z, h1, ↓reduceIte]
  have h1' : CMul (if n < 0 then -n else n) (if (1000000000000000000 : Int) ≤ (if n < 0 then -n else n) then 1 else 0) := by simpa using h1
  simp [hs, h1']
end Law
end Nw

set_option Elab.async false
set_option linter.all false
set_option maxRecDepth 100000
set_option maxHeartbeats 1000000
namespace Nw
namespace Law
open PySem PySem.Spec
open PyProof.Rows hiding St
open L2
/-! deeds drawn -/
theorem pick_ok {c : Cells} {i : Nat} {l : List D} (h : SrcAt c i) (h0 : 0 < l.length) (h1 : l.length ≤ 1000) : ∃ (d : D) (q : Cell), d ∈ l ∧ m__law_pick [.cell i, .lst l] c = .ok d (c.set i q) ∧ SrcAt (c.set i q) i := by
  obtain ⟨k, q, k0, k1, dw, hs⟩ := draw_ok (b := (l.length : Nat)) h (by omega) (by omega)
  obtain ⟨n, rfl⟩ : ∃ n : Nat, k = (n : Int) := ⟨k.toNat, by omega⟩
  have hn : n < l.length := by omega
  have ix : ixD (.lst l) (.int (n : Nat)) (c.set i q) = .ok l[n] (c.set i q) := ixD_lst (List.getElem?_eq_getElem hn)
  have ln : lenD [.lst l] c = .ok (.int (l.length : Nat)) c := rfl
  refine ⟨l[n], q, List.getElem_mem hn, ?_, hs⟩
  obtain ⟨F, hF⟩ : ∃ F : MF, F = m__law_draw := ⟨_, rfl⟩
  unfold m__law_pick mb__law_pick
  rw [← hF] at dw ⊢
  simp only [mkFn, mkFnB, mSeq, mIfS, mB, mOp, mVar, mC, mCB, mCons, mNil, mSet, mRet, mExpr, mSkip, mOrT, mAndT, mNotT, mAnd, mOr, mNot, mIf, mChain, mIsi, mSl, mLc, mLcL, mLcC, mEnum, mBM, mBM0, mAsg, mPar, mLst, lstD, mLstC, lstC, mTup, tupD, mCall, mCallV, mFld, mMeth0, mMeth, mMake, mRaise, mTry, mTryN, wipeE, eqO, neO, asB, asI, negD, Out.bind, Out.fl, zz0, zz1, zz2, zz3, zz4, zz5, zz6, zz8, zz10, zz13, zz16, List.length_cons, List.length_nil, List.map_cons, List.map_nil, List.replicate, List.cons_append, List.nil_append, List.append_nil, List.set_cons_zero, List.set_cons_succ, List.getElem?_cons_zero, List.getElem?_cons_succ, List.zip_cons_cons, List.zip_nil_right, List.foldl_cons, List.foldl_nil, Nat.reduceAdd, Nat.reduceSub, Bool.not_true, Bool.not_false, Bool.false_eq_true, Bool.true_eq_false, decide_true, decide_false, ↓reduceIte, ln, dw, ix]
def deedR : Dd → D
  | .mfo f n o => .tup [.str ("folder" : Str), .int f, .str n, .int o]
  | .mfi f n o => .tup [.str ("file" : Str), .int f, .str n, .int o]
  | .mli f n o t => .tup [.str ("link" : Str), .int f, .str n, .int o, .str t]
  | .put f n k => .tup [.str ("put" : Str), .int f, .str n, .int k]
  | .tak f n => .tup [.str ("take" : Str), .int f, .str n]
  | .mov f n g m => .tup [.str ("move" : Str), .int f, .str n, .int g, .str m]
def nmL : List Str := [("a" : Str), ("b.c" : Str), ("..." : Str), ("-" : Str), ("take" : Str), ("nothing" : Str), ("zzzzzzzzzzzz" : Str), ("0" : Str), ("_1" : Str)]
theorem nmL_ok : ∀ n ∈ nmL, isNm n = true := by decide +kernel
def nuL (k : Int) : List D := [.int 0, .int 1, .int 7, .int 10, .int 999999999, .int k]
theorem nuL_ok {k : Int} (h : NumOk k) : ∀ d ∈ nuL k, ∃ i, d = .int i ∧ NumOk i := fun d hd => by
  unfold nuL at hd
  simp only [List.mem_cons, List.not_mem_nil, or_false] at hd
  rcases hd with rfl | rfl | rfl | rfl | rfl | rfl
  · exact ⟨_, rfl, by decide, by decide⟩
  · exact ⟨_, rfl, by decide, by decide⟩
  · exact ⟨_, rfl, by decide, by decide⟩
  · exact ⟨_, rfl, by decide, by decide⟩
  · exact ⟨_, rfl, by decide, by decide⟩
  · exact ⟨_, rfl, h⟩
abbrev eR (i : Nat) (x1 x2 x3 x4 : Option D) : En := [some (.cell i), x1, x2, x3, x4]
theorem deed_row_ok {c : Cells} {i : Nat} (h : SrcAt c i) : ∃ (d : Dd) (q : Cell), m__law_deed_row [.cell i] c = .ok (deedR d) (c.set i q) ∧ SrcAt (c.set i q) i ∧ Rd d := by
  have zz := zzm
  have z9 : (9 : Nat) ≤ sizeLine := by decide
  have pw : powD (.int 10) (.int 9) c = .ok (.int 1000000000) c := by
    have hp : CPow 10 9 := ⟨by decide, by decide, by decide⟩
    show (if CPow 10 9 then Out.ok (D.int (10 ^ (9 : Int).toNat)) c else .bad) = _
    rw [if_pos hp]
    rfl
  obtain ⟨k, q1, k0, k1, dw, s1⟩ := draw_ok (b := 1000000000) h (by decide) (by decide)
  have hk : NumOk k := ⟨k0, k1⟩
  obtain ⟨dw_, q2, mw, pk2, s2⟩ := pick_ok (l := wds.map D.str) s1 (by decide) (by decide)
  rw [List.set_set] at pk2 s2
  obtain ⟨w, hw, rfl⟩ := List.mem_map.mp mw
  obtain ⟨df_, q3, mf, pk3, s3⟩ := pick_ok (l := nuL k) s2 (by simp [nuL]) (by simp [nuL])
  rw [List.set_set] at pk3 s3
  obtain ⟨f, rfl, hf⟩ := nuL_ok hk df_ mf
  obtain ⟨dn_, q4, mn, pk4, s4⟩ := pick_ok (l := nmL.map D.str) s3 (by decide) (by decide)
  rw [List.set_set] at pk4 s4
  obtain ⟨n, hn, rfl⟩ := List.mem_map.mp mn
  have hn := nmL_ok n hn
  obtain ⟨N, hN⟩ : ∃ N : List D, N = nmL.map D.str := ⟨_, rfl⟩
  obtain ⟨U, hU⟩ : ∃ U : List D, U = nuL k := ⟨_, rfl⟩
  obtain ⟨F, hF⟩ : ∃ F : MF, F = m__law_draw := ⟨_, rfl⟩
  obtain ⟨P, hP⟩ : ∃ P : MF, P = m__law_pick := ⟨_, rfl⟩
  have b0 : (mSet 1 (mLst (mCons (mC (.str ("a" : Str))) (mCons (mC (.str ("b.c" : Str))) (mCons (mC (.str ("..." : Str))) (mCons (mC (.str ("-" : Str))) (mCons (mC (.str ("take" : Str))) (mCons (mC (.str ("nothing" : Str))) (mCons (mC (.str ("zzzzzzzzzzzz" : Str))) (mCons (mC (.str ("0" : Str))) (mCons (mC (.str ("_1" : Str))) mNil))))))))))) (eR i none none none none) c = .nx (eR i (some (.lst N)) none none none) c := by
    rw [hN]
    simp only [mkFn, mkFnB, mSeq, mIfS, mB, mOp, mVar, mC, mCB, mCons, mNil, mSet, mRet, mExpr, mSkip, mOrT, mAndT, mNotT, mAnd, mOr, mNot, mIf, mChain, mIsi, mSl, mLc, mLcL, mLcC, mEnum, mBM, mBM0, mAsg, mPar, mLst, lstD, mLstC, lstC, mTup, tupD, mCall, mCallV, mFld, mMeth0, mMeth, mMake, mRaise, mTry, mTryN, wipeE, eqO, neO, asB, asI, negD, Out.bind, Out.fl, zz0, zz1, zz2, zz3, zz4, zz5, zz6, zz8, zz10, zz13, zz16, List.length_cons, List.length_nil, List.map_cons, List.map_nil, List.replicate, List.cons_append, List.nil_append, List.append_nil, List.set_cons_zero, List.set_cons_succ, List.getElem?_cons_zero, List.getElem?_cons_succ, List.zip_cons_cons, List.zip_nil_right, List.foldl_cons, List.foldl_nil, Nat.reduceAdd, Nat.reduceSub, Bool.not_true, Bool.not_false, Bool.false_eq_true, Bool.true_eq_false, decide_true, decide_false, ↓reduceIte, z9]
    rfl
  have b1 : (mSet 2 (mLst (mCons (mC (.int 0)) (mCons (mC (.int 1)) (mCons (mC (.int 7)) (mCons (mC (.int 10)) (mCons (mC (.int 999999999)) (mCons (mCall m__law_draw (mCons (mVar 0) (mCons (mOp powD (mC (.int 10)) (mC (.int 9))) mNil))) mNil)))))))) (eR i (some (.lst N)) none none none) c = .nx (eR i (some (.lst N)) (some (.lst U)) none none) (c.set i q1) := by
    rw [hU]
    rw [← hF] at dw ⊢
    simp only [mkFn, mkFnB, mSeq, mIfS, mB, mOp, mVar, mC, mCB, mCons, mNil, mSet, mRet, mExpr, mSkip, mOrT, mAndT, mNotT, mAnd, mOr, mNot, mIf, mChain, mIsi, mSl, mLc, mLcL, mLcC, mEnum, mBM, mBM0, mAsg, mPar, mLst, lstD, mLstC, lstC, mTup, tupD, mCall, mCallV, mFld, mMeth0, mMeth, mMake, mRaise, mTry, mTryN, wipeE, eqO, neO, asB, asI, negD, Out.bind, Out.fl, zz0, zz1, zz2, zz3, zz4, zz5, zz6, zz8, zz10, zz13, zz16, List.length_cons, List.length_nil, List.map_cons, List.map_nil, List.replicate, List.cons_append, List.nil_append, List.append_nil, List.set_cons_zero, List.set_cons_succ, List.getElem?_cons_zero, List.getElem?_cons_succ, List.zip_cons_cons, List.zip_nil_right, List.foldl_cons, List.foldl_nil, Nat.reduceAdd, Nat.reduceSub, Bool.not_true, Bool.not_false, Bool.false_eq_true, Bool.true_eq_false, decide_true, decide_false, ↓reduceIte, pw, dw]
    rfl
  have b2 : (mSet 3 (mCall m__law_pick (mCons (mVar 0) (mCons (mLst (mCons (mC (.str ("folder" : Str))) (mCons (mC (.str ("file" : Str))) (mCons (mC (.str ("link" : Str))) (mCons (mC (.str ("put" : Str))) (mCons (mC (.str ("take" : Str))) (mCons (mC (.str ("move" : Str))) mNil))))))) mNil)))) (eR i (some (.lst N)) (some (.lst U)) none none) (c.set i q1) = .nx (eR i (some (.lst N)) (some (.lst U)) (some (.str w)) none) (c.set i q2) := by
    have pk2 : m__law_pick [.cell i, .lst [.str ("folder" : Str), .str ("file" : Str), .str ("link" : Str), .str ("put" : Str), .str ("take" : Str), .str ("move" : Str)]] (c.set i q1) = .ok (.str w) (c.set i q2) := pk2
    rw [← hP] at pk2 ⊢
    simp only [mkFn, mkFnB, mSeq, mIfS, mB, mOp, mVar, mC, mCB, mCons, mNil, mSet, mRet, mExpr, mSkip, mOrT, mAndT, mNotT, mAnd, mOr, mNot, mIf, mChain, mIsi, mSl, mLc, mLcL, mLcC, mEnum, mBM, mBM0, mAsg, mPar, mLst, lstD, mLstC, lstC, mTup, tupD, mCall, mCallV, mFld, mMeth0, mMeth, mMake, mRaise, mTry, mTryN, wipeE, eqO, neO, asB, asI, negD, Out.bind, Out.fl, zz0, zz1, zz2, zz3, zz4, zz5, zz6, zz8, zz10, zz13, zz16, List.length_cons, List.length_nil, List.map_cons, List.map_nil, List.replicate, List.cons_append, List.nil_append, List.append_nil, List.set_cons_zero, List.set_cons_succ, List.getElem?_cons_zero, List.getElem?_cons_succ, List.zip_cons_cons, List.zip_nil_right, List.foldl_cons, List.foldl_nil, Nat.reduceAdd, Nat.reduceSub, Bool.not_true, Bool.not_false, Bool.false_eq_true, Bool.true_eq_false, decide_true, decide_false, ↓reduceIte, pk2]
  rw [← hU] at pk3
  rw [← hN] at pk4
  have b3 : (mSet 4 (mTup (mCons (mVar 3) (mCons (mCall m__law_pick (mCons (mVar 0) (mCons (mVar 2) mNil))) (mCons (mCall m__law_pick (mCons (mVar 0) (mCons (mVar 1) mNil))) mNil))))) (eR i (some (.lst N)) (some (.lst U)) (some (.str w)) none) (c.set i q2) = .nx (eR i (some (.lst N)) (some (.lst U)) (some (.str w)) (some (.tup [.str w, .int f, .str n]))) (c.set i q4) := by
    rw [← hP] at pk3 pk4 ⊢
    simp only [mkFn, mkFnB, mSeq, mIfS, mB, mOp, mVar, mC, mCB, mCons, mNil, mSet, mRet, mExpr, mSkip, mOrT, mAndT, mNotT, mAnd, mOr, mNot, mIf, mChain, mIsi, mSl, mLc, mLcL, mLcC, mEnum, mBM, mBM0, mAsg, mPar, mLst, lstD, mLstC, lstC, mTup, tupD, mCall, mCallV, mFld, mMeth0, mMeth, mMake, mRaise, mTry, mTryN, wipeE, eqO, neO, asB, asI, negD, Out.bind, Out.fl, zz0, zz1, zz2, zz3, zz4, zz5, zz6, zz8, zz10, zz13, zz16, List.length_cons, List.length_nil, List.map_cons, List.map_nil, List.replicate, List.cons_append, List.nil_append, List.append_nil, List.set_cons_zero, List.set_cons_succ, List.getElem?_cons_zero, List.getElem?_cons_succ, List.zip_cons_cons, List.zip_nil_right, List.foldl_cons, List.foldl_nil, Nat.reduceAdd, Nat.reduceSub, Bool.not_true, Bool.not_false, Bool.false_eq_true, Bool.true_eq_false, decide_true, decide_false, ↓reduceIte, pk3, pk4]
  have fin : ∀ {d : Dd} {q : Cell}, ((mSeq (mIfS (mB (mOp (eqO EQ) (mVar 3) (mC (.str ("take" : Str))))) (mRet (mVar 4)) mSkip) (mSeq (mSet 4 (mOp addD (mVar 4) (mTup (mCons (mCall m__law_pick (mCons (mVar 0) (mCons (mVar 2) mNil))) mNil)))) (mSeq (mIfS (mB (mOp (eqO EQ) (mVar 3) (mC (.str ("link" : Str))))) (mRet (mOp addD (mVar 4) (mTup (mCons (mCall m__law_pick (mCons (mVar 0) (mCons (mLst (mCons (mC (.str ("/" : Str))) (mCons (mC (.str ("." : Str))) (mCons (mC (.str ("../a" : Str))) (mCons (mC (.str ("a//b/" : Str))) (mCons (mC (.str ("/x/./.." : Str))) (mCons (mC (.str ("a" : Str))) mNil))))))) mNil))) mNil)))) mSkip) (mRet (mOp addD (mVar 4) (mIf (mB (mOp (eqO EQ) (mVar 3) (mC (.str ("move" : Str))))) (mTup (mCons (mCall m__law_pick (mCons (mVar 0) (mCons (mVar 1) mNil))) mNil)) (mTup mNil)))))))) (eR i (some (.lst N)) (some (.lst U)) (some (.str w)) (some (.tup [.str w, .int f, .str n]))) (c.set i q4) = .rt (deedR d) (c.set i q) → m__law_deed_row [.cell i] c = .ok (deedR d) (c.set i q) := fun {d q} hB => by
    unfold m__law_deed_row mb__law_deed_row mkFn
    rw [if_pos (show ([.cell i] : List D).length = 1 from rfl)]
    have e9 : ([.cell i] : List D).map some ++ List.replicate (5 - 1) none = eR i none none none none := rfl
    rw [e9, seq_nx b0, seq_nx b1, seq_nx b2, seq_nx b3, hB]
  have eqw : ∀ (v : Str), v ∈ wds → EQ (.str w) (.str v) (c.set i q4) = .ok (w == v) (c.set i q4) := fun v hv => EQw hw hv rfl
  by_cases ht : w = ("take" : Str)
  · subst ht
    have q0 := eqw ("take" : Str) (by simp)
    rw [beq_self_eq_true] at q0
    refine ⟨.tak f n, q4, fin ?_, s4, hf, hn⟩
    refine seq_rt ?_
    simp only [mkFn, mkFnB, mSeq, mIfS, mB, mOp, mVar, mC, mCB, mCons, mNil, mSet, mRet, mExpr, mSkip, mOrT, mAndT, mNotT, mAnd, mOr, mNot, mIf, mChain, mIsi, mSl, mLc, mLcL, mLcC, mEnum, mBM, mBM0, mAsg, mPar, mLst, lstD, mLstC, lstC, mTup, tupD, mCall, mCallV, mFld, mMeth0, mMeth, mMake, mRaise, mTry, mTryN, wipeE, eqO, neO, asB, asI, negD, Out.bind, Out.fl, zz0, zz1, zz2, zz3, zz4, zz5, zz6, zz8, zz10, zz13, zz16, List.length_cons, List.length_nil, List.map_cons, List.map_nil, List.replicate, List.cons_append, List.nil_append, List.append_nil, List.set_cons_zero, List.set_cons_succ, List.getElem?_cons_zero, List.getElem?_cons_succ, List.zip_cons_cons, List.zip_nil_right, List.foldl_cons, List.foldl_nil, Nat.reduceAdd, Nat.reduceSub, Bool.not_true, Bool.not_false, Bool.false_eq_true, Bool.true_eq_false, decide_true, decide_false, ↓reduceIte, q0]
    rfl
  · have q0 := eqw ("take" : Str) (by simp)
    rw [beq_eq_false_iff_ne.mpr ht] at q0
    have c4 : (mIfS (mB (mOp (eqO EQ) (mVar 3) (mC (.str ("take" : Str))))) (mRet (mVar 4)) mSkip) (eR i (some (.lst N)) (some (.lst U)) (some (.str w)) (some (.tup [.str w, .int f, .str n]))) (c.set i q4) = .nx (eR i (some (.lst N)) (some (.lst U)) (some (.str w)) (some (.tup [.str w, .int f, .str n]))) (c.set i q4) := by
      simp only [mkFn, mkFnB, mSeq, mIfS, mB, mOp, mVar, mC, mCB, mCons, mNil, mSet, mRet, mExpr, mSkip, mOrT, mAndT, mNotT, mAnd, mOr, mNot, mIf, mChain, mIsi, mSl, mLc, mLcL, mLcC, mEnum, mBM, mBM0, mAsg, mPar, mLst, lstD, mLstC, lstC, mTup, tupD, mCall, mCallV, mFld, mMeth0, mMeth, mMake, mRaise, mTry, mTryN, wipeE, eqO, neO, asB, asI, negD, Out.bind, Out.fl, zz0, zz1, zz2, zz3, zz4, zz5, zz6, zz8, zz10, zz13, zz16, List.length_cons, List.length_nil, List.map_cons, List.map_nil, List.replicate, List.cons_append, List.nil_append, List.append_nil, List.set_cons_zero, List.set_cons_succ, List.getElem?_cons_zero, List.getElem?_cons_succ, List.zip_cons_cons, List.zip_nil_right, List.foldl_cons, List.foldl_nil, Nat.reduceAdd, Nat.reduceSub, Bool.not_true, Bool.not_false, Bool.false_eq_true, Bool.true_eq_false, decide_true, decide_false, ↓reduceIte, q0]
    obtain ⟨do_, q5, mo, pk5, s5⟩ := pick_ok (l := nuL k) s4 (by simp [nuL]) (by simp [nuL])
    rw [List.set_set] at pk5 s5
    obtain ⟨o, rfl, ho⟩ := nuL_ok hk do_ mo
    rw [← hU] at pk5
    have c5 : (mSet 4 (mOp addD (mVar 4) (mTup (mCons (mCall m__law_pick (mCons (mVar 0) (mCons (mVar 2) mNil))) mNil)))) (eR i (some (.lst N)) (some (.lst U)) (some (.str w)) (some (.tup [.str w, .int f, .str n]))) (c.set i q4) = .nx (eR i (some (.lst N)) (some (.lst U)) (some (.str w)) (some (.tup [.str w, .int f, .str n, .int o]))) (c.set i q5) := by
      have ad : addD (.tup [.str w, .int f, .str n]) (.tup [.int o]) (c.set i q5) = .ok (.tup [.str w, .int f, .str n, .int o]) (c.set i q5) := by
        show (if (3 + 1 : Nat) ≤ sizeLine then Out.ok (D.tup [.str w, .int f, .str n, .int o]) (c.set i q5) else .bad) = _
        rw [if_pos (by omega)]
      rw [← hP] at pk5 ⊢
      simp only [mkFn, mkFnB, mSeq, mIfS, mB, mOp, mVar, mC, mCB, mCons, mNil, mSet, mRet, mExpr, mSkip, mOrT, mAndT, mNotT, mAnd, mOr, mNot, mIf, mChain, mIsi, mSl, mLc, mLcL, mLcC, mEnum, mBM, mBM0, mAsg, mPar, mLst, lstD, mLstC, lstC, mTup, tupD, mCall, mCallV, mFld, mMeth0, mMeth, mMake, mRaise, mTry, mTryN, wipeE, eqO, neO, asB, asI, negD, Out.bind, Out.fl, zz0, zz1, zz2, zz3, zz4, zz5, zz6, zz8, zz10, zz13, zz16, List.length_cons, List.length_nil, List.map_cons, List.map_nil, List.replicate, List.cons_append, List.nil_append, List.append_nil, List.set_cons_zero, List.set_cons_succ, List.getElem?_cons_zero, List.getElem?_cons_succ, List.zip_cons_cons, List.zip_nil_right, List.foldl_cons, List.foldl_nil, Nat.reduceAdd, Nat.reduceSub, Bool.not_true, Bool.not_false, Bool.false_eq_true, Bool.true_eq_false, decide_true, decide_false, ↓reduceIte, pk5, ad]
    have eqw5 : ∀ (v : Str), v ∈ wds → EQ (.str w) (.str v) (c.set i q5) = .ok (w == v) (c.set i q5) := fun v hv => EQw hw hv rfl
    by_cases hl : w = ("link" : Str)
    · subst hl
      have q6 := eqw5 ("link" : Str) (by simp)
      rw [beq_self_eq_true] at q6
      obtain ⟨dt_, q7, mt, pk6, s6⟩ := pick_ok (l := txL6.map D.str) s5 (by decide) (by decide)
      rw [List.set_set] at pk6 s6
      obtain ⟨t, ht6, rfl⟩ := List.mem_map.mp mt
      refine ⟨.mli f n o t, q7, fin ?_, s6, hf, hn, ho, ht6⟩
      rw [seq_nx c4, seq_nx c5]
      refine seq_rt ?_
      have ad : addD (.tup [.str ("link" : Str), .int f, .str n, .int o]) (.tup [.str t]) (c.set i q7) = .ok (.tup [.str ("link" : Str), .int f, .str n, .int o, .str t]) (c.set i q7) := by
        show (if (4 + 1 : Nat) ≤ sizeLine then Out.ok (D.tup [.str ("link" : Str), .int f, .str n, .int o, .str t]) (c.set i q7) else .bad) = _
        rw [if_pos (by omega)]
      have pk6 : m__law_pick [.cell i, .lst [.str ("/" : Str), .str ("." : Str), .str ("../a" : Str), .str ("a//b/" : Str), .str ("/x/./.." : Str), .str ("a" : Str)]] (c.set i q5) = .ok (.str t) (c.set i q7) := pk6
      rw [← hP] at pk6 ⊢
      simp only [mkFn, mkFnB, mSeq, mIfS, mB, mOp, mVar, mC, mCB, mCons, mNil, mSet, mRet, mExpr, mSkip, mOrT, mAndT, mNotT, mAnd, mOr, mNot, mIf, mChain, mIsi, mSl, mLc, mLcL, mLcC, mEnum, mBM, mBM0, mAsg, mPar, mLst, lstD, mLstC, lstC, mTup, tupD, mCall, mCallV, mFld, mMeth0, mMeth, mMake, mRaise, mTry, mTryN, wipeE, eqO, neO, asB, asI, negD, Out.bind, Out.fl, zz0, zz1, zz2, zz3, zz4, zz5, zz6, zz8, zz10, zz13, zz16, List.length_cons, List.length_nil, List.map_cons, List.map_nil, List.replicate, List.cons_append, List.nil_append, List.append_nil, List.set_cons_zero, List.set_cons_succ, List.getElem?_cons_zero, List.getElem?_cons_succ, List.zip_cons_cons, List.zip_nil_right, List.foldl_cons, List.foldl_nil, Nat.reduceAdd, Nat.reduceSub, Bool.not_true, Bool.not_false, Bool.false_eq_true, Bool.true_eq_false, decide_true, decide_false, ↓reduceIte, q6, pk6, ad]
      rfl
    · have q6 := eqw5 ("link" : Str) (by simp)
      rw [beq_eq_false_iff_ne.mpr hl] at q6
      have c6 : (mIfS (mB (mOp (eqO EQ) (mVar 3) (mC (.str ("link" : Str))))) (mRet (mOp addD (mVar 4) (mTup (mCons (mCall m__law_pick (mCons (mVar 0) (mCons (mLst (mCons (mC (.str ("/" : Str))) (mCons (mC (.str ("." : Str))) (mCons (mC (.str ("../a" : Str))) (mCons (mC (.str ("a//b/" : Str))) (mCons (mC (.str ("/x/./.." : Str))) (mCons (mC (.str ("a" : Str))) mNil))))))) mNil))) mNil)))) mSkip) (eR i (some (.lst N)) (some (.lst U)) (some (.str w)) (some (.tup [.str w, .int f, .str n, .int o]))) (c.set i q5) = .nx (eR i (some (.lst N)) (some (.lst U)) (some (.str w)) (some (.tup [.str w, .int f, .str n, .int o]))) (c.set i q5) := by
        simp only [mkFn, mkFnB, mSeq, mIfS, mB, mOp, mVar, mC, mCB, mCons, mNil, mSet, mRet, mExpr, mSkip, mOrT, mAndT, mNotT, mAnd, mOr, mNot, mIf, mChain, mIsi, mSl, mLc, mLcL, mLcC, mEnum, mBM, mBM0, mAsg, mPar, mLst, lstD, mLstC, lstC, mTup, tupD, mCall, mCallV, mFld, mMeth0, mMeth, mMake, mRaise, mTry, mTryN, wipeE, eqO, neO, asB, asI, negD, Out.bind, Out.fl, zz0, zz1, zz2, zz3, zz4, zz5, zz6, zz8, zz10, zz13, zz16, List.length_cons, List.length_nil, List.map_cons, List.map_nil, List.replicate, List.cons_append, List.nil_append, List.append_nil, List.set_cons_zero, List.set_cons_succ, List.getElem?_cons_zero, List.getElem?_cons_succ, List.zip_cons_cons, List.zip_nil_right, List.foldl_cons, List.foldl_nil, Nat.reduceAdd, Nat.reduceSub, Bool.not_true, Bool.not_false, Bool.false_eq_true, Bool.true_eq_false, decide_true, decide_false, ↓reduceIte, q6]
      have q8 := eqw5 ("move" : Str) (by simp)
      by_cases hm : w = ("move" : Str)
      · subst hm
        rw [beq_self_eq_true] at q8
        obtain ⟨dm_, q9, mm, pk9, s9⟩ := pick_ok (l := nmL.map D.str) s5 (by decide) (by decide)
        rw [List.set_set] at pk9 s9
        obtain ⟨m, hm9, rfl⟩ := List.mem_map.mp mm
        rw [← hN] at pk9
        refine ⟨.mov f n o m, q9, fin ?_, s9, hf, hn, ho, nmL_ok m hm9⟩
        rw [seq_nx c4, seq_nx c5, seq_nx c6]
        have ad : addD (.tup [.str ("move" : Str), .int f, .str n, .int o]) (.tup [.str m]) (c.set i q9) = .ok (.tup [.str ("move" : Str), .int f, .str n, .int o, .str m]) (c.set i q9) := by
          show (if (4 + 1 : Nat) ≤ sizeLine then Out.ok (D.tup [.str ("move" : Str), .int f, .str n, .int o, .str m]) (c.set i q9) else .bad) = _
          rw [if_pos (by omega)]
        rw [← hP] at pk9 ⊢
        simp only [mkFn, mkFnB, mSeq, mIfS, mB, mOp, mVar, mC, mCB, mCons, mNil, mSet, mRet, mExpr, mSkip, mOrT, mAndT, mNotT, mAnd, mOr, mNot, mIf, mChain, mIsi, mSl, mLc, mLcL, mLcC, mEnum, mBM, mBM0, mAsg, mPar, mLst, lstD, mLstC, lstC, mTup, tupD, mCall, mCallV, mFld, mMeth0, mMeth, mMake, mRaise, mTry, mTryN, wipeE, eqO, neO, asB, asI, negD, Out.bind, Out.fl, zz0, zz1, zz2, zz3, zz4, zz5, zz6, zz8, zz10, zz13, zz16, List.length_cons, List.length_nil, List.map_cons, List.map_nil, List.replicate, List.cons_append, List.nil_append, List.append_nil, List.set_cons_zero, List.set_cons_succ, List.getElem?_cons_zero, List.getElem?_cons_succ, List.zip_cons_cons, List.zip_nil_right, List.foldl_cons, List.foldl_nil, Nat.reduceAdd, Nat.reduceSub, Bool.not_true, Bool.not_false, Bool.false_eq_true, Bool.true_eq_false, decide_true, decide_false, ↓reduceIte, q8, pk9, ad]
        rfl
      · rw [beq_eq_false_iff_ne.mpr hm] at q8
        have ad : addD (.tup [.str w, .int f, .str n, .int o]) (.tup []) (c.set i q5) = .ok (.tup [.str w, .int f, .str n, .int o]) (c.set i q5) := by
          show (if (4 + 0 : Nat) ≤ sizeLine then Out.ok (D.tup [.str w, .int f, .str n, .int o]) (c.set i q5) else .bad) = _
          rw [if_pos (by omega)]
        have rest : ((mSeq (mIfS (mB (mOp (eqO EQ) (mVar 3) (mC (.str ("take" : Str))))) (mRet (mVar 4)) mSkip) (mSeq (mSet 4 (mOp addD (mVar 4) (mTup (mCons (mCall m__law_pick (mCons (mVar 0) (mCons (mVar 2) mNil))) mNil)))) (mSeq (mIfS (mB (mOp (eqO EQ) (mVar 3) (mC (.str ("link" : Str))))) (mRet (mOp addD (mVar 4) (mTup (mCons (mCall m__law_pick (mCons (mVar 0) (mCons (mLst (mCons (mC (.str ("/" : Str))) (mCons (mC (.str ("." : Str))) (mCons (mC (.str ("../a" : Str))) (mCons (mC (.str ("a//b/" : Str))) (mCons (mC (.str ("/x/./.." : Str))) (mCons (mC (.str ("a" : Str))) mNil))))))) mNil))) mNil)))) mSkip) (mRet (mOp addD (mVar 4) (mIf (mB (mOp (eqO EQ) (mVar 3) (mC (.str ("move" : Str))))) (mTup (mCons (mCall m__law_pick (mCons (mVar 0) (mCons (mVar 1) mNil))) mNil)) (mTup mNil)))))))) (eR i (some (.lst N)) (some (.lst U)) (some (.str w)) (some (.tup [.str w, .int f, .str n]))) (c.set i q4) = .rt (.tup [.str w, .int f, .str n, .int o]) (c.set i q5) := by
          rw [seq_nx c4, seq_nx c5, seq_nx c6]
          simp only [mkFn, mkFnB, mSeq, mIfS, mB, mOp, mVar, mC, mCB, mCons, mNil, mSet, mRet, mExpr, mSkip, mOrT, mAndT, mNotT, mAnd, mOr, mNot, mIf, mChain, mIsi, mSl, mLc, mLcL, mLcC, mEnum, mBM, mBM0, mAsg, mPar, mLst, lstD, mLstC, lstC, mTup, tupD, mCall, mCallV, mFld, mMeth0, mMeth, mMake, mRaise, mTry, mTryN, wipeE, eqO, neO, asB, asI, negD, Out.bind, Out.fl, zz0, zz1, zz2, zz3, zz4, zz5, zz6, zz8, zz10, zz13, zz16, List.length_cons, List.length_nil, List.map_cons, List.map_nil, List.replicate, List.cons_append, List.nil_append, List.append_nil, List.set_cons_zero, List.set_cons_succ, List.getElem?_cons_zero, List.getElem?_cons_succ, List.zip_cons_cons, List.zip_nil_right, List.foldl_cons, List.foldl_nil, Nat.reduceAdd, Nat.reduceSub, Bool.not_true, Bool.not_false, Bool.false_eq_true, Bool.true_eq_false, decide_true, decide_false, ↓reduceIte, q8, ad]
        have hw3 : w = ("folder" : Str) ∨ w = ("file" : Str) ∨ w = ("put" : Str) := by
          simp only [List.mem_cons, List.not_mem_nil, or_false] at hw
          rcases hw with e | e | e | e | e | e
          · exact .inl e
          · exact .inr (.inl e)
          · exact absurd e hl
          · exact .inr (.inr e)
          · exact absurd e ht
          · exact absurd e hm
        rcases hw3 with rfl | rfl | rfl
        · exact ⟨.mfo f n o, q5, fin rest, s5, hf, hn, ho⟩
        · exact ⟨.mfi f n o, q5, fin rest, s5, hf, hn, ho⟩
        · exact ⟨.put f n o, q5, fin rest, s5, hf, hn, ho⟩
def wd : Dd → Str
  | .mfo _ _ _ => ("folder" : Str)
  | .mfi _ _ _ => ("file" : Str)
  | .mli _ _ _ _ => ("link" : Str)
  | .put _ _ _ => ("put" : Str)
  | .tak _ _ => ("take" : Str)
  | .mov _ _ _ _ => ("move" : Str)
theorem sl3 {d : Dd} {c : Cells} : slG lstD (deedR d) none (some 3) c = .ok (.tup [.str (wd d), .int (fldr d), .str (nmOf d)]) c := by
  cases d <;> kernel_rfl
theorem law_deed_ok {d : Dd} {c : Cells} : m__law_deed [deedR d] c = .ok (deedD d) c := by
  have sl := sl3 (d := d) (c := c)
  have e : ∀ {x y : Str} (b : Bool), x ∈ wds → y ∈ wds → (x == y) = b → EQ (.str x) (.str y) c = .ok b c := fun b h1 h2 h3 => EQw h1 h2 h3
  have s0 : (mAsg (gT 3 (gsCons (gN 1) (gsCons (gN 2) (gsCons (gN 3) gsNil)))) (mSl lstD (mVar 0) (fun _ c => .ok none c) (fun δ c => ((mC (.int 3)) δ c).bind asI))) [some (deedR d), none, none, none] c = .nx [some (deedR d), some (.str (wd d)), some (.int (fldr d)), some (.str (nmOf d))] c := by
    simp only [mkFn, mkFnB, mSeq, mIfS, mB, mOp, mVar, mC, mCB, mCons, mNil, mSet, mRet, mExpr, mSkip, mOrT, mAndT, mNotT, mAnd, mOr, mNot, mIf, mChain, mIsi, mSl, mLc, mLcL, mLcC, mEnum, mBM, mBM0, mAsg, mPar, mLst, lstD, mLstC, lstC, mTup, tupD, mCall, mCallV, mFld, mMeth0, mMeth, mMake, mRaise, mTry, mTryN, wipeE, eqO, neO, asB, asI, negD, Out.bind, Out.fl, zz0, zz1, zz2, zz3, zz4, zz5, zz6, zz8, zz10, zz13, zz16, List.length_cons, List.length_nil, List.map_cons, List.map_nil, List.replicate, List.cons_append, List.nil_append, List.append_nil, List.set_cons_zero, List.set_cons_succ, List.getElem?_cons_zero, List.getElem?_cons_succ, List.zip_cons_cons, List.zip_nil_right, List.foldl_cons, List.foldl_nil, Nat.reduceAdd, Nat.reduceSub, Bool.not_true, Bool.not_false, Bool.false_eq_true, Bool.true_eq_false, decide_true, decide_false, ↓reduceIte, sl]
    rfl
  unfold m__law_deed mb__law_deed mkFn
  rw [if_pos (show ([deedR d] : List D).length = 1 from rfl)]
  have e9 : ([deedR d] : List D).map some ++ List.replicate (4 - 1) none = [some (deedR d), none, none, none] := rfl
  rw [e9, seq_nx s0]
  cases d with
  | mfo f n o =>
    have i3 : ixD (deedR (.mfo f n o)) (.int 3) c = .ok (.int o) c := ixD_tup (i := 3) rfl
    have a := e (x := ("folder" : Str)) (y := ("folder" : Str)) true (by simp) (by simp) (by decide +kernel)
    have mk := make_mfo (f := f) (n := n) (o := o) (c := c)
    simp only [mkFn, mkFnB, mSeq, mIfS, mB, mOp, mVar, mC, mCB, mCons, mNil, mSet, mRet, mExpr, mSkip, mOrT, mAndT, mNotT, mAnd, mOr, mNot, mIf, mChain, mIsi, mSl, mLc, mLcL, mLcC, mEnum, mBM, mBM0, mAsg, mPar, mLst, lstD, mLstC, lstC, mTup, tupD, mCall, mCallV, mFld, mMeth0, mMeth, mMake, mRaise, mTry, mTryN, wipeE, eqO, neO, asB, asI, negD, Out.bind, Out.fl, zz0, zz1, zz2, zz3, zz4, zz5, zz6, zz8, zz10, zz13, zz16, List.length_cons, List.length_nil, List.map_cons, List.map_nil, List.replicate, List.cons_append, List.nil_append, List.append_nil, List.set_cons_zero, List.set_cons_succ, List.getElem?_cons_zero, List.getElem?_cons_succ, List.zip_cons_cons, List.zip_nil_right, List.foldl_cons, List.foldl_nil, Nat.reduceAdd, Nat.reduceSub, Bool.not_true, Bool.not_false, Bool.false_eq_true, Bool.true_eq_false, decide_true, decide_false, ↓reduceIte, i3, wd, fldr, nmOf, a, mk]
  | mfi f n o =>
    have i3 : ixD (deedR (.mfi f n o)) (.int 3) c = .ok (.int o) c := ixD_tup (i := 3) rfl
    have a := e (x := ("file" : Str)) (y := ("folder" : Str)) false (by simp) (by simp) (by decide +kernel)
    have b := e (x := ("file" : Str)) (y := ("file" : Str)) true (by simp) (by simp) (by decide +kernel)
    have mk := make_mfi (f := f) (n := n) (o := o) (c := c)
    simp only [mkFn, mkFnB, mSeq, mIfS, mB, mOp, mVar, mC, mCB, mCons, mNil, mSet, mRet, mExpr, mSkip, mOrT, mAndT, mNotT, mAnd, mOr, mNot, mIf, mChain, mIsi, mSl, mLc, mLcL, mLcC, mEnum, mBM, mBM0, mAsg, mPar, mLst, lstD, mLstC, lstC, mTup, tupD, mCall, mCallV, mFld, mMeth0, mMeth, mMake, mRaise, mTry, mTryN, wipeE, eqO, neO, asB, asI, negD, Out.bind, Out.fl, zz0, zz1, zz2, zz3, zz4, zz5, zz6, zz8, zz10, zz13, zz16, List.length_cons, List.length_nil, List.map_cons, List.map_nil, List.replicate, List.cons_append, List.nil_append, List.append_nil, List.set_cons_zero, List.set_cons_succ, List.getElem?_cons_zero, List.getElem?_cons_succ, List.zip_cons_cons, List.zip_nil_right, List.foldl_cons, List.foldl_nil, Nat.reduceAdd, Nat.reduceSub, Bool.not_true, Bool.not_false, Bool.false_eq_true, Bool.true_eq_false, decide_true, decide_false, ↓reduceIte, i3, wd, fldr, nmOf, a, b, mk]
  | mli f n o t =>
    have i3 : ixD (deedR (.mli f n o t)) (.int 3) c = .ok (.int o) c := ixD_tup (i := 3) rfl
    have i4 : ixD (deedR (.mli f n o t)) (.int 4) c = .ok (.str t) c := ixD_tup (i := 4) rfl
    have a := e (x := ("link" : Str)) (y := ("folder" : Str)) false (by simp) (by simp) (by decide +kernel)
    have b := e (x := ("link" : Str)) (y := ("file" : Str)) false (by simp) (by simp) (by decide +kernel)
    have g := e (x := ("link" : Str)) (y := ("link" : Str)) true (by simp) (by simp) (by decide +kernel)
    have mk := make_mli (f := f) (n := n) (o := o) (t := t) (c := c)
    simp only [mkFn, mkFnB, mSeq, mIfS, mB, mOp, mVar, mC, mCB, mCons, mNil, mSet, mRet, mExpr, mSkip, mOrT, mAndT, mNotT, mAnd, mOr, mNot, mIf, mChain, mIsi, mSl, mLc, mLcL, mLcC, mEnum, mBM, mBM0, mAsg, mPar, mLst, lstD, mLstC, lstC, mTup, tupD, mCall, mCallV, mFld, mMeth0, mMeth, mMake, mRaise, mTry, mTryN, wipeE, eqO, neO, asB, asI, negD, Out.bind, Out.fl, zz0, zz1, zz2, zz3, zz4, zz5, zz6, zz8, zz10, zz13, zz16, List.length_cons, List.length_nil, List.map_cons, List.map_nil, List.replicate, List.cons_append, List.nil_append, List.append_nil, List.set_cons_zero, List.set_cons_succ, List.getElem?_cons_zero, List.getElem?_cons_succ, List.zip_cons_cons, List.zip_nil_right, List.foldl_cons, List.foldl_nil, Nat.reduceAdd, Nat.reduceSub, Bool.not_true, Bool.not_false, Bool.false_eq_true, Bool.true_eq_false, decide_true, decide_false, ↓reduceIte, i3, i4, wd, fldr, nmOf, a, b, g, mk]
  | put f n k =>
    have i3 : ixD (deedR (.put f n k)) (.int 3) c = .ok (.int k) c := ixD_tup (i := 3) rfl
    have a := e (x := ("put" : Str)) (y := ("folder" : Str)) false (by simp) (by simp) (by decide +kernel)
    have b := e (x := ("put" : Str)) (y := ("file" : Str)) false (by simp) (by simp) (by decide +kernel)
    have g := e (x := ("put" : Str)) (y := ("link" : Str)) false (by simp) (by simp) (by decide +kernel)
    have u := e (x := ("put" : Str)) (y := ("put" : Str)) true (by simp) (by simp) (by decide +kernel)
    have mk := make_put (f := f) (n := n) (k := k) (c := c)
    simp only [mkFn, mkFnB, mSeq, mIfS, mB, mOp, mVar, mC, mCB, mCons, mNil, mSet, mRet, mExpr, mSkip, mOrT, mAndT, mNotT, mAnd, mOr, mNot, mIf, mChain, mIsi, mSl, mLc, mLcL, mLcC, mEnum, mBM, mBM0, mAsg, mPar, mLst, lstD, mLstC, lstC, mTup, tupD, mCall, mCallV, mFld, mMeth0, mMeth, mMake, mRaise, mTry, mTryN, wipeE, eqO, neO, asB, asI, negD, Out.bind, Out.fl, zz0, zz1, zz2, zz3, zz4, zz5, zz6, zz8, zz10, zz13, zz16, List.length_cons, List.length_nil, List.map_cons, List.map_nil, List.replicate, List.cons_append, List.nil_append, List.append_nil, List.set_cons_zero, List.set_cons_succ, List.getElem?_cons_zero, List.getElem?_cons_succ, List.zip_cons_cons, List.zip_nil_right, List.foldl_cons, List.foldl_nil, Nat.reduceAdd, Nat.reduceSub, Bool.not_true, Bool.not_false, Bool.false_eq_true, Bool.true_eq_false, decide_true, decide_false, ↓reduceIte, i3, wd, fldr, nmOf, a, b, g, u, mk]
  | tak f n =>
    have a := e (x := ("take" : Str)) (y := ("folder" : Str)) false (by simp) (by simp) (by decide +kernel)
    have b := e (x := ("take" : Str)) (y := ("file" : Str)) false (by simp) (by simp) (by decide +kernel)
    have g := e (x := ("take" : Str)) (y := ("link" : Str)) false (by simp) (by simp) (by decide +kernel)
    have u := e (x := ("take" : Str)) (y := ("put" : Str)) false (by simp) (by simp) (by decide +kernel)
    have v := e (x := ("take" : Str)) (y := ("take" : Str)) true (by simp) (by simp) (by decide +kernel)
    have mk := make_tak (f := f) (n := n) (c := c)
    simp only [mkFn, mkFnB, mSeq, mIfS, mB, mOp, mVar, mC, mCB, mCons, mNil, mSet, mRet, mExpr, mSkip, mOrT, mAndT, mNotT, mAnd, mOr, mNot, mIf, mChain, mIsi, mSl, mLc, mLcL, mLcC, mEnum, mBM, mBM0, mAsg, mPar, mLst, lstD, mLstC, lstC, mTup, tupD, mCall, mCallV, mFld, mMeth0, mMeth, mMake, mRaise, mTry, mTryN, wipeE, eqO, neO, asB, asI, negD, Out.bind, Out.fl, zz0, zz1, zz2, zz3, zz4, zz5, zz6, zz8, zz10, zz13, zz16, List.length_cons, List.length_nil, List.map_cons, List.map_nil, List.replicate, List.cons_append, List.nil_append, List.append_nil, List.set_cons_zero, List.set_cons_succ, List.getElem?_cons_zero, List.getElem?_cons_succ, List.zip_cons_cons, List.zip_nil_right, List.foldl_cons, List.foldl_nil, Nat.reduceAdd, Nat.reduceSub, Bool.not_true, Bool.not_false, Bool.false_eq_true, Bool.true_eq_false, decide_true, decide_false, ↓reduceIte, wd, fldr, nmOf, a, b, g, u, v, mk]
  | mov f n o m =>
    have i3 : ixD (deedR (.mov f n o m)) (.int 3) c = .ok (.int o) c := ixD_tup (i := 3) rfl
    have i4 : ixD (deedR (.mov f n o m)) (.int 4) c = .ok (.str m) c := ixD_tup (i := 4) rfl
    have a := e (x := ("move" : Str)) (y := ("folder" : Str)) false (by simp) (by simp) (by decide +kernel)
    have b := e (x := ("move" : Str)) (y := ("file" : Str)) false (by simp) (by simp) (by decide +kernel)
    have g := e (x := ("move" : Str)) (y := ("link" : Str)) false (by simp) (by simp) (by decide +kernel)
    have u := e (x := ("move" : Str)) (y := ("put" : Str)) false (by simp) (by simp) (by decide +kernel)
    have v := e (x := ("move" : Str)) (y := ("take" : Str)) false (by simp) (by simp) (by decide +kernel)
    have mk := make_mov (f := f) (n := n) (g := o) (m := m) (c := c)
    simp only [mkFn, mkFnB, mSeq, mIfS, mB, mOp, mVar, mC, mCB, mCons, mNil, mSet, mRet, mExpr, mSkip, mOrT, mAndT, mNotT, mAnd, mOr, mNot, mIf, mChain, mIsi, mSl, mLc, mLcL, mLcC, mEnum, mBM, mBM0, mAsg, mPar, mLst, lstD, mLstC, lstC, mTup, tupD, mCall, mCallV, mFld, mMeth0, mMeth, mMake, mRaise, mTry, mTryN, wipeE, eqO, neO, asB, asI, negD, Out.bind, Out.fl, zz0, zz1, zz2, zz3, zz4, zz5, zz6, zz8, zz10, zz13, zz16, List.length_cons, List.length_nil, List.map_cons, List.map_nil, List.replicate, List.cons_append, List.nil_append, List.append_nil, List.set_cons_zero, List.set_cons_succ, List.getElem?_cons_zero, List.getElem?_cons_succ, List.zip_cons_cons, List.zip_nil_right, List.foldl_cons, List.foldl_nil, Nat.reduceAdd, Nat.reduceSub, Bool.not_true, Bool.not_false, Bool.false_eq_true, Bool.true_eq_false, decide_true, decide_false, ↓reduceIte, i3, i4, wd, fldr, nmOf, a, b, g, u, v, mk]
end Law
end Nw

set_option Elab.async false
set_option linter.all false
set_option maxRecDepth 100000
set_option maxHeartbeats 1000000
namespace Nw
namespace Law
open PySem PySem.Spec
open PyProof.Rows hiding St
open L2
theorem app_at {C : Cells} {j : Nat} {l : List D} {y : D} (h : C[j]? = some (.lst l)) (hz : l.length < sizeLine) : appendD (.cell j) [y] C = .ok .non (C.set j (.lst (l ++ [y]))) := by
  unfold appendD
  dsimp only
  rw [h]
  dsimp only
  rw [if_pos hz]
theorem bt_at {C : Cells} {j : Nat} {l : List D} (h : C[j]? = some (.lst l)) : isBt .l C (.cell j) = true := by
  show (lstOf C (.cell j)).isSome = true
  unfold lstOf
  dsimp only
  rw [h]
  rfl
theorem bind_okG {α β : Type} {a : α} {c : Cells} {f : α → Cells → Out β} : (Out.ok a c).bind f = f a c := rfl
theorem fl_okG {α : Type} {a : α} {c : Cells} {δ : En} {f : α → Cells → Fl} : (Out.ok a c).fl δ f = f a c := rfl
theorem it_of {m : En → Cells → Out (List Nw.D)} {δ : En} {c c' : Cells} {n : Nat} (hv : m δ c = .ok [.int (n : Nat)] c') (hn : n < 1000) : (fun δ c => (m δ c).bind rng1) δ c = .ok (rangeD 0 n) c' := by
  show (m δ c).bind rng1 = _
  rw [hv, bind_okG, rngI (by omega) (by omega), Int.toNat_natCast]
theorem at_c {c J : Cells} {N : Cell} : (c ++ N :: J)[c.length]? = some N := by simp
theorem set_c {c J : Cells} {N N' : Cell} : (c ++ N :: J).set c.length N' = c ++ N' :: J := by simp
theorem addCG {C : Cells} {i : Nat} {l B : List Nw.D} (h : C[i]? = some (.lst l)) (hl : l.length + B.length ≤ 10000) : addD (.cell i) (.lst B) C = .ok (.lst (l ++ B)) C := by
  have zz := zzm
  have e : lstOf C (.cell i) = some l := by
    unfold lstOf
    dsimp only
    rw [h]
  have e2 : lstOf C (.lst B) = some B := rfl
  unfold addD addG
  dsimp only
  rw [e, e2]
  dsimp only
  unfold lstD
  rw [if_pos (by rw [List.length_append]; omega)]
theorem loop_I {chk : Cells → Bool} {g : MG} {mb : MS} {Inv : Nat → En → Cells → Prop} (hck : ∀ j δ c, Inv j δ c → chk c = true) : ∀ {l : List D} {k : Nat} {δ : En} {c : Cells}, (∀ d ∈ l, ∀ j δ c, k ≤ j → j < k + l.length → Inv j δ c → ∃ δ1, g d δ = some δ1 ∧ ∃ δ2 c2, mb δ1 c = .nx δ2 c2 ∧ Inv (j + 1) δ2 c2) → Inv k δ c → ∃ δ' c', loopGo chk g mb l δ c = .nx δ' c' ∧ Inv (k + l.length) δ' c'
  | [], k, δ, c, _, hi => ⟨δ, c, by unfold loopGo; rw [if_pos (hck _ _ _ hi)], hi⟩
  | d :: l, k, δ, c, h, hi => by
    obtain ⟨δ1, h1, δ2, c2, h2, h3⟩ := h d List.mem_cons_self k δ c (Nat.le_refl _) (by rw [List.length_cons]; omega) hi
    obtain ⟨δ', c', h4, h5⟩ := loop_I (mb := mb) (g := g) hck (l := l) (k := k + 1) (fun e he j δ c h1 h2 hj => h e (List.mem_cons_of_mem _ he) j δ c (by omega) (by rw [List.length_cons]; omega) hj) h3
    refine ⟨δ', c', ?_, by rw [List.length_cons, show k + (l.length + 1) = k + 1 + l.length by omega]; exact h5⟩
    unfold loopGo
    rw [if_pos (hck _ _ _ hi), h1]
    dsimp only
    rw [h2]
    exact h4
/-! results' texts -/
inductive Rs where
  | came (k : Int)
  | new (s : Str)
  | ref (s : Str)
  | made (p k : Int)
  | done
def rsD : Rs → D
  | .came k => .obj ("Came" : Str) [("node" : Str)] [.int k]
  | .new s => .obj ("New" : Str) [("kind" : Str)] [.str s]
  | .ref s => .obj ("Refused" : Str) [("why" : Str)] [.str s]
  | .made p k => .obj ("Made" : Str) [("process" : Str), ("call" : Str)] [.int p, .int k]
  | .done => .obj ("Done" : Str) [] []
def rsT : Rs → Str
  | .came k => ("came " : Str) ++ nz k
  | .new s => ("new " : Str) ++ s
  | .ref s => ("refused " : Str) ++ s
  | .made p k => ("made " : Str) ++ nz p ++ (" " : Str) ++ nz k
  | .done => ("done" : Str)
def wrdOk (s : Str) : Bool := decide (s.length ≤ 12) && (TL.tl s).all fun k => decide (k < 128)
def RsOk : Rs → Prop
  | .came k => NumOk k
  | .new s => wrdOk s = true
  | .ref s => wrdOk s = true
  | .made p k => NumOk p ∧ NumOk k
  | .done => True
theorem wrd_len {s : Str} (h : wrdOk s = true) : s.length ≤ 12 := by
  unfold wrdOk at h
  rw [Bool.and_eq_true] at h
  exact of_decide_eq_true h.1
theorem wrd_lt {s : Str} (h : wrdOk s = true) : ∀ k ∈ TL.tl s, k < 128 := fun k hk => by
  unfold wrdOk at h
  rw [Bool.and_eq_true] at h
  exact of_decide_eq_true (List.all_eq_true.mp h.2 k hk)
theorem emp_app {x : Str} : Str.empty ++ x = x := TL.ext_tl (by rw [TL.tl_append]; rfl)
theorem nz_lt {k : Int} (h : NumOk k) : ∀ j ∈ TL.tl (nz k), j < 128 := fun j hj => by
  have := nz_digits h j hj
  omega
theorem lit_lt {s : Str} (h : ((TL.tl s).all fun k => decide (k < 128)) = true) : ∀ k ∈ TL.tl s, k < 128 := fun k hk => of_decide_eq_true (List.all_eq_true.mp h k hk)
theorem app_lt {a b : Str} (h1 : ∀ k ∈ TL.tl a, k < 128) (h2 : ∀ k ∈ TL.tl b, k < 128) : ∀ k ∈ TL.tl (a ++ b), k < 128 := fun k hk => by
  rw [TL.tl_append] at hk
  rcases List.mem_append.mp hk with z | z
  · exact h1 k z
  · exact h2 k z
theorem rsT_ok {r : Rs} (h : RsOk r) : PyData.strOk (rsT r) = true := by
  refine strOk_lt ?_
  cases r with
  | came k => exact app_lt (lit_lt (by decide +kernel)) (nz_lt h)
  | new s => exact app_lt (lit_lt (by decide +kernel)) (wrd_lt h)
  | ref s => exact app_lt (lit_lt (by decide +kernel)) (wrd_lt h)
  | made p k => exact app_lt (app_lt (app_lt (lit_lt (by decide +kernel)) (nz_lt h.1)) (lit_lt (by decide +kernel))) (nz_lt h.2)
  | done => exact lit_lt (by decide +kernel)
def rsC : Rs → Str
  | .came _ => ("Came" : Str)
  | .new _ => ("New" : Str)
  | .ref _ => ("Refused" : Str)
  | .made _ _ => ("Made" : Str)
  | .done => ("Done" : Str)
theorem ris {f : Ty → Bool} {b : Bool} {r : Rs} {c : Cells} (n : Str) (hn : rsC r = n) (h : f (.o n) = b) : isiD tys f (rsD r) c = .ok (.bl b) c := by
  subst hn
  cases r <;> exact isi_of rfl (by decide +kernel) h
theorem result_text_ok {r : Rs} {c : Cells} (h : RsOk r) : m_result_text [rsD r] c = .ok (.str (rsT r)) c := by
  have e0 : (Str.empty : Str).length = 0 := rfl
  have B : mb_result_text [some (rsD r)] c = .rt (.str (rsT r)) c := by
    have sk : ∀ {P : Ty → Bool} {s k : MS}, isiD tys P (rsD r) c = .ok (.bl false) c → (mSeq (mIfS (mB (mIsi tys P (mVar 0))) s mSkip) k) [some (rsD r)] c = k [some (rsD r)] c := fun {P s k} hi => by
      simp only [mSeq, mIfS, mB, mIsi, mVar, mSkip, Out.bind, Out.fl, asB, hi, List.getElem?_cons_zero, Bool.false_eq_true, ↓reduceIte]
    have go : ∀ {P : Ty → Bool} {m : ME} {k : MS} {x : D}, isiD tys P (rsD r) c = .ok (.bl true) c → m [some (rsD r)] c = .ok x c → (mSeq (mIfS (mB (mIsi tys P (mVar 0))) (mRet m) mSkip) k) [some (rsD r)] c = .rt x c := fun {P m k x} hi hm => by
      simp only [mSeq, mIfS, mB, mIsi, mVar, mSkip, mRet, Out.bind, Out.fl, asB, hi, hm, List.getElem?_cons_zero, ↓reduceIte]
    have il : ∀ {P : Ty → Bool} {a b : ME}, isiD tys P (rsD r) c = .ok (.bl true) c → (mIf (mB (mIsi tys P (mVar 0))) a b) [some (rsD r)] c = a [some (rsD r)] c := fun {P a b} hi => by
      simp only [mIf, mB, mIsi, mVar, Out.bind, Out.fl, asB, hi, List.getElem?_cons_zero, ↓reduceIte]
    have ir : ∀ {P : Ty → Bool} {a b : ME}, isiD tys P (rsD r) c = .ok (.bl false) c → (mIf (mB (mIsi tys P (mVar 0))) a b) [some (rsD r)] c = b [some (rsD r)] c := fun {P a b} hi => by
      simp only [mIf, mB, mIsi, mVar, Out.bind, Out.fl, asB, hi, List.getElem?_cons_zero, Bool.false_eq_true, ↓reduceIte]
    have l5 : ("came " : Str).length = 5 := by decide +kernel
    have l4 : ("new " : Str).length = 4 := by decide +kernel
    have l8 : ("refused " : Str).length = 8 := by decide +kernel
    have l6 : ("made " : Str).length = 5 := by decide +kernel
    have l1 : (" " : Str).length = 1 := by decide +kernel
    unfold mb_result_text
    cases r with
    | came k =>
      have f : fldGo ("node" : Str) [("Put" : Str), ("Came" : Str)] (rsD (.came k)) c = .ok (.int k) c := by kernel_rfl
      have a := fmt_int (fld0 f) h
      have l := (nz_len h).2
      refine go (ris ("Came" : Str) rfl (by decide +kernel)) ?_
      unfold mJoin
      rw [joinGo_cons (y := ("came " : Str)) rfl (by omega), joinGo_cons a.1 (by rw [app_len]; omega), emp_app]
      rfl
    | new s =>
      have f : fldGo ("kind" : Str) [("New" : Str)] (rsD (.new s)) c = .ok (.str s) c := by kernel_rfl
      have a := fmt_str (fld0 f) (wrd_len h)
      have l := (wrd_len h)
      rw [sk (ris ("New" : Str) rfl (by decide +kernel))]
      refine go (ris ("New" : Str) rfl (by decide +kernel)) ?_
      unfold mJoin
      rw [joinGo_cons (y := ("new " : Str)) rfl (by omega), joinGo_cons a.1 (by rw [app_len]; omega), emp_app]
      rfl
    | ref s =>
      have f : fldGo ("why" : Str) [("Refused" : Str)] (rsD (.ref s)) c = .ok (.str s) c := by kernel_rfl
      have a := fmt_str (fld0 f) (wrd_len h)
      have l := (wrd_len h)
      rw [sk (ris ("Refused" : Str) rfl (by decide +kernel)), sk (ris ("Refused" : Str) rfl (by decide +kernel))]
      refine go (ris ("Refused" : Str) rfl (by decide +kernel)) ?_
      unfold mJoin
      rw [joinGo_cons (y := ("refused " : Str)) rfl (by omega), joinGo_cons a.1 (by rw [app_len]; omega), emp_app]
      rfl
    | made p k =>
      have f : fldGo ("process" : Str) [("Made" : Str)] (rsD (.made p k)) c = .ok (.int p) c := by kernel_rfl
      have g : fldGo ("call" : Str) [("Made" : Str)] (rsD (.made p k)) c = .ok (.int k) c := by kernel_rfl
      have a := fmt_int (fld0 f) h.1
      have b := fmt_int (fld0 g) h.2
      have l := (nz_len h.1).2
      have l' := (nz_len h.2).2
      rw [sk (ris ("Made" : Str) rfl (by decide +kernel)), sk (ris ("Made" : Str) rfl (by decide +kernel)), sk (ris ("Made" : Str) rfl (by decide +kernel))]
      refine ret_of ?_
      rw [il (ris ("Made" : Str) rfl (by decide +kernel))]
      unfold mJoin
      rw [joinGo_cons (y := ("made " : Str)) rfl (by omega), joinGo_cons a.1 (by rw [app_len]; omega), joinGo_cons (y := (" " : Str)) rfl (by rw [app_len, app_len]; omega), joinGo_cons b.1 (by rw [app_len, app_len, app_len]; omega), emp_app]
      rfl
    | done =>
      rw [sk (ris ("Done" : Str) rfl (by decide +kernel)), sk (ris ("Done" : Str) rfl (by decide +kernel)), sk (ris ("Done" : Str) rfl (by decide +kernel))]
      refine ret_of ?_
      rw [ir (ris ("Done" : Str) rfl (by decide +kernel))]
      rfl
  unfold m_result_text mkFn
  rw [if_pos (show ([rsD r] : List D).length = 1 from rfl)]
  have e9 : ([rsD r] : List D).map some ++ List.replicate (1 - 1) none = [some (rsD r)] := rfl
  rw [e9, B]
/-! results made -/
theorem kf_process_call : ¬ ("process" : Str) = ("call" : Str) := by decide +kernel
theorem kf_call_process : ¬ ("call" : Str) = ("process" : Str) := by decide +kernel
theorem mk_came {k : Int} {c : Cells} : makeGo ("Came" : Str) m_Came___init__ [.int k] c = .ok (rsD (.came k)) c := by
  unfold makeGo m_Came___init__ mb_Came___init__
  have h := fin_ins (c := c) (cn := ("Came" : Str)) (ns := [("node" : Str)]) (ds := [.int k]) (fun d hd => by simp at hd; rcases hd with rfl; exact nc_int)
  simp [mkFn, mSeq, mIfS, mB, mOp, mVar, mC, mCB, mCons, mNil, mSet, mRet, mExpr, mSkip, mOrT, mAndT, mNotT, mAnd, mOr, mNot, mIf, mChain, mIsi, isiD, Out.bind, Out.fl, asB, mTup, tupD, mLst, mCall, mFld, fldGo, insOf, lookF, mMeth0, mMeth, methOf, mRaise, mTry, tryGo, noExc, mMake, mPar, mSetF, setFGo, putN, putL, h, rsD]
theorem mk_new {s : Str} {c : Cells} : makeGo ("New" : Str) m_New___init__ [.str s] c = .ok (rsD (.new s)) c := by
  unfold makeGo m_New___init__ mb_New___init__
  have h := fin_ins (c := c) (cn := ("New" : Str)) (ns := [("kind" : Str)]) (ds := [.str s]) (fun d hd => by simp at hd; rcases hd with rfl; exact nc_str)
  simp [mkFn, mSeq, mIfS, mB, mOp, mVar, mC, mCB, mCons, mNil, mSet, mRet, mExpr, mSkip, mOrT, mAndT, mNotT, mAnd, mOr, mNot, mIf, mChain, mIsi, isiD, Out.bind, Out.fl, asB, mTup, tupD, mLst, mCall, mFld, fldGo, insOf, lookF, mMeth0, mMeth, methOf, mRaise, mTry, tryGo, noExc, mMake, mPar, mSetF, setFGo, putN, putL, h, rsD]
theorem mk_ref {s : Str} {c : Cells} : makeGo ("Refused" : Str) m_Refused___init__ [.str s] c = .ok (rsD (.ref s)) c := by
  unfold makeGo m_Refused___init__ mb_Refused___init__
  have h := fin_ins (c := c) (cn := ("Refused" : Str)) (ns := [("why" : Str)]) (ds := [.str s]) (fun d hd => by simp at hd; rcases hd with rfl; exact nc_str)
  simp [mkFn, mSeq, mIfS, mB, mOp, mVar, mC, mCB, mCons, mNil, mSet, mRet, mExpr, mSkip, mOrT, mAndT, mNotT, mAnd, mOr, mNot, mIf, mChain, mIsi, isiD, Out.bind, Out.fl, asB, mTup, tupD, mLst, mCall, mFld, fldGo, insOf, lookF, mMeth0, mMeth, methOf, mRaise, mTry, tryGo, noExc, mMake, mPar, mSetF, setFGo, putN, putL, h, rsD]
theorem mk_made {p k : Int} {c : Cells} : makeGo ("Made" : Str) m_Made___init__ [.int p, .int k] c = .ok (rsD (.made p k)) c := by
  unfold makeGo m_Made___init__ mb_Made___init__
  have h := fin_ins (c := c) (cn := ("Made" : Str)) (ns := [("process" : Str), ("call" : Str)]) (ds := [.int p, .int k]) (fun d hd => by simp at hd; rcases hd with rfl | rfl <;> exact nc_int)
  simp [mkFn, mSeq, mIfS, mB, mOp, mVar, mC, mCB, mCons, mNil, mSet, mRet, mExpr, mSkip, mOrT, mAndT, mNotT, mAnd, mOr, mNot, mIf, mChain, mIsi, isiD, Out.bind, Out.fl, asB, mTup, tupD, mLst, mCall, mFld, fldGo, insOf, lookF, mMeth0, mMeth, methOf, mRaise, mTry, tryGo, noExc, mMake, mPar, mSetF, setFGo, putN, putL, h, rsD, kf_process_call, kf_call_process]
theorem mk_done {c : Cells} : makeGo ("Done" : Str) mNone [] c = .ok (rsD .done) c := by
  unfold makeGo mNone
  have h := fin_ins (c := c) (cn := ("Done" : Str)) (ns := []) (ds := []) (fun d hd => nomatch hd)
  show fin c (c ++ [.ins ("Done" : Str) [] []]) (.cell c.length) = _
  exact h
/-! results, by the law -/
def rowR (r : Rs) : D := .tup [rsD r, .str (rsT r)]
abbrev eS (i : Nat) (k1 k2 : Int) (x3 x4 x5 x6 x7 : Option D) : En := [some (.cell i), some (.int k1), some (.int k2), x3, x4, x5, x6, x7]
def rs0 (k1 : Int) : List Rs := [.came 0, .came k1, .done]
def rs1 (k1 k2 : Int) : List Rs := rs0 k1 ++ [.made k2 k1]
def kds : List Str := [("folder" : Str), ("file" : Str), ("link" : Str)]
def rs2 (k1 k2 : Int) : List Rs := rs1 k1 k2 ++ kds.map .new
def whys : List Str := [("none" : Str), ("owner" : Str), ("file" : Str), ("link" : Str), ("links" : Str), ("folder" : Str), ("name" : Str), ("taken" : Str), ("full" : Str), ("below" : Str), ("gone" : Str)]
theorem kds_ok : ∀ s ∈ kds, wrdOk s = true := by decide +kernel
theorem whys_ok : ∀ s ∈ whys, wrdOk s = true := by decide +kernel
theorem str_nz {k : Int} {c : Cells} (h : NumOk k) : strD [.int k] c = .ok (.str (nz k)) c := by
  show (if k.natAbs.log2 < 1920 then Out.ok (D.str (Str.ofString (toString k))) c else .bad) = _
  rw [if_pos (nz_log h)]
  rfl
theorem add_ss {a b : Str} {c : Cells} (h : a.length + b.length ≤ 100000) : addD (.str a) (.str b) c = .ok (.str (a ++ b)) c := by
  have zz := zzm
  show (if a.length + b.length ≤ sizeLine then Out.ok (D.str (a ++ b)) c else .bad) = _
  rw [if_pos (by omega)]
theorem le_of2 {a b : Str} (h1 : a.length ≤ 100) (h2 : b.length ≤ 12) : a.length + b.length ≤ 100000 := by omega
section
variable {i : Nat} {k1 k2 : Int} {C : Cells}
theorem rr1 (h1 : NumOk k1) : (mSet 3 (mLstC (mCons (mTup (mCons (mMake ("Came" : Str) m_Came___init__ (mCons (mC (.int 0)) mNil)) (mCons (mC (.str ("came 0" : Str))) mNil))) (mCons (mTup (mCons (mMake ("Came" : Str) m_Came___init__ (mCons (mVar 1) mNil)) (mCons (mOp addD (mC (.str ("came " : Str))) (mCB strD (mCons (mVar 1) mNil))) mNil))) (mCons (mTup (mCons (mMake ("Done" : Str) mNone mNil) (mCons (mC (.str ("done" : Str))) mNil))) mNil))))) (eS i k1 k2 none none none none none) C = .nx (eS i k1 k2 (some (.cell C.length)) none none none none) (C ++ [.lst ((rs0 k1).map rowR)]) := by
  have a1 := mk_came (k := 0) (c := C)
  have a2 := mk_came (k := k1) (c := C)
  have a3 := mk_done (c := C)
  have s1 := str_nz (c := C) h1
  have ad : addD (.str ("came " : Str)) (.str (nz k1)) C = .ok (.str (("came " : Str) ++ nz k1)) C := add_ss (le_of2 (by decide +kernel) (Nat.le_trans (nz_len h1).2 (by decide)))
  have z : ("came 0" : Str) = rsT (.came 0) := by decide +kernel
  rw [z]
  simp only [mkFn, mkFnB, mSeq, mIfS, mB, mOp, mVar, mC, mCB, mCons, mNil, mSet, mRet, mExpr, mSkip, mOrT, mAndT, mNotT, mAnd, mOr, mNot, mIf, mChain, mIsi, mSl, mLc, mLcL, mLcC, mEnum, mBM, mBM0, mAsg, mPar, mLst, lstD, mLstC, lstC, mTup, tupD, mCall, mCallV, mFld, mMeth0, mMeth, mMake, mRaise, mTry, mTryN, wipeE, eqO, neO, asB, asI, negD, Out.bind, Out.fl, zz0, zz1, zz2, zz3, zz4, zz5, zz6, zz8, zz10, zz13, zz16, List.length_cons, List.length_nil, List.map_cons, List.map_nil, List.replicate, List.cons_append, List.nil_append, List.append_nil, List.set_cons_zero, List.set_cons_succ, List.getElem?_cons_zero, List.getElem?_cons_succ, List.zip_cons_cons, List.zip_nil_right, List.foldl_cons, List.foldl_nil, Nat.reduceAdd, Nat.reduceSub, Bool.not_true, Bool.not_false, Bool.false_eq_true, Bool.true_eq_false, decide_true, decide_false, ↓reduceIte, a1, a2, a3, s1, ad]
  rfl
theorem rr2 (h1 : NumOk k1) (h2 : NumOk k2) : (mExpr (mBM .l appendD (mVar 3) (mCons (mTup (mCons (mMake ("Made" : Str) m_Made___init__ (mCons (mVar 2) (mCons (mVar 1) mNil))) (mCons (mOp addD (mOp addD (mOp addD (mC (.str ("made " : Str))) (mCB strD (mCons (mVar 2) mNil))) (mC (.str (" " : Str)))) (mCB strD (mCons (mVar 1) mNil))) mNil))) mNil))) (eS i k1 k2 (some (.cell C.length)) none none none none) (C ++ [.lst ((rs0 k1).map rowR)]) = .nx (eS i k1 k2 (some (.cell C.length)) none none none none) (C ++ [.lst ((rs1 k1 k2).map rowR)]) := by
  have zz := zzm
  obtain ⟨B, hB⟩ : ∃ B : Cells, B = C ++ [.lst ((rs0 k1).map rowR)] := ⟨_, rfl⟩
  have a1 := mk_made (p := k2) (k := k1) (c := B)
  have s1 := str_nz (c := B) h1
  have s2 := str_nz (c := B) h2
  have l1 := (nz_len h1).2
  have l2 := (nz_len h2).2
  have l6 : ("made " : Str).length = 5 := by decide +kernel
  have l7 : (" " : Str).length = 1 := by decide +kernel
  have ad : addD (.str ("made " : Str)) (.str (nz k2)) B = .ok (.str (("made " : Str) ++ nz k2)) B := add_ss (by omega)
  have ad2 : addD (.str (("made " : Str) ++ nz k2)) (.str (" " : Str)) B = .ok (.str (("made " : Str) ++ nz k2 ++ (" " : Str))) B := add_ss (by rw [app_len]; omega)
  have ad3 : addD (.str (("made " : Str) ++ nz k2 ++ (" " : Str))) (.str (nz k1)) B = .ok (.str (("made " : Str) ++ nz k2 ++ (" " : Str) ++ nz k1)) B := add_ss (by rw [app_len, app_len]; omega)
  have bt : isBt .l B (.cell C.length) = true := by rw [hB]; exact bt_at get_last
  have ap : appendD (.cell C.length) [rowR (.made k2 k1)] B = .ok .non (C ++ [.lst ((rs1 k1 k2).map rowR)]) := by
    rw [hB, app_at get_last (by show 3 < sizeLine; omega), set_last]
    rfl
  have ap : appendD (.cell C.length) [.tup [rsD (.made k2 k1), .str (("made " : Str) ++ nz k2 ++ (" " : Str) ++ nz k1)]] B = .ok .non (C ++ [.lst ((rs1 k1 k2).map rowR)]) := ap
  rw [← hB]
  simp only [mkFn, mkFnB, mSeq, mIfS, mB, mOp, mVar, mC, mCB, mCons, mNil, mSet, mRet, mExpr, mSkip, mOrT, mAndT, mNotT, mAnd, mOr, mNot, mIf, mChain, mIsi, mSl, mLc, mLcL, mLcC, mEnum, mBM, mBM0, mAsg, mPar, mLst, lstD, mLstC, lstC, mTup, tupD, mCall, mCallV, mFld, mMeth0, mMeth, mMake, mRaise, mTry, mTryN, wipeE, eqO, neO, asB, asI, negD, Out.bind, Out.fl, zz0, zz1, zz2, zz3, zz4, zz5, zz6, zz8, zz10, zz13, zz16, List.length_cons, List.length_nil, List.map_cons, List.map_nil, List.replicate, List.cons_append, List.nil_append, List.append_nil, List.set_cons_zero, List.set_cons_succ, List.getElem?_cons_zero, List.getElem?_cons_succ, List.zip_cons_cons, List.zip_nil_right, List.foldl_cons, List.foldl_nil, Nat.reduceAdd, Nat.reduceSub, Bool.not_true, Bool.not_false, Bool.false_eq_true, Bool.true_eq_false, decide_true, decide_false, ↓reduceIte, a1, s1, s2, ad, ad2, ad3, bt, ap]
theorem rr3 : (mSet 3 (mOp addC (mVar 3) (mLc (fun δ c => ((mTup (mCons (mC (.str ("folder" : Str))) (mCons (mC (.str ("file" : Str))) (mCons (mC (.str ("link" : Str))) mNil)))) δ c).bind seqAny) (gN 5) (fun _ c => .ok true c) _law_results_right_e2 [5]))) (eS i k1 k2 (some (.cell C.length)) none none none none) (C ++ [.lst ((rs1 k1 k2).map rowR)]) = .nx (eS i k1 k2 (some (.cell (C.length + 1))) none none none none) (C ++ [.lst ((rs1 k1 k2).map rowR)] ++ [.lst ((rs2 k1 k2).map rowR)]) := by
  have zz := zzm
  obtain ⟨B, hB⟩ : ∃ B : Cells, B = C ++ [.lst ((rs1 k1 k2).map rowR)] := ⟨_, rfl⟩
  have lc := lc_map (chk := fun _ => true) (g := gN 5) (me := _law_results_right_e2) (δ := eS i k1 k2 (some (.cell C.length)) none none none none) (c := B) (enc := D.str) (dec := fun s => rowR (.new s)) (l := kds) rfl (fun s hs => by
    have a1 := mk_new (s := s) (c := B)
    have ad : addD (.str ("new " : Str)) (.str s) B = .ok (.str (("new " : Str) ++ s)) B := add_ss (le_of2 (by decide +kernel) (wrd_len (kds_ok s hs)))
    refine ⟨_, rfl, ?_⟩
    unfold _law_results_right_e2
    simp only [mkFn, mkFnB, mSeq, mIfS, mB, mOp, mVar, mC, mCB, mCons, mNil, mSet, mRet, mExpr, mSkip, mOrT, mAndT, mNotT, mAnd, mOr, mNot, mIf, mChain, mIsi, mSl, mLc, mLcL, mLcC, mEnum, mBM, mBM0, mAsg, mPar, mLst, lstD, mLstC, lstC, mTup, tupD, mCall, mCallV, mFld, mMeth0, mMeth, mMake, mRaise, mTry, mTryN, wipeE, eqO, neO, asB, asI, negD, Out.bind, Out.fl, zz0, zz1, zz2, zz3, zz4, zz5, zz6, zz8, zz10, zz13, zz16, List.length_cons, List.length_nil, List.map_cons, List.map_nil, List.replicate, List.cons_append, List.nil_append, List.append_nil, List.set_cons_zero, List.set_cons_succ, List.getElem?_cons_zero, List.getElem?_cons_succ, List.zip_cons_cons, List.zip_nil_right, List.foldl_cons, List.foldl_nil, Nat.reduceAdd, Nat.reduceSub, Bool.not_true, Bool.not_false, Bool.false_eq_true, Bool.true_eq_false, decide_true, decide_false, ↓reduceIte, a1, ad]
    rfl) (by show 3 ≤ sizeLine; omega)
  have ml : (mLc (fun δ c => ((mTup (mCons (mC (.str ("folder" : Str))) (mCons (mC (.str ("file" : Str))) (mCons (mC (.str ("link" : Str))) mNil)))) δ c).bind seqAny) (gN 5) (fun _ c => .ok true c) _law_results_right_e2 [5]) (eS i k1 k2 (some (.cell C.length)) none none none none) B = .ok (.lst (kds.map fun s => rowR (.new s))) B := by
    have it : (mTup (mCons (mC (.str ("folder" : Str))) (mCons (mC (.str ("file" : Str))) (mCons (mC (.str ("link" : Str))) mNil)))) (eS i k1 k2 (some (.cell C.length)) none none none none) B = .ok (.tup (kds.map D.str)) B := by
      simp only [mkFn, mkFnB, mSeq, mIfS, mB, mOp, mVar, mC, mCB, mCons, mNil, mSet, mRet, mExpr, mSkip, mOrT, mAndT, mNotT, mAnd, mOr, mNot, mIf, mChain, mIsi, mSl, mLc, mLcL, mLcC, mEnum, mBM, mBM0, mAsg, mPar, mLst, lstD, mLstC, lstC, mTup, tupD, mCall, mCallV, mFld, mMeth0, mMeth, mMake, mRaise, mTry, mTryN, wipeE, eqO, neO, asB, asI, negD, Out.bind, Out.fl, zz0, zz1, zz2, zz3, zz4, zz5, zz6, zz8, zz10, zz13, zz16, List.length_cons, List.length_nil, List.map_cons, List.map_nil, List.replicate, List.cons_append, List.nil_append, List.append_nil, List.set_cons_zero, List.set_cons_succ, List.getElem?_cons_zero, List.getElem?_cons_succ, List.zip_cons_cons, List.zip_nil_right, List.foldl_cons, List.foldl_nil, Nat.reduceAdd, Nat.reduceSub, Bool.not_true, Bool.not_false, Bool.false_eq_true, Bool.true_eq_false, decide_true, decide_false, ↓reduceIte]
      rfl
    unfold mLc mLcL
    dsimp only
    rw [it]
    show Out.bind (lcGo (fun _ => true) (gN 5) (fun _ c => .ok true c) _law_results_right_e2 (eS i k1 k2 (some (.cell C.length)) none none none none) (kds.map D.str) [] B) _ = _
    rw [lc]
    rfl
  have ac : addC (.cell C.length) (.lst (kds.map fun s => rowR (.new s))) B = .ok (.cell (C.length + 1)) (B ++ [.lst ((rs2 k1 k2).map rowR)]) := by
    have e : lstOf B (.cell C.length) = some ((rs1 k1 k2).map rowR) := by
      unfold lstOf
      dsimp only
      rw [hB, get_last]
    have e2 : lstOf B (.lst (kds.map fun s => rowR (.new s))) = some (kds.map fun s => rowR (.new s)) := rfl
    have e3 : (rs1 k1 k2).map rowR ++ (kds.map fun s => rowR (.new s)) = (rs2 k1 k2).map rowR := rfl
    have e4 : B.length = C.length + 1 := by rw [hB, List.length_append]; rfl
    unfold addC addG
    dsimp only
    rw [e, e2]
    dsimp only
    rw [e3]
    unfold lstC
    rw [if_pos (by show 7 ≤ sizeLine; omega), e4]
  obtain ⟨M, hM⟩ : ∃ M, M = (mLc (fun δ c => ((mTup (mCons (mC (.str ("folder" : Str))) (mCons (mC (.str ("file" : Str))) (mCons (mC (.str ("link" : Str))) mNil)))) δ c).bind seqAny) (gN 5) (fun _ c => .ok true c) _law_results_right_e2 [5]) := ⟨_, rfl⟩
  rw [← hB]
  rw [← hM] at ml ⊢
  simp only [mkFn, mkFnB, mSeq, mIfS, mB, mOp, mVar, mC, mCB, mCons, mNil, mSet, mRet, mExpr, mSkip, mOrT, mAndT, mNotT, mAnd, mOr, mNot, mIf, mChain, mIsi, mSl, mLc, mLcL, mLcC, mEnum, mBM, mBM0, mAsg, mPar, mLst, lstD, mLstC, lstC, mTup, tupD, mCall, mCallV, mFld, mMeth0, mMeth, mMake, mRaise, mTry, mTryN, wipeE, eqO, neO, asB, asI, negD, Out.bind, Out.fl, zz0, zz1, zz2, zz3, zz4, zz5, zz6, zz8, zz10, zz13, zz16, List.length_cons, List.length_nil, List.map_cons, List.map_nil, List.replicate, List.cons_append, List.nil_append, List.append_nil, List.set_cons_zero, List.set_cons_succ, List.getElem?_cons_zero, List.getElem?_cons_succ, List.zip_cons_cons, List.zip_nil_right, List.foldl_cons, List.foldl_nil, Nat.reduceAdd, Nat.reduceSub, Bool.not_true, Bool.not_false, Bool.false_eq_true, Bool.true_eq_false, decide_true, decide_false, ↓reduceIte, ml, ac]
end
end Law
end Nw

set_option Elab.async false
set_option linter.all false
set_option maxRecDepth 100000
set_option maxHeartbeats 1000000
namespace Nw
namespace Law
open PySem PySem.Spec
open PyProof.Rows hiding St
open L2
/-! results, by the law: the rest -/
theorem EQ_nl {C : Cells} : EQ (.lst []) (.lst []) C = .ok true C := (EQ_ok (by decide) (by decide)).trans (by simp [py, pyL, PyData.eqv, PyData.eqvAll])
section
variable {i : Nat} {k1 k2 : Int} {B : Cells}
theorem rr4 {L : List Rs} (h : ∀ r ∈ L, RsOk r) (hl : L.length ≤ 50) : ∃ (L' : List Rs) (x4 : Option D), (mFor (fun δ c => ((mTup (mCons (mC (.str ("none" : Str))) (mCons (mC (.str ("owner" : Str))) (mCons (mC (.str ("file" : Str))) (mCons (mC (.str ("link" : Str))) (mCons (mC (.str ("links" : Str))) (mCons (mC (.str ("folder" : Str))) (mCons (mC (.str ("name" : Str))) (mCons (mC (.str ("taken" : Str))) (mCons (mC (.str ("full" : Str))) (mCons (mC (.str ("below" : Str))) (mCons (mC (.str ("gone" : Str))) mNil)))))))))))) δ c).bind seqAny) (gN 4) _law_results_right_b1) (eS i k1 k2 (some (.cell B.length)) none none none none) (B ++ [.lst (L.map rowR)]) = .nx (eS i k1 k2 (some (.cell B.length)) x4 none none none) (B ++ [.lst (L'.map rowR)]) ∧ (∀ r ∈ L', RsOk r) ∧ L'.length ≤ 100 := by
  have zz := zzm
  have lo := loop_I (chk := chkI (.tup (whys.map D.str)) (whys.map D.str)) (g := gN 4) (mb := _law_results_right_b1) (Inv := fun j δ c => ∃ (L' : List Rs) (x4 : Option D), δ = eS i k1 k2 (some (.cell B.length)) x4 none none none ∧ c = B ++ [.lst (L'.map rowR)] ∧ (∀ r ∈ L', RsOk r) ∧ L'.length ≤ 50 + j) (fun _ _ _ _ => rfl) (l := whys.map D.str) (k := 0) (δ := eS i k1 k2 (some (.cell B.length)) none none none none) (c := B ++ [.lst (L.map rowR)]) (fun d hd j δ c _ hj hi => by
    obtain ⟨L', x4, rfl, rfl, hL, hn⟩ := hi
    obtain ⟨s, hs, rfl⟩ := List.mem_map.mp hd
    have hw := whys_ok s hs
    have hj : j < 0 + 11 := hj
    obtain ⟨C, hC⟩ : ∃ C : Cells, C = B ++ [.lst (L'.map rowR)] := ⟨_, rfl⟩
    have a1 := mk_ref (s := s) (c := C)
    have ad : addD (.str ("refused " : Str)) (.str s) C = .ok (.str (("refused " : Str) ++ s)) C := add_ss (le_of2 (by decide +kernel) (wrd_len hw))
    have bt : isBt .l C (.cell B.length) = true := by rw [hC]; exact bt_at get_last
    have ap : appendD (.cell B.length) [rowR (.ref s)] C = .ok .non (B ++ [.lst ((L' ++ [Rs.ref s]).map rowR)]) := by
      rw [hC, app_at get_last (by rw [List.length_map]; omega), set_last, List.map_append]
      rfl
    have ap : appendD (.cell B.length) [.tup [rsD (.ref s), .str (("refused " : Str) ++ s)]] C = .ok .non (B ++ [.lst ((L' ++ [Rs.ref s]).map rowR)]) := ap
    refine ⟨eS i k1 k2 (some (.cell B.length)) (some (.str s)) none none none, rfl, eS i k1 k2 (some (.cell B.length)) (some (.str s)) none none none, B ++ [.lst ((L' ++ [Rs.ref s]).map rowR)], ?_, L' ++ [Rs.ref s], _, rfl, rfl, fun r hr => ?_, by rw [List.length_append, List.length_singleton]; omega⟩
    · unfold _law_results_right_b1
      rw [← hC]
      simp only [mkFn, mkFnB, mSeq, mIfS, mB, mOp, mVar, mC, mCB, mCons, mNil, mSet, mRet, mExpr, mSkip, mOrT, mAndT, mNotT, mAnd, mOr, mNot, mIf, mChain, mIsi, mSl, mLc, mLcL, mLcC, mEnum, mBM, mBM0, mAsg, mPar, mLst, lstD, mLstC, lstC, mTup, tupD, mCall, mCallV, mFld, mMeth0, mMeth, mMake, mRaise, mTry, mTryN, wipeE, eqO, neO, asB, asI, negD, Out.bind, Out.fl, zz0, zz1, zz2, zz3, zz4, zz5, zz6, zz8, zz10, zz13, zz16, List.length_cons, List.length_nil, List.map_cons, List.map_nil, List.replicate, List.cons_append, List.nil_append, List.append_nil, List.set_cons_zero, List.set_cons_succ, List.getElem?_cons_zero, List.getElem?_cons_succ, List.zip_cons_cons, List.zip_nil_right, List.foldl_cons, List.foldl_nil, Nat.reduceAdd, Nat.reduceSub, Bool.not_true, Bool.not_false, Bool.false_eq_true, Bool.true_eq_false, decide_true, decide_false, ↓reduceIte, a1, ad, bt, ap]
    · rcases List.mem_append.mp hr with z | z
      · exact hL r z
      · rw [List.mem_singleton] at z
        subst z
        exact hw) ⟨L, none, rfl, rfl, h, by omega⟩
  obtain ⟨δ', c', lo, L', x4, rfl, rfl, hL, hn⟩ := lo
  refine ⟨L', x4, ?_, hL, by have hn : L'.length ≤ 50 + (0 + 11) := hn
                             omega⟩
  have it : (fun δ c => ((mTup (mCons (mC (.str ("none" : Str))) (mCons (mC (.str ("owner" : Str))) (mCons (mC (.str ("file" : Str))) (mCons (mC (.str ("link" : Str))) (mCons (mC (.str ("links" : Str))) (mCons (mC (.str ("folder" : Str))) (mCons (mC (.str ("name" : Str))) (mCons (mC (.str ("taken" : Str))) (mCons (mC (.str ("full" : Str))) (mCons (mC (.str ("below" : Str))) (mCons (mC (.str ("gone" : Str))) mNil)))))))))))) δ c).bind seqAny) (eS i k1 k2 (some (.cell B.length)) none none none none) (B ++ [.lst (L.map rowR)]) = .ok ⟨whys.map D.str, chkI (.tup (whys.map D.str)) (whys.map D.str)⟩ (B ++ [.lst (L.map rowR)]) := by
    have z11 : (11 : Nat) ≤ sizeLine := by omega
    simp only [mkFn, mkFnB, mSeq, mIfS, mB, mOp, mVar, mC, mCB, mCons, mNil, mSet, mRet, mExpr, mSkip, mOrT, mAndT, mNotT, mAnd, mOr, mNot, mIf, mChain, mIsi, mSl, mLc, mLcL, mLcC, mEnum, mBM, mBM0, mAsg, mPar, mLst, lstD, mLstC, lstC, mTup, tupD, mCall, mCallV, mFld, mMeth0, mMeth, mMake, mRaise, mTry, mTryN, wipeE, eqO, neO, asB, asI, negD, Out.bind, Out.fl, zz0, zz1, zz2, zz3, zz4, zz5, zz6, zz8, zz10, zz13, zz16, List.length_cons, List.length_nil, List.map_cons, List.map_nil, List.replicate, List.cons_append, List.nil_append, List.append_nil, List.set_cons_zero, List.set_cons_succ, List.getElem?_cons_zero, List.getElem?_cons_succ, List.zip_cons_cons, List.zip_nil_right, List.foldl_cons, List.foldl_nil, Nat.reduceAdd, Nat.reduceSub, Bool.not_true, Bool.not_false, Bool.false_eq_true, Bool.true_eq_false, decide_true, decide_false, ↓reduceIte, z11]
    rfl
  unfold mFor
  rw [it, fl_okG]
  exact lo
theorem rr5 {L : List Rs} {x4 : Option D} (h : ∀ r ∈ L, RsOk r) (hl : L.length ≤ 100) : (mRet (mOp (eqO EQ) (mLc (fun δ c => ((mVar 3) δ c).bind seqAny) (gT 2 (gsCons (gN 6) (gsCons (gN 7) gsNil))) _law_results_right_t0 _law_results_right_e0 [6, 7]) (mLst mNil))) (eS i k1 k2 (some (.cell B.length)) x4 none none none) (B ++ [.lst (L.map rowR)]) = .rt (.bl true) (B ++ [.lst (L.map rowR)]) := by
  have zz := zzm
  obtain ⟨C, hC⟩ : ∃ C : Cells, C = B ++ [.lst (L.map rowR)] := ⟨_, rfl⟩
  have hk : C[B.length]? = some (.lst (L.map rowR)) := by rw [hC]; exact get_last
  have lc := lc_typed (chk := chkI (.cell B.length) (L.map rowR)) (g := gT 2 (gsCons (gN 6) (gsCons (gN 7) gsNil))) (mt := _law_results_right_t0) (me := _law_results_right_e0) (δ := eS i k1 k2 (some (.cell B.length)) x4 none none none) (c := C) (enc := rowR) (dec := rowR) (p := fun _ => false) (chkI_of hk) (l := L) (acc := []) (fun r hr => by
    have rt := result_text_ok (c := C) (h r hr)
    have ok := rsT_ok (h r hr)
    have eq : EQ (.str (rsT r)) (.str (rsT r)) C = .ok true C := by rw [EQ_str ok ok, beq_self_eq_true]
    refine ⟨[some (.cell i), some (.int k1), some (.int k2), some (.cell B.length), x4, none, some (rsD r), some (.str (rsT r))], rfl, ?_, fun z => (by cases z)⟩
    unfold _law_results_right_t0
    obtain ⟨F, hF⟩ : ∃ F : MF, F = m_result_text := ⟨_, rfl⟩
    rw [← hF] at rt ⊢
    simp only [mkFn, mkFnB, mSeq, mIfS, mB, mOp, mVar, mC, mCB, mCons, mNil, mSet, mRet, mExpr, mSkip, mOrT, mAndT, mNotT, mAnd, mOr, mNot, mIf, mChain, mIsi, mSl, mLc, mLcL, mLcC, mEnum, mBM, mBM0, mAsg, mPar, mLst, lstD, mLstC, lstC, mTup, tupD, mCall, mCallV, mFld, mMeth0, mMeth, mMake, mRaise, mTry, mTryN, wipeE, eqO, neO, asB, asI, negD, Out.bind, Out.fl, zz0, zz1, zz2, zz3, zz4, zz5, zz6, zz8, zz10, zz13, zz16, List.length_cons, List.length_nil, List.map_cons, List.map_nil, List.replicate, List.cons_append, List.nil_append, List.append_nil, List.set_cons_zero, List.set_cons_succ, List.getElem?_cons_zero, List.getElem?_cons_succ, List.zip_cons_cons, List.zip_nil_right, List.foldl_cons, List.foldl_nil, Nat.reduceAdd, Nat.reduceSub, Bool.not_true, Bool.not_false, Bool.false_eq_true, Bool.true_eq_false, decide_true, decide_false, ↓reduceIte, rt, eq]) (by rw [List.length_nil]; omega)
  have ef : L.filter (fun _ => false) = [] := by simp
  rw [ef, List.map_nil, List.append_nil] at lc
  have ml : (mLc (fun δ c => ((mVar 3) δ c).bind seqAny) (gT 2 (gsCons (gN 6) (gsCons (gN 7) gsNil))) _law_results_right_t0 _law_results_right_e0 [6, 7]) (eS i k1 k2 (some (.cell B.length)) x4 none none none) C = .ok (.lst []) C := by
    have sq : seqAny (.cell B.length) C = .ok ⟨L.map rowR, chkI (.cell B.length) (L.map rowR)⟩ C := by
      show seqOf (.cell B.length) C = _
      unfold seqOf items
      dsimp only
      rw [hk]
    unfold mLc mLcL
    dsimp only
    show Out.bind (Out.bind (seqAny (.cell B.length) C) _) _ = _
    rw [sq]
    show Out.bind (lcGo (chkI (.cell B.length) (L.map rowR)) (gT 2 (gsCons (gN 6) (gsCons (gN 7) gsNil))) _law_results_right_t0 _law_results_right_e0 (eS i k1 k2 (some (.cell B.length)) x4 none none none) (L.map rowR) [] C) _ = _
    rw [lc]
    rfl
  rw [← hC]
  have en := EQ_nl (C := C)
  obtain ⟨M, hM⟩ : ∃ M, M = (mLc (fun δ c => ((mVar 3) δ c).bind seqAny) (gT 2 (gsCons (gN 6) (gsCons (gN 7) gsNil))) _law_results_right_t0 _law_results_right_e0 [6, 7]) := ⟨_, rfl⟩
  rw [← hM] at ml ⊢
  simp only [mkFn, mkFnB, mSeq, mIfS, mB, mOp, mVar, mC, mCB, mCons, mNil, mSet, mRet, mExpr, mSkip, mOrT, mAndT, mNotT, mAnd, mOr, mNot, mIf, mChain, mIsi, mSl, mLc, mLcL, mLcC, mEnum, mBM, mBM0, mAsg, mPar, mLst, lstD, mLstC, lstC, mTup, tupD, mCall, mCallV, mFld, mMeth0, mMeth, mMake, mRaise, mTry, mTryN, wipeE, eqO, neO, asB, asI, negD, Out.bind, Out.fl, zz0, zz1, zz2, zz3, zz4, zz5, zz6, zz8, zz10, zz13, zz16, List.length_cons, List.length_nil, List.map_cons, List.map_nil, List.replicate, List.cons_append, List.nil_append, List.append_nil, List.set_cons_zero, List.set_cons_succ, List.getElem?_cons_zero, List.getElem?_cons_succ, List.zip_cons_cons, List.zip_nil_right, List.foldl_cons, List.foldl_nil, Nat.reduceAdd, Nat.reduceSub, Bool.not_true, Bool.not_false, Bool.false_eq_true, Bool.true_eq_false, decide_true, decide_false, ↓reduceIte, ml, en]
end
def NcOk (c : Cells) : Prop := ∀ n, ∀ k ∈ c, ncC n k = true
theorem NcOk.set {c : Cells} {q : Cell} {i : Nat} (h : NcOk c) (s : SrcAt (c.set i q) i) : NcOk (c.set i q) := fun n k hk => by
  obtain ⟨a0, a1, a2, e⟩ := s
  rcases List.mem_or_eq_of_mem_set hk with z | z
  · exact h n k z
  · have hi := (List.getElem?_eq_some_iff.mp e).1
    rw [List.length_set] at hi
    rw [List.getElem?_set_self hi] at e
    rw [z, Option.some.inj e]
    unfold ncC
    exact ncL_of fun d hd => by simp at hd; rcases hd with rfl | rfl | rfl <;> exact nc_int
theorem NcOk.add {c : Cells} {l : List D} (h : NcOk c) (hl : ∀ n, ∀ d ∈ l, nc n d = true) : NcOk (c ++ [.lst l]) := fun n k hk => by
  rcases List.mem_append.mp hk with z | z
  · exact h n k z
  · rw [List.mem_singleton] at z
    subst z
    unfold ncC
    exact ncL_of (hl n)
theorem rs2_ok {k1 k2 : Int} (h1 : NumOk k1) (h2 : NumOk k2) : ∀ r ∈ rs2 k1 k2, RsOk r := fun r hr => by
  unfold rs2 rs1 rs0 at hr
  rcases List.mem_append.mp hr with z | z
  · simp only [List.cons_append, List.nil_append, List.mem_cons, List.not_mem_nil, or_false] at z
    rcases z with rfl | rfl | rfl | rfl
    · exact ⟨by decide, by decide⟩
    · exact h1
    · exact trivial
    · exact ⟨h2, h1⟩
  · obtain ⟨s, hs, rfl⟩ := List.mem_map.mp z
    exact kds_ok s hs
theorem results_right_ok {c : Cells} {i : Nat} (h : SrcAt c i) (hn : NcOk c) : ∃ q : Cell, m__law_results_right [.cell i] c = .ok (.bl true) (c.set i q) ∧ SrcAt (c.set i q) i ∧ NcOk (c.set i q) := by
  have pw : powD (.int 10) (.int 6) c = .ok (.int 1000000) c := by
    have hp : CPow 10 6 := ⟨by decide, by decide, by decide⟩
    show (if CPow 10 6 then Out.ok (D.int (10 ^ (6 : Int).toNat)) c else .bad) = _
    rw [if_pos hp]
    rfl
  obtain ⟨k1, q1, a0, a1, d1, s1⟩ := draw_ok (b := 1000000) h (by decide) (by decide)
  obtain ⟨k2, q2, b0, b1, d2, s2⟩ := draw_ok (b := 3) s1 (by decide) (by decide)
  rw [List.set_set] at d2 s2
  have n1 : NumOk k1 := ⟨a0, by omega⟩
  have n2 : NumOk k2 := ⟨b0, by omega⟩
  have hN := hn.set s2
  refine ⟨q2, ?_, s2, hN⟩
  have t0 : (mPar [1, 2] (mCons (mCall m__law_draw (mCons (mVar 0) (mCons (mOp powD (mC (.int 10)) (mC (.int 6))) mNil))) (mCons (mCall m__law_draw (mCons (mVar 0) (mCons (mC (.int 3)) mNil))) mNil))) [some (.cell i), none, none, none, none, none, none, none] c = .nx (eS i k1 k2 none none none none none) (c.set i q2) := by
    obtain ⟨F, hF⟩ : ∃ F : MF, F = m__law_draw := ⟨_, rfl⟩
    rw [← hF] at d1 d2 ⊢
    simp only [mkFn, mkFnB, mSeq, mIfS, mB, mOp, mVar, mC, mCB, mCons, mNil, mSet, mRet, mExpr, mSkip, mOrT, mAndT, mNotT, mAnd, mOr, mNot, mIf, mChain, mIsi, mSl, mLc, mLcL, mLcC, mEnum, mBM, mBM0, mAsg, mPar, mLst, lstD, mLstC, lstC, mTup, tupD, mCall, mCallV, mFld, mMeth0, mMeth, mMake, mRaise, mTry, mTryN, wipeE, eqO, neO, asB, asI, negD, Out.bind, Out.fl, zz0, zz1, zz2, zz3, zz4, zz5, zz6, zz8, zz10, zz13, zz16, List.length_cons, List.length_nil, List.map_cons, List.map_nil, List.replicate, List.cons_append, List.nil_append, List.append_nil, List.set_cons_zero, List.set_cons_succ, List.getElem?_cons_zero, List.getElem?_cons_succ, List.zip_cons_cons, List.zip_nil_right, List.foldl_cons, List.foldl_nil, Nat.reduceAdd, Nat.reduceSub, Bool.not_true, Bool.not_false, Bool.false_eq_true, Bool.true_eq_false, decide_true, decide_false, ↓reduceIte, pw, d1, d2]
  obtain ⟨C, hC⟩ : ∃ C : Cells, C = c.set i q2 := ⟨_, rfl⟩
  have hlen : C.length = c.length := by rw [hC, List.length_set]
  rw [← hC] at t0 hN ⊢
  have t1 := rr1 (i := i) (k2 := k2) (C := C) n1
  have t2 := rr2 (i := i) (C := C) n1 n2
  have t3 := rr3 (i := i) (k1 := k1) (k2 := k2) (C := C)
  obtain ⟨B, hB⟩ : ∃ B : Cells, B = C ++ [.lst ((rs1 k1 k2).map rowR)] := ⟨_, rfl⟩
  have hBl : C.length + 1 = B.length := by rw [hB, List.length_append]; rfl
  rw [← hB] at t2 t3
  rw [hBl] at t3
  obtain ⟨L, x4, t4, hL, hl⟩ := rr4 (i := i) (k1 := k1) (k2 := k2) (B := B) (L := rs2 k1 k2) (rs2_ok n1 n2) (by show 7 ≤ 50; decide)
  have t5 := rr5 (i := i) (k1 := k1) (k2 := k2) (B := B) (x4 := x4) hL hl
  have hB2 : mb__law_results_right [some (.cell i), none, none, none, none, none, none, none] c = .rt (.bl true) (B ++ [.lst (L.map rowR)]) := by
    unfold mb__law_results_right
    rw [seq_nx t0, seq_nx t1, seq_nx t2, seq_nx t3, seq_nx t4, t5]
  have tk : (B ++ [Cell.lst (L.map rowR)]).take c.length = C := by
    rw [hB, List.append_assoc, ← hlen]
    exact List.take_left
  have fi : fin c (B ++ [Cell.lst (L.map rowR)]) (.bl true) = .ok (.bl true) C := by
    unfold fin
    rw [tk, if_pos (.inl (List.all_eq_true.mpr (hN c.length))), frz_nc (nc_bl)]
  unfold m__law_results_right
  generalize mb__law_results_right = mb at hB2 ⊢
  unfold mkFnB
  rw [if_pos (show ([.cell i] : List D).length = 1 from rfl)]
  have e9 : ([.cell i] : List D).map some ++ List.replicate (8 - 1) none = [some (.cell i), none, none, none, none, none, none, none] := rfl
  rw [e9, hB2]
  exact fi
end Law
end Nw

set_option Elab.async false
set_option linter.all false
set_option maxRecDepth 100000
set_option maxHeartbeats 1000000
namespace Nw
namespace Law
open PySem PySem.Spec
open PyProof.Rows hiding St
open L2
/-! the law: rows drawn and said -/
abbrev eL (S : D) (x1 x2 x3 x4 x5 x6 x7 : Option D) : En := [some S, x1, x2, x3, x4, x5, x6, x7, none, none, none]
theorem lc_rows {S : D} {x1 x3 x4 x5 x6 x7 : Option D} {i : Nat} {chk : Cells → Bool} (hck : ∀ c, chk c = true) : ∀ {l : List D} {acc : List Dd} {c : Cells}, SrcAt c i → NcOk c → acc.length + l.length ≤ 100 → ∃ (ds : List Dd) (c' : Cells), lcGo chk (gN 8) (fun _ c => .ok true c) law_e3 (eL S x1 (some (.cell i)) x3 x4 x5 x6 x7) l (acc.map deedR) c = .ok ((acc ++ ds).map deedR) c' ∧ SrcAt c' i ∧ NcOk c' ∧ ds.length = l.length ∧ ∀ d ∈ ds, Rd d
  | [], acc, c, hs, hn, _ => ⟨[], c, by unfold lcGo; rw [if_pos (hck c), List.append_nil], hs, hn, rfl, fun d hd => nomatch hd⟩
  | x :: r, acc, c, hs, hn, hl => by
    have zz := zzm
    rw [List.length_cons] at hl
    obtain ⟨d, q, m1, s1, hd⟩ := deed_row_ok hs
    obtain ⟨ds, c', r1, s2, n2, l2, a2⟩ := lc_rows (S := S) (x1 := x1) (x3 := x3) (x4 := x4) (x5 := x5) (x6 := x6) (x7 := x7) hck (l := r) (acc := acc ++ [d]) s1 (hn.set s1) (by rw [List.length_append, List.length_singleton]; omega)
    refine ⟨d :: ds, c', ?_, s2, n2, by rw [List.length_cons, List.length_cons, l2], fun y hy => ?_⟩
    · have g : (gN 8) x (eL S x1 (some (.cell i)) x3 x4 x5 x6 x7) = some [some S, x1, some (.cell i), x3, x4, x5, x6, x7, some x, none, none] := rfl
      have me : law_e3 [some S, x1, some (.cell i), x3, x4, x5, x6, x7, some x, none, none] c = .ok (deedR d) (c.set i q) := by
        unfold law_e3
        obtain ⟨F, hF⟩ : ∃ F : MF, F = m__law_deed_row := ⟨_, rfl⟩
        rw [← hF] at m1 ⊢
        simp only [mkFn, mkFnB, mSeq, mIfS, mB, mOp, mVar, mC, mCB, mCons, mNil, mSet, mRet, mExpr, mSkip, mOrT, mAndT, mNotT, mAnd, mOr, mNot, mIf, mChain, mIsi, mSl, mLc, mLcL, mLcC, mEnum, mBM, mBM0, mAsg, mPar, mLst, lstD, mLstC, lstC, mTup, tupD, mCall, mCallV, mFld, mMeth0, mMeth, mMake, mRaise, mTry, mTryN, wipeE, eqO, neO, asB, asI, negD, Out.bind, Out.fl, zz0, zz1, zz2, zz3, zz4, zz5, zz6, zz8, zz10, zz13, zz16, List.length_cons, List.length_nil, List.map_cons, List.map_nil, List.replicate, List.cons_append, List.nil_append, List.append_nil, List.set_cons_zero, List.set_cons_succ, List.getElem?_cons_zero, List.getElem?_cons_succ, List.zip_cons_cons, List.zip_nil_right, List.foldl_cons, List.foldl_nil, Nat.reduceAdd, Nat.reduceSub, Bool.not_true, Bool.not_false, Bool.false_eq_true, Bool.true_eq_false, decide_true, decide_false, ↓reduceIte, m1]
      unfold lcGo
      rw [if_pos (hck c), g]
      dsimp only
      rw [me]
      dsimp only
      rw [if_pos (by rw [List.length_map]; omega)]
      have e : acc.map deedR ++ [deedR d] = (acc ++ [d]).map deedR := by rw [List.map_append]; rfl
      rw [e, r1, List.append_assoc]
      rfl
    · rcases List.mem_cons.mp hy with rfl | hy
      · exact hd
      · exact a2 y hy
def prt : Dd → List D
  | .mfo f n o => [.str ("folder" : Str), .int f, .str n, .int o]
  | .mfi f n o => [.str ("file" : Str), .int f, .str n, .int o]
  | .mli f n o t => [.str ("link" : Str), .int f, .str n, .int o, .str t]
  | .put f n k => [.str ("put" : Str), .int f, .str n, .int k]
  | .tak f n => [.str ("take" : Str), .int f, .str n]
  | .mov f n g m => [.str ("move" : Str), .int f, .str n, .int g, .str m]
theorem deedR_prt (d : Dd) : deedR d = .tup (prt d) := by cases d <;> rfl
def dstr : D → D
  | .int i => .str (nz i)
  | d => d
theorem prt_dstr (d : Dd) : (prt d).map dstr = (parS d).map D.str := by cases d <;> rfl
theorem prt_ok {d : Dd} (h : Rd d) {c : Cells} : ∀ x ∈ prt d, strXD [x] c = .ok (dstr x) c := fun x hx => by
  have si : ∀ {i : Int}, NumOk i → strXD [.int i] c = .ok (dstr (.int i)) c := fun {i} hi => by
    show (if i.natAbs.log2 < 1920 then Out.ok (D.str (Str.ofString (toString i))) c else .bad) = _
    rw [if_pos (nz_log hi)]
    rfl
  have ss : ∀ {s : Str}, strXD [.str s] c = .ok (dstr (.str s)) c := fun {s} => rfl
  cases d with
  | mfo f n o =>
    obtain ⟨a, b, e⟩ := h
    simp only [prt, List.mem_cons, List.not_mem_nil, or_false] at hx
    rcases hx with rfl | rfl | rfl | rfl
    · exact ss
    · exact si a
    · exact ss
    · exact si e
  | mfi f n o =>
    obtain ⟨a, b, e⟩ := h
    simp only [prt, List.mem_cons, List.not_mem_nil, or_false] at hx
    rcases hx with rfl | rfl | rfl | rfl
    · exact ss
    · exact si a
    · exact ss
    · exact si e
  | mli f n o t =>
    obtain ⟨a, b, e, g⟩ := h
    simp only [prt, List.mem_cons, List.not_mem_nil, or_false] at hx
    rcases hx with rfl | rfl | rfl | rfl | rfl
    · exact ss
    · exact si a
    · exact ss
    · exact si e
    · exact ss
  | put f n k =>
    obtain ⟨a, b, e⟩ := h
    simp only [prt, List.mem_cons, List.not_mem_nil, or_false] at hx
    rcases hx with rfl | rfl | rfl | rfl
    · exact ss
    · exact si a
    · exact ss
    · exact si e
  | tak f n =>
    obtain ⟨a, b⟩ := h
    simp only [prt, List.mem_cons, List.not_mem_nil, or_false] at hx
    rcases hx with rfl | rfl | rfl
    · exact ss
    · exact si a
    · exact ss
  | mov f n g m =>
    obtain ⟨a, b, e, k⟩ := h
    simp only [prt, List.mem_cons, List.not_mem_nil, or_false] at hx
    rcases hx with rfl | rfl | rfl | rfl | rfl
    · exact ss
    · exact si a
    · exact ss
    · exact si e
    · exact ss
theorem parS_len (d : Dd) : (parS d).length ≤ 5 := by cases d <;> simp [parS]
theorem prt_len (d : Dd) : (prt d).length ≤ 5 := by cases d <;> simp [prt]
section
variable {S : D} {x1 x3 x4 x5 x6 x7 : Option D} {i : Nat} {c : Cells}
theorem e1_ok {d : Dd} (h : Rd d) : law_e1 [some S, x1, some (.cell i), x3, x4, x5, x6, x7, none, some (deedR d), none] c = .ok (.str (tx d)) c := by
  have zz := zzm
  have lc := lcGo_map (chk := chkI (.tup (prt d)) (prt d)) (g := gN 10) (me := law_e0) (δ := [some S, x1, some (.cell i), x3, x4, x5, x6, x7, none, some (deedR d), none]) (c := c) (f := dstr) rfl (ds := prt d) (acc := []) (fun x hx => by
    have p := prt_ok h (c := c) x hx
    refine ⟨[some S, x1, some (.cell i), x3, x4, x5, x6, x7, none, some (deedR d), some x], rfl, ?_⟩
    unfold law_e0
    simp only [mkFn, mkFnB, mSeq, mIfS, mB, mOp, mVar, mC, mCB, mCons, mNil, mSet, mRet, mExpr, mSkip, mOrT, mAndT, mNotT, mAnd, mOr, mNot, mIf, mChain, mIsi, mSl, mLc, mLcL, mLcC, mEnum, mBM, mBM0, mAsg, mPar, mLst, lstD, mLstC, lstC, mTup, tupD, mCall, mCallV, mFld, mMeth0, mMeth, mMake, mRaise, mTry, mTryN, wipeE, eqO, neO, asB, asI, negD, Out.bind, Out.fl, zz0, zz1, zz2, zz3, zz4, zz5, zz6, zz8, zz10, zz13, zz16, List.length_cons, List.length_nil, List.map_cons, List.map_nil, List.replicate, List.cons_append, List.nil_append, List.append_nil, List.set_cons_zero, List.set_cons_succ, List.getElem?_cons_zero, List.getElem?_cons_succ, List.zip_cons_cons, List.zip_nil_right, List.foldl_cons, List.foldl_nil, Nat.reduceAdd, Nat.reduceSub, Bool.not_true, Bool.not_false, Bool.false_eq_true, Bool.true_eq_false, decide_true, decide_false, ↓reduceIte, p]) (by rw [List.length_nil, Nat.zero_add]; exact Nat.le_trans (prt_len d) (by omega))
  rw [List.nil_append, prt_dstr] at lc
  have jn := join_G (a := (" " : Str)) (ss := parS d) (d := .lst ((parS d).map D.str)) (c := c) (b := 12) rfl (fun w hw => (par_ok h w hw).len) (by decide +kernel) (by have := parS_len d; omega) (by decide)
  have ml : (mLc (fun δ c => ((mVar 9) δ c).bind seqAny) (gN 10) (fun _ c => .ok true c) law_e0 [10]) [some S, x1, some (.cell i), x3, x4, x5, x6, x7, none, some (deedR d), none] c = .ok (.lst ((parS d).map D.str)) c := by
    unfold mLc mLcL
    dsimp only
    have sq : ((mVar 9) [some S, x1, some (.cell i), x3, x4, x5, x6, x7, none, some (deedR d), none] c).bind seqAny = .ok ⟨prt d, chkI (.tup (prt d)) (prt d)⟩ c := by
      rw [deedR_prt]
      rfl
    rw [sq]
    show Out.bind (lcGo (chkI (.tup (prt d)) (prt d)) (gN 10) (fun _ c => .ok true c) law_e0 [some S, x1, some (.cell i), x3, x4, x5, x6, x7, none, some (deedR d), none] (prt d) [] c) _ = _
    rw [lc]
    rfl
  have bs : isBt .s c (.str (" " : Str)) = true := rfl
  unfold law_e1
  obtain ⟨M, hM⟩ : ∃ M, M = (mLc (fun δ c => ((mVar 9) δ c).bind seqAny) (gN 10) (fun _ c => .ok true c) law_e0 [10]) := ⟨_, rfl⟩
  rw [← hM] at ml ⊢
  simp only [mkFn, mkFnB, mSeq, mIfS, mB, mOp, mVar, mC, mCB, mCons, mNil, mSet, mRet, mExpr, mSkip, mOrT, mAndT, mNotT, mAnd, mOr, mNot, mIf, mChain, mIsi, mSl, mLc, mLcL, mLcC, mEnum, mBM, mBM0, mAsg, mPar, mLst, lstD, mLstC, lstC, mTup, tupD, mCall, mCallV, mFld, mMeth0, mMeth, mMake, mRaise, mTry, mTryN, wipeE, eqO, neO, asB, asI, negD, Out.bind, Out.fl, zz0, zz1, zz2, zz3, zz4, zz5, zz6, zz8, zz10, zz13, zz16, List.length_cons, List.length_nil, List.map_cons, List.map_nil, List.replicate, List.cons_append, List.nil_append, List.append_nil, List.set_cons_zero, List.set_cons_succ, List.getElem?_cons_zero, List.getElem?_cons_succ, List.zip_cons_cons, List.zip_nil_right, List.foldl_cons, List.foldl_nil, Nat.reduceAdd, Nat.reduceSub, Bool.not_true, Bool.not_false, Bool.false_eq_true, Bool.true_eq_false, decide_true, decide_false, ↓reduceIte, ml, bs, jn]
  rfl
theorem some_ok {ds : List Dd} (hl : ds.length ≤ 100) : (mLc (fun δ c => ((mVar 4) δ c).bind seqAny) (gN 9) (fun _ c => .ok true c) law_e2 [9]) (eL S x1 (some (.cell i)) x3 (some (.lst (ds.map deedR))) x5 x6 x7) c = .ok (.lst (ds.map deedD)) c := by
  have zz := zzm
  have lc := lc_map (chk := chkI (.lst (ds.map deedR)) (ds.map deedR)) (g := gN 9) (me := law_e2) (δ := eL S x1 (some (.cell i)) x3 (some (.lst (ds.map deedR))) x5 x6 x7) (c := c) (enc := deedR) (dec := deedD) (l := ds) rfl (fun d hd => by
    have p := law_deed_ok (d := d) (c := c)
    refine ⟨[some S, x1, some (.cell i), x3, some (.lst (ds.map deedR)), x5, x6, x7, none, some (deedR d), none], rfl, ?_⟩
    unfold law_e2
    obtain ⟨F, hF⟩ : ∃ F : MF, F = m__law_deed := ⟨_, rfl⟩
    rw [← hF] at p ⊢
    simp only [mkFn, mkFnB, mSeq, mIfS, mB, mOp, mVar, mC, mCB, mCons, mNil, mSet, mRet, mExpr, mSkip, mOrT, mAndT, mNotT, mAnd, mOr, mNot, mIf, mChain, mIsi, mSl, mLc, mLcL, mLcC, mEnum, mBM, mBM0, mAsg, mPar, mLst, lstD, mLstC, lstC, mTup, tupD, mCall, mCallV, mFld, mMeth0, mMeth, mMake, mRaise, mTry, mTryN, wipeE, eqO, neO, asB, asI, negD, Out.bind, Out.fl, zz0, zz1, zz2, zz3, zz4, zz5, zz6, zz8, zz10, zz13, zz16, List.length_cons, List.length_nil, List.map_cons, List.map_nil, List.replicate, List.cons_append, List.nil_append, List.append_nil, List.set_cons_zero, List.set_cons_succ, List.getElem?_cons_zero, List.getElem?_cons_succ, List.zip_cons_cons, List.zip_nil_right, List.foldl_cons, List.foldl_nil, Nat.reduceAdd, Nat.reduceSub, Bool.not_true, Bool.not_false, Bool.false_eq_true, Bool.true_eq_false, decide_true, decide_false, ↓reduceIte, p]) (by omega)
  unfold mLc mLcL
  dsimp only
  show Out.bind (lcGo (chkI (.lst (ds.map deedR)) (ds.map deedR)) (gN 9) (fun _ c => .ok true c) law_e2 (eL S x1 (some (.cell i)) x3 (some (.lst (ds.map deedR))) x5 x6 x7) (ds.map deedR) [] c) _ = _
  rw [lc]
  rfl
theorem due_ok {ds : List Dd} (h : ∀ d ∈ ds, Rd d) (hl : ds.length ≤ 100) : (mBM .s joinD (mC (.str (", " : Str))) (mCons (mLc (fun δ c => ((mVar 4) δ c).bind seqAny) (gN 9) (fun _ c => .ok true c) law_e1 [9]) mNil)) (eL S x1 (some (.cell i)) x3 (some (.lst (ds.map deedR))) x5 x6 x7) c = .ok (.str (rowT ds)) c := by
  have zz := zzm
  have lc := lc_map (chk := chkI (.lst (ds.map deedR)) (ds.map deedR)) (g := gN 9) (me := law_e1) (δ := eL S x1 (some (.cell i)) x3 (some (.lst (ds.map deedR))) x5 x6 x7) (c := c) (enc := deedR) (dec := fun d => .str (tx d)) (l := ds) rfl (fun d hd => ⟨[some S, x1, some (.cell i), x3, some (.lst (ds.map deedR)), x5, x6, x7, none, some (deedR d), none], rfl, e1_ok (h d hd)⟩) (by omega)
  have e : ds.map (fun d => D.str (tx d)) = (ds.map tx).map D.str := by rw [List.map_map]; rfl
  rw [e] at lc
  have ml : (mLc (fun δ c => ((mVar 4) δ c).bind seqAny) (gN 9) (fun _ c => .ok true c) law_e1 [9]) (eL S x1 (some (.cell i)) x3 (some (.lst (ds.map deedR))) x5 x6 x7) c = .ok (.lst ((ds.map tx).map D.str)) c := by
    unfold mLc mLcL
    dsimp only
    show Out.bind (lcGo (chkI (.lst (ds.map deedR)) (ds.map deedR)) (gN 9) (fun _ c => .ok true c) law_e1 (eL S x1 (some (.cell i)) x3 (some (.lst (ds.map deedR))) x5 x6 x7) (ds.map deedR) [] c) _ = _
    rw [lc]
    rfl
  have jn := join_G (a := cm2) (ss := ds.map tx) (d := .lst ((ds.map tx).map D.str)) (c := c) (b := 65) rfl (fun s hs => by
    obtain ⟨d, hd, rfl⟩ := List.mem_map.mp hs
    exact tx_len (h d hd)) (by decide +kernel) (by rw [List.length_map]; omega) (by decide)
  have jn : joinD (.str (", " : Str)) [.lst ((ds.map tx).map D.str)] c = .ok (.str (rowT ds)) c := jn
  have bs : isBt .s c (.str (", " : Str)) = true := rfl
  obtain ⟨M, hM⟩ : ∃ M, M = (mLc (fun δ c => ((mVar 4) δ c).bind seqAny) (gN 9) (fun _ c => .ok true c) law_e1 [9]) := ⟨_, rfl⟩
  rw [← hM] at ml ⊢
  simp only [mkFn, mkFnB, mSeq, mIfS, mB, mOp, mVar, mC, mCB, mCons, mNil, mSet, mRet, mExpr, mSkip, mOrT, mAndT, mNotT, mAnd, mOr, mNot, mIf, mChain, mIsi, mSl, mLc, mLcL, mLcC, mEnum, mBM, mBM0, mAsg, mPar, mLst, lstD, mLstC, lstC, mTup, tupD, mCall, mCallV, mFld, mMeth0, mMeth, mMake, mRaise, mTry, mTryN, wipeE, eqO, neO, asB, asI, negD, Out.bind, Out.fl, zz0, zz1, zz2, zz3, zz4, zz5, zz6, zz8, zz10, zz13, zz16, List.length_cons, List.length_nil, List.map_cons, List.map_nil, List.replicate, List.cons_append, List.nil_append, List.append_nil, List.set_cons_zero, List.set_cons_succ, List.getElem?_cons_zero, List.getElem?_cons_succ, List.zip_cons_cons, List.zip_nil_right, List.foldl_cons, List.foldl_nil, Nat.reduceAdd, Nat.reduceSub, Bool.not_true, Bool.not_false, Bool.false_eq_true, Bool.true_eq_false, decide_true, decide_false, ↓reduceIte, ml, bs, jn]
theorem nc_deedD {n : Nat} (d : Dd) : nc n (deedD d) = true := by
  cases d <;> exact nc_obj fun y hy => by
    simp only [List.mem_cons, List.not_mem_nil, or_false] at hy
    first
      | (rcases hy with rfl | rfl | rfl | rfl <;> first | exact nc_int | exact nc_str)
      | (rcases hy with rfl | rfl | rfl <;> first | exact nc_int | exact nc_str)
      | (rcases hy with rfl | rfl <;> first | exact nc_int | exact nc_str)
theorem turn_ok (h : SrcAt c i) (hn : NcOk c) : ∃ (c' : Cells) (y4 y5 y6 y7 : Option D), law_b4 (eL S x1 (some (.cell i)) x3 x4 x5 x6 x7) c = .nx (eL S x1 (some (.cell i)) x3 y4 y5 y6 y7) c' ∧ SrcAt c' i ∧ NcOk c' := by
  have zz := zzm
  obtain ⟨k, q, k0, k1, dw, s1⟩ := draw_ok (b := 9) h (by decide) (by decide)
  obtain ⟨m, rfl⟩ : ∃ m : Nat, k = (m : Nat) := ⟨k.toNat, by omega⟩
  have hn1 := hn.set s1
  obtain ⟨C1, hC1⟩ : ∃ C1, C1 = c.set i q := ⟨_, rfl⟩
  rw [← hC1] at dw s1 hn1
  obtain ⟨ds, C, lr, s2, hn2, dl, hR⟩ := lc_rows (S := S) (x1 := x1) (x3 := x3) (x4 := x4) (x5 := x5) (x6 := x6) (x7 := x7) (chk := (rangeD 0 (1 + m)).chk) (fun _ => rfl) (l := (rangeD 0 (1 + m)).ds) (acc := []) s1 hn1 (by rw [rng_len, List.length_nil]; omega)
  rw [rng_len] at dl
  rw [List.nil_append, List.map_nil] at lr
  have d0 : ds ≠ [] := fun z => by rw [z, List.length_nil] at dl; omega
  have dn : ds.length ≤ 100 := by omega
  have it : (fun δ c => ((mCons (mOp addD (mC (.int 1)) (mCall m__law_draw (mCons (mVar 2) (mCons (mC (.int 9)) mNil)))) mNil) δ c).bind rng1) (eL S x1 (some (.cell i)) x3 x4 x5 x6 x7) c = .ok (rangeD 0 (1 + m)) C1 := by
    refine it_of (m := (mCons (mOp addD (mC (.int 1)) (mCall m__law_draw (mCons (mVar 2) (mCons (mC (.int 9)) mNil)))) mNil)) (n := 1 + m) ?_ (by omega)
    have ad : addD (.int 1) (.int (m : Nat)) C1 = .ok (.int ((1 + m : Nat) : Int)) C1 := by
      show Out.ok (D.int (1 + ((m : Nat) : Int))) C1 = _
      have e : (1 + ((m : Nat) : Int)) = ((1 + m : Nat) : Int) := by omega
      rw [e]
    obtain ⟨F, hF⟩ : ∃ F : MF, F = m__law_draw := ⟨_, rfl⟩
    rw [← hF] at dw ⊢
    simp only [mkFn, mkFnB, mSeq, mIfS, mB, mOp, mVar, mC, mCB, mCons, mNil, mSet, mRet, mExpr, mSkip, mOrT, mAndT, mNotT, mAnd, mOr, mNot, mIf, mChain, mIsi, mSl, mLc, mLcL, mLcC, mEnum, mBM, mBM0, mAsg, mPar, mLst, lstD, mLstC, lstC, mTup, tupD, mCall, mCallV, mFld, mMeth0, mMeth, mMake, mRaise, mTry, mTryN, wipeE, eqO, neO, asB, asI, negD, Out.bind, Out.fl, zz0, zz1, zz2, zz3, zz4, zz5, zz6, zz8, zz10, zz13, zz16, List.length_cons, List.length_nil, List.map_cons, List.map_nil, List.replicate, List.cons_append, List.nil_append, List.append_nil, List.set_cons_zero, List.set_cons_succ, List.getElem?_cons_zero, List.getElem?_cons_succ, List.zip_cons_cons, List.zip_nil_right, List.foldl_cons, List.foldl_nil, Nat.reduceAdd, Nat.reduceSub, Bool.not_true, Bool.not_false, Bool.false_eq_true, Bool.true_eq_false, decide_true, decide_false, ↓reduceIte, dw, ad]
  have t0 : (mSet 4 (mLc (fun δ c => ((mCons (mOp addD (mC (.int 1)) (mCall m__law_draw (mCons (mVar 2) (mCons (mC (.int 9)) mNil)))) mNil) δ c).bind rng1) (gN 8) (fun _ c => .ok true c) law_e3 [8])) (eL S x1 (some (.cell i)) x3 x4 x5 x6 x7) c = .nx (eL S x1 (some (.cell i)) x3 (some (.lst (ds.map deedR))) x5 x6 x7) C := by
    have ew : wipeE (eL S x1 (some (.cell i)) x3 x4 x5 x6 x7) [8] = eL S x1 (some (.cell i)) x3 x4 x5 x6 x7 := rfl
    unfold mSet mLc mLcL
    dsimp only
    dsimp only at it
    rw [it, ew]
    dsimp only [Out.bind]
    rw [lr]
    rfl
  have t1 : (mSet 5 (mLc (fun δ c => ((mVar 4) δ c).bind seqAny) (gN 9) (fun _ c => .ok true c) law_e2 [9])) (eL S x1 (some (.cell i)) x3 (some (.lst (ds.map deedR))) x5 x6 x7) C = .nx (eL S x1 (some (.cell i)) x3 (some (.lst (ds.map deedR))) (some (.lst (ds.map deedD))) x6 x7) C := by
    have so := some_ok (S := S) (x1 := x1) (x3 := x3) (x5 := x5) (x6 := x6) (x7 := x7) (i := i) (c := C) dn
    unfold mSet
    rw [so]
    rfl
  have t2 : (mSet 6 (mBM .s joinD (mC (.str (", " : Str))) (mCons (mLc (fun δ c => ((mVar 4) δ c).bind seqAny) (gN 9) (fun _ c => .ok true c) law_e1 [9]) mNil))) (eL S x1 (some (.cell i)) x3 (some (.lst (ds.map deedR))) (some (.lst (ds.map deedD))) x6 x7) C = .nx (eL S x1 (some (.cell i)) x3 (some (.lst (ds.map deedR))) (some (.lst (ds.map deedD))) (some (.str (rowT ds))) x7) C := by
    have du := due_ok (S := S) (x1 := x1) (x3 := x3) (x5 := (some (.lst (ds.map deedD)))) (x6 := x6) (x7 := x7) (i := i) (c := C) hR dn
    unfold mSet
    rw [du]
    rfl
  obtain ⟨R, hRR⟩ : ∃ R : List D, R = ds.map deedR := ⟨_, rfl⟩
  rw [← hRR] at t1 t2
  have t3 : (mIfS (mOrT (mB (mOp (neO EQ) (mCall m_row_text (mCons (mVar 5) mNil)) (mVar 6))) (mB (mOp (neO EQ) (mCall m_row_text (mCons (mCB tupleD (mCons (mVar 5) mNil)) mNil)) (mVar 6)))) (mRet (mC (.bl false))) mSkip) (eL S x1 (some (.cell i)) x3 (some (.lst R)) (some (.lst (ds.map deedD))) (some (.str (rowT ds))) x7) C = .nx (eL S x1 (some (.cell i)) x3 (some (.lst R)) (some (.lst (ds.map deedD))) (some (.str (rowT ds))) x7) C := by
    have r1 := row_text_ok (src := .lst (ds.map deedD)) (c := C) (ds := ds) rfl rfl hR d0 dn
    have r2 := row_text_ok (src := .tup (ds.map deedD)) (c := C) (ds := ds) rfl rfl hR d0 dn
    have tp : tupleD [.lst (ds.map deedD)] C = .ok (.tup (ds.map deedD)) C := rfl
    have eq : EQ (.str (rowT ds)) (.str (rowT ds)) C = .ok true C := by rw [EQ_str (rowT_str hR) (rowT_str hR), beq_self_eq_true]
    obtain ⟨F, hF⟩ : ∃ F : MF, F = m_row_text := ⟨_, rfl⟩
    obtain ⟨T, hT⟩ : ∃ T, T = rowT ds := ⟨_, rfl⟩
    obtain ⟨L, hL⟩ : ∃ L : List D, L = ds.map deedD := ⟨_, rfl⟩
    rw [← hF, ← hT, ← hL] at r1 r2
    rw [← hT] at eq ⊢
    rw [← hL] at tp ⊢
    rw [← hF]
    simp only [mkFn, mkFnB, mSeq, mIfS, mB, mOp, mVar, mC, mCB, mCons, mNil, mSet, mRet, mExpr, mSkip, mOrT, mAndT, mNotT, mAnd, mOr, mNot, mIf, mChain, mIsi, mSl, mLc, mLcL, mLcC, mEnum, mBM, mBM0, mAsg, mPar, mLst, lstD, mLstC, lstC, mTup, tupD, mCall, mCallV, mFld, mMeth0, mMeth, mMake, mRaise, mTry, mTryN, wipeE, eqO, neO, asB, asI, negD, Out.bind, Out.fl, zz0, zz1, zz2, zz3, zz4, zz5, zz6, zz8, zz10, zz13, zz16, List.length_cons, List.length_nil, List.map_cons, List.map_nil, List.replicate, List.cons_append, List.nil_append, List.append_nil, List.set_cons_zero, List.set_cons_succ, List.getElem?_cons_zero, List.getElem?_cons_succ, List.zip_cons_cons, List.zip_nil_right, List.foldl_cons, List.foldl_nil, Nat.reduceAdd, Nat.reduceSub, Bool.not_true, Bool.not_false, Bool.false_eq_true, Bool.true_eq_false, decide_true, decide_false, ↓reduceIte, r1, r2, tp, eq]
  obtain ⟨C2, hC2⟩ : ∃ C2 : Cells, C2 = C ++ [.lst (ds.map deedD)] := ⟨_, rfl⟩
  have rd := read_row_ok (c := C) hR d0 dn
  rw [← hC2] at rd
  have hk : C2[C.length]? = some (.lst (ds.map deedD)) := by rw [hC2]; exact get_last
  have t4 : (mSet 7 (mCall m_read_row (mCons (mVar 6) mNil))) (eL S x1 (some (.cell i)) x3 (some (.lst R)) (some (.lst (ds.map deedD))) (some (.str (rowT ds))) x7) C = .nx (eL S x1 (some (.cell i)) x3 (some (.lst R)) (some (.lst (ds.map deedD))) (some (.str (rowT ds))) (some (.cell C.length))) C2 := by
    obtain ⟨F, hF⟩ : ∃ F : MF, F = m_read_row := ⟨_, rfl⟩
    rw [← hF] at rd ⊢
    simp only [mkFn, mkFnB, mSeq, mIfS, mB, mOp, mVar, mC, mCB, mCons, mNil, mSet, mRet, mExpr, mSkip, mOrT, mAndT, mNotT, mAnd, mOr, mNot, mIf, mChain, mIsi, mSl, mLc, mLcL, mLcC, mEnum, mBM, mBM0, mAsg, mPar, mLst, lstD, mLstC, lstC, mTup, tupD, mCall, mCallV, mFld, mMeth0, mMeth, mMake, mRaise, mTry, mTryN, wipeE, eqO, neO, asB, asI, negD, Out.bind, Out.fl, zz0, zz1, zz2, zz3, zz4, zz5, zz6, zz8, zz10, zz13, zz16, List.length_cons, List.length_nil, List.map_cons, List.map_nil, List.replicate, List.cons_append, List.nil_append, List.append_nil, List.set_cons_zero, List.set_cons_succ, List.getElem?_cons_zero, List.getElem?_cons_succ, List.zip_cons_cons, List.zip_nil_right, List.foldl_cons, List.foldl_nil, Nat.reduceAdd, Nat.reduceSub, Bool.not_true, Bool.not_false, Bool.false_eq_true, Bool.true_eq_false, decide_true, decide_false, ↓reduceIte, rd]
  have t5 : (mIfS (mOrT (mB (mOp (neO EQ) (mVar 7) (mVar 5))) (mNotT (mB (mIsi tys isi_list (mVar 7))))) (mRet (mC (.bl false))) mSkip) (eL S x1 (some (.cell i)) x3 (some (.lst R)) (some (.lst (ds.map deedD))) (some (.str (rowT ds))) (some (.cell C.length))) C2 = .nx (eL S x1 (some (.cell i)) x3 (some (.lst R)) (some (.lst (ds.map deedD))) (some (.str (rowT ds))) (some (.cell C.length))) C2 := by
    have eq := EQ_ddsC hk d0 hR
    have is : isiD tys isi_list (.cell C.length) C2 = .ok (.bl true) C2 := isi_of (t := .b "list") (by
      unfold tyD
      dsimp only
      rw [hk]) (by decide +kernel) (by decide +kernel)
    simp only [mkFn, mkFnB, mSeq, mIfS, mB, mOp, mVar, mC, mCB, mCons, mNil, mSet, mRet, mExpr, mSkip, mOrT, mAndT, mNotT, mAnd, mOr, mNot, mIf, mChain, mIsi, mSl, mLc, mLcL, mLcC, mEnum, mBM, mBM0, mAsg, mPar, mLst, lstD, mLstC, lstC, mTup, tupD, mCall, mCallV, mFld, mMeth0, mMeth, mMake, mRaise, mTry, mTryN, wipeE, eqO, neO, asB, asI, negD, Out.bind, Out.fl, zz0, zz1, zz2, zz3, zz4, zz5, zz6, zz8, zz10, zz13, zz16, List.length_cons, List.length_nil, List.map_cons, List.map_nil, List.replicate, List.cons_append, List.nil_append, List.append_nil, List.set_cons_zero, List.set_cons_succ, List.getElem?_cons_zero, List.getElem?_cons_succ, List.zip_cons_cons, List.zip_nil_right, List.foldl_cons, List.foldl_nil, Nat.reduceAdd, Nat.reduceSub, Bool.not_true, Bool.not_false, Bool.false_eq_true, Bool.true_eq_false, decide_true, decide_false, ↓reduceIte, eq, is]
  have t6 : (mExpr (mBM .l appendD (mVar 7) (mCons (mC .non) mNil))) (eL S x1 (some (.cell i)) x3 (some (.lst R)) (some (.lst (ds.map deedD))) (some (.str (rowT ds))) (some (.cell C.length))) C2 = .nx (eL S x1 (some (.cell i)) x3 (some (.lst R)) (some (.lst (ds.map deedD))) (some (.str (rowT ds))) (some (.cell C.length))) (C ++ [.lst (ds.map deedD ++ [.non])]) := by
    have bt : isBt .l C2 (.cell C.length) = true := bt_at hk
    have ap : appendD (.cell C.length) [.non] C2 = .ok .non (C ++ [.lst (ds.map deedD ++ [.non])]) := by
      rw [app_at hk (by rw [List.length_map]; omega), hC2, set_last]
    simp only [mkFn, mkFnB, mSeq, mIfS, mB, mOp, mVar, mC, mCB, mCons, mNil, mSet, mRet, mExpr, mSkip, mOrT, mAndT, mNotT, mAnd, mOr, mNot, mIf, mChain, mIsi, mSl, mLc, mLcL, mLcC, mEnum, mBM, mBM0, mAsg, mPar, mLst, lstD, mLstC, lstC, mTup, tupD, mCall, mCallV, mFld, mMeth0, mMeth, mMake, mRaise, mTry, mTryN, wipeE, eqO, neO, asB, asI, negD, Out.bind, Out.fl, zz0, zz1, zz2, zz3, zz4, zz5, zz6, zz8, zz10, zz13, zz16, List.length_cons, List.length_nil, List.map_cons, List.map_nil, List.replicate, List.cons_append, List.nil_append, List.append_nil, List.set_cons_zero, List.set_cons_succ, List.getElem?_cons_zero, List.getElem?_cons_succ, List.zip_cons_cons, List.zip_nil_right, List.foldl_cons, List.foldl_nil, Nat.reduceAdd, Nat.reduceSub, Bool.not_true, Bool.not_false, Bool.false_eq_true, Bool.true_eq_false, decide_true, decide_false, ↓reduceIte, bt, ap]
  obtain ⟨C3, hC3⟩ : ∃ C3 : Cells, C3 = C ++ [.lst (ds.map deedD ++ [.non])] := ⟨_, rfl⟩
  have n3 : NcOk C3 := by
    rw [hC3]
    refine hn2.add fun n d hd => ?_
    rcases List.mem_append.mp hd with z | z
    · obtain ⟨e, _, rfl⟩ := List.mem_map.mp z
      exact nc_deedD e
    · rw [List.mem_singleton] at z
      subst z
      unfold nc
      rfl
  have s3 : SrcAt C3 i := by rw [hC3]; exact s2.append
  rw [← hC3] at t6
  have rd2 := read_row_ok (c := C3) hR d0 dn
  have eq2 := EQ_ddsC (C := C3 ++ [.lst (ds.map deedD)]) (j := C3.length) get_last d0 hR
  have t7 : (mIfS (mB (mOp (neO EQ) (mCall m_read_row (mCons (mVar 6) mNil)) (mVar 5))) (mRet (mC (.bl false))) mSkip) (eL S x1 (some (.cell i)) x3 (some (.lst R)) (some (.lst (ds.map deedD))) (some (.str (rowT ds))) (some (.cell C.length))) C3 = .nx (eL S x1 (some (.cell i)) x3 (some (.lst R)) (some (.lst (ds.map deedD))) (some (.str (rowT ds))) (some (.cell C.length))) (C3 ++ [.lst (ds.map deedD)]) := by
    obtain ⟨F, hF⟩ : ∃ F : MF, F = m_read_row := ⟨_, rfl⟩
    rw [← hF] at rd2 ⊢
    simp only [mkFn, mkFnB, mSeq, mIfS, mB, mOp, mVar, mC, mCB, mCons, mNil, mSet, mRet, mExpr, mSkip, mOrT, mAndT, mNotT, mAnd, mOr, mNot, mIf, mChain, mIsi, mSl, mLc, mLcL, mLcC, mEnum, mBM, mBM0, mAsg, mPar, mLst, lstD, mLstC, lstC, mTup, tupD, mCall, mCallV, mFld, mMeth0, mMeth, mMake, mRaise, mTry, mTryN, wipeE, eqO, neO, asB, asI, negD, Out.bind, Out.fl, zz0, zz1, zz2, zz3, zz4, zz5, zz6, zz8, zz10, zz13, zz16, List.length_cons, List.length_nil, List.map_cons, List.map_nil, List.replicate, List.cons_append, List.nil_append, List.append_nil, List.set_cons_zero, List.set_cons_succ, List.getElem?_cons_zero, List.getElem?_cons_succ, List.zip_cons_cons, List.zip_nil_right, List.foldl_cons, List.foldl_nil, Nat.reduceAdd, Nat.reduceSub, Bool.not_true, Bool.not_false, Bool.false_eq_true, Bool.true_eq_false, decide_true, decide_false, ↓reduceIte, rd2, eq2]
  refine ⟨C3 ++ [.lst (ds.map deedD)], some (.lst R), some (.lst (ds.map deedD)), some (.str (rowT ds)), some (.cell C.length), ?_, s3.append, n3.add fun n d hd => by
    obtain ⟨e, _, rfl⟩ := List.mem_map.mp hd
    exact nc_deedD e⟩
  rw [← hRR] at t0
  unfold law_b4
  rw [seq_nx t0, seq_nx t1, seq_nx t2, seq_nx t3, seq_nx t4, seq_nx t5, seq_nx t6, t7]
end
end Law
end Nw

set_option Elab.async false
set_option linter.all false
set_option maxRecDepth 100000
set_option maxHeartbeats 1000000
namespace Nw
namespace Law
open PySem PySem.Spec
open PyProof.Rows hiding St
open L2
theorem min_ok {a b : Nat} {c : Cells} : minD [.int (a : Nat), .int (b : Nat)] c = .ok (.int ((min a b : Nat) : Int)) c := by
  show Out.ok (Nw.D.int (if ((b : Nat) : Int) < ((a : Nat) : Int) then ((b : Nat) : Int) else ((a : Nat) : Int))) c = _
  have e : (if ((b : Nat) : Int) < ((a : Nat) : Int) then ((b : Nat) : Int) else ((a : Nat) : Int)) = ((min a b : Nat) : Int) := by
    split <;> omega
  rw [e]
/-! the law -/
section
variable {ns : List Int} {c : Cells} {x2 x3 x4 x5 x6 x7 : Option D}
abbrev scrD (ns : List Int) : D := .scr (ns.map D.int)
theorem b5_ok {j : Nat} (hj : j ≤ ns.length) (hl : ns.length ≤ 63) (hn : NcOk c) : ∃ (c' : Cells) (y2 y3 y4 y5 y6 y7 : Option D), law_b5 (eL (scrD ns) (some (.int (j : Nat))) x2 x3 x4 x5 x6 x7) c = .nx (eL (scrD ns) (some (.int (j : Nat))) y2 y3 y4 y5 y6 y7) c' ∧ NcOk c' := by
  have zz := zzm
  have ad : addD (scrD ns) (.lst [.int 0]) c = .ok (.lst ((ns ++ [0]).map D.int)) c := by
    show lstD (ns.map D.int ++ [.int 0]) c = _
    unfold lstD
    rw [if_pos (by rw [List.length_append, List.length_map, List.length_singleton]; omega), List.map_append]
    rfl
  have hj2 : j < (ns ++ [0]).length := by rw [List.length_append, List.length_singleton]; omega
  have ix : ixD (.lst ((ns ++ [0]).map D.int)) (.int (j : Nat)) c = .ok (.int (ns ++ [0])[j]) c := ixD_lst (by rw [List.getElem?_map, List.getElem?_eq_getElem hj2]; rfl)
  obtain ⟨v, hv⟩ : ∃ v, v = (ns ++ [0])[j] := ⟨_, rfl⟩
  rw [← hv] at ix
  obtain ⟨q, so, sa⟩ := source_ok (c := c) (n := v)
  obtain ⟨i, hi⟩ : ∃ i, i = c.length := ⟨_, rfl⟩
  obtain ⟨C, hC⟩ : ∃ C, C = c ++ [q] := ⟨_, rfl⟩
  rw [← hi, ← hC] at so sa
  have nC : NcOk C := by
    obtain ⟨a0, a1, a2, e⟩ := sa
    rw [hC, hi, get_last] at e
    rw [hC, Option.some.inj e]
    exact hn.add fun n d hd => by simp at hd; rcases hd with rfl | rfl | rfl <;> exact nc_int
  obtain ⟨S, hS⟩ : ∃ S, S = scrD ns := ⟨_, rfl⟩
  obtain ⟨L, hL⟩ : ∃ L : List D, L = (ns ++ [0]).map D.int := ⟨_, rfl⟩
  rw [← hL] at ad ix
  rw [← hS] at ad ⊢
  have t0 : (mSet 2 (mCall m__law_source (mCons (mOp ixD (mOp addD (mVar 0) (mLst (mCons (mC (.int 0)) mNil))) (mVar 1)) mNil))) (eL S (some (.int (j : Nat))) x2 x3 x4 x5 x6 x7) c = .nx (eL S (some (.int (j : Nat))) (some (.cell i)) x3 x4 x5 x6 x7) C := by
    obtain ⟨F, hF⟩ : ∃ F : MF, F = m__law_source := ⟨_, rfl⟩
    rw [← hF] at so ⊢
    simp only [mkFn, mkFnB, mSeq, mIfS, mB, mOp, mVar, mC, mCB, mCons, mNil, mSet, mRet, mExpr, mSkip, mOrT, mAndT, mNotT, mAnd, mOr, mNot, mIf, mChain, mIsi, mSl, mLc, mLcL, mLcC, mEnum, mBM, mBM0, mAsg, mPar, mLst, lstD, mLstC, lstC, mTup, tupD, mCall, mCallV, mFld, mMeth0, mMeth, mMake, mRaise, mTry, mTryN, wipeE, eqO, neO, asB, asI, negD, Out.bind, Out.fl, zz0, zz1, zz2, zz3, zz4, zz5, zz6, zz8, zz10, zz13, zz16, List.length_cons, List.length_nil, List.map_cons, List.map_nil, List.replicate, List.cons_append, List.nil_append, List.append_nil, List.set_cons_zero, List.set_cons_succ, List.getElem?_cons_zero, List.getElem?_cons_succ, List.zip_cons_cons, List.zip_nil_right, List.foldl_cons, List.foldl_nil, Nat.reduceAdd, Nat.reduceSub, Bool.not_true, Bool.not_false, Bool.false_eq_true, Bool.true_eq_false, decide_true, decide_false, ↓reduceIte, ad, ix, so]
  have lo := loop_I (chk := (rangeD 0 4).chk) (g := gN 3) (mb := law_b4) (Inv := fun _ δ c => ∃ x3 x4 x5 x6 x7 : Option D, δ = eL S (some (.int (j : Nat))) (some (.cell i)) x3 x4 x5 x6 x7 ∧ SrcAt c i ∧ NcOk c) (fun _ _ _ _ => rfl) (l := cI (List.range 4)) (k := 0) (δ := eL S (some (.int (j : Nat))) (some (.cell i)) x3 x4 x5 x6 x7) (c := C) (fun d _ _ δ c _ _ hi => by
    obtain ⟨x3, x4, x5, x6, x7, rfl, h1, h2⟩ := hi
    obtain ⟨c', y4, y5, y6, y7, t, h3, h4⟩ := turn_ok (S := S) (x1 := some (.int (j : Nat))) (x3 := some d) (x4 := x4) (x5 := x5) (x6 := x6) (x7 := x7) h1 h2
    exact ⟨_, rfl, _, _, t, _, _, _, _, _, rfl, h3, h4⟩) ⟨_, _, _, _, _, rfl, sa, nC⟩
  obtain ⟨δ', c2, lo, y3, y4, y5, y6, y7, rfl, s2, n2⟩ := lo
  have t1 : (mFor (fun δ c => ((mCons (mC (.int 4)) mNil) δ c).bind rng1) (gN 3) law_b4) (eL S (some (.int (j : Nat))) (some (.cell i)) x3 x4 x5 x6 x7) C = .nx (eL S (some (.int (j : Nat))) (some (.cell i)) y3 y4 y5 y6 y7) c2 := by
    have it : (fun δ c => ((mCons (mC (.int 4)) mNil) δ c).bind rng1) (eL S (some (.int (j : Nat))) (some (.cell i)) x3 x4 x5 x6 x7) C = .ok (rangeD 0 4) C := rngI (n := 4) (by decide) (by decide)
    unfold mFor
    rw [it, fl_okG, range_cI (n := 4)]
    exact lo
  obtain ⟨q3, rr, s3, n3⟩ := results_right_ok s2 n2
  refine ⟨c2.set i q3, some (.cell i), y3, y4, y5, y6, y7, ?_, n3⟩
  have t2 : (mIfS (mNotT (mB (mCall m__law_results_right (mCons (mVar 2) mNil)))) (mRet (mC (.bl false))) mSkip) (eL S (some (.int (j : Nat))) (some (.cell i)) y3 y4 y5 y6 y7) c2 = .nx (eL S (some (.int (j : Nat))) (some (.cell i)) y3 y4 y5 y6 y7) (c2.set i q3) := by
    obtain ⟨F, hF⟩ : ∃ F : MF, F = m__law_results_right := ⟨_, rfl⟩
    rw [← hF] at rr ⊢
    simp only [mkFn, mkFnB, mSeq, mIfS, mB, mOp, mVar, mC, mCB, mCons, mNil, mSet, mRet, mExpr, mSkip, mOrT, mAndT, mNotT, mAnd, mOr, mNot, mIf, mChain, mIsi, mSl, mLc, mLcL, mLcC, mEnum, mBM, mBM0, mAsg, mPar, mLst, lstD, mLstC, lstC, mTup, tupD, mCall, mCallV, mFld, mMeth0, mMeth, mMake, mRaise, mTry, mTryN, wipeE, eqO, neO, asB, asI, negD, Out.bind, Out.fl, zz0, zz1, zz2, zz3, zz4, zz5, zz6, zz8, zz10, zz13, zz16, List.length_cons, List.length_nil, List.map_cons, List.map_nil, List.replicate, List.cons_append, List.nil_append, List.append_nil, List.set_cons_zero, List.set_cons_succ, List.getElem?_cons_zero, List.getElem?_cons_succ, List.zip_cons_cons, List.zip_nil_right, List.foldl_cons, List.foldl_nil, Nat.reduceAdd, Nat.reduceSub, Bool.not_true, Bool.not_false, Bool.false_eq_true, Bool.true_eq_false, decide_true, decide_false, ↓reduceIte, rr]
  unfold law_b5
  rw [seq_nx t0, seq_nx t1, t2]
end
theorem max_ok {b : Nat} {c : Cells} : maxD [.int 1, .int (b : Nat)] c = .ok (.int ((max 1 b : Nat) : Int)) c := by
  show Out.ok (D.int (if ((b : Nat) : Int) > 1 then ((b : Nat) : Int) else 1)) c = _
  have e : (if ((b : Nat) : Int) > 1 then ((b : Nat) : Int) else 1) = ((max 1 b : Nat) : Int) := by
    split <;> omega
  rw [e]
theorem law_ok : LawOk m_law 63 := fun ns hl => by
  have zz := zzm
  obtain ⟨m, hm⟩ : ∃ m, m = max 1 (min 3 ns.length) := ⟨_, rfl⟩
  have hm2 : m ≤ ns.length + 1 := by omega
  have hm3 : m ≤ 3 := by omega
  have ln : lenD [scrD ns] [] = .ok (.int (ns.length : Nat)) [] := by
    show Out.ok (D.int ((ns.map D.int).length : Nat)) [] = _
    rw [List.length_map]
  have mn := min_ok (a := 3) (b := ns.length) (c := [])
  have mx := max_ok (b := min 3 ns.length) (c := [])
  rw [← hm] at mx
  have it : (fun δ c => ((mCons (mCB maxD (mCons (mC (.int 1)) (mCons (mCB minD (mCons (mC (.int 3)) (mCons (mCB lenD (mCons (mVar 0) mNil)) mNil))) mNil))) mNil) δ c).bind rng1) (eL (scrD ns) none none none none none none none) [] = .ok (rangeD 0 m) [] := by
    refine it_of (m := (mCons (mCB maxD (mCons (mC (.int 1)) (mCons (mCB minD (mCons (mC (.int 3)) (mCons (mCB lenD (mCons (mVar 0) mNil)) mNil))) mNil))) mNil)) (n := m) ?_ (by omega)
    have mn : minD [.int 3, .int (ns.length : Nat)] [] = .ok (.int ((min 3 ns.length : Nat) : Int)) [] := mn
    obtain ⟨S, hS⟩ : ∃ S, S = scrD ns := ⟨_, rfl⟩
    rw [← hS] at ln ⊢
    simp only [mkFn, mkFnB, mSeq, mIfS, mB, mOp, mVar, mC, mCB, mCons, mNil, mSet, mRet, mExpr, mSkip, mOrT, mAndT, mNotT, mAnd, mOr, mNot, mIf, mChain, mIsi, mSl, mLc, mLcL, mLcC, mEnum, mBM, mBM0, mAsg, mPar, mLst, lstD, mLstC, lstC, mTup, tupD, mCall, mCallV, mFld, mMeth0, mMeth, mMake, mRaise, mTry, mTryN, wipeE, eqO, neO, asB, asI, negD, Out.bind, Out.fl, zz0, zz1, zz2, zz3, zz4, zz5, zz6, zz8, zz10, zz13, zz16, List.length_cons, List.length_nil, List.map_cons, List.map_nil, List.replicate, List.cons_append, List.nil_append, List.append_nil, List.set_cons_zero, List.set_cons_succ, List.getElem?_cons_zero, List.getElem?_cons_succ, List.zip_cons_cons, List.zip_nil_right, List.foldl_cons, List.foldl_nil, Nat.reduceAdd, Nat.reduceSub, Bool.not_true, Bool.not_false, Bool.false_eq_true, Bool.true_eq_false, decide_true, decide_false, ↓reduceIte, ln, mn, mx]
  have lo := loop_I (chk := (rangeD 0 m).chk) (g := gN 1) (mb := law_b5) (Inv := fun _ δ c => ∃ x1 x2 x3 x4 x5 x6 x7 : Option D, δ = eL (scrD ns) x1 x2 x3 x4 x5 x6 x7 ∧ NcOk c) (fun _ _ _ _ => rfl) (l := cI (List.range m)) (k := 0) (δ := eL (scrD ns) none none none none none none none) (c := []) (fun d hd _ δ c _ _ hi => by
    obtain ⟨x1, x2, x3, x4, x5, x6, x7, rfl, h1⟩ := hi
    unfold cI at hd
    obtain ⟨j, hj, rfl⟩ := List.mem_map.mp hd
    have hj := List.mem_range.mp hj
    obtain ⟨c', y2, y3, y4, y5, y6, y7, t, h2⟩ := b5_ok (ns := ns) (c := c) (x2 := x2) (x3 := x3) (x4 := x4) (x5 := x5) (x6 := x6) (x7 := x7) (j := j) (by omega) hl h1
    exact ⟨_, rfl, _, _, t, _, _, _, _, _, _, _, rfl, h2⟩) ⟨_, _, _, _, _, _, _, rfl, fun n k hk => nomatch hk⟩
  obtain ⟨δ', C, lo, x1, x2, x3, x4, x5, x6, x7, rfl, nC⟩ := lo
  obtain ⟨S, hS⟩ : ∃ S, S = scrD ns := ⟨_, rfl⟩
  have t0 : (mFor (fun δ c => ((mCons (mCB maxD (mCons (mC (.int 1)) (mCons (mCB minD (mCons (mC (.int 3)) (mCons (mCB lenD (mCons (mVar 0) mNil)) mNil))) mNil))) mNil) δ c).bind rng1) (gN 1) law_b5) (eL S none none none none none none none) [] = .nx (eL S x1 x2 x3 x4 x5 x6 x7) C := by
    rw [hS]
    unfold mFor
    rw [it, fl_okG, range_cI (n := m)]
    exact lo
  have t1 : (mRet (mAnd (mOp (eqO EQ) (mCall m_row_text (mCons (mLst mNil) mNil)) (mC (.str ("nothing" : Str)))) (mAnd (mOp (eqO EQ) (mCall m_row_text (mCons (mTup mNil) mNil)) (mC (.str ("nothing" : Str)))) (mOp (eqO EQ) (mCall m_read_row (mCons (mC (.str ("nothing" : Str))) mNil)) (mLst mNil))))) (eL S x1 x2 x3 x4 x5 x6 x7) C = .rt (.bl true) (C ++ [.lst []]) := by
    have r1 := row_none (src := .lst []) (c := C) rfl rfl
    have r2 := row_none (src := .tup []) (c := C) rfl rfl
    have r3 := read_none_ok (c := C)
    have eq : EQ (.str ("nothing" : Str)) (.str ("nothing" : Str)) C = .ok true C := by rw [EQ_str (by decide +kernel) (by decide +kernel), beq_self_eq_true]
    have eq2 : EQ (.cell C.length) (.lst []) (C ++ [Cell.lst []]) = .ok true (C ++ [Cell.lst []]) := by
      have hk : (C ++ [Cell.lst []])[C.length]? = some (.lst []) := get_last
      have hp : pyD (C ++ [Cell.lst []]) 60 (.cell C.length) = some (.list []) := by
        show (match (C ++ [Cell.lst []])[C.length]? with
          | some (.lst l) => (l.mapM (pyD (C ++ [Cell.lst []]) 59)).map PyData.list
          | _ => none) = _
        rw [hk]
        rfl
      have hp2 : pyD (C ++ [Cell.lst []]) 60 (.lst []) = some (.list []) := rfl
      show eqF eqcs tys m_Thing___eq__ (5 + 1) (.cell C.length) (.lst []) (C ++ [.lst []]) = _
      unfold eqF
      rw [hp, hp2]
      rfl
    obtain ⟨F, hF⟩ : ∃ F : MF, F = m_row_text := ⟨_, rfl⟩
    obtain ⟨G, hG⟩ : ∃ F : MF, F = m_read_row := ⟨_, rfl⟩
    rw [← hF] at r1 r2 ⊢
    rw [← hG] at r3 ⊢
    simp only [mkFn, mkFnB, mSeq, mIfS, mB, mOp, mVar, mC, mCB, mCons, mNil, mSet, mRet, mExpr, mSkip, mOrT, mAndT, mNotT, mAnd, mOr, mNot, mIf, mChain, mIsi, mSl, mLc, mLcL, mLcC, mEnum, mBM, mBM0, mAsg, mPar, mLst, lstD, mLstC, lstC, mTup, tupD, mCall, mCallV, mFld, mMeth0, mMeth, mMake, mRaise, mTry, mTryN, wipeE, eqO, neO, asB, asI, negD, Out.bind, Out.fl, zz0, zz1, zz2, zz3, zz4, zz5, zz6, zz8, zz10, zz13, zz16, List.length_cons, List.length_nil, List.map_cons, List.map_nil, List.replicate, List.cons_append, List.nil_append, List.append_nil, List.set_cons_zero, List.set_cons_succ, List.getElem?_cons_zero, List.getElem?_cons_succ, List.zip_cons_cons, List.zip_nil_right, List.foldl_cons, List.foldl_nil, Nat.reduceAdd, Nat.reduceSub, Bool.not_true, Bool.not_false, Bool.false_eq_true, Bool.true_eq_false, decide_true, decide_false, ↓reduceIte, r1, r2, r3, eq, eq2]
  refine ⟨C ++ [.lst []], ?_⟩
  unfold m_law mb_law
  unfold mkFn
  have hS : S = .scr (ns.map D.int) := hS
  rw [← hS]
  rw [if_pos (show ([S] : List D).length = 1 from rfl)]
  have e9 : ([S] : List D).map some ++ List.replicate (11 - 1) none = eL S none none none none none none none := rfl
  rw [e9, seq_nx t0, t1]
end Law
end Nw

set_option Elab.async false
set_option linter.all false
set_option maxRecDepth 100000
set_option maxHeartbeats 0
open PySem PySem.W PySem.Calls PyProof.Rows
theorem PySem.Challenge.cw_namewalk_k80_texts_of_rows_and_results_holds : PySem.Challenge.rw_namewalk_k80_texts_of_rows_and_results.Holds := by
  w_on; o_law
  refine HandSHeadRun.head_any (r := OpenLaw.row PySem.Challenge.rw_namewalk_k80_texts_of_rows_and_results) (q := view (OpenLaw.row PySem.Challenge.rw_namewalk_k80_texts_of_rows_and_results).prog [52]) (H := Nw.Law.hk) (ob := Nw.Law.ob) (M := 9000) (loose := Nw.Law.loose) (d := HandSHeadRun.topDef (OpenLaw.row PySem.Challenge.rw_namewalk_k80_texts_of_rows_and_results).prog 52) (kwd := []) Nw.Law.ob_eq
    (by kernel_rfl) (fun s => by kernel_rfl) Nw.Law.run (by kernel_rfl) (by kernel_rfl) (by kernel_rfl) (by rfl) (by first | assumption | decide +kernel) (by decide +kernel) ⟨rfl, rfl, rfl, rfl, rfl, by decide +kernel⟩ ?hw ?hc
  case hw => w_witness2
  case hc =>
    refine Nw.walkW (l := PySem.Challenge.rw_namewalk_k80_texts_of_rows_and_results) (n := 63) (k := 22) (x := ("_law_script" : Str)) rfl (by decide) (by kernel_rfl) ⟨rfl, by decide, by decide⟩ Nw.Law.law_ok ?_
    intro w mg f h Y G hmg0
    obtain ⟨K, KX, c⟩ := Y
    have hmg : mg ("law" : PySem.Str) = some (.ref f) := by
      have e : (HandSHeadRun.topDef (OpenLaw.row PySem.Challenge.rw_namewalk_k80_texts_of_rows_and_results).prog 52).name = ("law" : PySem.Str) := by kernel_rfl
      rw [← e]
      exact hmg0
    obtain ⟨fd, hb, hG⟩ := Nw.Law.facts (P := (PySem.Challenge.rw_namewalk_k80_texts_of_rows_and_results).prog) (w := w) KX G hmg c
    exact ⟨K, fd, KX, hb, hG⟩

