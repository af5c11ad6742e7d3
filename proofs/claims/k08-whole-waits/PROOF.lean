import PyProof.Rows.All
import Wide.All
import OpenK.AllK
import Wide.FinOn
import KE.KStateDown
import Lean
import HandS.Base
import HandS.Call
import HandS.List
import HandS.Comp
import HandS.Ends
import HandS.More
import HandS.Words
import HandS.WordsList
import HandS.WordsExc
import HandS.Defaults
import HandS.Head0
import HandS.Head1
import HandS.Head2
import HandS.HeadEnd
import HandS.HeadHook1
import HandS.HeadHook2
import KE.DatumOrd
import KE.GoesNew
import PyProof.ReprRoads
import HandS.Dict
import HandS.Iter
import HandS.Conv
import HandS.Style
import HandS.TupAny
import HandS.TupMul
import HandS.Wide
import HandS.IsInst
import HandS.WordsDict
import HandS.Zip
import HandS.Evl
import HandS.Small
import HandS.SortKw
import PyProof.ReprLen
import KE.DataMinMax
import PySem.Challenge.RW_strokesheard_k08_whole_waits
set_option Elab.async false
set_option linter.all false
set_option maxRecDepth 100000
set_option maxHeartbeats 4000000
/-! Pure evaluation to data: what an expression is worth as a PyData, whatever was newly made. -/
namespace Z
open PySem PySem.Spec PyProof.Rows L2 Evl

/-! ### data carried from heap to heap -/
section
variable {K : PySem.W.Frag} {H H' : Hp}
mutual
theorem dpCarry (hl : ∀ a xs, SqL K H a xs → SqL K H' a xs) (ht : ∀ a xs, SqT K H a xs → SqT K H' a xs) : ∀ (d : PyData) (v : V), Dp K H v d → Dp K H' v d
  | .none, _, h => by cases h; exact .non
  | .bool _, _, h => by cases h; exact .bl _
  | .int _, _, h => by cases h; exact .int _
  | .str _, _, h => by cases h; exact .str _
  | .list ds, _, h => by cases h with | lst hs ha => exact .lst (hl _ _ hs) (dpCarryAll hl ht ds _ ha)
  | .tuple ds, _, h => by cases h with | tup hs ha => exact .tup (ht _ _ hs) (dpCarryAll hl ht ds _ ha)
  | .dict _, _, h => by cases h
theorem dpCarryAll (hl : ∀ a xs, SqL K H a xs → SqL K H' a xs) (ht : ∀ a xs, SqT K H a xs → SqT K H' a xs) : ∀ (ds : List PyData) (vs : List V), DpAll K H vs ds → DpAll K H' vs ds
  | [], _, h => by cases h; exact .nil
  | d :: ds, _, h => by cases h with | cons h1 h2 => exact .cons (dpCarry hl ht d _ h1) (dpCarryAll hl ht ds _ h2)
end
theorem dpEx {v : V} {d : PyData} (e : Ex H H') (h : Dp K H v d) : Dp K H' v d := dpCarry (fun _ _ => ex_l e) (fun _ _ => ex_t e) d v h
theorem dpExAll {vs : List V} {ds : List PyData} (e : Ex H H') (h : DpAll K H vs ds) : DpAll K H' vs ds := dpCarryAll (fun _ _ => ex_l e) (fun _ _ => ex_t e) ds vs h
/-! ### data taken apart and put together -/
theorem dp_int {v : V} {i : Int} (h : Dp K H v (.int i)) : v = .int i := by cases h; rfl
theorem dp_bool {v : V} {i : Bool} (h : Dp K H v (.bool i)) : v = .bl i := by cases h; rfl
theorem dp_none {v : V} (h : Dp K H v .none) : v = .non := by cases h; rfl
theorem dp_str {v : V} {i : Str} (h : Dp K H v (.str i)) : v = .str i := by cases h; rfl
theorem dp_list {v : V} {ds : List PyData} (h : Dp K H v (.list ds)) : ∃ a xs, v = .ref a ∧ SqL K H a xs ∧ DpAll K H xs ds := by
  cases h with | lst hs ha => exact ⟨_, _, rfl, hs, ha⟩
theorem dp_tuple {v : V} {ds : List PyData} (h : Dp K H v (.tuple ds)) : ∃ a xs, v = .ref a ∧ SqT K H a xs ∧ DpAll K H xs ds := by
  cases h with | tup hs ha => exact ⟨_, _, rfl, hs, ha⟩
theorem dpAll_len : ∀ {vs : List V} {ds : List PyData}, DpAll K H vs ds → vs.length = ds.length
  | _, [], h => by cases h; rfl
  | _, d :: ds, h => by cases h with | cons _ h2 => rw [List.length_cons, List.length_cons, dpAll_len h2]
theorem dpAll_get : ∀ {vs : List V} {ds : List PyData} {i : Nat} {d : PyData}, DpAll K H vs ds → ds[i]? = some d → ∃ v, vs[i]? = some v ∧ Dp K H v d
  | _, [], _, _, h, e => by simp at e
  | _, x :: ds, 0, d, h, e => by cases h with | cons h1 _ => simp at e; subst e; exact ⟨_, rfl, h1⟩
  | _, x :: ds, i + 1, d, h, e => by cases h with | cons _ h2 => exact (dpAll_get h2 (by simpa using e)).imp fun v q => ⟨by simpa using q.1, q.2⟩
theorem dpAll_getV {vs : List V} {ds : List PyData} {i : Nat} {v : V} (h : DpAll K H vs ds) (e : vs[i]? = some v) : ∃ d, ds[i]? = some d ∧ Dp K H v d := by
  have hl := dpAll_len h
  have hi := (List.getElem?_eq_some_iff.mp e).1
  obtain ⟨v', e', q⟩ := dpAll_get h (List.getElem?_eq_getElem (show i < ds.length by omega))
  rw [e] at e'; cases e'
  exact ⟨_, List.getElem?_eq_getElem (by omega), q⟩
theorem dpAll_append : ∀ {vs us : List V} {ds es : List PyData}, DpAll K H vs ds → DpAll K H us es → DpAll K H (vs ++ us) (ds ++ es)
  | _, _, [], _, h, g => by cases h; exact g
  | _, _, d :: ds, _, h, g => by cases h with | cons h1 h2 => exact .cons h1 (dpAll_append h2 g)
theorem dpAll_take : ∀ {vs : List V} {ds : List PyData} (n : Nat), DpAll K H vs ds → DpAll K H (vs.take n) (ds.take n)
  | _, _, 0, _ => by rw [List.take_zero, List.take_zero]; exact .nil
  | _, [], n + 1, h => by cases h; exact .nil
  | _, d :: ds, n + 1, h => by cases h with | cons h1 h2 => exact .cons h1 (dpAll_take n h2)
theorem dpAll_drop : ∀ {vs : List V} {ds : List PyData} (n : Nat), DpAll K H vs ds → DpAll K H (vs.drop n) (ds.drop n)
  | _, _, 0, h => h
  | _, [], n + 1, h => by cases h; exact .nil
  | _, d :: ds, n + 1, h => by cases h with | cons h1 h2 => exact dpAll_drop n h2
theorem dpAll_rep {vs : List V} {ds : List PyData} (h : DpAll K H vs ds) : ∀ n, DpAll K H (List.replicate n vs).flatten (List.replicate n ds).flatten
  | 0 => .nil
  | n + 1 => by rw [List.replicate_succ, List.replicate_succ, List.flatten_cons, List.flatten_cons]; exact dpAll_append h (dpAll_rep h n)
theorem dpAll_ints : ∀ {vs : List V} {ns : List Int}, DpAll K H vs (ns.map PyData.int) → vs = ns.map V.int
  | _, [], h => by cases h; rfl
  | _, n :: ns, h => by
    rw [List.map_cons] at h
    cases h with | cons h1 h2 => rw [dp_int h1, dpAll_ints h2]; rfl
theorem dpAll_bools : ∀ {vs : List V} {ns : List Bool}, DpAll K H vs (ns.map PyData.bool) → vs = ns.map V.bl
  | _, [], h => by cases h; rfl
  | _, n :: ns, h => by
    rw [List.map_cons] at h
    cases h with | cons h1 h2 => rw [dp_bool h1, dpAll_bools h2]; rfl
theorem dpAll_ofInts : ∀ (ns : List Int), DpAll K H (ns.map V.int) (ns.map PyData.int)
  | [] => .nil
  | n :: ns => .cons (.int n) (dpAll_ofInts ns)
theorem dp_newL {p : Addr} {xs : List V} {ds : List PyData} (h : H p = some (.lst xs)) (a : DpAll K H xs ds) : Dp K H (.ref p) (.list ds) := .lst (sq_of h) a
theorem dp_newT {p : Addr} {xs : List V} {ds : List PyData} (h : H p = some (.tup xs)) (a : DpAll K H xs ds) : Dp K H (.ref p) (.tuple ds) := .tup (st_of h) a
theorem dpAll_one {x : V} {d : PyData} (h : Dp K H x d) : DpAll K H [x] [d] := .cons h .nil
theorem dpAll_two {x y : V} {d e : PyData} (h : Dp K H x d) (g : Dp K H y e) : DpAll K H [x, y] [d, e] := .cons h (.cons g .nil)
end

/-! ### what is known: B, a part of the heap that stands; S: objects that may change -/
structure Ok (S : Addr → Prop) (B H : Hp) : Prop where
  dom : ∀ a, S a → H a ≠ none
  ex : ∀ a o, B a = some o → H a = some o ∧ ¬ S a
section
variable {S : Addr → Prop} {B B1 H H1 : Hp} {p : Addr} {o o1 : HO}
theorem Ok.le (k : Ok S B H) : Ex B H := fun a o h => (k.ex a o h).1
theorem Ok.none (k : Ok S B H) (h : H p = none) : B p = none := by
  cases q : B p with
  | none => rfl
  | some o => rw [(k.ex p o q).1] at h; cases h
theorem Ok.notS (k : Ok S B H) (h : H p = .none) : ¬ S p := fun q => k.dom p q h
/-- a new object that stands -/
theorem Ok.new (k : Ok S B H) (h : H p = .none) : Ok S (upd B p o) (upd H p o) := by
  refine ⟨fun a q e => ?_, fun a u e => ?_⟩
  · by_cases z : a = p
    · subst z; rw [upd_same] at e; cases e
    · rw [upd_ne z] at e; exact k.dom a q e
  · by_cases z : a = p
    · subst z; rw [upd_same] at e ⊢; exact ⟨e, k.notS h⟩
    · rw [upd_ne z] at e ⊢; exact k.ex a u e
theorem Ok.exB (k : Ok S B H) (h : H p = .none) : Ex B (upd B p o) := Ex.new (k.none h)
/-- a new object that may change -/
theorem Ok.mut (k : Ok S B H) (h : H p = .none) : Ok (fun a => S a ∨ a = p) B (upd H p o) := by
  refine ⟨fun a q e => ?_, fun a u e => ?_⟩
  · by_cases z : a = p
    · subst z; rw [upd_same] at e; cases e
    · rw [upd_ne z] at e; exact k.dom a (q.resolve_right z) e
  · have z : a ≠ p := fun z => by rw [z, k.none h] at e; cases e
    rw [upd_ne z]
    exact ⟨(k.ex a u e).1, fun q => q.elim (k.ex a u e).2 z⟩
/-- an object that may change, changed -/
theorem Ok.put (k : Ok S B H) (h : S p) : Ok S B (upd H p o) := by
  refine ⟨fun a q e => ?_, fun a u e => ?_⟩
  · by_cases z : a = p
    · subst z; rw [upd_same] at e; cases e
    · rw [upd_ne z] at e; exact k.dom a q e
  · have z : a ≠ p := fun z => (k.ex a u e).2 (by rw [z]; exact h)
    rw [upd_ne z]
    exact k.ex a u e
/-- fewer objects may change -/
theorem Ok.less {S' : Addr → Prop} (k : Ok S B H) (h : ∀ a, S' a → S a) : Ok S' B H := ⟨fun a q => k.dom a (h a q), fun a o e => ⟨(k.ex a o e).1, fun q => (k.ex a o e).2 (h a q)⟩⟩
/-- less is known -/
theorem Ok.weak (k : Ok S B1 H) (h : Ex B B1) : Ok S B H := ⟨k.dom, fun a o e => k.ex a o (h a o e)⟩
/-- what may change and was not there at first may be taken as new -/
theorem Ok.grow (k : Ok S B H) (e : Ex H H1) : Ok S B H1 := ⟨fun a q z => (by
    cases w : H a with
    | none => exact k.dom a q w
    | some u => rw [e a u w] at z; cases z), fun a o q => ⟨e a o (k.ex a o q).1, (k.ex a o q).2⟩⟩
/-- a known thing that may change no more -/
theorem Ok.fix {l : Addr} (k : Ok (fun a => S a ∨ a = l) B H) (hl : H l = some o) (hS : ¬ S l) : Ok S (upd B l o) H := by
  refine ⟨fun a q => k.dom a (.inl q), fun a u e => ?_⟩
  by_cases z : a = l
  · subst z; rw [upd_same] at e; cases e; exact ⟨hl, hS⟩
  · rw [upd_ne z] at e; exact ⟨(k.ex a u e).1, fun q => (k.ex a u e).2 (.inl q)⟩
theorem Ok.fixE {l : Addr} (k : Ok (fun a => S a ∨ a = l) B H) : Ex B (upd B l o) := fun a u e => by
  have z : a ≠ l := fun z => (k.ex a u e).2 (.inr z)
  rw [upd_ne z]; exact e
end
/-! ### the judgements -/
def EvD (K : PySem.W.Frag) (te : TE) (σ : L2.St) (B : Hp) (d : PyData) : Prop := ∀ (S : Addr → Prop) (H1 : Hp), Ok S B H1 → ∀ Q : VK, (∀ v B2 H2, Ex H1 H2 → Ok S B2 H2 → Ex B B2 → Dp K B2 v d → Q v H2) → te σ H1 Q
def EvDA (K : PySem.W.Frag) (ta : TA) (σ : L2.St) (B : Hp) (ds : List PyData) : Prop := ∀ (S : Addr → Prop) (H1 : Hp), Ok S B H1 → ∀ Q : List V → Hp → Prop, (∀ vs B2 H2, Ex H1 H2 → Ok S B2 H2 → Ex B B2 → DpAll K B2 vs ds → Q vs H2) → ta σ H1 Q
def EvQ (tt : TT) (σ : L2.St) (B : Hp) (b : Bool) : Prop := ∀ (S : Addr → Prop) (H1 : Hp), Ok S B H1 → ∀ Q : Bool → Hp → Prop, (∀ B2 H2, Ex H1 H2 → Ok S B2 H2 → Ex B B2 → Q b H2) → tt σ H1 Q
/-- a promise: on data that fit F the answer is r, all that stood stands -/
def SpF (K : PySem.W.Frag) (n : Nat) (F : List PyData → PyData → Prop) : Sp := fun vs H Q _ => ∃ S B ds r, Ok S B H ∧ DpAll K B vs ds ∧ ds.length = n ∧ F ds r ∧ ∀ v B2 H2, Ex H H2 → Ok S B2 H2 → Ex B B2 → Dp K B2 v r → Q v H2
theorem SpF.len {K : PySem.W.Frag} {n : Nat} {F : List PyData → PyData → Prop} {vs : List V} {H : Hp} {Q : VK} {E : XK} (h : SpF K n F vs H Q E) : vs.length = n := by
  obtain ⟨S, B, ds, r, _, h1, h2, _⟩ := h
  rw [dpAll_len h1, h2]
section
variable {K : PySem.W.Frag} {σ : L2.St} {B B' : Hp} {ta tb tc te : TE} {t u : TT} {x y z v : V} {d e : PyData} {ds es : List PyData} {a b : Int}
theorem EvD.mono (q : Ex B B') (h : EvD K te σ B d) : EvD K te σ B' d := fun S H1 o Q k => h S H1 (o.weak q) Q fun v B2 H2 e1 o2 e2 dv => by
  -- what was known stays known beside
  have o3 : Ok S (fun a => match B2 a with | some w => some w | none => B' a) H2 := ⟨o2.dom, fun a w q => by
    cases z : B2 a with
    | some w' => rw [z] at q; cases q; exact o2.ex a _ z
    | none => rw [z] at q; exact ⟨e1 a w (o.ex a w q).1, (o.ex a w q).2⟩⟩
  refine k v _ H2 e1 o3 (fun a w q => ?_) (dpEx (fun a w q => ?_) dv)
  · cases z : B2 a with
    | some w' =>
      have h1 := (o2.ex a _ z).1
      have h2 := e1 a w (o.ex a w q).1
      rw [h1] at h2
      exact h2
    | none => exact q
  · show (match B2 a with | some w => some w | none => B' a) = some w
    rw [q]
theorem EvD.is (h : EvD K te σ B d) (q : d = e) : EvD K te σ B e := q ▸ h
theorem evd_var {i : Nat} (h : σ[i]? = some (some v)) (g : Dp K B v d) : EvD K (tVar i) σ B d := fun S H1 o Q k => ⟨v, h, k v B H1 (Ex.refl _) o (Ex.refl _) g⟩
theorem evd_c (g : ∀ H, Dp K H v d) : EvD K (tC v) σ B d := fun S H1 o Q k => k v B H1 (Ex.refl _) o (Ex.refl _) (g B)
theorem evd_int : EvD K (tC (.int a)) σ B (.int a) := evd_c fun _ => .int a
theorem evd_bl {b : Bool} : EvD K (tC (.bl b)) σ B (.bool b) := evd_c fun _ => .bl b
theorem evd_str {b : Str} : EvD K (tC (.str b)) σ B (.str b) := evd_c fun _ => .str b
theorem evd_non : EvD K (tC .non) σ B .none := evd_c fun _ => .non
theorem evd_op {r : R2} (ha : EvD K ta σ B d) (hb : EvD K tb σ B e) {z : PyData}
    (hr : ∀ x y S B1 H1, Ok S B1 H1 → Ex B B1 → Dp K B1 x d → Dp K B1 y e → ∀ Q : VK, (∀ v B2 H2, Ex H1 H2 → Ok S B2 H2 → Ex B1 B2 → Dp K B2 v z → Q v H2) → r x y H1 Q) : EvD K (tOp r ta tb) σ B z := fun S H1 o Q k =>
  ha S H1 o _ fun x B2 H2 q2 o2 b2 dx => (hb.mono b2) S H2 o2 _ fun y B3 H3 q3 o3 b3 dy => hr x y S B3 H3 o3 (b2.trans b3) (dpEx b3 dx) dy Q fun v B4 H4 q4 o4 b4 dv => k v B4 H4 ((q2.trans q3).trans q4) o4 ((b2.trans b3).trans b4) dv
/-- an operator that makes nothing -/
theorem evd_op0 {r : R2} (ha : EvD K ta σ B d) (hb : EvD K tb σ B e) {z : PyData}
    (hr : ∀ x y B1 H1, Ex B1 H1 → Dp K B1 x d → Dp K B1 y e → ∀ Q : VK, (∀ v, Dp K B1 v z → Q v H1) → r x y H1 Q) : EvD K (tOp r ta tb) σ B z :=
  evd_op ha hb fun x y S B1 H1 o _ dx dy Q k => hr x y B1 H1 o.le dx dy Q fun v dv => k v B1 H1 (Ex.refl _) o (Ex.refl _) dv
theorem evd_I0i {f : Int → Int → Int} (ha : EvD K ta σ B (.int a)) (hb : EvD K tb σ B (.int b)) : EvD K (tOp (rI0 fun i j => V.int (f i j)) ta tb) σ B (.int (f a b)) :=
  evd_op0 ha hb fun x y B1 H1 _ hx hy Q k => ⟨a, b, dp_int hx, dp_int hy, k _ (.int _)⟩
theorem evd_I0b {f : Int → Int → Bool} (ha : EvD K ta σ B (.int a)) (hb : EvD K tb σ B (.int b)) : EvD K (tOp (rI0 fun i j => V.bl (f i j)) ta tb) σ B (.bool (f a b)) :=
  evd_op0 ha hb fun x y B1 H1 _ hx hy Q k => ⟨a, b, dp_int hx, dp_int hy, k _ (.bl _)⟩
theorem evd_Ii {C : Int → Int → Prop} {f : Int → Int → Int} (hc : C a b) (ha : EvD K ta σ B (.int a)) (hb : EvD K tb σ B (.int b)) : EvD K (tOp (rI C fun i j => V.int (f i j)) ta tb) σ B (.int (f a b)) :=
  evd_op0 ha hb fun x y B1 H1 _ hx hy Q k => ⟨a, b, dp_int hx, dp_int hy, hc, k _ (.int _)⟩
theorem dec_vint {a b : Int} : decide (V.int a = V.int b) = decide (a = b) := by rw [decide_eq_decide]; exact ⟨fun h => V.int.inj h, fun h => by rw [h]⟩
theorem dec_vstr {a b : Str} : decide (V.str a = V.str b) = decide (a = b) := by rw [decide_eq_decide]; exact ⟨fun h => V.str.inj h, fun h => by rw [h]⟩
theorem evd_eqI (ha : EvD K ta σ B (.int a)) (hb : EvD K tb σ B (.int b)) : EvD K (tOp rEq ta tb) σ B (.bool (decide (a = b))) :=
  evd_op0 ha hb fun x y B1 H1 _ hx hy Q k => by
    cases dp_int hx; cases dp_int hy
    exact ⟨rfl, by rw [dec_vint]; exact k _ (.bl _)⟩
theorem evd_neI (ha : EvD K ta σ B (.int a)) (hb : EvD K tb σ B (.int b)) : EvD K (tOp rNe ta tb) σ B (.bool (!decide (a = b))) :=
  evd_op0 ha hb fun x y B1 H1 _ hx hy Q k => by
    cases dp_int hx; cases dp_int hy
    exact ⟨rfl, by rw [dec_vint]; exact k _ (.bl _)⟩
theorem evd_eqS {x1 x2 : Str} (ha : EvD K ta σ B (.str x1)) (hb : EvD K tb σ B (.str x2)) : EvD K (tOp rEq ta tb) σ B (.bool (decide (x1 = x2))) :=
  evd_op0 ha hb fun x y B1 H1 _ hx hy Q k => by
    cases dp_str hx; cases dp_str hy
    exact ⟨rfl, by rw [dec_vstr]; exact k _ (.bl _)⟩
theorem evd_neS {x1 x2 : Str} (ha : EvD K ta σ B (.str x1)) (hb : EvD K tb σ B (.str x2)) : EvD K (tOp rNe ta tb) σ B (.bool (!decide (x1 = x2))) :=
  evd_op0 ha hb fun x y B1 H1 _ hx hy Q k => by
    cases dp_str hx; cases dp_str hy
    exact ⟨rfl, by rw [dec_vstr]; exact k _ (.bl _)⟩
theorem evd_un {f : Int → Int} (ha : EvD K ta σ B (.int a)) : EvD K (tUn (rU fun i => V.int (f i)) ta) σ B (.int (f a)) := fun S H1 q Q k =>
  ha S H1 q _ fun x B2 H2 q2 o2 b2 dx => ⟨a, dp_int dx, k _ B2 H2 q2 o2 b2 (.int _)⟩
/-- is None, is not None -/
def isNn : PyData → Bool
  | .none => true
  | _ => false
theorem dec_non {H : Hp} {x : V} {d : PyData} (h : Dp K H x d) : decide (x = V.non) = isNn d := by
  cases h <;> simp [isNn]
theorem evd_isN (ha : EvD K ta σ B d) : EvD K (tOp (fun x y H Q => y = .non ∧ Q (.bl (decide (x = .non))) H) ta (tC .non)) σ B (.bool (isNn d)) :=
  evd_op0 ha evd_non fun x y B1 H1 _ hx hy Q k => by
    cases dp_none hy
    exact ⟨rfl, by rw [dec_non hx]; exact k _ (.bl _)⟩
theorem evd_notN (ha : EvD K ta σ B d) : EvD K (tOp (fun x y H Q => y = .non ∧ Q (.bl (!decide (x = .non))) H) ta (tC .non)) σ B (.bool (!isNn d)) :=
  evd_op0 ha evd_non fun x y B1 H1 _ hx hy Q k => by
    cases dp_none hy
    exact ⟨rfl, by rw [dec_non hx]; exact k _ (.bl _)⟩
/-- a comparison's chain -/
theorem evd_chain {f g : Int → Int → Bool} {c : Int} (ha : EvD K ta σ B (.int a)) (hb : EvD K tb σ B (.int b)) (hc : EvD K tc σ B (.int c)) :
    EvD K (tChain (rI0 fun i j => V.bl (f i j)) (rI0 fun i j => V.bl (g i j)) ta tb tc) σ B (.bool (f a b && g b c)) := fun S H1 q Q k =>
  ha S H1 q _ fun x B2 H2 q2 o2 b2 dx => (hb.mono b2) S H2 o2 _ fun y B3 H3 q3 o3 b3 dy => ⟨a, b, dp_int dx, dp_int dy, f a b, rfl, by
    cases hf : f a b with
    | true =>
      rw [if_pos rfl]
      exact (hc.mono (b2.trans b3)) S H3 o3 _ fun z B4 H4 q4 o4 b4 dz => ⟨b, c, dp_int dy, dp_int dz, k _ B4 H4 ((q2.trans q3).trans q4) o4 ((b2.trans b3).trans b4) (by rw [hf, Bool.true_and]; exact .bl _)⟩
    | false =>
      rw [if_neg Bool.false_ne_true]
      exact k _ B3 H3 (q2.trans q3) o3 (b2.trans b3) (by rw [hf, Bool.false_and]; exact .bl _)⟩
/-! ### tests -/
theorem EvQ.mono {c : Bool} (q : Ex B B') (h : EvQ t σ B c) : EvQ t σ B' c := fun S H1 o Q k => h S H1 (o.weak q) Q fun B2 H2 e1 o2 e2 => k B' H2 e1 (o.grow e1) (Ex.refl _)
theorem etest {c : Bool} (h : EvD K te σ B (.bool c)) : EvQ (tTest te) σ B c := fun S H1 q Q k => h S H1 q _ fun v B2 H2 q2 o2 b2 dv => ⟨c, dp_bool dv, k B2 H2 q2 o2 b2⟩
theorem etB {c : Bool} (h : EvD K te σ B (.bool c)) : EvQ (tB te) σ B c := fun S H1 q Q k => h S H1 q _ fun v B2 H2 q2 o2 b2 dv => ⟨c, dp_bool dv, k B2 H2 q2 o2 b2⟩
theorem etAnd {c c' : Bool} (h1 : EvQ t σ B c) (h2 : c = true → EvQ u σ B c') : EvQ (tAnd t u) σ B (c && c') := fun S H1 q Q k => h1 S H1 q _ fun B2 H2 q2 o2 b2 => by
  cases c with
  | true => rw [if_pos rfl]; exact ((h2 rfl).mono b2) S H2 o2 _ fun B3 H3 q3 o3 b3 => k B3 H3 (q2.trans q3) o3 (b2.trans b3)
  | false => rw [if_neg Bool.false_ne_true]; exact k B2 H2 q2 o2 b2
theorem etOr {c c' : Bool} (h1 : EvQ t σ B c) (h2 : c = false → EvQ u σ B c') : EvQ (tOr t u) σ B (c || c') := fun S H1 q Q k => h1 S H1 q _ fun B2 H2 q2 o2 b2 => by
  cases c with
  | true => rw [if_pos rfl]; exact k B2 H2 q2 o2 b2
  | false => rw [if_neg Bool.false_ne_true]; exact ((h2 rfl).mono b2) S H2 o2 _ fun B3 H3 q3 o3 b3 => k B3 H3 (q2.trans q3) o3 (b2.trans b3)
theorem etNot {c : Bool} (h1 : EvQ t σ B c) : EvQ (tNot t) σ B (!c) := fun S H1 q Q k => h1 S H1 q _ fun B2 H2 q2 o2 b2 => k B2 H2 q2 o2 b2
theorem etYes : EvQ tYes σ B true := fun S H1 q Q k => k B H1 (Ex.refl _) q (Ex.refl _)
theorem EvQ.is {c c' : Bool} (h : EvQ t σ B c) (q : c = c') : EvQ t σ B c' := q ▸ h
theorem evd_andV {c c' : Bool} (h1 : EvD K ta σ B (.bool c)) (h2 : c = true → EvD K tb σ B (.bool c')) : EvD K (tAndV ta tb) σ B (.bool (c && c')) := fun S H1 q Q k => h1 S H1 q _ fun v B2 H2 q2 o2 b2 dv => ⟨c, dp_bool dv, by
  cases c with
  | true => rw [if_pos rfl]; exact ((h2 rfl).mono b2) S H2 o2 _ fun v B3 H3 q3 o3 b3 dv => k v B3 H3 (q2.trans q3) o3 (b2.trans b3) dv
  | false => rw [if_neg Bool.false_ne_true]; exact k _ B2 H2 q2 o2 b2 (.bl _)⟩
theorem evd_orV {c c' : Bool} (h1 : EvD K ta σ B (.bool c)) (h2 : c = false → EvD K tb σ B (.bool c')) : EvD K (tOrV ta tb) σ B (.bool (c || c')) := fun S H1 q Q k => h1 S H1 q _ fun v B2 H2 q2 o2 b2 dv => ⟨c, dp_bool dv, by
  cases c with
  | true => rw [if_pos rfl]; exact k _ B2 H2 q2 o2 b2 (.bl _)
  | false => rw [if_neg Bool.false_ne_true]; exact ((h2 rfl).mono b2) S H2 o2 _ fun v B3 H3 q3 o3 b3 dv => k v B3 H3 (q2.trans q3) o3 (b2.trans b3) dv⟩
theorem evd_notV {c : Bool} (h1 : EvD K ta σ B (.bool c)) : EvD K (tNotV ta) σ B (.bool (!c)) := fun S H1 q Q k => h1 S H1 q _ fun v B2 H2 q2 o2 b2 dv => ⟨c, dp_bool dv, k _ B2 H2 q2 o2 b2 (.bl _)⟩
theorem evd_if {c : Bool} (h : EvQ t σ B c) (h1 : c = true → EvD K ta σ B d) (h2 : c = false → EvD K tb σ B d) : EvD K (tIf t ta tb) σ B d := fun S H1 q Q k => h S H1 q _ fun B2 H2 q2 o2 b2 => by
  cases c with
  | true => rw [if_pos rfl]; exact ((h1 rfl).mono b2) S H2 o2 _ fun v B3 H3 q3 o3 b3 dv => k v B3 H3 (q2.trans q3) o3 (b2.trans b3) dv
  | false => rw [if_neg Bool.false_ne_true]; exact ((h2 rfl).mono b2) S H2 o2 _ fun v B3 H3 q3 o3 b3 dv => k v B3 H3 (q2.trans q3) o3 (b2.trans b3) dv
/-! ### arguments, displays, calls -/
theorem EvDA.mono {tr : TA} (q : Ex B B') (h : EvDA K tr σ B ds) : EvDA K tr σ B' ds := fun S H1 o Q k => h S H1 (o.weak q) Q fun v B2 H2 e1 o2 e2 dv => by
  have o3 : Ok S (fun a => match B2 a with | some w => some w | none => B' a) H2 := ⟨o2.dom, fun a w q => by
    cases z : B2 a with
    | some w' => rw [z] at q; cases q; exact o2.ex a _ z
    | none => rw [z] at q; exact ⟨e1 a w (o.ex a w q).1, (o.ex a w q).2⟩⟩
  refine k v _ H2 e1 o3 (fun a w q => ?_) (dpExAll (fun a w q => ?_) dv)
  · cases z : B2 a with
    | some w' =>
      have h1 := (o2.ex a _ z).1
      have h2 := e1 a w (o.ex a w q).1
      rw [h1] at h2
      exact h2
    | none => exact q
  · show (match B2 a with | some w => some w | none => B' a) = some w
    rw [q]
theorem eda_nil : EvDA K tNil σ B [] := fun S H1 q Q k => k [] B H1 (Ex.refl _) q (Ex.refl _) .nil
theorem eda_cons {tr : TA} (h : EvD K ta σ B d) (hr : EvDA K tr σ B ds) : EvDA K (tCons ta tr) σ B (d :: ds) := fun S H1 q Q k =>
  h S H1 q _ fun x B2 H2 q2 o2 b2 dx => (hr.mono b2) S H2 o2 _ fun xs B3 H3 q3 o3 b3 dxs => k _ B3 H3 (q2.trans q3) o3 (b2.trans b3) (.cons (dpEx b3 dx) dxs)
theorem evd_tup {tr : TA} (hl : ds.length ≤ 100000) (h : EvDA K tr σ B ds) : EvD K (tTup tr) σ B (.tuple ds) := fun S H1 q Q k =>
  h S H1 q _ fun xs B2 H2 q2 o2 b2 dx => ⟨by rw [dpAll_len dx]; exact sz_of hl, fun p hp => k _ _ _ (q2.trans (Ex.new hp)) (o2.new hp) (b2.trans (o2.exB hp)) (dp_newT upd_same (dpExAll (o2.exB hp) dx))⟩
theorem evd_lst {tr : TA} (hl : ds.length ≤ 100000) (h : EvDA K tr σ B ds) : EvD K (tLst tr) σ B (.list ds) := fun S H1 q Q k =>
  h S H1 q _ fun xs B2 H2 q2 o2 b2 dx => ⟨by rw [dpAll_len dx]; exact sz_of hl, fun p hp => k _ _ _ (q2.trans (Ex.new hp)) (o2.new hp) (b2.trans (o2.exB hp)) (dp_newL upd_same (dpExAll (o2.exB hp) dx))⟩
theorem evd_call {n : Nat} {F : List PyData → PyData → Prop} {E : XK} {tr : TA} (hF : F ds d) (hn : ds.length = n) (h : EvDA K tr σ B ds) : EvD K (tCall (SpF K n F) [] E tr) σ B d := fun S H1 q Q k =>
  h S H1 q _ fun xs B2 H2 q2 o2 b2 dx => ⟨S, B2, ds, d, o2, by rw [List.append_nil]; exact dx, hn, hF, fun v B3 H3 q3 o3 b3 dv => k v B3 H3 (q2.trans q3) o3 (b2.trans b3) dv⟩
theorem evd_callK {n : Nat} {F : List PyData → PyData → Prop} {E : XK} {tr tk : TA} {g : List V → List V → List V} (hF : F (ds ++ es) d) (hg : ∀ xs ys B1, DpAll K B1 xs ds → DpAll K B1 ys es → DpAll K B1 (g xs ys) (ds ++ es)) (hn : (ds ++ es).length = n) (h : EvDA K tr σ B ds) (h2 : EvDA K tk σ B es) : EvD K (tCallK (SpF K n F) g E tr tk) σ B d := fun S H1 q Q k =>
  h S H1 q _ fun xs B2 H2 q2 o2 b2 dx => (h2.mono b2) S H2 o2 _ fun ys B3 H3 q3 o3 b3 dy => ⟨S, B3, ds ++ es, d, o3, hg xs ys B3 (dpExAll b3 dx) dy, hn, hF, fun v B4 H4 q4 o4 b4 dv => k v B4 H4 ((q2.trans q3).trans q4) o4 ((b2.trans b3).trans b4) dv⟩
theorem evd_cb {r : List V → Hp → VK → Prop} {tr : TA} (h : EvDA K tr σ B ds) (hr : ∀ xs S B1 H1, Ok S B1 H1 → Ex B B1 → DpAll K B1 xs ds → ∀ Q : VK, (∀ v B2 H2, Ex H1 H2 → Ok S B2 H2 → Ex B1 B2 → Dp K B2 v d → Q v H2) → r xs H1 Q) : EvD K (tCB r tr) σ B d := fun S H1 q Q k =>
  h S H1 q _ fun xs B2 H2 q2 o2 b2 dx => hr xs S B2 H2 o2 b2 dx Q fun v B3 H3 q3 o3 b3 dv => k v B3 H3 (q2.trans q3) o3 (b2.trans b3) dv
/-- a built-in that makes nothing -/
theorem evd_cb0 {r : List V → Hp → VK → Prop} {tr : TA} (h : EvDA K tr σ B ds) (hr : ∀ xs B1 H1, Ex B1 H1 → DpAll K B1 xs ds → ∀ Q : VK, (∀ v, Dp K B1 v d → Q v H1) → r xs H1 Q) : EvD K (tCB r tr) σ B d :=
  evd_cb h fun xs S B1 H1 o _ dx Q k => hr xs B1 H1 o.le dx Q fun v dv => k v B1 H1 (Ex.refl _) o (Ex.refl _) dv
theorem dpAll_inv1 {H : Hp} {xs : List V} (h : DpAll K H xs [d]) : ∃ x, xs = [x] ∧ Dp K H x d := by
  cases h with | cons h1 h2 => cases h2; exact ⟨_, rfl, h1⟩
theorem dpAll_inv2 {H : Hp} {xs : List V} (h : DpAll K H xs [d, e]) : ∃ x y, xs = [x, y] ∧ Dp K H x d ∧ Dp K H y e := by
  cases h with | cons h1 h2 => obtain ⟨y, rfl, h3⟩ := dpAll_inv1 h2; exact ⟨_, y, rfl, h1, h3⟩
theorem dpAll_inv3 {H : Hp} {c : PyData} {xs : List V} (h : DpAll K H xs [d, e, c]) : ∃ x y z, xs = [x, y, z] ∧ Dp K H x d ∧ Dp K H y e ∧ Dp K H z c := by
  cases h with | cons h1 h2 => obtain ⟨y, z, rfl, h3, h4⟩ := dpAll_inv2 h2; exact ⟨_, y, z, rfl, h1, h3, h4⟩
theorem dpAll_inv4 {H : Hp} {c f : PyData} {xs : List V} (h : DpAll K H xs [d, e, c, f]) : ∃ x y z w, xs = [x, y, z, w] ∧ Dp K H x d ∧ Dp K H y e ∧ Dp K H z c ∧ Dp K H w f := by
  cases h with | cons h1 h2 => obtain ⟨y, z, w, rfl, h3, h4, h5⟩ := dpAll_inv3 h2; exact ⟨_, y, z, w, rfl, h1, h3, h4, h5⟩
/-! ### built-ins -/
theorem evd_lenL (h : EvD K ta σ B (.list ds)) : EvD K (tCB (fun xs H Q => ∃ p ys, xs = [.ref p] ∧ (SqL K H p ys ∨ SqT K H p ys) ∧ Q (.int ys.length) H) (tCons ta tNil)) σ B (.int (ds.length : Int)) :=
  evd_cb0 (eda_cons h eda_nil) fun xs B1 H1 l dx Q k => by
    obtain ⟨x, rfl, hx⟩ := dpAll_inv1 dx
    obtain ⟨p, ys, rfl, hs, ha⟩ := dp_list hx
    exact ⟨p, ys, rfl, .inl (ex_l l hs), by rw [dpAll_len ha]; exact k _ (.int _)⟩
theorem evd_lenT (h : EvD K ta σ B (.tuple ds)) : EvD K (tCB (fun xs H Q => ∃ p ys, xs = [.ref p] ∧ (SqL K H p ys ∨ SqT K H p ys) ∧ Q (.int ys.length) H) (tCons ta tNil)) σ B (.int (ds.length : Int)) :=
  evd_cb0 (eda_cons h eda_nil) fun xs B1 H1 l dx Q k => by
    obtain ⟨x, rfl, hx⟩ := dpAll_inv1 dx
    obtain ⟨p, ys, rfl, hs, ha⟩ := dp_tuple hx
    exact ⟨p, ys, rfl, .inr (ex_t l hs), by rw [dpAll_len ha]; exact k _ (.int _)⟩
theorem evd_int1 (h : EvD K ta σ B (.int a)) : EvD K (tCB (fun xs H Q => (∃ i, xs = [.int i] ∧ Q (.int i) H) ∨ ∃ k, xs = [.bl k] ∧ Q (.int (if k then 1 else 0)) H) (tCons ta tNil)) σ B (.int a) :=
  evd_cb0 (eda_cons h eda_nil) fun xs B1 H1 _ dx Q k => by
    obtain ⟨x, rfl, hx⟩ := dpAll_inv1 dx
    cases dp_int hx
    exact .inl ⟨a, rfl, k _ (.int _)⟩
theorem evd_max2 (h : EvD K ta σ B (.int a)) (g : EvD K tb σ B (.int b)) : EvD K (tCB (fun xs H Q => ∃ i j, xs = [.int i, .int j] ∧ Q (.int (if j > i then j else i)) H) (tCons ta (tCons tb tNil))) σ B (.int (max a b)) :=
  evd_cb0 (eda_cons h (eda_cons g eda_nil)) fun xs B1 H1 _ dx Q k => by
    obtain ⟨x, y, rfl, hx, hy⟩ := dpAll_inv2 dx
    cases dp_int hx; cases dp_int hy
    have e1 : (if b > a then b else a) = max a b := by split <;> omega
    exact ⟨a, b, rfl, by rw [e1]; exact k _ (.int _)⟩
theorem evd_min2 (h : EvD K ta σ B (.int a)) (g : EvD K tb σ B (.int b)) : EvD K (tCB (fun xs H Q => ∃ i j, xs = [.int i, .int j] ∧ Q (.int (if j < i then j else i)) H) (tCons ta (tCons tb tNil))) σ B (.int (min a b)) :=
  evd_cb0 (eda_cons h (eda_cons g eda_nil)) fun xs B1 H1 _ dx Q k => by
    obtain ⟨x, y, rfl, hx, hy⟩ := dpAll_inv2 dx
    cases dp_int hx; cases dp_int hy
    have e1 : (if b < a then b else a) = min a b := by split <;> omega
    exact ⟨a, b, rfl, by rw [e1]; exact k _ (.int _)⟩
theorem evd_maxL {ns : List Int} {m : Int} (hm : m ∈ ns) (hle : ∀ y, y ∈ ns → y ≤ m) (h : EvD K ta σ B (.list (ns.map PyData.int))) : EvD K (tCB (rMax K) (tCons ta tNil)) σ B (.int m) :=
  evd_cb0 (eda_cons h eda_nil) fun xs B1 H1 l dx Q k => by
    obtain ⟨x, rfl, hx⟩ := dpAll_inv1 dx
    obtain ⟨p, ys, rfl, hs, ha⟩ := dp_list hx
    cases dpAll_ints ha
    refine ⟨p, ns, rfl, ex_l l hs, List.length_pos_of_mem hm, fun m' h1 h2 => ?_⟩
    have e1 : m' = m := Int.le_antisymm (hle _ h1) (h2 _ hm)
    rw [e1]
    exact k _ (.int _)
theorem evd_minL {ns : List Int} {m : Int} (hm : m ∈ ns) (hle : ∀ y, y ∈ ns → m ≤ y) (h : EvD K ta σ B (.list (ns.map PyData.int))) : EvD K (tCB (rMin K) (tCons ta tNil)) σ B (.int m) :=
  evd_cb0 (eda_cons h eda_nil) fun xs B1 H1 l dx Q k => by
    obtain ⟨x, rfl, hx⟩ := dpAll_inv1 dx
    obtain ⟨p, ys, rfl, hs, ha⟩ := dp_list hx
    cases dpAll_ints ha
    refine ⟨p, ns, rfl, ex_l l hs, List.length_pos_of_mem hm, fun m' h1 h2 => ?_⟩
    have e1 : m' = m := Int.le_antisymm (h2 _ hm) (hle _ h1)
    rw [e1]
    exact k _ (.int _)
theorem evd_sum {ns : List Int} (h : EvD K ta σ B (.list (ns.map PyData.int))) : EvD K (tCB (rSum K) (tCons ta tNil)) σ B (.int ns.sum) :=
  evd_cb0 (eda_cons h eda_nil) fun xs B1 H1 l dx Q k => by
    obtain ⟨x, rfl, hx⟩ := dpAll_inv1 dx
    obtain ⟨p, ys, rfl, hs, ha⟩ := dp_list hx
    cases dpAll_ints ha
    exact ⟨p, ns, rfl, ex_l l hs, k _ (.int _)⟩
theorem evd_all {bs : List Bool} (h : EvD K ta σ B (.list (bs.map PyData.bool))) : EvD K (tCB (rAll K) (tCons ta tNil)) σ B (.bool (bs.all id)) :=
  evd_cb0 (eda_cons h eda_nil) fun xs B1 H1 l dx Q k => by
    obtain ⟨x, rfl, hx⟩ := dpAll_inv1 dx
    obtain ⟨p, ys, rfl, hs, ha⟩ := dp_list hx
    cases dpAll_bools ha
    exact ⟨p, bs, rfl, ex_l l hs, k _ (.bl _)⟩
theorem evd_tupleL (h : EvD K ta σ B (.list ds)) : EvD K (tThen ta (kTup K)) σ B (.tuple ds) := fun S H1 q Q k => h S H1 q _ fun v B2 H2 q2 o2 b2 dv => by
  obtain ⟨a, xs, rfl, hs, ha⟩ := dp_list dv
  exact .inl ⟨a, xs, rfl, ex_l o2.le hs, fun p hp => k _ _ _ (q2.trans (Ex.new hp)) (o2.new hp) (b2.trans (o2.exB hp)) (dp_newT upd_same (dpExAll (o2.exB hp) ha))⟩
/-! ### subscripts, slices -/
theorem atI_data {H : Hp} {xs : List V} {i : Int} {d : PyData} (h : DpAll K H xs ds) (g : atI ds i = some d) : ∃ v, atI xs i = some v ∧ Dp K H v d := by
  unfold atI at g ⊢
  rw [dpAll_len h]
  cases e : ixN ds.length i with
  | none => rw [e] at g; cases g
  | some j => rw [e] at g; exact dpAll_get h g
theorem evd_ixL (g : atI ds a = some d) (ha : EvD K ta σ B (.list ds)) (hb : EvD K tb σ B (.int a)) : EvD K (tOp (rIxL K) ta tb) σ B d :=
  evd_op0 ha hb fun x y B1 H1 l hx hy Q k => by
    cases dp_int hy
    obtain ⟨p, xs, rfl, hs, hd⟩ := dp_list hx
    obtain ⟨v, hv, dv⟩ := atI_data hd g
    exact ⟨p, xs, a, v, rfl, rfl, ex_l l hs, hv, k _ dv⟩
theorem evd_ixT (g : atI ds a = some d) (ha : EvD K ta σ B (.tuple ds)) (hb : EvD K tb σ B (.int a)) : EvD K (tOp (rIxT K) ta tb) σ B d :=
  evd_op0 ha hb fun x y B1 H1 l hx hy Q k => by
    cases dp_int hy
    obtain ⟨p, xs, rfl, hs, hd⟩ := dp_tuple hx
    obtain ⟨v, hv, dv⟩ := atI_data hd g
    exact ⟨p, xs, a, v, rfl, rfl, ex_t l hs, hv, k _ dv⟩
def cutD {α : Type} (xs : List α) (lo hi : Option Int) : List α := (xs.drop (HT.sIx xs.length 0 lo)).take (HT.sIx xs.length xs.length hi - HT.sIx xs.length 0 lo)
theorem dpAll_cut {H : Hp} {xs : List V} (h : DpAll K H xs ds) (lo hi : Option Int) : DpAll K H (cutV xs lo hi) (cutD ds lo hi) := by
  unfold cutV cutD
  rw [dpAll_len h]
  exact dpAll_take _ (dpAll_drop _ h)
def EvDO (to : TO) (σ : L2.St) (B : Hp) (o : Option Int) : Prop := ∀ (S : Addr → Prop) (H1 : Hp), Ok S B H1 → ∀ Q : Option Int → Hp → Prop, (∀ B2 H2, Ex H1 H2 → Ok S B2 H2 → Ex B B2 → Q o H2) → to σ H1 Q
theorem EvDO.mono {to : TO} {c : Option Int} (q : Ex B B') (h : EvDO to σ B c) : EvDO to σ B' c := fun S H1 o Q k => h S H1 (o.weak q) Q fun B2 H2 e1 o2 e2 => k B' H2 e1 (o.grow e1) (Ex.refl _)
theorem edo_none : EvDO tNoPart σ B none := fun S H1 q Q k => k B H1 (Ex.refl H1) q (Ex.refl _)
theorem edo_some (h : EvD K te σ B (.int a)) : EvDO (tPart te) σ B (some a) := fun S H1 q Q k => h S H1 q _ fun v B2 H2 q2 o2 b2 dv => ⟨a, dp_int dv, k B2 H2 q2 o2 b2⟩
theorem evd_slL {tl th : TO} {lo hi : Option Int} (h : EvD K te σ B (.list ds)) (h1 : EvDO tl σ B lo) (h2 : EvDO th σ B hi) : EvD K (tSl (rSlL K) te tl th) σ B (.list (cutD ds lo hi)) := fun S H1 q Q k =>
  h S H1 q _ fun x B2 H2 q2 o2 b2 dx => (h1.mono b2) S H2 o2 _ fun B3 H3 q3 o3 b3 => (h2.mono (b2.trans b3)) S H3 o3 _ fun B4 H4 q4 o4 b4 => by
    obtain ⟨p, xs, rfl, hs, hd⟩ := dp_list (dpEx (b3.trans b4) dx)
    exact ⟨p, xs, rfl, ex_l o4.le hs, fun r hr => k _ _ _ (((q2.trans q3).trans q4).trans (Ex.new hr)) (o4.new hr) (((b2.trans b3).trans b4).trans (o4.exB hr)) (dp_newL upd_same (dpExAll (o4.exB hr) (dpAll_cut hd lo hi)))⟩
theorem evd_slT {tl th : TO} {lo hi : Option Int} (h : EvD K te σ B (.tuple ds)) (h1 : EvDO tl σ B lo) (h2 : EvDO th σ B hi) : EvD K (tSl (rSlA K) te tl th) σ B (.tuple (cutD ds lo hi)) := fun S H1 q Q k =>
  h S H1 q _ fun x B2 H2 q2 o2 b2 dx => (h1.mono b2) S H2 o2 _ fun B3 H3 q3 o3 b3 => (h2.mono (b2.trans b3)) S H3 o3 _ fun B4 H4 q4 o4 b4 => by
    have dx4 := dpEx (b3.trans b4) dx
    obtain ⟨p, xs, rfl, hs, hd⟩ := dp_tuple dx4
    refine ⟨p, xs, rfl, ex_t o4.le hs, fun hw => k _ B4 H4 ((q2.trans q3).trans q4) o4 ((b2.trans b3).trans b4) ?_, fun _ r hr => k _ _ _ (((q2.trans q3).trans q4).trans (Ex.new hr)) (o4.new hr) (((b2.trans b3).trans b4).trans (o4.exB hr)) (dp_newT upd_same (dpExAll (o4.exB hr) (dpAll_cut hd lo hi)))⟩
    have e1 : cutD ds lo hi = ds := by
      unfold cutD
      rw [← dpAll_len hd, hw.1, hw.2, Nat.sub_zero, List.drop_zero, dpAll_len hd, List.take_length]
    rw [e1]
    exact dx4
/-! ### +, * of lists and tuples -/
def rCatL (K : PySem.W.Frag) : R2 := fun x y H Q => ∃ l b xs zs, x = .ref l ∧ y = .ref b ∧ SqL K H l xs ∧ SqL K H b zs ∧ xs.length + zs.length ≤ sizeLine ∧ ∀ p, H p = none → Q (.ref p) (upd H p (.lst (xs ++ zs)))
theorem evd_catL (hl : ds.length + es.length ≤ 100000) (ha : EvD K ta σ B (.list ds)) (hb : EvD K tb σ B (.list es)) : EvD K (tOp (rCatL K) ta tb) σ B (.list (ds ++ es)) :=
  evd_op ha hb fun x y S B1 H1 o _ hx hy Q k => by
    obtain ⟨p, xs, rfl, hs, hd⟩ := dp_list hx
    obtain ⟨p', ys, rfl, hs', hd'⟩ := dp_list hy
    exact ⟨p, p', xs, ys, rfl, rfl, ex_l o.le hs, ex_l o.le hs', by rw [dpAll_len hd, dpAll_len hd']; exact sz_of hl, fun r hr => k _ _ _ (Ex.new hr) (o.new hr) (o.exB hr) (dp_newL upd_same (dpExAll (o.exB hr) (dpAll_append hd hd')))⟩
theorem evd_catT (hl : ds.length + es.length ≤ 100000) (ha : EvD K ta σ B (.tuple ds)) (hb : EvD K tb σ B (.tuple es)) : EvD K (tOp (rCatA K) ta tb) σ B (.tuple (ds ++ es)) :=
  evd_op ha hb fun x y S B1 H1 o _ hx hy Q k => by
    obtain ⟨p, xs, rfl, hs, hd⟩ := dp_tuple hx
    obtain ⟨p', ys, rfl, hs', hd'⟩ := dp_tuple hy
    refine ⟨p, p', xs, ys, rfl, rfl, ex_t o.le hs, ex_t o.le hs', by rw [dpAll_len hd, dpAll_len hd']; exact sz_of hl, fun e1 => ?_, fun _ e1 => ?_, fun _ _ r hr => k _ _ _ (Ex.new hr) (o.new hr) (o.exB hr) (dp_newT upd_same (dpExAll (o.exB hr) (dpAll_append hd hd')))⟩
    · have e2 : ds = [] := by
        cases ds with
        | nil => rfl
        | cons a b => rw [e1] at hd; cases hd
      subst e2
      exact k _ B1 H1 (Ex.refl _) o (Ex.refl _) hy
    · have e2 : es = [] := by
        cases es with
        | nil => rfl
        | cons a b => rw [e1] at hd'; cases hd'
      subst e2
      rw [List.append_nil] at k
      exact k _ B1 H1 (Ex.refl _) o (Ex.refl _) hx
theorem evd_repT {n : Nat} (h0 : ds ≠ []) (hn : 2 ≤ n) (hn2 : n ≤ 1000) (hl : ds.length ≤ 1000) (ha : EvD K ta σ B (.tuple ds)) (hb : EvD K tb σ B (.int (n : Int))) : EvD K (tOp (rRepT K) ta tb) σ B (.tuple (List.replicate n ds).flatten) :=
  evd_op ha hb fun x y S B1 H1 o _ hx hy Q k => by
    cases dp_int hy
    obtain ⟨p, xs, rfl, hs, hd⟩ := dp_tuple hx
    refine ⟨p, (n : Int), xs, rfl, rfl, ex_t o.le hs, fun e1 => h0 ?_, by omega, by omega, by rw [dpAll_len hd]; exact hl, fun r hr => k _ _ _ (Ex.new hr) (o.new hr) (o.exB hr) (dp_newT upd_same (dpExAll (o.exB hr) ?_))⟩
    · cases ds with
      | nil => rfl
      | cons a b => rw [e1] at hd; cases hd
    · rw [Int.toNat_natCast]; exact dpAll_rep hd n
/-- [x, ..] * n: the list is a new one, tracked -/
theorem evd_repL {n : Nat} {tr : TA} (hn2 : n ≤ 100000) (hl : ds.length * n ≤ 100000) (hl2 : ds.length ≤ 100000) (ha : EvDA K tr σ B ds) (hb : EvD K tb σ B (.int (n : Int))) : EvD K (tOp rRep (tLst tr) tb) σ B (.list (List.replicate n ds).flatten) := fun S H1 q Q k =>
  ha S H1 q _ fun xs B2 H2 q2 o2 b2 dx => ⟨by rw [dpAll_len dx]; exact sz_of hl2, fun p hp => (hb.mono (b2.trans (o2.exB (o := .lst xs) hp))) S _ (o2.new hp) _ fun y B3 H3 q3 o3 b3 dy => by
    cases dp_int dy
    have hp3 : H3 p = some (.lst xs) := q3 _ _ upd_same
    refine ⟨p, (n : Int), xs, rfl, rfl, hp3, by omega, by omega, by rw [dpAll_len dx, Int.toNat_natCast]; exact sz_of hl, fun r hr => k _ _ _ (((q2.trans (Ex.new hp)).trans q3).trans (Ex.new hr)) (o3.new hr) (((b2.trans (o2.exB hp)).trans b3).trans (o3.exB hr)) (dp_newL upd_same (dpExAll (((o2.exB (o := .lst xs) hp).trans b3).trans (o3.exB hr)) ?_))⟩
    rw [Int.toNat_natCast]; exact dpAll_rep dx n⟩
/-! ### == of data -/
theorem evd_eqD {f g : PyData} (sf : SeqAt.shaped f = true) (sg : SeqAt.shaped g = true) (ha : EvD K ta σ B f) (hb : EvD K tb σ B g) : EvD K (tOp (rEqD K) ta tb) σ B (.bool (PyData.eqv f g)) :=
  evd_op0 ha hb fun x y B1 H1 l hx hy Q k => ⟨f, g, dpEx l hx, dpEx l hy, sf, sg, k _ (.bl _)⟩
theorem evd_neD {f g : PyData} (sf : SeqAt.shaped f = true) (sg : SeqAt.shaped g = true) (ha : EvD K ta σ B f) (hb : EvD K tb σ B g) : EvD K (tOp (rNeD K) ta tb) σ B (.bool (!PyData.eqv f g)) :=
  evd_op0 ha hb fun x y B1 H1 l hx hy Q k => ⟨f, g, dpEx l hx, dpEx l hy, sf, sg, k _ (.bl _)⟩
end
end Z

/-! Rules that the layer lacks: list + list of any kind, enumerate of a tuple, min with default, min of data, repr of data. -/
namespace Z
open PySem PySem.Spec PyProof.Rows L2 Evl
section
variable {X : Cx}
/-! ### list + list, read -/
theorem op_catL : OpR X (binaryOp .Add) (rCatL X.K) := by
  intro pins s σ H x y v u Q I rx ry h
  obtain ⟨l, b, xs, zs, rfl, rfl, hH, hB, hz, q⟩ := h
  cases rx
  cases ry
  obtain ⟨its, r, ⟨⟨cls, dd, data, sl⟩, n, ho, hc, hdd, hd⟩, hl⟩ := I.list hH
  obtain ⟨its2, r2, ⟨⟨cls2, dd2, data2, sl2⟩, n2, ho2, hc2, hdd2, hd2⟩, hl2⟩ := I.list hB
  have l1 := r.length
  have l2 := r2.length
  simp only at hc hd hc2 hd2
  subst hc hd hc2 hd2
  have ea : its.toArray ++ its2.toArray = (its ++ its2).toArray := by simp
  refine concat_meets ⟨_, ho, rfl⟩ ⟨_, ho2, rfl⟩ noFill_list_add seq_list_add PySem.F.slot_list_add PySem.F.entry_list_add (PySem.F.args_list_add_2 _ _) (list_addW l b its.toArray its2.toArray n n2 dd dd2 sl sl2 (by rw [List.size_toArray, List.size_toArray]; omega)) ⟨ho, ho2, ?_⟩
  rw [ea]
  refine ⟨.ref _, _, I.lnew (t' := s.toks) (r.append r2) (by rw [List.length_append]; exact hz), rfl, q _ I.fresh⟩
/-! ### enumerate(tuple) -/
theorem meets_enumOne {v : Value} {o : Obj} {P : Heap → Prop} (B : Begins v o P) :
    Meets (Builtin.«enumerate.__new__» ⟨[.type "enumerate", v], []⟩) (fun _ R s => P s.heap ∧
      R (.ok (.ret (.ref (s.heap.push o).objs.size))) { s with heap := (s.heap.push o).push { cls := .type "enumerate", data := .fields #[.none, .bool false, .ref s.heap.objs.size, rawInt 0, .none, .none] } }) :=
  .of_wp fun prog w A R s h => by
    obtain ⟨hp, g, d, tk, os⟩ := s
    obtain ⟨h1, h⟩ := h
    have hsub := sub_enumerate
    have begin1 : ∀ {A' : Around} {E : Value → Shared → Prop} {Q : Value → Shared → Prop}, Q (.ref hp.objs.size) ⟨hp.push o, g, d, tk, os⟩ → wpAny (model prog w) A' (pyIter v) Q E ⟨hp, g, d, tk, os⟩ := fun q => B.iter prog w _ _ _ _ h1 q
    wp_walk using begin1
    refine wpAny_stack_any fun st => wpAny_pure ?_
    split
    · rename_i c _ _ _ _ _
      cases (c == Value.type "enumerate")
      · wp_walk using begin1
        exact ⟨_, rfl, h⟩
      · wp_walk using begin1
        exact ⟨_, rfl, h⟩
    · wp_walk using begin1
      exact ⟨_, rfl, h⟩
section
variable {prog : Program} {w : World} {A : Around} {E : Value → Shared → Prop} {s : Shared}
theorem call_enumOne {v : Value} {o : Obj} {P : Heap → Prop} {Q : Value → Shared → Prop} (B : Begins v o P) (h1 : P s.heap)
    (h : ∀ h', IsEnum h' (s.heap.objs.size + 1) s.heap.objs.size 0 .none → h'.get? s.heap.objs.size = some o → (∀ b o, s.heap.get? b = some o → h'.get? b = some o) → Q (.ref (s.heap.objs.size + 1)) { s with heap := h' }) :
    wpAny (model prog w) A (call (.type "enumerate") [v]) Q E s := by
  refine callType_new F.called_enumerate (by decide) (by exact (by kernel_rfl : checkTypeCall "enumerate" ⟨[v], []⟩ = pure ())) (by exact (by kernel_rfl : checkBuiltinCall "enumerate.__new__" ⟨[.type "enumerate", v], []⟩ = pure ())) (fun obj => F.args_object_init_2 obj _) F.entry_enumerate_new (meets_enumOne B) ⟨h1, ?_⟩
  have hz : (s.heap.push o).objs.size = s.heap.objs.size + 1 := Heap.size_push ..
  have he : IsEnum ((s.heap.push o).push { cls := .type "enumerate", data := .fields #[.none, .bool false, .ref s.heap.objs.size, rawInt 0, .none, .none] }) (s.heap.objs.size + 1) s.heap.objs.size 0 .none := by
    have q := Heap.get?_push_size (s.heap.push o) (o := { cls := .type "enumerate", data := .fields #[.none, .bool false, .ref s.heap.objs.size, rawInt 0, .none, .none] }) rfl
    rw [hz] at q
    exact q
  rw [hz]
  exact ⟨⟨_, he, rfl⟩, h _ he (Heap.get?_push_of_some _ (Heap.get?_push_size _ B.free)) fun b o x => Heap.get?_push_of_some _ (Heap.get?_push_of_some _ x)⟩
end
/-- the tuple at a, each item in a new pair with its place -/
def IteT (K : PySem.W.Frag) (a : Addr) : It :=
  ⟨fun i H => ∃ (xs : List V) (x : V), SqT K H a xs ∧ xs[i]? = some x, fun i H v H' => ∃ T x, v = .ref T ∧ H T = none ∧ H' = upd H T (.tup [.int (i : Nat), x]) ∧ ∀ xs, SqT K H a xs → xs[i]? = some x, fun i H => ∃ xs : List V, SqT K H a xs ∧ xs.length = i⟩
theorem turn_enumT {P : Program} {w : World} {K : PySem.W.Frag} {elts : List Expr} {kk : Nat} {tpos : Pos} (a e it : Addr) :
    Turn P w K (.Tuple elts kk tpos) (IteT K a) [e, it] e (fun i h => (∃ old, IsEnum h e it ((i : Nat) : Int) old) ∧ h.IsTupleIter it a i ∧ e ≠ it) where
  mem := by simp
  obj := fun i h st b hb => by
    obtain ⟨⟨old, he⟩, ⟨o, ho, hc, hd⟩, _⟩ := st
    rcases (show b = e ∨ b = it by simpa using hb) with z | z
    · subst z; exact ⟨_, he, fun v q => nomatch q⟩
    · subst z; exact ⟨o, ho, fun v q => by rw [hd] at q; cases q⟩
  keep := fun i h h' st k => by
    obtain ⟨⟨old, he⟩, hi, hne⟩ := st
    exact ⟨⟨old, k e (by simp) _ he⟩, hi.at fun o q => k it (by simp) o q, hne⟩
  item := by
    intro X hP hw hK hc i pins s σ H E I hf st hg
    subst hP hw hK
    obtain ⟨⟨old, he⟩, hit, hne⟩ := st
    obtain ⟨xs, x, hq, hx⟩ := hg
    obtain ⟨its, rv, p, hz⟩ := I.tuple hq
    obtain ⟨u, hu, ru⟩ := rv.get hx
    have hT : s.heap.IsTuple a its.toArray := p
    have hai : a ≠ it := fun z => by
      subst z
      obtain ⟨o1, g1, c1, _⟩ := hit
      obtain ⟨o2, g2, c2, _⟩ := hT
      rw [g1] at g2; cases g2
      rw [c1] at c2; injection c2 with c2; exact absurd c2 (by decide)
    have hae : a ≠ e := fun z => by
      subst z
      obtain ⟨o2, g2, c2, _⟩ := hT
      have he' : s.heap.get? a = some { cls := .type "enumerate", dict := none, data := .fields #[.none, .bool false, .ref it, rawInt i, .none, old], slots := #[] } := he
      rw [he'] at g2; cases g2
      injection c2 with c2
      exact absurd c2 (by decide)
    have D := Draws.tuple (prog := X.prog) (w := X.w) (A := X.A.in1) (I.ok.hd hc) it a hai its.toArray
    have W := GoesN.enumFrom (A := X.A) (elts := elts) (x1 := kk) (pos := tpos) 0 D e hne (by simp [hne, Ne.symm hae]) (by simp)
    have hlt : i < its.toArray.size := by
      have := (List.getElem?_eq_some_iff.mp hu).1
      simpa using this
    have st0 : (∃ old, IsEnum s.heap e it (0 + (i : Int)) old) ∧ s.heap.IsTupleIter it a i ∧ s.heap.IsTuple a its.toArray := ⟨⟨old, by rw [Int.zero_add]; exact he⟩, hit, hT⟩
    refine W.goes i s _ E hlt st0 fun v h' tk hy st' hk _ => ?_
    obtain ⟨T, t, y, rfl, hnew, hPy, hTup⟩ := hy
    have ey : y = u := by
      have q : its.toArray[i]? = some y := hPy
      have q2 : its[i]? = some y := by simpa using q
      rw [hu] at q2; exact (Option.some.inj q2).symm
    subst ey
    have new : ObjOk X.prog X.w (upd H T (.tup [.int (i : Nat), x])) h' T (.tup [.int (i : Nat), x]) := by
      refine ⟨by show 2 ≤ sizeLine; decide, [.int (0 + (i : Int)) t, y], .cons ⟨t, by rw [Int.zero_add]⟩ (.cons ru .nil), ?_⟩
      exact hTup
    have hTn : H T = none := I.hok.fresh hnew
    have I1 : Inv X pins σ (upd H T (.tup [.int (i : Nat), x])) { s with heap := h', toks := tk } := I.turnedNew (ch := [e, it]) (fun b ob hb q => hk b ob hb q) hf hnew new
    obtain ⟨⟨old', he'⟩, hit', _⟩ := st'
    refine ⟨.ref T, _, I1, rfl, ⟨T, x, rfl, hTn, rfl, fun ys hy => by rw [I.tuple_inj hy hq]; exact hx⟩, ⟨⟨old', ?_⟩, hit', hne⟩, fun b hb => ?_⟩
    · have e1 : ((i + 1 : Nat) : Int) = 0 + ((i + 1 : Nat) : Int) := by omega
      rw [e1]; exact he'
    · have hb' : b < s.heap.objs.size := by
        rcases (show b = e ∨ b = it by simpa using hb) with z | z
        · rw [z]; exact Heap.lt_size he
        · rw [z]; obtain ⟨_, q, _⟩ := hit; exact Heap.lt_size q
      rw [upd_ne (Nat.ne_of_lt (Nat.lt_of_lt_of_le hb' hnew))]
      exact (hf b hb).1
  done := by
    intro X hP hw hK hc i pins s σ H E I hf st hg
    subst hP hw hK
    obtain ⟨⟨old, he⟩, hit, hne⟩ := st
    obtain ⟨xs, hq, hx⟩ := hg
    obtain ⟨its, rv, p, hz⟩ := I.tuple hq
    have hT : s.heap.IsTuple a its.toArray := p
    have hai : a ≠ it := fun z => by
      subst z
      obtain ⟨o1, g1, c1, _⟩ := hit
      obtain ⟨o2, g2, c2, _⟩ := hT
      rw [g1] at g2; cases g2
      rw [c1] at c2; injection c2 with c2; exact absurd c2 (by decide)
    have hae : a ≠ e := fun z => by
      subst z
      obtain ⟨o2, g2, c2, _⟩ := hT
      have he' : s.heap.get? a = some { cls := .type "enumerate", dict := none, data := .fields #[.none, .bool false, .ref it, rawInt i, .none, old], slots := #[] } := he
      rw [he'] at g2; cases g2
      injection c2 with c2
      exact absurd c2 (by decide)
    have D := Draws.tuple (prog := X.prog) (w := X.w) (A := X.A.in1) (I.ok.hd hc) it a hai its.toArray
    have W := GoesN.enumFrom (A := X.A) (elts := elts) (x1 := kk) (pos := tpos) 0 D e hne (by simp [hne, Ne.symm hae]) (by simp)
    have hl : its.toArray.size = i := by
      have := rv.length
      simp only [List.size_toArray]
      omega
    rw [hl] at W
    refine W.stops s _ E ⟨⟨old, by rw [Int.zero_add]; exact he⟩, hit, hT⟩ fun h' tk hk _ => ?_
    exact I.turnedL (ch := [e, it]) (fun b o hb q => hk b o hb q) hf
  self := fun A i s Q E st h => by
    obtain ⟨⟨_, he⟩, _⟩ := st
    exact wpAny_pyIter_enum he h
def iEnumT (K : PySem.W.Frag) (ta : TA) : TI := fun σ H R => ta σ H fun vs H1 => ∃ a xs, vs = [.ref a] ∧ SqT K H1 a xs ∧ R (IteT K a) H1
theorem pi_enumT {e : Expr} {ta : TA} {p pos tpos : Pos} {elts : List Expr} {kk : Nat} (hg : Gl X "enumerate") (hm : X.mg "enumerate" = none) (ha : PA X [e] ta) (hs : starEach [e] X.env = [(false, eval e X.env)] := by rfl) :
    PI X (.Tuple elts kk tpos) (.Call (.Name "enumerate" p) [e] [] pos) (iEnumT X.K ta) := by
  refine ⟨fun pins s σ H R I h => ?_⟩
  refine Call_ (ld_blt I hg hm boot_enumerate (PyProof.Rows.callWith_type1 (thn (ha.run pos pins s σ H _ I h) fun us s1 ⟨vs, H1, I1, r1, q1⟩ => ?_) hs rfl))
  obtain ⟨a, xs, rfl, hq, q⟩ := q1
  cases r1 with
  | cons r rr =>
    cases rr
    cases r
    obtain ⟨its, rv, p', hz⟩ := I1.tuple hq
    have hT : s1.heap.IsTuple a its.toArray := p'
    refine call_enumOne (begins_tuple a its.toArray) hT fun h' he hit hk => wpAny_pyIter_enum he ?_
    have I2 : Inv X pins σ H1 { s1 with heap := h' } := I1.kept (t' := s1.toks) hk
    refine ⟨s1.heap.objs.size + 1, [s1.heap.objs.size + 1, s1.heap.objs.size], _, _, H1, rfl, I2, turn_enumT a (s1.heap.objs.size + 1) s1.heap.objs.size, ⟨⟨.none, he⟩, ⟨_, hit, rfl, rfl⟩, Nat.succ_ne_self _⟩, fun b hb => ?_, q⟩
    have hle : s1.heap.objs.size ≤ b := by
      rcases (show b = s1.heap.objs.size + 1 ∨ b = s1.heap.objs.size by simpa using hb) with z | z
      · rw [z]; exact Nat.le_succ _
      · rw [z]; exact Nat.le_refl _
    have q1 := I1.fpOk (H' := H1) hle (I1.hok.fresh hle)
    exact q1
/-! ### min(xs, default=d) of whole numbers -/
def rMinDef (K : PySem.W.Frag) : List V → List V → Hp → VK → Prop := fun xs zs H Q => ∃ (a : Addr) (ns : List Int) (d : V), xs = [V.ref a] ∧ zs = [d] ∧ SqL K H a (ns.map V.int) ∧ (ns = [] → Q d H) ∧ ∀ m, m ∈ ns → (∀ y, y ∈ ns → m ≤ y) → Q (.int m) H
theorem foldMin_spec : ∀ (ns : List Int) (n : Int), ns.foldl min n ∈ n :: ns ∧ ∀ y, y ∈ n :: ns → ns.foldl min n ≤ y
  | [], n => ⟨List.mem_cons_self, fun y hy => by rw [List.mem_singleton.mp hy]; exact Int.le_refl _⟩
  | k :: r, n => by
    obtain ⟨h1, h2⟩ := foldMin_spec r (min n k)
    rw [List.foldl_cons]
    refine ⟨?_, fun y hy => ?_⟩
    · rcases List.mem_cons.mp h1 with e | e
      · rw [e]
        by_cases h : n ≤ k
        · rw [Int.min_eq_left h]; exact List.mem_cons_self
        · rw [Int.min_eq_right (by omega)]; exact List.mem_cons_of_mem _ List.mem_cons_self
      · exact List.mem_cons_of_mem _ (List.mem_cons_of_mem _ e)
    · rcases List.mem_cons.mp hy with e | e
      · have := h2 (min n k) List.mem_cons_self
        rw [e]; omega
      · rcases List.mem_cons.mp e with e | e
        · have := h2 (min n k) List.mem_cons_self
          rw [e]; omega
        · exact h2 y (List.mem_cons_of_mem _ e)
theorem alikeInts (ns : List Int) : PySem.W.AlikeAll (ns.map PyData.int) := by
  refine ⟨fun x hx y hy => ?_, fun x hx => ?_⟩
  · obtain ⟨a, _, rfl⟩ := List.mem_map.mp hx
    obtain ⟨b, _, rfl⟩ := List.mem_map.mp hy
    simp only [PySem.W.alike]
  · obtain ⟨a, _, rfl⟩ := List.mem_map.mp hx
    exact fun e => by cases e
theorem depthInts : ∀ ns : List Int, PyData.depthAll (ns.map PyData.int) = 0
  | [] => by rw [List.map_nil]; simp only [PyData.depthAll]
  | n :: ns => by rw [List.map_cons]; simp only [PyData.depthAll, PyData.depth, depthInts ns]; rfl
theorem cr_minDef (hc : X.calm = true) (hu : X.A.units + 64 < cLine) : CallRK X (.builtin "min") ["default"] (rMinDef X.K) := by
  intro pins s σ H xs zs us ws Q I r1 r2 h
  obtain ⟨a, ns, d, rfl, rfl, hq, k0, k1⟩ := h
  cases r1 with | cons r1 r1' =>
  cases r1'
  cases r2 with | cons r2 r2' =>
  cases r2'
  cases r1
  rename_i dv
  obtain ⟨its, rv, p, hz⟩ := I.list hq
  obtain ⟨as, rd⟩ := Dp.readsAll I (ns.map PyData.int) _ its (dpAll_ofInts ns) rv
  show wpAny _ _ (call (.builtin "min") [.ref a] [(Str.ofString "default", dv)]) _ _ s
  refine PySem.W.min_list_default (xs := ns.map PyData.int) (as := as) (I.ok.hd hc) p.isList (by simpa using rd) (alikeInts ns) (by rw [depthInts]; omega) (fun e h' tk hk => ?_) fun y ys i v h' tk bs e hi rr hk => ?_
  · exact ⟨d, H, I.kept hk, r2, k0 (List.map_eq_nil_iff.mp e)⟩
  · cases ns with
    | nil => cases e
    | cons n ns =>
      rw [List.map_cons] at e
      injection e with e1 e2
      subst e1 e2
      rw [PySem.W.minD_ints] at rr
      cases rr with
      | int _ t =>
      obtain ⟨h1, h2⟩ := foldMin_spec ns n
      exact ⟨.int (ns.foldl min n), H, I.kept hk, ⟨t, rfl⟩, k1 _ h1 h2⟩
/-! ### repr of data -/
def rRepr (K : PySem.W.Frag) : List V → Hp → VK → Prop := fun xs H Q => ∃ (a : Addr) (d : PyData), xs = [V.ref a] ∧ Dp K H (.ref a) d ∧ d.showable = true ∧ d.hasDict = false ∧ d.depth ≤ 32 ∧ d.shown.length ≤ sizeLine ∧ Q (.str d.shown) H
theorem cr_repr (hg : X.A.guards = some []) (hu : X.A.units + 64 < cLine) : CallR X (.builtin "repr") (rRepr X.K) := by
  intro pins s σ H xs us Q I r h
  obtain ⟨a, d, rfl, hd, hs, hdi, hdp, hsz, q⟩ := h
  cases r with | cons r r' =>
  cases r'
  obtain ⟨as, rd⟩ := Dp.reads I d _ _ hd r
  cases r
  refine repr_of_reads' rd hs (fun e => by rw [hdi] at e; cases e) hg (by omega) (fun b o e => e) (fun h' u tk hk => ?_) hsz
  exact ⟨.str d.shown, H, I.kept hk, ⟨u, rfl⟩, q⟩
end
end Z

/-! Comprehensions, loops and statements over data. -/
namespace Z
open PySem PySem.Spec PyProof.Rows L2 Evl
/-! ### what is walked -/
structure Src (K : PySem.W.Frag) (J : It) (B : Hp) (n : Nat) (item : Nat → PyData) : Prop where
  go : ∀ i H, i < n → Ex B H → J.go i H
  stop : ∀ H, Ex B H → J.stop n H
  yld : ∀ i H x H', i < n → Ex B H → J.yld i H x H' → Ex H H' ∧ ∀ S B1, Ok S B1 H → Ex B B1 → ∃ B2, Ok S B2 H' ∧ Ex B1 B2 ∧ Dp K B2 x (item i)
def EvI (K : PySem.W.Frag) (wi : TI) (σ : L2.St) (B : Hp) (n : Nat) (item : Nat → PyData) : Prop := ∀ (S : Addr → Prop) (H1 : Hp), Ok S B H1 → ∀ R : It → Hp → Prop, (∀ J B2 H2, Ex H1 H2 → Ok S B2 H2 → Ex B B2 → Src K J B2 n item → R J H2) → wi σ H1 R
section
variable {K : PySem.W.Frag} {σ : L2.St} {B B' H : Hp} {S : Addr → Prop} {ta tb tc te tl : TE} {t u : TT} {x y z v : V} {d e : PyData} {ds es : List PyData} {a b : Int} {wi : TI} {g : TG} {n : Nat} {item : Nat → PyData} {D : Ends} {tu tw tz : TS}
theorem getD_of {ds : List PyData} {i : Nat} (h : i < ds.length) : ds[i]? = some (ds.getD i .none) := by
  rw [List.getD_eq_getElem?_getD, List.getElem?_eq_getElem h]; rfl
theorem srcL {p : Addr} {xs : List V} (hs : SqL K B p xs) (hd : DpAll K B xs ds) : Src K (Itl K p) B ds.length (fun i => ds.getD i .none) where
  go := fun i H hi e => by
    have hl := dpAll_len hd
    exact ⟨xs, xs[i], ex_l e hs, List.getElem?_eq_getElem (by omega)⟩
  stop := fun H e => ⟨xs, ex_l e hs, by rw [dpAll_len hd]; exact Nat.le_refl _⟩
  yld := fun i H x H' hi e y => by
    obtain ⟨rfl, y⟩ := y
    refine ⟨Ex.refl _, fun S B1 o b => ⟨B1, o, Ex.refl _, ?_⟩⟩
    obtain ⟨v, hv, dv⟩ := dpAll_get hd (getD_of hi)
    have q := y xs (ex_l e hs)
    rw [q] at hv; cases hv
    exact dpEx b dv
theorem srcT {p : Addr} {xs : List V} (hs : SqT K B p xs) (hd : DpAll K B xs ds) : Src K (Itt K p) B ds.length (fun i => ds.getD i .none) where
  go := fun i H hi e => by
    have hl := dpAll_len hd
    exact ⟨xs, xs[i], ex_t e hs, List.getElem?_eq_getElem (by omega)⟩
  stop := fun H e => ⟨xs, ex_t e hs, by rw [dpAll_len hd]; exact Nat.le_refl _⟩
  yld := fun i H x H' hi e y => by
    obtain ⟨rfl, y⟩ := y
    refine ⟨Ex.refl _, fun S B1 o b => ⟨B1, o, Ex.refl _, ?_⟩⟩
    obtain ⟨v, hv, dv⟩ := dpAll_get hd (getD_of hi)
    have q := y xs (ex_t e hs)
    rw [q] at hv; cases hv
    exact dpEx b dv
theorem srcE {p : Addr} {xs : List V} (hs : SqL K B p xs) (hd : DpAll K B xs ds) : Src K (Ite K p) B ds.length (fun i => .tuple [.int (i : Int), ds.getD i .none]) where
  go := fun i H hi e => by
    have hl := dpAll_len hd
    exact ⟨xs, xs[i], ex_l e hs, List.getElem?_eq_getElem (by omega)⟩
  stop := fun H e => ⟨xs, ex_l e hs, by rw [dpAll_len hd]; exact Nat.le_refl _⟩
  yld := fun i H x H' hi e y => by
    obtain ⟨T, x', rfl, hT, rfl, y⟩ := y
    refine ⟨Ex.new hT, fun S B1 o b => ⟨_, o.new hT, o.exB hT, ?_⟩⟩
    obtain ⟨v, hv, dv⟩ := dpAll_get hd (getD_of hi)
    have q := y xs (ex_l e hs)
    rw [q] at hv; cases hv
    exact dp_newT upd_same (dpAll_two (.int _) (dpEx (o.exB hT) (dpEx b dv)))
theorem srcET {p : Addr} {xs : List V} (hs : SqT K B p xs) (hd : DpAll K B xs ds) : Src K (IteT K p) B ds.length (fun i => .tuple [.int (i : Int), ds.getD i .none]) where
  go := fun i H hi e => by
    have hl := dpAll_len hd
    exact ⟨xs, xs[i], ex_t e hs, List.getElem?_eq_getElem (by omega)⟩
  stop := fun H e => ⟨xs, ex_t e hs, dpAll_len hd⟩
  yld := fun i H x H' hi e y => by
    obtain ⟨T, x', rfl, hT, rfl, y⟩ := y
    refine ⟨Ex.new hT, fun S B1 o b => ⟨_, o.new hT, o.exB hT, ?_⟩⟩
    obtain ⟨v, hv, dv⟩ := dpAll_get hd (getD_of hi)
    have q := y xs (ex_t e hs)
    rw [q] at hv; cases hv
    exact dp_newT upd_same (dpAll_two (.int _) (dpEx (o.exB hT) (dpEx b dv)))
theorem srcZ {p q : Addr} {xs ys : List V} (hs : SqL K B p xs) (hd : DpAll K B xs ds) (hs2 : SqL K B q ys) (hd2 : DpAll K B ys es) (hn : ds.length = es.length) : Src K (Itz K p q) B ds.length (fun i => .tuple [ds.getD i .none, es.getD i .none]) where
  go := fun i H hi e => by
    have hl := dpAll_len hd
    have hl2 := dpAll_len hd2
    exact ⟨xs, ys, xs[i], ys[i], ex_l e hs, ex_l e hs2, List.getElem?_eq_getElem (by omega), List.getElem?_eq_getElem (by omega)⟩
  stop := fun H e => ⟨xs, ys, ex_l e hs, ex_l e hs2, .inl (by rw [dpAll_len hd]; exact Nat.le_refl _)⟩
  yld := fun i H x H' hi e y => by
    obtain ⟨T, x', y', rfl, hT, rfl, y1, y2⟩ := y
    refine ⟨Ex.new hT, fun S B1 o b => ⟨_, o.new hT, o.exB hT, ?_⟩⟩
    obtain ⟨v, hv, dv⟩ := dpAll_get hd (getD_of hi)
    obtain ⟨v2, hv2, dv2⟩ := dpAll_get hd2 (getD_of (show i < es.length by omega))
    have q1 := y1 xs (ex_l e hs)
    have q2 := y2 ys (ex_l e hs2)
    rw [q1] at hv; cases hv
    rw [q2] at hv2; cases hv2
    exact dp_newT upd_same (dpAll_two (dpEx (o.exB hT) (dpEx b dv)) (dpEx (o.exB hT) (dpEx b dv2)))
theorem srcR {lo : Int} {n : Nat} : Src K (Itr lo n) B n (fun i => .int (lo + (i : Int))) where
  go := fun i H hi e => hi
  stop := fun H e => Nat.le_refl _
  yld := fun i H x H' hi e y => by
    obtain ⟨rfl, rfl⟩ := y
    exact ⟨Ex.refl _, fun S B1 o b => ⟨B1, o, Ex.refl _, .int _⟩⟩
theorem evi_list (h : EvD K tl σ B (.list ds)) : EvI K (iList K tl) σ B ds.length (fun i => ds.getD i .none) := fun S H1 o R k => h S H1 o _ fun v B2 H2 q2 o2 b2 dv => by
  obtain ⟨p, xs, rfl, hs, hd⟩ := dp_list dv
  exact ⟨p, rfl, ⟨xs, ex_l o2.le hs⟩, k _ B2 H2 q2 o2 b2 (srcL hs hd)⟩
theorem evi_tup (h : EvD K tl σ B (.tuple ds)) : EvI K (iTup K tl) σ B ds.length (fun i => ds.getD i .none) := fun S H1 o R k => h S H1 o _ fun v B2 H2 q2 o2 b2 dv => by
  obtain ⟨p, xs, rfl, hs, hd⟩ := dp_tuple dv
  exact ⟨p, rfl, ⟨xs, ex_t o2.le hs⟩, k _ B2 H2 q2 o2 b2 (srcT hs hd)⟩
theorem evi_enum (h : EvD K tl σ B (.list ds)) : EvI K (iEnum K (tCons tl tNil)) σ B ds.length (fun i => .tuple [.int (i : Int), ds.getD i .none]) := fun S H1 o R k => h S H1 o _ fun v B2 H2 q2 o2 b2 dv => by
  obtain ⟨p, xs, rfl, hs, hd⟩ := dp_list dv
  exact ⟨p, xs, rfl, ex_l o2.le hs, k _ B2 H2 q2 o2 b2 (srcE hs hd)⟩
theorem evi_enumT (h : EvD K tl σ B (.tuple ds)) : EvI K (iEnumT K (tCons tl tNil)) σ B ds.length (fun i => .tuple [.int (i : Int), ds.getD i .none]) := fun S H1 o R k => h S H1 o _ fun v B2 H2 q2 o2 b2 dv => by
  obtain ⟨p, xs, rfl, hs, hd⟩ := dp_tuple dv
  exact ⟨p, xs, rfl, ex_t o2.le hs, k _ B2 H2 q2 o2 b2 (srcET hs hd)⟩
theorem evi_zip {tm : TE} (hn : ds.length = es.length) (h : EvD K tl σ B (.list ds)) (h2 : EvD K tm σ B (.list es)) : EvI K (iZip K (tCons tl (tCons tm tNil))) σ B ds.length (fun i => .tuple [ds.getD i .none, es.getD i .none]) := fun S H1 o R k =>
  h S H1 o _ fun v B2 H2 q2 o2 b2 dv => (h2.mono b2) S H2 o2 _ fun v' B3 H3 q3 o3 b3 dv' => by
  obtain ⟨p, xs, rfl, hs, hd⟩ := dp_list (dpEx b3 dv)
  obtain ⟨q, ys, rfl, hs', hd'⟩ := dp_list dv'
  exact ⟨p, q, xs, ys, rfl, ex_l o3.le hs, ex_l o3.le hs', k _ B3 H3 (q2.trans q3) o3 (b2.trans b3) (srcZ hs hd hs' hd' hn)⟩
theorem evi_rng1 {n : Nat} (hn : n ≤ 1000000) (h : EvD K tl σ B (.int (n : Int))) : EvI K (iRng1 (tCons tl tNil)) σ B n (fun i => .int (0 + (i : Int))) := fun S H1 o R k => h S H1 o _ fun v B2 H2 q2 o2 b2 dv => by
  cases dp_int dv
  refine ⟨(n : Int), rfl, by omega, by omega, ?_⟩
  rw [Int.toNat_natCast]
  exact k _ B2 H2 q2 o2 b2 srcR
theorem evi_rng2 {lo hi : Int} (h0 : -1000000 ≤ lo ∧ lo ≤ 1000000 ∧ -1000000 ≤ hi ∧ hi ≤ 1000000) (h : EvD K tl σ B (.int lo)) (h2 : EvD K te σ B (.int hi)) : EvI K (iRng2 (tCons tl (tCons te tNil))) σ B (hi - lo).toNat (fun i => .int (lo + (i : Int))) := fun S H1 o R k =>
  h S H1 o _ fun v B2 H2 q2 o2 b2 dv => (h2.mono b2) S H2 o2 _ fun v' B3 H3 q3 o3 b3 dv' => by
  cases dp_int dv
  cases dp_int dv'
  exact ⟨lo, hi, rfl, ⟨by omega, by omega, by omega, by omega⟩, k _ B3 H3 (q2.trans q3) o3 (b2.trans b3) srcR⟩
/-! ### targets -/
/-- the target stores what is told, whatever follows -/
def EvG (K : PySem.W.Frag) (g : TG) (x : V) (σ : L2.St) (B : Hp) (σ2 : L2.St) : Prop := ∀ (H : Hp) (Q : L2.St → Hp → Prop), Ex B H → Q σ2 H → g x σ H Q
theorem evg_name {i : Nat} : EvG K (gName i) x σ B (σ.set i (some x)) := fun H Q _ q => q
theorem evg_two {i j : Nat} (h : Dp K B x (.tuple [d, e])) : ∃ y z, Dp K B y d ∧ Dp K B z e ∧ EvG K (gTup K 2 (gCons (gName i) (gCons (gName j) gNil))) x σ B ((σ.set i (some y)).set j (some z)) := by
  obtain ⟨p, xs, rfl, hs, hd⟩ := dp_tuple h
  obtain ⟨y, z, rfl, dy, dz⟩ := dpAll_inv2 hd
  exact ⟨y, z, dy, dz, fun H Q l q => ⟨p, [y, z], rfl, ex_t l hs, rfl, y, [z], rfl, z, [], rfl, rfl, q⟩⟩
/-! ### comprehensions -/
theorem fm_succ {α : Type} (F : Nat → Option α) (n : Nat) : (List.range (n + 1)).filterMap F = (List.range n).filterMap F ++ (F n).toList := by
  rw [List.range_succ, List.filterMap_append, List.filterMap_cons]
  cases F n <;> simp
theorem fm_len {α : Type} (F : Nat → Option α) (n : Nat) : ((List.range n).filterMap F).length ≤ n := by
  have h := List.length_filterMap_le F (List.range n)
  rw [List.length_range] at h
  exact h
theorem evd_lc {tt : TT} {vs : List Nat} (F : Nat → Option PyData) (hi : EvI K wi σ B n item) (hz : n ≤ 1000000)
    (hg : ∀ i x B1, i < n → Ex B B1 → Dp K B1 x (item i) → ∃ σ2, wipe σ2 vs = wipe σ vs ∧ EvG K g x (wipe σ vs) B1 σ2 ∧ EvQ tt σ2 B1 (F i).isSome ∧ ∀ d, F i = some d → EvD K te σ2 B1 d) :
    EvD K (tLc wi g tt te vs) σ B (.list ((List.range n).filterMap F)) := fun S H1 o Q k => hi S H1 o _ fun J B2 H2 q2 o2 b2 src => fun L hL => by
  have hSL : ¬ S L := o2.notS hL
  refine ⟨fun i m H => m = n - i ∧ i ≤ n ∧ ∃ B3 ys, Ok (fun a => S a ∨ a = L) B3 H ∧ Ex B2 B3 ∧ Ex H2 H ∧ H L = some (.lst ys) ∧ DpAll K B3 ys ((List.range i).filterMap F), ⟨n, rfl, Nat.zero_le _, B2, [], o2.mut hL, Ex.refl _, Ex.new hL, upd_same, .nil⟩, ?_⟩
  rintro i m H ⟨rfl, hin, B3, ys, o3, b3, q3, hys, dys⟩
  by_cases hlt : i < n
  · refine .inr ⟨src.go i H hlt (b3.trans o3.le), fun H' => (n - (i + 1)) = n - (i + 1) ∧ i + 1 ≤ n ∧ ∃ B3 ys, Ok (fun a => S a ∨ a = L) B3 H' ∧ Ex B2 B3 ∧ Ex H2 H' ∧ H' L = some (.lst ys) ∧ DpAll K B3 ys ((List.range (i + 1)).filterMap F), fun H' p => ⟨n - (i + 1), by omega, p⟩, fun x H' hy => ?_⟩
    obtain ⟨q4, f4⟩ := src.yld i H x H' hlt (b3.trans o3.le) hy
    obtain ⟨B4, o4, b4, dx⟩ := f4 _ B3 o3 b3
    obtain ⟨σ2, e1, eg, eq, ev⟩ := hg i x B4 hlt ((b2.trans b3).trans b4) dx
    refine eg H' _ o4.le ⟨e1, ?_⟩
    refine eq _ H' o4 _ fun B5 H5 q5 o5 b5 => ?_
    cases hF : F i with
    | none =>
      rw [if_neg (by simp)]
      refine ⟨rfl, hlt, B5, ys, o5, (b3.trans b4).trans b5, (q3.trans q4).trans q5, q5 _ _ (q4 _ _ hys), ?_⟩
      rw [fm_succ, hF]
      exact dpExAll (b4.trans b5) (by simpa using dys)
    | some d =>
      rw [if_pos (by simp)]
      refine ((ev d hF).mono b5) _ H5 o5 _ fun y B6 H6 q6 o6 b6 dy => ⟨ys, q6 _ _ (q5 _ _ (q4 _ _ hys)), ?_, rfl, hlt, B6, ys ++ [y], o6.put (.inr rfl), ((b3.trans b4).trans b5).trans b6, ?_, upd_same, ?_⟩
      · rw [dpAll_len dys]
        exact Nat.lt_of_le_of_lt (fm_len F i) (Nat.lt_of_lt_of_le (show i < 1000001 by omega) (by decide))
      · exact Ex.mut (((q3.trans q4).trans q5).trans q6) hL
      · rw [fm_succ, hF]
        exact dpAll_append (dpExAll ((b4.trans b5).trans b6) dys) (dpAll_one dy)
  · have e : i = n := by omega
    subst e
    refine .inl ⟨src.stop H (b3.trans o3.le), ?_⟩
    exact k _ _ H (q2.trans q3) (o3.fix hys hSL) ((b2.trans b3).trans o3.fixE) (dp_newL upd_same (dpExAll o3.fixE dys))
theorem fm_map {α β : Type} (as : List α) (F : α → Option β) : (List.range as.length).filterMap (fun i => (as[i]?).bind F) = as.filterMap F := by
  have h : as.filterMap F = (List.range as.length).filterMap (fun i => (as[i]?).bind F) := by
    induction as with
    | nil => rfl
    | cons a r ih =>
      rw [List.length_cons, List.range_succ_eq_map, List.filterMap_cons, List.filterMap_cons, List.filterMap_map]
      have e : ((fun i => ((a :: r)[i]?).bind F) ∘ Nat.succ) = fun i => (r[i]?).bind F := by
        funext i; simp
      rw [e, ← ih]
      simp
  exact h.symm
/-- [te for x in a list of alike data if ..] -/
theorem evd_lcL {α : Type} {toD : α → PyData} {as : List α} {tt : TT} {vs : List Nat} {j : Nat} (F : α → Option PyData) (h : EvD K tl σ B (.list (as.map toD))) (hz : as.length ≤ 1000000) (hw : ∀ x, wipe ((wipe σ vs).set j (some x)) vs = wipe σ vs)
    (ht : ∀ a x B1, a ∈ as → Ex B B1 → Dp K B1 x (toD a) → EvQ tt ((wipe σ vs).set j (some x)) B1 (F a).isSome)
    (he : ∀ a x d B1, a ∈ as → Ex B B1 → Dp K B1 x (toD a) → F a = some d → EvD K te ((wipe σ vs).set j (some x)) B1 d) : EvD K (tLc (iList K tl) (gName j) tt te vs) σ B (.list (as.filterMap F)) := by
  have h1 := evi_list h
  rw [List.length_map] at h1
  refine (evd_lc (fun i => (as[i]?).bind F) h1 hz fun i x B1 hi b dx => ⟨_, hw x, evg_name, ?_⟩).is (by rw [fm_map])
  have e : (as.map toD).getD i .none = toD as[i] := by
    rw [List.getD_eq_getElem?_getD, List.getElem?_map, List.getElem?_eq_getElem hi]; rfl
  rw [e] at dx
  rw [List.getElem?_eq_getElem hi]
  exact ⟨ht _ x B1 (List.getElem_mem hi) b dx, fun d hd => he _ x d B1 (List.getElem_mem hi) b dx hd⟩
theorem evd_lcLm {α : Type} {toD : α → PyData} {as : List α} {vs : List Nat} {j : Nat} (F : α → PyData) (h : EvD K tl σ B (.list (as.map toD))) (hz : as.length ≤ 1000000) (hw : ∀ x, wipe ((wipe σ vs).set j (some x)) vs = wipe σ vs)
    (he : ∀ a x B1, a ∈ as → Ex B B1 → Dp K B1 x (toD a) → EvD K te ((wipe σ vs).set j (some x)) B1 (F a)) : EvD K (tLc (iList K tl) (gName j) tYes te vs) σ B (.list (as.map F)) :=
  (evd_lcL (fun a => some (F a)) h hz hw (fun a x B1 _ _ _ => etYes) (fun a x d B1 ha b dx hd => by cases hd; exact he a x B1 ha b dx)).is (by rw [List.filterMap_eq_map'])
/-- over a tuple -/
theorem evd_lcTm {α : Type} {toD : α → PyData} {as : List α} {vs : List Nat} {j : Nat} (F : α → PyData) (h : EvD K tl σ B (.tuple (as.map toD))) (hz : as.length ≤ 1000000) (hw : ∀ x, wipe ((wipe σ vs).set j (some x)) vs = wipe σ vs)
    (he : ∀ a x B1, a ∈ as → Ex B B1 → Dp K B1 x (toD a) → EvD K te ((wipe σ vs).set j (some x)) B1 (F a)) : EvD K (tLc (iTup K tl) (gName j) tYes te vs) σ B (.list (as.map F)) := by
  have h1 := evi_tup h
  rw [List.length_map] at h1
  refine (evd_lc (fun i => (as[i]?).bind fun a => some (F a)) h1 hz fun i x B1 hi b dx => ⟨_, hw x, evg_name, ?_⟩).is (by rw [fm_map, List.filterMap_eq_map'])
  have e : (as.map toD).getD i .none = toD as[i] := by
    rw [List.getD_eq_getElem?_getD, List.getElem?_map, List.getElem?_eq_getElem hi]; rfl
  rw [e] at dx
  rw [List.getElem?_eq_getElem hi]
  exact ⟨etYes, fun d hd => by cases hd; exact he _ x B1 (List.getElem_mem hi) b dx⟩
theorem evd_lcR1 {n : Nat} {tt : TT} {vs : List Nat} {j : Nat} (F : Nat → Option PyData) (h : EvD K tl σ B (.int (n : Int))) (hz : n ≤ 1000000) (hw : ∀ x, wipe ((wipe σ vs).set j (some x)) vs = wipe σ vs)
    (ht : ∀ (i : Nat) B1, i < n → Ex B B1 → EvQ tt ((wipe σ vs).set j (some (.int (i : Int)))) B1 (F i).isSome)
    (he : ∀ (i : Nat) d B1, i < n → Ex B B1 → F i = some d → EvD K te ((wipe σ vs).set j (some (.int (i : Int)))) B1 d) : EvD K (tLc (iRng1 (tCons tl tNil)) (gName j) tt te vs) σ B (.list ((List.range n).filterMap F)) := by
  refine evd_lc F (evi_rng1 hz h) hz fun i x B1 hi b dx => ⟨_, hw x, evg_name, ?_⟩
  have e := dp_int dx
  rw [Int.zero_add] at e
  subst e
  exact ⟨ht i B1 hi b, fun d hd => he i d B1 hi b hd⟩
theorem evd_lcR1m {n : Nat} {vs : List Nat} {j : Nat} (F : Nat → PyData) (h : EvD K tl σ B (.int (n : Int))) (hz : n ≤ 1000000) (hw : ∀ x, wipe ((wipe σ vs).set j (some x)) vs = wipe σ vs)
    (he : ∀ (i : Nat) B1, i < n → Ex B B1 → EvD K te ((wipe σ vs).set j (some (.int (i : Int)))) B1 (F i)) : EvD K (tLc (iRng1 (tCons tl tNil)) (gName j) tYes te vs) σ B (.list ((List.range n).map F)) :=
  (evd_lcR1 (fun i => some (F i)) h hz hw (fun i B1 _ _ => etYes) (fun i d B1 hi b hd => by cases hd; exact he i B1 hi b)).is (by rw [List.filterMap_eq_map'])
/-- [te for g in .. for g1 in ..], no tests -/
theorem flat_succ {α : Type} (F : Nat → List α) (n : Nat) : ((List.range (n + 1)).map F).flatten = ((List.range n).map F).flatten ++ F n := by
  rw [List.range_succ, List.map_append, List.flatten_append]; simp
theorem evd_lc2 {wi1 : TI} {g1 : TG} {vs vs1 : List Nat} (m : Nat → Nat) (it1 : Nat → Nat → PyData) (F : Nat → Nat → PyData) (M : Nat) (hi : EvI K wi σ B n item) (hz : n * M ≤ 1000000) (hM : ∀ i, i < n → m i ≤ M)
    (hg : ∀ i x B1, i < n → Ex B B1 → Dp K B1 x (item i) → ∃ σ2, wipe σ2 vs = wipe σ vs ∧ EvG K g x (wipe σ vs) B1 σ2 ∧ EvI K wi1 σ2 B1 (m i) (it1 i) ∧
      ∀ j y B2, j < m i → Ex B1 B2 → Dp K B2 y (it1 i j) → ∃ σ3, wipe σ3 vs1 = wipe σ2 vs1 ∧ EvG K g1 y (wipe σ2 vs1) B2 σ3 ∧ EvD K te σ3 B2 (F i j)) :
    EvD K (tLc2 wi g tYes wi1 g1 tYes te vs vs1) σ B (.list ((List.range n).map fun i => (List.range (m i)).map (F i)).flatten) := fun S H1 o Q k => hi S H1 o _ fun J B2 H2 q2 o2 b2 src => fun L hL => by
  have hSL : ¬ S L := o2.notS hL
  refine ⟨fun i k H => k = n - i ∧ i ≤ n ∧ ∃ B3 ys, Ok (fun a => S a ∨ a = L) B3 H ∧ Ex B2 B3 ∧ Ex H2 H ∧ H L = some (.lst ys) ∧ ys.length ≤ i * M ∧ DpAll K B3 ys ((List.range i).map fun i => (List.range (m i)).map (F i)).flatten, ⟨n, rfl, Nat.zero_le _, B2, [], o2.mut hL, Ex.refl _, Ex.new hL, upd_same, Nat.zero_le _, .nil⟩, ?_⟩
  rintro i k' H ⟨rfl, hin, B3, ys, o3, b3, q3, hys, lys, dys⟩
  by_cases hlt : i < n
  · refine .inr ⟨src.go i H hlt (b3.trans o3.le), fun H' => (n - (i + 1)) = n - (i + 1) ∧ i + 1 ≤ n ∧ ∃ B3 ys, Ok (fun a => S a ∨ a = L) B3 H' ∧ Ex B2 B3 ∧ Ex H2 H' ∧ H' L = some (.lst ys) ∧ ys.length ≤ (i + 1) * M ∧ DpAll K B3 ys ((List.range (i + 1)).map fun i => (List.range (m i)).map (F i)).flatten, fun H' p => ⟨n - (i + 1), by omega, p⟩, fun x H' hy => ?_⟩
    obtain ⟨q4, f4⟩ := src.yld i H x H' hlt (b3.trans o3.le) hy
    obtain ⟨B4, o4, b4, dx⟩ := f4 _ B3 o3 b3
    obtain ⟨σ2, e1, eg, ei, ev⟩ := hg i x B4 hlt ((b2.trans b3).trans b4) dx
    refine eg H' _ o4.le ⟨e1, ?_⟩
    refine (etYes (σ := σ2) (B := B4)) _ H' o4 _ fun Ba Ha qa oa ba => ?_
    rw [if_pos rfl]
    refine ei _ Ha (oa.weak ba) _ fun J1 B5 H5 q5 o5 b5 src1 => ?_
    have hMi := hM i hlt
    refine ⟨fun j k H => k = m i - j ∧ j ≤ m i ∧ ∃ B6 zs, Ok (fun a => S a ∨ a = L) B6 H ∧ Ex B5 B6 ∧ Ex H2 H ∧ H L = some (.lst zs) ∧ zs.length ≤ i * M + j ∧ DpAll K B6 zs (((List.range i).map fun i => (List.range (m i)).map (F i)).flatten ++ (List.range j).map (F i)), ⟨m i, rfl, Nat.zero_le _, B5, ys, o5, Ex.refl _, ((q3.trans q4).trans qa).trans q5, q5 _ _ (qa _ _ (q4 _ _ hys)), by omega, ?_⟩, ?_⟩
    · rw [List.range_zero, List.map_nil, List.append_nil]
      exact dpExAll (b4.trans b5) dys
    · rintro j k'' H6 ⟨rfl, hjm, B6, zs, o6, b6, q6, hzs, lzs, dzs⟩
      by_cases hj : j < m i
      · refine .inr ⟨src1.go j H6 hj (b6.trans o6.le), fun H' => (m i - (j + 1)) = m i - (j + 1) ∧ j + 1 ≤ m i ∧ ∃ B6 zs, Ok (fun a => S a ∨ a = L) B6 H' ∧ Ex B5 B6 ∧ Ex H2 H' ∧ H' L = some (.lst zs) ∧ zs.length ≤ i * M + (j + 1) ∧ DpAll K B6 zs (((List.range i).map fun i => (List.range (m i)).map (F i)).flatten ++ (List.range (j + 1)).map (F i)), fun H' p => ⟨m i - (j + 1), by omega, p⟩, fun y H7 hy1 => ?_⟩
        obtain ⟨q7, f7⟩ := src1.yld j H6 y H7 hj (b6.trans o6.le) hy1
        obtain ⟨B7, o7, b7, dy⟩ := f7 _ B6 o6 b6
        obtain ⟨σ3, e3, eg3, ed⟩ := ev j y B7 hj ((b5.trans b6).trans b7) dy
        refine eg3 H7 _ o7.le ⟨e3, ?_⟩
        refine (etYes (σ := σ3) (B := B7)) _ H7 o7 _ fun Bc Hc qc oc bc => ?_
        rw [if_pos rfl]
        refine ed _ Hc (oc.weak bc) _ fun w B8 H8 q8 o8 b8 dw => ⟨zs, q8 _ _ (qc _ _ (q7 _ _ hzs)), ?_, rfl, hj, B8, zs ++ [w], o8.put (.inr rfl), (b6.trans b7).trans b8, Ex.mut (((q6.trans q7).trans qc).trans q8) hL, upd_same, ?_, ?_⟩
        · have h1 : (i + 1) * M ≤ n * M := Nat.mul_le_mul_right M hlt
          have h2 : (i + 1) * M = i * M + M := by rw [Nat.add_mul, Nat.one_mul]
          exact Nat.lt_of_le_of_lt (show zs.length ≤ 1000000 by omega) (by decide)
        · rw [List.length_append]
          show zs.length + 1 ≤ _
          omega
        · rw [List.range_succ, List.map_append, ← List.append_assoc]
          exact dpAll_append (dpExAll (b7.trans b8) dzs) (dpAll_one dw)
      · have ej : j = m i := by omega
        subst ej
        refine .inl ⟨src1.stop H6 (b6.trans o6.le), rfl, hlt, B6, zs, o6, ((b3.trans b4).trans b5).trans b6, q6, hzs, ?_, ?_⟩
        · have h2 : (i + 1) * M = i * M + M := by rw [Nat.add_mul, Nat.one_mul]
          omega
        · rw [flat_succ]
          exact dzs
  · have e : i = n := by omega
    subst e
    refine .inl ⟨src.stop H (b3.trans o3.le), ?_⟩
    exact k _ _ H (q2.trans q3) (o3.fix hys hSL) ((b2.trans b3).trans o3.fixE) (dp_newL upd_same (dpExAll o3.fixE dys))
/-! ### statements -/
theorem s_set {i : Nat} (ok : Ok S B H) (h : EvD K te σ B d) (k : ∀ v B1 H1, Ex H H1 → Ok S B1 H1 → Ex B B1 → Dp K B1 v d → D.nx (σ.set i (some v)) H1) : tAsg te (gName i) D σ H := h S H ok _ fun v B2 H2 q2 o2 b2 dv => k v B2 H2 q2 o2 b2 dv
theorem q_set {i : Nat} (ok : Ok S B H) (h : EvD K te σ B d) (k : ∀ v B1 H1, Ex H H1 → Ok S B1 H1 → Ex B B1 → Dp K B1 v d → tz D (σ.set i (some v)) H1) : tSeq (tAsg te (gName i)) tz D σ H := s_set (D := { D with nx := tz D }) ok h k
theorem q_par {i j : Nat} (ok : Ok S B H) (h : EvD K ta σ B d) (h2 : EvD K tb σ B e) (k : ∀ v w B1 H1, Ex H H1 → Ok S B1 H1 → Ex B B1 → Dp K B1 v d → Dp K B1 w e → tz D ((σ.set i (some v)).set j (some w)) H1) : tSeq (tPar i j (tCons ta (tCons tb tNil))) tz D σ H :=
  h S H ok _ fun v B2 H2 q2 o2 b2 dv => (h2.mono b2) S H2 o2 _ fun w B3 H3 q3 o3 b3 dw => ⟨v, w, rfl, k v w B3 H3 (q2.trans q3) o3 (b2.trans b3) (dpEx b3 dv) dw⟩
theorem s_ret (ok : Ok S B H) (h : EvD K te σ B d) (k : ∀ v B1 H1, Ex H H1 → Ok S B1 H1 → Ex B B1 → Dp K B1 v d → D.rt v H1) : tRet te D σ H := h S H ok _ fun v B2 H2 q2 o2 b2 dv => k v B2 H2 q2 o2 b2 dv
theorem s_drop (ok : Ok S B H) (h : EvD K te σ B d) (k : ∀ B1 H1, Ex H H1 → Ok S B1 H1 → Ex B B1 → D.nx σ H1) : tDrop te D σ H := h S H ok _ fun v B2 H2 q2 o2 b2 dv => k B2 H2 q2 o2 b2
theorem q_drop (ok : Ok S B H) (h : EvD K te σ B d) (k : ∀ B1 H1, Ex H H1 → Ok S B1 H1 → Ex B B1 → tz D σ H1) : tSeq (tDrop te) tz D σ H := s_drop (D := { D with nx := tz D }) ok h k
theorem s_if {c : TT} {b : Bool} (ok : Ok S B H) (h : EvQ c σ B b) (h1 : b = true → ∀ B1 H1, Ex H H1 → Ok S B1 H1 → Ex B B1 → tu D σ H1) (h2 : b = false → ∀ B1 H1, Ex H H1 → Ok S B1 H1 → Ex B B1 → tw D σ H1) : tIfS c tu tw D σ H := h S H ok _ fun B2 H2 q2 o2 b2 => by
  cases b with
  | true => rw [if_pos rfl]; exact h1 rfl B2 H2 q2 o2 b2
  | false => rw [if_neg Bool.false_ne_true]; exact h2 rfl B2 H2 q2 o2 b2
theorem q_if {c : TT} {b : Bool} (ok : Ok S B H) (h : EvQ c σ B b) (h1 : b = true → ∀ B1 H1, Ex H H1 → Ok S B1 H1 → Ex B B1 → tu { D with nx := tz D } σ H1) (h2 : b = false → ∀ B1 H1, Ex H H1 → Ok S B1 H1 → Ex B B1 → tw { D with nx := tz D } σ H1) : tSeq (tIfS c tu tw) tz D σ H := s_if (D := { D with nx := tz D }) ok h h1 h2
theorem q_when {c : TT} {b : Bool} (ok : Ok S B H) (h : EvQ c σ B b) (h1 : b = true → ∀ B1 H1, Ex H H1 → Ok S B1 H1 → Ex B B1 → tu { D with nx := tz D } σ H1) (h2 : b = false → ∀ B1 H1, Ex H H1 → Ok S B1 H1 → Ex B B1 → tz D σ H1) : tSeq (tIfS c tu tNext) tz D σ H := q_if ok h h1 h2
theorem s_when {c : TT} {b : Bool} (ok : Ok S B H) (h : EvQ c σ B b) (h1 : b = true → ∀ B1 H1, Ex H H1 → Ok S B1 H1 → Ex B B1 → tu D σ H1) (h2 : b = false → ∀ B1 H1, Ex H H1 → Ok S B1 H1 → Ex B B1 → D.nx σ H1) : tIfS c tu tNext D σ H := s_if ok h h1 h2
/-- a test that never holds: an if that raises -/
theorem q_not {c : TT} (ok : Ok S B H) (h : EvQ c σ B false) (k : ∀ B1 H1, Ex H H1 → Ok S B1 H1 → Ex B B1 → tz D σ H1) : tSeq (tIfS c tu tNext) tz D σ H := q_when ok h (fun e => by cases e) fun _ => k
/-- x = [..], the list to be changed -/
theorem q_newL {i : Nat} {tr : TA} (ok : Ok S B H) (hl : ds.length ≤ 100000) (h : EvDA K tr σ B ds) (k : ∀ l xs B1 H1, H l = none → Ex H H1 → Ok (fun a => S a ∨ a = l) B1 H1 → Ex B B1 → H1 l = some (.lst xs) → DpAll K B1 xs ds → tz D (σ.set i (some (.ref l))) H1) : tSeq (tAsg (tLst tr) (gName i)) tz D σ H :=
  h S H ok _ fun xs B2 H2 q2 o2 b2 dx => ⟨by rw [dpAll_len dx]; exact sz_of hl, fun p hp => k p xs B2 _ (by
    cases w : H p with
    | none => rfl
    | some u => rw [q2 _ _ w] at hp; cases hp) (q2.trans (Ex.new hp)) (o2.mut hp) b2 upd_same dx⟩
/-- l.append(e) -/
theorem s_app {i : Nat} {l : Addr} {xs : List V} (ok : Ok S B H) (hS : S l) (hl : H l = some (.lst xs)) (hz : xs.length ≤ 1000000) (hi : σ[i]? = some (some (.ref l))) (h : EvD K te σ B d)
    (k : ∀ v B1 H1, Ex H H1 → Ok S B1 (upd H1 l (.lst (xs ++ [v]))) → Ex B B1 → Dp K B1 v d → D.nx σ (upd H1 l (.lst (xs ++ [v])))) : tDrop (tBM K "list" rAppend (tVar i) (tCons te tNil)) D σ H :=
  ⟨.ref l, hi, .inl ⟨rfl, _, .inl (.inl hl)⟩, h S H ok _ fun v B2 H2 q2 o2 b2 dv => ⟨l, xs, v, rfl, rfl, q2 _ _ hl, Nat.lt_of_le_of_lt hz (by decide), k v B2 H2 q2 (o2.put hS) b2 dv⟩⟩
theorem q_app {i : Nat} {l : Addr} {xs : List V} (ok : Ok S B H) (hS : S l) (hl : H l = some (.lst xs)) (hz : xs.length ≤ 1000000) (hi : σ[i]? = some (some (.ref l))) (h : EvD K te σ B d)
    (k : ∀ v B1 H1, Ex H H1 → Ok S B1 (upd H1 l (.lst (xs ++ [v]))) → Ex B B1 → Dp K B1 v d → tz D σ (upd H1 l (.lst (xs ++ [v])))) : tSeq (tDrop (tBM K "list" rAppend (tVar i) (tCons te tNil))) tz D σ H := s_app (D := { D with nx := tz D }) ok hS hl hz hi h k
/-- for -/
theorem s_for {tb : TS} (ok : Ok S B H) (hi : EvI K wi σ B n item) (Pv : Hp → Nat → L2.St → Hp → Prop) (h0 : ∀ B2 H2, Ex H H2 → Ok S B2 H2 → Ex B B2 → Pv B2 0 σ H2) (hk : ∀ B2 i σ' H', Pv B2 i σ' H' → ∃ S', Ok S' B2 H')
    (hs : ∀ B2 i x σ' H' H'', Ex B B2 → i < n → Pv B2 i σ' H' → Ex H' H'' → (∀ S' B3, Ok S' B3 H' → Ex B2 B3 → ∃ B4, Ok S' B4 H'' ∧ Ex B3 B4 ∧ Dp K B4 x (item i)) → g x σ' H'' fun σ2 H2 => tb { D with nx := Pv B2 (i + 1), ct := Pv B2 (i + 1), bk := D.nx } σ2 H2)
    (hd : ∀ B2 σ' H', Ex B B2 → Pv B2 n σ' H' → D.nx σ' H') : tFor wi g tb D σ H := hi S H ok _ fun J B2 H2 q2 o2 b2 src => by
  refine ⟨fun i m σ' H' => m = n - i ∧ i ≤ n ∧ Pv B2 i σ' H', ⟨n, rfl, Nat.zero_le _, h0 B2 H2 q2 o2 b2⟩, ?_⟩
  rintro i m σ' H' ⟨rfl, hin, p⟩
  obtain ⟨S', o'⟩ := hk B2 i σ' H' p
  by_cases hlt : i < n
  · refine .inr ⟨src.go i H' hlt o'.le, Pv B2 (i + 1), fun σ2 H3 p' => ⟨n - (i + 1), by omega, rfl, hlt, p'⟩, fun x H'' hy => ?_⟩
    obtain ⟨q, f⟩ := src.yld i H' x H'' hlt o'.le hy
    exact hs B2 i x σ' H' H'' b2 hlt p q f
  · have e : i = n := by omega
    subst e
    exact .inl ⟨src.stop H' o'.le, hd B2 σ' H' b2 p⟩
theorem q_for {tb : TS} (ok : Ok S B H) (hi : EvI K wi σ B n item) (Pv : Hp → Nat → L2.St → Hp → Prop) (h0 : ∀ B2 H2, Ex H H2 → Ok S B2 H2 → Ex B B2 → Pv B2 0 σ H2) (hk : ∀ B2 i σ' H', Pv B2 i σ' H' → ∃ S', Ok S' B2 H')
    (hs : ∀ B2 i x σ' H' H'', Ex B B2 → i < n → Pv B2 i σ' H' → Ex H' H'' → (∀ S' B3, Ok S' B3 H' → Ex B2 B3 → ∃ B4, Ok S' B4 H'' ∧ Ex B3 B4 ∧ Dp K B4 x (item i)) → g x σ' H'' fun σ2 H2 => tb { D with nx := Pv B2 (i + 1), ct := Pv B2 (i + 1), bk := tz D } σ2 H2)
    (hd : ∀ B2 σ' H', Ex B B2 → Pv B2 n σ' H' → tz D σ' H') : tSeq (tFor wi g tb) tz D σ H := s_for (D := { D with nx := tz D }) ok hi Pv h0 hk hs hd
/-- while -/
theorem q_while {c : TT} {tb : TS} (W : Nat → L2.St → Hp → Prop) (m0 : Nat) (h0 : W m0 σ H)
    (hs : ∀ m σ' H', W m σ' H' → ∃ S' B' b, Ok S' B' H' ∧ EvQ c σ' B' b ∧ (b = true → ∀ B1 H1, Ex H' H1 → Ok S' B1 H1 → Ex B' B1 → ∃ N : L2.St → Hp → Prop, (∀ σ2 H2, N σ2 H2 → ∃ m', m' < m ∧ W m' σ2 H2) ∧ tb { D with nx := N, ct := N, bk := tz D } σ' H1) ∧ (b = false → ∀ B1 H1, Ex H' H1 → Ok S' B1 H1 → Ex B' B1 → tz D σ' H1)) : tSeq (tWhile c tb) tz D σ H :=
  ⟨W, ⟨m0, h0⟩, fun m σ' H' hw => by
    obtain ⟨S', B', b, o, hb, h1, h2⟩ := hs m σ' H' hw
    refine hb S' H' o _ fun B1 H1 q1 o1 b1 => ?_
    cases b with
    | true => exact h1 rfl B1 H1 q1 o1 b1
    | false => exact h2 rfl B1 H1 q1 o1 b1⟩
/-! ### min with default, repr -/
theorem evd_minDef {ns : List Int} (h : EvD K ta σ B (.list (ns.map PyData.int))) {r : PyData} (h0 : ns = [] → r = .none) (h1 : ∀ m, m ∈ ns → (∀ y, y ∈ ns → m ≤ y) → r = .int m) : EvD K (tCKw (rMinDef K) (tCons ta tNil) (tCons (tC .non) tNil)) σ B r := fun S H1 o Q k =>
  h S H1 o _ fun v B2 H2 q2 o2 b2 dv => by
    obtain ⟨p, xs, rfl, hs, hd⟩ := dp_list dv
    cases dpAll_ints hd
    exact ⟨p, ns, .non, rfl, rfl, ex_l o2.le hs, fun e => k _ B2 H2 q2 o2 b2 (by rw [h0 e]; exact .non), fun m hm hle => k _ B2 H2 q2 o2 b2 (by rw [h1 m hm hle]; exact .int _)⟩
theorem evd_repr {a : PyData} (hr : ∃ xs, a = .list xs ∨ a = .tuple xs) (hs : a.showable = true) (hd : a.hasDict = false) (hp : a.depth ≤ 32) (hz : a.shown.length ≤ sizeLine) (h : EvD K ta σ B a) : EvD K (tCB (rRepr K) (tCons ta tNil)) σ B (.str a.shown) :=
  evd_cb0 (eda_cons h eda_nil) fun xs B1 H1 l dx Q k => by
    obtain ⟨x, rfl, hx⟩ := dpAll_inv1 dx
    obtain ⟨ys, e | e⟩ := hr
    · subst e
      obtain ⟨p, us, rfl, hs1, hd1⟩ := dp_list hx
      exact ⟨p, _, rfl, dpEx l hx, hs, hd, hp, hz, k _ (.str _)⟩
    · subst e
      obtain ⟨p, us, rfl, hs1, hd1⟩ := dp_tuple hx
      exact ⟨p, _, rfl, dpEx l hx, hs, hd, hp, hz, k _ (.str _)⟩
end
end Z

/-! Defs by name, calls of them, the law's own run (with what guards stand there). -/
namespace Z
open PySem PySem.Spec PyProof.Rows L2 Evl
abbrev FnP (K : PySem.W.Frag) (x : Str) (st : Stmt) (f : Addr) (fd : FuncData) : Prop := FunD K x x (defArgs st) (defBody st) (defScope st) [] [] f fd
/-- the def st of name x keeps the promise sp -/
def Def (P : Program) (w : World) (K : PySem.W.Frag) (mg : Str → Option Value) (base : Heap) (x : Str) (st : Stmt) (k : Nat) (ps : List Str) (sp : Sp) : Prop :=
  ∃ fd, mg x = some (.ref (He.ga K x)) ∧ FnP K x st (He.ga K x) fd ∧ Binds K fd ps [] ∧ FnOk P w K mg base CX0 k (He.ga K x) fd ps sp
/-- it stands there -/
def Std (K : PySem.W.Frag) (mg : Str → Option Value) (x : Str) (st : Stmt) (ps : List Str) : Prop := ∃ fd, mg x = some (.ref (He.ga K x)) ∧ FnP K x st (He.ga K x) fd ∧ Binds K fd ps []
section
variable {P : Program} {w : World} {K : PySem.W.Frag} {mg : Str → Option Value} {base : Heap} {x : Str} {st : Stmt} {ps N : List Str} {k n : Nat} {sp : Sp}
theorem Std.pure (D : Std K mg x st ps) (S : FnScope N ps (defScope st)) (F : List PyData → PyData → Prop) (hn : ps.length = n)
    (body : ∀ (f : Addr) (cdv : Value) (A : Around) (outer : List Env) (s : Shared) (H : Hp) (E : XK), Room k (A.deeper (envOfC x (defScope st) s.heap.objs.size f cdv)) →
      ∃ t, PSs (cxOf CX0 P w K mg base N x (defScope st) f cdv A outer s H E) (defBody st) t ∧
        ∀ (S : Addr → Prop) (B : Hp) (vs : List V) (ds : List PyData) (r : PyData) (Q : VK), Ok S B H → DpAll K B vs ds → ds.length = n → F ds r → (∀ v B2 H2, Ex H H2 → Ok S B2 H2 → Ex B B2 → Dp K B2 v r → Q v H2) →
          t { nx := fun _ H' => Q .non H', rt := Q } (start N vs) H) : Def P w K mg base x st (k + 1) ps (SpF K n F) := by
  obtain ⟨fd, hm, G, hb⟩ := D
  refine ⟨fd, hm, G, hb, G.ok S (fun vs H Q E h => h.len.trans hn.symm) fun cdv A outer s H vs Q E hr h => ?_⟩
  obtain ⟨S, B, ds, r, o, dv, hl, hF, kk⟩ := h
  obtain ⟨t, h1, h2⟩ := body (He.ga K x) cdv A outer s H E hr
  exact ⟨t, h1, h2 S B vs ds r Q o dv hl hF kk⟩
/-- a def with a promise of any kind -/
theorem Std.any (D : Std K mg x st ps) (S : FnScope N ps (defScope st)) (len : ∀ vs H Q E, sp vs H Q E → vs.length = ps.length)
    (body : ∀ (f : Addr) (cdv : Value) (A : Around) (outer : List Env) (s : Shared) (H : Hp) (vs : List V) (Q : VK) (E : XK), Room k (A.deeper (envOfC x (defScope st) s.heap.objs.size f cdv)) → sp vs H Q E →
      ∃ t, PSs (cxOf CX0 P w K mg base N x (defScope st) f cdv A outer s H E) (defBody st) t ∧ t { nx := fun _ H' => Q .non H', rt := Q } (start N vs) H) : Def P w K mg base x st (k + 1) ps sp := by
  obtain ⟨fd, hm, G, hb⟩ := D
  exact ⟨fd, hm, G, hb, G.ok S len fun cdv A outer s H vs Q E hr h => body (He.ga K x) cdv A outer s H vs Q E hr h⟩
end
section
variable {X : Cx} {x : Str} {st : Stmt} {k m : Nat} {ps : List Str} {sp : Sp} {e : Expr} {es : List Expr} {kws : List Keyword} {p pos : Pos} {t tk : TA} {CX : CXT}
theorem pe_callD (D : Def X.prog X.w X.K X.mg X.base x st k ps sp) (hr : Room m X.A) (hk : k ≤ m) (hg : Gl X x) (ha : PA X (e :: es) t)
    (hd : (x == ("__debug__" : Str)) = false := by decide) (he : starEach (e :: es) X.env = (false, eval e X.env) :: starEach es X.env := by rfl) (hpl : (backTo pos (starEach es X.env)).any (·.1) = false := by rfl) :
    PE X (.Call (.Name x p) (e :: es) [] pos) (tCall sp [] E0 t) := by
  obtain ⟨fd, hm, G, hb, F⟩ := D
  first
    | exact pe_call F (hr.mono hk) hg hm G.kp hb .nil pass0 ha hd he hpl
    | exact pe_call F (hr.mono hk) hg hm G.kp hb .nil pass0 ha
/-- keywords alone -/
theorem pe_callD0 {ks : List Str} {g : List Value → List Value → List Value} {gV : List V → List V → List V} (D : Def X.prog X.w X.K X.mg X.base x st k ps sp) (hr : Room m X.A) (hk : k ≤ m) (hg : Gl X x) (hb : ∀ fd, FnP X.K x st (He.ga X.K x) fd → KBinds X.K fd ps ks g gV) (hkw : PK X kws tk)
    (hall : (backToKw pos (keywordEach kws X.env)).all (·.1.isSome) = true := by rfl) (hks : (backToKw pos (keywordEach kws X.env)).filterMap (·.1) = ks := by rfl)
    (hdb : (x == ("__debug__" : Str)) = false := by decide) (hpl : ((backTo pos (starEach [] X.env)).any (·.1) || (backToKw pos (keywordEach kws X.env)).any (·.1.isNone)) = false := by rfl) :
    PE X (.Call (.Name x p) [] kws pos) (tCallK sp gV E0 tNil tk) := by
  obtain ⟨fd, hm, G, _, F⟩ := D
  refine ⟨fun pins s σ H Q I h => ?_⟩
  refine wpAny_Call_Name_kw (ld_glob I hg hm ?_ hdb)
  refine PySem.W.callWith_KW0 (h₀ := X.base) I.ok.mod.kin G.kp hall ?_ hpl
  have h' : tk σ H fun zs H2 => sp (gV [] zs) H2 Q E0 := h
  refine thn (hkw.run pos pins s σ H _ I h') fun ws s2 ⟨zs, H2, I2, rz, q2⟩ => ⟨I2.kIn, ?_⟩
  rw [hks]
  exact run_fnk F (hr.mono hk) (hb fd G) pass0 I2 .nil rz q2
theorem pe_globI {i : Int} {pos : Pos} (h : ∃ u, X.mg x = some (.int i u)) (hg : Gl X x) (hd : (x == ("__debug__" : Str)) = false := by decide) : PE X (.Name x pos) (tC (.int i)) := by
  obtain ⟨u, h⟩ := h
  exact pe_glob hg h ⟨u, rfl⟩ hd
theorem pe_globS {i : Str} {pos : Pos} (h : ∃ u, X.mg x = some (.str i u)) (hg : Gl X x) (hd : (x == ("__debug__" : Str)) = false := by decide) : PE X (.Name x pos) (tC (.str i)) := by
  obtain ⟨u, h⟩ := h
  exact pe_glob hg h ⟨u, rfl⟩ hd
/-- within a comprehension's block the written part must be told -/
theorem call_lenK {K : PySem.W.Frag} (h : X.K = K) : CallR X (.builtin "len") (fun xs H Q => ∃ p ys, xs = [.ref p] ∧ (SqL K H p ys ∨ SqT K H p ys) ∧ Q (.int ys.length) H) := by subst h; exact call_len_seq
theorem ix_listK {K : PySem.W.Frag} (h : X.K = K) : IxR X (rIxL K) := by subst h; exact ix_list
theorem ix_tupK {K : PySem.W.Frag} (h : X.K = K) : IxR X (rIxT K) := by subst h; exact ix_tup
theorem cr_minK {K : PySem.W.Frag} (h : X.K = K) (hc : X.calm = true) : CallR X (.builtin "min") (rMin K) := by subst h; exact cr_min hc
theorem cr_maxK {K : PySem.W.Frag} (h : X.K = K) (hc : X.calm = true) : CallR X (.builtin "max") (rMax K) := by subst h; exact cr_max hc
/-- isinstance(x, T), T a built-in class: x's data -/
def tyOfD : PyData → String
  | .none => "NoneType"
  | .bool _ => "bool"
  | .int _ => "int"
  | .str _ => "str"
  | .list _ => "list"
  | .tuple _ => "tuple"
  | .dict _ => "dict"
end
section
variable {K : PySem.W.Frag} {σ : L2.St} {B : Hp} {ta : TE} {d : PyData}
theorem tyX_of {H : Hp} {v : V} (h : Dp K H v d) : TyX K H v (.type (tyOfD d)) := by
  cases h with
  | non => exact .base .non
  | bl b => exact .base (.bl b)
  | int i => exact .base (.int i)
  | str x => exact .base (.str x)
  | lst hs _ =>
    rcases hs with (h | ⟨o, h⟩) | ⟨o, its, n, h, c, _⟩
    · exact .base (.lst h)
    · exact .base (.frz h)
    · exact .kList h c
  | tup hs _ =>
    rcases hs with (h | ⟨o, h⟩) | ⟨o, its, n, h, c, _⟩
    · exact .base (.tup h)
    · exact .fTuple h
    · exact .kTuple h c
theorem evd_isi {T : String} {b : Bool} (h : EvD K ta σ B d) (hk : kitB (tyOfD d) T = some b) : EvD K (tCB (rIsi K) (tCons ta (tCons (tC (.ty T)) tNil))) σ B (.bool b) := fun S H1 o Q k =>
  h S H1 o _ fun v B2 H2 q2 o2 b2 dv => ⟨v, .ty T, .type (tyOfD d), .type T, b, rfl, .ty T, tyX_of (dpEx o2.le dv), kit_ty hk, k _ B2 H2 q2 o2 b2 (.bl b)⟩
end
/-! ### the law's own run -/
section
variable {P : Program} {w : World} {K : PySem.W.Frag} {mg : Str → Option Value} {base : Heap}
/-- a def run at a given call -/
theorem run_def {x qual : Str} {params : Arguments} {body : List Stmt} {scope : Scope} {f : Addr} {fd : FuncData} {N ps : List Str} {k : Nat} {A : Around} {outer : List Env} {s : Shared} {H : Hp} {args : Args} {us : List Value} {vs : List V} {Q : VK} {E : XK}
    (G : FunD K x qual params body scope [] [] f fd) (S : FnScope N ps scope) (hl : vs.length = ps.length) (hr : Room (k + 1) A) (e0 : Env0 P w K mg base A outer s H) (hb : BindsTo s fd args (ps.zip us)) (r : Vals vs us)
    (go : ∀ cdv : Value, Room k (A.deeper (envOfC qual scope s.heap.objs.size f cdv)) → ∃ t, PSs (cxOf CX0 P w K mg base N qual scope f cdv A outer s H E) body t ∧ t { nx := fun _ H' => Q .non H', rt := Q } (start N vs) H) :
    codeAny (model P w) A (.call (.ref f) args) (CR CX0 outer P w H s Q E) s := by
  obtain ⟨oc, od, dV, kV, doc, pm, an, cdv, ct, osl, rfl, lk, hcd, _, _⟩ := G.ex
  have stay : ∀ b o, base.get? b = some o → s.heap.get? b = some o := fun b o q => (e0.bs b o q).1
  have KX : K.In s.heap := e0.mod.kin.keeps stay
  have places : ∀ y ∈ ps.zip us, scope.names.lookup y.1 = some .local ∨ (scope.names.lookup y.1 = some .cell ∧ ((cellsFrom (s.heap.objs.size + 1) scope.names []).lookup y.1).isSome = true) := by
    rintro ⟨n, v⟩ hy
    exact (S.par n (List.of_mem_zip hy).1).imp id fun q => ⟨q, PySem.W.cellsFrom_some _ _ _ (.inl q)⟩
  refine codeAny_call_function hr.depth (KX _ _ lk) rfl S.co S.gen rfl (PySem.W.codeRec_of KX hcd) (hb _ _ _ _ (wpAny_newFunctionEnv_cells S.kind places ?_))
  rintro env rfl s1 x1
  refine ⟨(e0.mod.nolimit.keeps stay).keeps x1.toInCall.keep, codeAny_func ?_⟩
  obtain ⟨t, ht, hq⟩ := go cdv (hr.deeper _)
  refine wpAny_mono (ht.run [] s1 (start N vs) H _ (inv_start S hr.hd e0 hl r x1) hq) (fun fl s' hs => ?_) fun e s' hs => hs
  cases fl with
  | ret u => exact let ⟨v, σ', H', J, rv, q⟩ := hs; ⟨v, H', J.os, J.bare, J.base, J.hok, rv, q⟩
  | next => exact let ⟨σ', H', J, q⟩ := hs; ⟨V.non, H', J.os, J.bare, J.base, J.hok, rfl, q⟩
  | brk => exact hs.elim fun _ h => h.elim fun _ h => h.2.elim
  | cont => exact hs.elim fun _ h => h.elim fun _ h => h.2.elim
/-- the law's call at the heap behind the top -/
theorem law_run {mb : Str → Option Value} {k : Nat} {fa a : Addr} {fd : FuncData} {st : Stmt} {N : List Str} {x nm : Str} {s₁ : Shared} {vs : List Value} {ns : List Int}
    (KX : K.In s₁.heap) (hns : s₁.heap.Ns mainGlobals mg) (hb : s₁.heap.Ns builtinsNs mb) (hbb : ∀ x : Str, x ≠ "__name__" → mb x = bootBuiltins x) (hlim : s₁.heap.NoLimit) (hg : s₁.gens = #[])
    (ha : s₁.heap.get? a = some { cls := .type "list", data := .seq vs.toArray }) (hi : IntsAre vs ns) (hl : ns.length ≤ sizeLine) (hr : Room (k + 1) callerA)
    (G : FnP K nm st fa fd) (S : FnScope N [x] (defScope st)) (hbind : ∀ (s : Shared) (u : Value), BindsTo s fd ⟨[u], []⟩ [(x, u)])
    (go : ∀ (base : Heap) (H : Hp) (cdv : Value), K.In base → base.Ns mainGlobals mg → Only H → SqL K H a (ns.map V.int) → Room k (callerA.deeper (envOfC nm (defScope st) s₁.heap.objs.size fa cdv)) →
      ∃ t, PSs (cxOf CX0 P w K mg base N nm (defScope st) fa cdv callerA [] s₁ H fun _ _ _ => False) (defBody st) t ∧ t { nx := fun _ _ => False, rt := fun v _ => v = .bl true } (start N [.ref a]) H) :
    codeAny (model P w) callerA (.call (.ref fa) ⟨[.ref a], []⟩) (fun r s' => r = .ok (.ret (.bool true)) ∧ OldK s₁.heap s'.heap ∧ s'.os = s₁.os ∧ AllBare s'.gens) s₁ := by
  have rv := vals_ints hi
  have ln := hi.length
  suffices main : ∀ H : Hp, Only H → SqL K H a (ns.map V.int) → HOk P w H s₁.heap → (∀ b, H b ≠ none → b = a ∧ K.lookup a = none) →
      codeAny (model P w) callerA (.call (.ref fa) ⟨[.ref a], []⟩) (fun r s' => r = .ok (.ret (.bool true)) ∧ OldK s₁.heap s'.heap ∧ s'.os = s₁.os ∧ AllBare s'.gens) s₁ by
    cases hk : K.lookup a with
    | some o =>
      have e := KX a o hk
      rw [ha] at e
      cases e
      exact main (fun _ => none) (fun _ => .inl rfl) (.inr ⟨_, vs.toArray, _, hk, rfl, rfl, rfl, by rw [List.size_toArray, ln]; exact hl, by simpa using rv⟩) (fun b u z => nomatch (show (none : Option HO) = some u from z)) fun b z => absurd rfl z
    | none =>
      let o1 : Obj := { cls := .type "list", data := .seq vs.toArray }
      let H1 : Hp := upd (fun _ => none) a (.frz o1 (.lst (ns.map V.int)))
      have h1 : H1 a = some (.frz o1 (.lst (ns.map V.int))) := upd_same
      have h2 : ∀ b, b ≠ a → H1 b = none := fun b q => upd_ne q
      refine main H1 (fun b => ?_) (.inl (.inr ⟨o1, h1⟩)) (fun b u z => ?_) fun b z => ?_
      · by_cases q : b = a
        · subst q; exact .inr ⟨_, _, h1⟩
        · exact .inl (h2 b q)
      · by_cases q : b = a
        · subst q
          rw [h1] at z
          cases z
          exact ⟨ha, by rw [List.length_map]; exact hl, vs, _, rv, ha⟩
        · rw [h2 b q] at z; cases z
      · by_cases q : b = a
        · exact ⟨q, hk⟩
        · exact absurd (h2 b q) z
  intro H hO hS hok hA
  -- what the law's run leaves alone: all but the script
  have away : ∀ {b : Addr} {o : Obj}, s₁.heap.get? b = some o → (∀ q : b = a, o = { cls := .type "list", data := .seq vs.toArray } → K.lookup a = none → False) → H b = none := fun {b o} e n => by
    cases q : H b with
    | none => rfl
    | some u =>
      obtain ⟨z, z2⟩ := hA b (by rw [q]; simp)
      subst z
      rw [ha] at e; cases e
      exact (n rfl rfl z2).elim
  have spaces : ∀ {b : Addr} {m : Str → Option Value}, s₁.heap.Ns b m → (hidT s₁.heap H).Ns b m := fun {b m} ⟨o, es, ep, e, d, r⟩ => ⟨o, es, ep, hidT_get e (away e fun _ z _ => by rw [z] at d; cases d), d, r⟩
  have Kb : K.In (hidT s₁.heap H) := fun b o e => hidT_get (KX b o e) (away (KX b o e) fun z _ z2 => by rw [z, z2] at e; cases e)
  have M : Mod K mg (hidT s₁.heap H) := ⟨Kb, spaces hns, ⟨mb, spaces hb, hbb⟩, let ⟨mc, h1, h2⟩ := hlim; ⟨mc, spaces h1, h2⟩⟩
  have e0 : Env0 P w K mg (hidT s₁.heap H) callerA [] s₁ H := ⟨rfl, M, fun b o e => of_hidT e, Nat.le_of_eq (hidT_size _ _), trivial, (fun b hb => absurd (show b ∈ ([] : List Addr) from hb) (by simp)), hok, .of_eq hg⟩
  refine codeAny_mono (run_def (Q := fun v _ => v = .bl true) (E := fun _ _ _ => False) (us := [.ref a]) (vs := [.ref a]) G S rfl hr e0 (hbind s₁ (.ref a)) (.cons rfl .nil) fun cdv hr' => ?_) fun r s' h => ?_
  · obtain ⟨t, h1, h2⟩ := go _ H cdv Kb (spaces hns) hO hS hr'
    refine ⟨t, h1, ?_⟩
    have e : ({ nx := fun _ H' => (fun (v : V) (_ : Hp) => v = .bl true) .non H', rt := fun v _ => v = .bl true } : Ends) = { nx := fun _ _ => False, rt := fun v _ => v = .bl true } := by
      have q : (V.non = V.bl true) = False := eq_false (by intro z; cases z)
      simp only [q]
    rw [e]
    exact h2
  · match r, h with
    | .error e, h => exact h.elim
    | .ok (.ret u), ⟨v, H', os, bare, un, hok', r', q⟩ =>
      subst q
      cases (show u = Value.bool true from r')
      refine ⟨rfl, OldK.of_keep fun b o e => ?_, os, bare⟩
      cases q : H b with
      | none => exact un.keep b o e q (fun z => nomatch z) (fun z => nomatch z)
      | some u =>
        rcases hO b with z | ⟨ob, xs, z⟩
        · rw [q] at z; cases z
        · have z2 := (hok b _ z).1
          have z3 := (hok' b _ (un.frzs b ob _ z)).1
          rw [e] at z2; cases z2
          exact z3
end
theorem law_end {l : PySem.W.OpenLaw} {n k : Nat} {q : Program} {loose : List Str} {XP : (Str → Option Value) → Heap → Prop} {YP : World → Heap → Prop} {d : DefRec} {st : Stmt} {N : List Str} {x nm : Str}
    (hn : l.most = some n) (hn2 : n ≤ sizeLine) (hdf : d.params.defaults = []) (hr : Room (k + 1) callerA) (S : FnScope N [x] (defScope st))
    (F : ∀ (w : World) (mg : Str → Option Value) (fa : Addr) (h : Heap), YP w h → h.Ns mainGlobals mg → mg d.name = some (.ref fa) → ∃ (K : PySem.W.Frag) (fd : FuncData), K.In h ∧ FnP K nm st fa fd ∧ (∀ (s : Shared) (u : Value), BindsTo s fd ⟨[u], []⟩ [(x, u)]) ∧
      ∀ (base : Heap) (a : Addr) (ns : List Int) (H : Hp) (s : Shared) (cdv : Value), ns.length ≤ n → K.In base → base.Ns mainGlobals mg → Only H → SqL K H a (ns.map V.int) → Room k (callerA.deeper (envOfC nm (defScope st) s.heap.objs.size fa cdv)) →
        ∃ t, PSs (cxOf CX0 l.prog w K mg base N nm (defScope st) fa cdv callerA [] s H fun _ _ _ => False) (defBody st) t ∧ t { nx := fun _ _ => False, rt := fun v _ => v = .bl true } (start N [.ref a]) H) :
    PySem.W.WalkO q loose XP YP l.row.toRowW d [] (fun f vs => PySem.call f vs) := by
  refine Att.attach_call hn hdf fun w s₀ s₁ mg mb fa o pm cd doc a vs ns G Y ho hd hcd hmg hobj hints hlen hg => ?_
  obtain ⟨K, fd, KX, G1, hb, go⟩ := F w mg fa _ Y G.T.g hmg
  exact law_run KX G.T.g G.T.b G.T.builtins G.T.nolimit hg hobj hints (Nat.le_trans hlen hn2) hr G1 S hb fun base H cdv h1 h2 h3 h4 h5 => go base a ns H s₁ cdv hlen h1 h2 h3 h4 h5
end Z

/-! The clocks' mathematics, in plain Lean. -/
namespace M
abbrev Bk := List (List Int)
abbrev Stt := Nat × Nat
structure GoodB (b : Bk) : Prop where
  n1 : 1 ≤ b.length
  n3 : b.length ≤ 3
  c1 : ∀ c ∈ b, 1 ≤ c.length
  c24 : ∀ c ∈ b, c.length ≤ 24
  v0 : ∀ c ∈ b, ∀ x ∈ c, 0 ≤ x
  v99 : ∀ c ∈ b, ∀ x ∈ c, x ≤ 99
def clk (b : Bk) (i : Nat) : List Int := b.getD i []
structure GoodS (b : Bk) (s : Stt) : Prop where
  c : s.1 < b.length
  m : s.2 < (clk b s.1).length
structure GoodL (l : Int × Int) : Prop where
  a0 : 0 ≤ l.1
  a1 : l.1 ≤ 10 ^ 30
  b0 : 0 ≤ l.2
  b1 : l.2 ≤ 10 ^ 30
def stk (b : Bk) (s : Stt) (k : Nat) : Int := (clk b s.1).getD ((s.2 + k) % (clk b s.1).length) 0
def len (b : Bk) (s : Stt) : Nat := (clk b s.1).length
def rnd (b : Bk) (s o : Stt) : Nat := Nat.lcm (len b s) (len b o)
def ov (b : Bk) (s o : Stt) : Nat → Int
  | 0 => 0
  | k + 1 => ov b s o k + max 0 (stk b s k - stk b o k)
def Same (b : Bk) (s o : Stt) : Prop := ∀ k, stk b s k = stk b o k
def starts (b : Bk) : List Stt := ((List.range b.length).map fun i => (List.range (clk b i).length).map fun m => (i, m)).flatten
section
variable {b : Bk} {s o : Stt}
theorem GoodB.clk_mem {i : Nat} (h : i < b.length) : clk b i ∈ b := by
  unfold clk
  rw [List.getD_eq_getElem?_getD, List.getElem?_eq_getElem h]
  exact List.getElem_mem h
theorem mem_starts : s ∈ starts b ↔ GoodS b s := by
  unfold starts
  rw [List.mem_flatten]
  constructor
  · rintro ⟨l, hl, hs⟩
    obtain ⟨i, hi, rfl⟩ := List.mem_map.mp hl
    obtain ⟨m, hm, rfl⟩ := List.mem_map.mp hs
    exact ⟨List.mem_range.mp hi, List.mem_range.mp hm⟩
  · intro g
    exact ⟨_, List.mem_map.mpr ⟨s.1, List.mem_range.mpr g.c, rfl⟩, List.mem_map.mpr ⟨s.2, List.mem_range.mpr g.m, rfl⟩⟩
theorem GoodS.pos (g : GoodS b s) : 0 < len b s := Nat.lt_of_le_of_lt (Nat.zero_le _) g.m
theorem GoodS.le24 (G : GoodB b) (g : GoodS b s) : len b s ≤ 24 := G.c24 _ (GoodB.clk_mem g.c)
theorem stk_mem (g : GoodS b s) (k : Nat) : stk b s k ∈ clk b s.1 := by
  unfold stk
  have h : (s.2 + k) % (clk b s.1).length < (clk b s.1).length := Nat.mod_lt _ g.pos
  rw [List.getD_eq_getElem?_getD, List.getElem?_eq_getElem h]
  exact List.getElem_mem h
theorem stk_get (g : GoodS b s) (k : Nat) : (clk b s.1)[(s.2 + k) % (clk b s.1).length]? = some (stk b s k) := by
  unfold stk
  have h : (s.2 + k) % (clk b s.1).length < (clk b s.1).length := Nat.mod_lt _ g.pos
  rw [List.getD_eq_getElem?_getD, List.getElem?_eq_getElem h]
  rfl
theorem stk_ge (G : GoodB b) (g : GoodS b s) (k : Nat) : 0 ≤ stk b s k := G.v0 _ (GoodB.clk_mem g.c) _ (stk_mem g k)
theorem stk_le (G : GoodB b) (g : GoodS b s) (k : Nat) : stk b s k ≤ 99 := G.v99 _ (GoodB.clk_mem g.c) _ (stk_mem g k)
theorem stk_add {R : Nat} (h : len b s ∣ R) (k : Nat) : stk b s (k + R) = stk b s k := by
  unfold stk
  obtain ⟨q, rfl⟩ := h
  unfold len
  rw [show s.2 + (k + (clk b s.1).length * q) = (s.2 + k) + (clk b s.1).length * q by omega, Nat.add_mul_mod_self_left]
theorem stk_addm {R : Nat} (h : len b s ∣ R) (k q : Nat) : stk b s (k + q * R) = stk b s k := stk_add (Nat.dvd_trans h (Nat.dvd_mul_left R q)) k
theorem rnd_l : len b s ∣ rnd b s o := Nat.dvd_lcm_left _ _
theorem rnd_r : len b o ∣ rnd b s o := Nat.dvd_lcm_right _ _
theorem rnd_comm : rnd b s o = rnd b o s := Nat.lcm_comm _ _
theorem rnd_pos (g : GoodS b s) (h : GoodS b o) : 0 < rnd b s o := Nat.lcm_pos g.pos h.pos
theorem rnd_le (G : GoodB b) (g : GoodS b s) (h : GoodS b o) : rnd b s o ≤ 576 := by
  have h1 : rnd b s o ≤ len b s * len b o := Nat.le_of_dvd (Nat.mul_pos g.pos h.pos) (Nat.lcm_dvd (Nat.dvd_mul_right _ _) (Nat.dvd_mul_left _ _))
  have h2 : len b s * len b o ≤ 24 * 24 := Nat.mul_le_mul (g.le24 G) (h.le24 G)
  omega
/-! ### the sums -/
theorem ov_mono1 (k : Nat) : ov b s o k ≤ ov b s o (k + 1) := by
  show ov b s o k ≤ ov b s o k + max 0 (stk b s k - stk b o k)
  omega
theorem ov_mono {i j : Nat} (h : i ≤ j) : ov b s o i ≤ ov b s o j := by
  induction j with
  | zero => rw [Nat.le_zero.mp h]; exact Int.le_refl _
  | succ j ih =>
    by_cases e : i = j + 1
    · rw [e]; exact Int.le_refl _
    · exact Int.le_trans (ih (by omega)) (ov_mono1 j)
theorem ov_nonneg (k : Nat) : 0 ≤ ov b s o k := ov_mono (i := 0) (Nat.zero_le k)
theorem ov_le (G : GoodB b) (g : GoodS b s) (h : GoodS b o) (k : Nat) : ov b s o k ≤ 99 * k := by
  induction k with
  | zero => exact Int.le_refl _
  | succ k ih =>
    have h1 := stk_le G g k
    have h2 := stk_ge G h k
    show ov b s o k + max 0 (stk b s k - stk b o k) ≤ _
    omega
theorem ov_add {R : Nat} (h1 : len b s ∣ R) (h2 : len b o ∣ R) (t : Nat) : ov b s o (R + t) = ov b s o R + ov b s o t := by
  induction t with
  | zero => show ov b s o R = ov b s o R + 0; omega
  | succ t ih =>
    show ov b s o (R + t) + max 0 (stk b s (R + t) - stk b o (R + t)) = ov b s o R + (ov b s o t + max 0 (stk b s t - stk b o t))
    rw [ih, Nat.add_comm R t, stk_add h1, stk_add h2]
    omega
theorem ov_mul {R : Nat} (h1 : len b s ∣ R) (h2 : len b o ∣ R) (q t : Nat) : ov b s o (q * R + t) = q * ov b s o R + ov b s o t := by
  induction q with
  | zero => rw [Nat.zero_mul, Nat.zero_add]; show _ = (0 : Int) * _ + _; omega
  | succ q ih =>
    rw [show (q + 1) * R + t = R + (q * R + t) by rw [Nat.add_mul, Nat.one_mul]; omega, ov_add h1 h2, ih]
    have e : ((q + 1 : Nat) : Int) * ov b s o R = q * ov b s o R + ov b s o R := by
      rw [Int.natCast_add, Int.add_mul]; simp
    omega
theorem same_iff_ov {R : Nat} (g : GoodS b s) (h : GoodS b o) (hR : 0 < R) (h1 : len b s ∣ R) (h2 : len b o ∣ R) : Same b s o ↔ ov b s o R = 0 ∧ ov b o s R = 0 := by
  constructor
  · intro q
    have z : ∀ k, ov b s o k = 0 := fun k => by
      induction k with
      | zero => rfl
      | succ k ih =>
        show ov b s o k + max 0 (stk b s k - stk b o k) = 0
        rw [ih, q k]; omega
    have z2 : ∀ k, ov b o s k = 0 := fun k => by
      induction k with
      | zero => rfl
      | succ k ih =>
        show ov b o s k + max 0 (stk b o k - stk b s k) = 0
        rw [ih, q k]; omega
    exact ⟨z R, z2 R⟩
  · rintro ⟨q1, q2⟩ k
    have e1 : stk b s (k % R) = stk b s k := by
      have := stk_addm h1 (k % R) (k / R)
      rw [← this, Nat.mul_comm, Nat.mod_add_div]
    have e2 : stk b o (k % R) = stk b o k := by
      have := stk_addm h2 (k % R) (k / R)
      rw [← this, Nat.mul_comm, Nat.mod_add_div]
    rw [← e1, ← e2]
    have hk : k % R < R := Nat.mod_lt _ hR
    have a1 : ov b s o (k % R + 1) ≤ ov b s o R := ov_mono hk
    have a2 : ov b o s (k % R + 1) ≤ ov b o s R := ov_mono hk
    have b1 : ov b s o (k % R + 1) = ov b s o (k % R) + max 0 (stk b s (k % R) - stk b o (k % R)) := rfl
    have b2 : ov b o s (k % R + 1) = ov b o s (k % R) + max 0 (stk b o (k % R) - stk b s (k % R)) := rfl
    have c1 := ov_nonneg (b := b) (s := s) (o := o) (k % R)
    have c2 := ov_nonneg (b := b) (s := o) (o := s) (k % R)
    omega
theorem Same.symm (h : Same b s o) : Same b o s := fun k => (h k).symm
/-! ### the same by one round -/
def sameB (b : Bk) (s o : Stt) : Bool := (List.range (rnd b s o)).all fun k => decide (stk b s k = stk b o k)
theorem same_of_round {R : Nat} (hR : 0 < R) (h1 : len b s ∣ R) (h2 : len b o ∣ R) : ((List.range R).all fun k => decide (stk b s k = stk b o k)) = true ↔ Same b s o := by
  rw [List.all_eq_true]
  constructor
  · intro h k
    have e1 : stk b s (k % R) = stk b s k := by
      have := stk_addm h1 (k % R) (k / R)
      rw [← this, Nat.mul_comm, Nat.mod_add_div]
    have e2 : stk b o (k % R) = stk b o k := by
      have := stk_addm h2 (k % R) (k / R)
      rw [← this, Nat.mul_comm, Nat.mod_add_div]
    rw [← e1, ← e2]
    exact of_decide_eq_true (h _ (List.mem_range.mpr (Nat.mod_lt _ hR)))
  · intro h k _
    exact decide_eq_true (h k)
theorem sameB_iff (g : GoodS b s) (h : GoodS b o) : sameB b s o = true ↔ Same b s o := same_of_round (rnd_pos g h) rnd_l rnd_r
/-! ### the longest -/
/-- f's greatest place with f ≤ m, by whole rounds of R -/
def reachF (f : Nat → Int) (R : Nat) (m : Int) : Option Int := if f R = 0 then none else some ((m / f R) * R + (((List.range R).filter fun k => decide (f (k + 1) ≤ m - (m / f R) * f R)).length : Nat))
structure Per (f : Nat → Int) (R : Nat) : Prop where
  pos : 0 < R
  mono : ∀ i j, i ≤ j → f i ≤ f j
  zero : f 0 = 0
  mul : ∀ q t : Nat, f (q * R + t) = q * f R + f t
theorem filter_len {p : Nat → Bool} : ∀ (n c : Nat), c ≤ n → (∀ k, k < n → (p k = true ↔ k < c)) → ((List.range n).filter p).length = c
  | 0, c, hc, _ => by rw [Nat.le_zero.mp hc]; rfl
  | n + 1, c, hc, h => by
    rw [List.range_succ, List.filter_append, List.length_append]
    by_cases e : c = n + 1
    · have ih := filter_len n n (Nat.le_refl _) fun k hk => ⟨fun _ => hk, fun _ => (h k (by omega)).mpr (by omega)⟩
      rw [ih, List.filter_cons, if_pos ((h n (by omega)).mpr (by omega))]
      simp only [List.filter_nil, List.length_cons, List.length_nil]; omega
    · have ih := filter_len n c (by omega) fun k hk => h k (by omega)
      rw [ih, List.filter_cons, if_neg fun q => by have := (h n (by omega)).mp q; omega]
      rfl
/-- how many places behind a monotone f's start are within a bound -/
theorem count_mono (f : Nat → Int) (hm : ∀ i j, i ≤ j → f i ≤ f j) (R : Nat) (m : Int) (h0 : f 0 ≤ m) : ∃ c, c ≤ R ∧ ((List.range R).filter fun k => decide (f (k + 1) ≤ m)).length = c ∧ f c ≤ m ∧ (c < R → m < f (c + 1)) := by
  induction R with
  | zero => exact ⟨0, Nat.le_refl _, rfl, h0, fun h => absurd h (Nat.lt_irrefl _)⟩
  | succ R ih =>
    obtain ⟨c, hc, e, h1, h2⟩ := ih
    rw [List.range_succ, List.filter_append, List.length_append, e, List.filter_cons]
    by_cases q : f (R + 1) ≤ m
    · have ec : c = R := by
        apply Nat.le_antisymm hc
        apply Nat.le_of_not_lt
        intro hlt
        have := h2 hlt
        have := hm (c + 1) (R + 1) (by omega)
        omega
      subst ec
      rw [if_pos (decide_eq_true q)]
      exact ⟨c + 1, Nat.le_refl _, rfl, q, fun h => absurd h (Nat.lt_irrefl _)⟩
    · rw [if_neg (fun h => q (of_decide_eq_true h))]
      refine ⟨c, by omega, rfl, h1, fun h => ?_⟩
      by_cases hcR : c < R
      · exact h2 hcR
      · have ec : c = R := by omega
        rw [ec]; omega
theorem reach_spec {f : Nat → Int} {R : Nat} (P : Per f R) {m : Int} (hm : 0 ≤ m) (h : f R ≠ 0) : ∃ N : Nat, reachF f R m = some (N : Int) ∧ f N ≤ m ∧ m < f (N + 1) := by
  have hR : 0 < f R := by have := P.mono 0 R (Nat.zero_le _); have := P.zero; omega
  have hq : 0 ≤ m / f R := Int.ediv_nonneg hm (Int.le_of_lt hR)
  obtain ⟨q, hq'⟩ : ∃ q : Nat, m / f R = (q : Int) := ⟨(m / f R).toNat, by omega⟩
  have hd := Int.emod_add_mul_ediv m (f R)
  have hr0 := Int.emod_nonneg m h
  have hr1 := Int.emod_lt_of_pos m hR
  rw [hq'] at hd
  have hd' : f R * (q : Int) = (q : Int) * f R := Int.mul_comm _ _
  obtain ⟨c, hc, e, h1, h2⟩ := count_mono f P.mono R (m - (q : Int) * f R) (by rw [P.zero]; omega)
  have hcR : c < R := by
    apply Nat.lt_of_le_of_ne hc
    intro z
    rw [z] at h1
    omega
  refine ⟨q * R + c, ?_, ?_, ?_⟩
  · unfold reachF
    rw [if_neg h, hq', e]
    simp
  · rw [P.mul]; omega
  · rw [Nat.add_assoc, P.mul]
    have := h2 hcR
    omega
theorem per_ov {R : Nat} (hR : 0 < R) (h1 : len b s ∣ R) (h2 : len b o ∣ R) : Per (ov b s o) R := ⟨hR, fun _ _ h => ov_mono h, rfl, ov_mul h1 h2⟩
def minO : Option Int → Option Int → Option Int
  | none, y => y
  | x, none => x
  | some x, some y => some (min x y)
/-- the LONGEST of two starts by a loss with the sum m -/
def lgF (b : Bk) (m : Int) (s o : Stt) : Option Int := minO (reachF (ov b s o) (rnd b s o) m) (reachF (ov b o s) (rnd b o s) m)
/-- what a LONGEST is -/
def IsLg (b : Bk) (m : Int) (s o : Stt) (r : Option Int) : Prop := (r = none ∧ Same b s o) ∨ (¬ Same b s o ∧ ∃ N : Nat, r = some (N : Int) ∧ ov b s o N ≤ m ∧ ov b o s N ≤ m ∧ (m < ov b s o (N + 1) ∨ m < ov b o s (N + 1)))
theorem lgF_is (g : GoodS b s) (h : GoodS b o) {m : Int} (hm : 0 ≤ m) : IsLg b m s o (lgF b m s o) := by
  have P1 := per_ov (rnd_pos g h) (rnd_l (b := b) (s := s) (o := o)) rnd_r
  have P2 := per_ov (rnd_pos h g) (rnd_l (b := b) (s := o) (o := s)) rnd_r
  have hs := same_iff_ov g h (rnd_pos g h) rnd_l rnd_r
  have ec : rnd b o s = rnd b s o := rnd_comm
  unfold lgF
  by_cases z1 : ov b s o (rnd b s o) = 0
  · have e1 : reachF (ov b s o) (rnd b s o) m = none := if_pos z1
    rw [e1]
    by_cases z2 : ov b o s (rnd b o s) = 0
    · have e2 : reachF (ov b o s) (rnd b o s) m = none := if_pos z2
      rw [e2]
      exact .inl ⟨rfl, hs.mpr ⟨z1, by rw [← ec]; exact z2⟩⟩
    · obtain ⟨N, e2, q1, q2⟩ := reach_spec P2 hm z2
      rw [e2]
      refine .inr ⟨fun q => z2 (by rw [ec]; exact (hs.mp q).2), N, rfl, ?_, q1, .inr q2⟩
      have k1 := P1.mul N 0
      have k2 : ov b s o N ≤ ov b s o (N * rnd b s o + 0) := ov_mono (by have := Nat.le_mul_of_pos_right N P1.pos; omega)
      rw [k1, z1, Int.mul_zero] at k2
      have k3 : ov b s o 0 = 0 := rfl
      omega
  · obtain ⟨N, e1, p1, p2⟩ := reach_spec P1 hm z1
    rw [e1]
    by_cases z2 : ov b o s (rnd b o s) = 0
    · have e2 : reachF (ov b o s) (rnd b o s) m = none := if_pos z2
      rw [e2]
      refine .inr ⟨fun q => z1 (hs.mp q).1, N, rfl, p1, ?_, .inl p2⟩
      have k1 := P2.mul N 0
      have k2 : ov b o s N ≤ ov b o s (N * rnd b o s + 0) := ov_mono (by have := Nat.le_mul_of_pos_right N P2.pos; omega)
      rw [k1, z2, Int.mul_zero] at k2
      have k3 : ov b o s 0 = 0 := rfl
      omega
    · obtain ⟨N', e2, q1, q2⟩ := reach_spec P2 hm z2
      rw [e2]
      refine .inr ⟨fun q => z1 (hs.mp q).1, ?_⟩
      by_cases hNN : N ≤ N'
      · refine ⟨N, congrArg some (by omega), p1, Int.le_trans (ov_mono hNN) q1, .inl p2⟩
      · refine ⟨N', congrArg some (by omega), Int.le_trans (ov_mono (by omega)) p1, q1, .inr q2⟩
theorem IsLg.uniq {m : Int} {r r' : Option Int} (h : IsLg b m s o r) (h' : IsLg b m s o r') : r = r' := by
  rcases h with ⟨rfl, e⟩ | ⟨e, N, rfl, a1, a2, a3⟩
  · rcases h' with ⟨rfl, _⟩ | ⟨e', _⟩
    · rfl
    · exact absurd e e'
  · rcases h' with ⟨_, e'⟩ | ⟨_, N', rfl, c1, c2, c3⟩
    · exact absurd e' e
    · have h1 : ¬ N < N' := fun q => by
        have k1 : ov b s o (N + 1) ≤ ov b s o N' := ov_mono q
        have k2 : ov b o s (N + 1) ≤ ov b o s N' := ov_mono q
        omega
      have h2 : ¬ N' < N := fun q => by
        have k1 : ov b s o (N' + 1) ≤ ov b s o N := ov_mono q
        have k2 : ov b o s (N' + 1) ≤ ov b o s N := ov_mono q
        omega
      have : N = N' := by omega
      rw [this]
/-! ### the greatest -/
def maxL (xs : List Int) : Int := xs.foldl max 0
theorem maxL_ge : ∀ (xs : List Int) (a : Int), a ≤ xs.foldl max a ∧ ∀ x ∈ xs, x ≤ xs.foldl max a
  | [], a => ⟨Int.le_refl _, fun x hx => by cases hx⟩
  | y :: ys, a => by
    obtain ⟨h1, h2⟩ := maxL_ge ys (max a y)
    refine ⟨Int.le_trans (Int.le_max_left _ _) h1, fun x hx => ?_⟩
    rcases List.mem_cons.mp hx with e | hx
    · subst e; exact Int.le_trans (Int.le_max_right _ _) h1
    · exact h2 x hx
theorem maxL_mem : ∀ (xs : List Int) (a : Int), xs.foldl max a = a ∨ xs.foldl max a ∈ xs
  | [], a => .inl rfl
  | y :: ys, a => by
    rw [List.foldl_cons]
    rcases maxL_mem ys (max a y) with h | h
    · rw [h]
      by_cases q : a ≤ y
      · rw [Int.max_eq_right q]; exact .inr List.mem_cons_self
      · rw [Int.max_eq_left (by omega)]; exact .inl rfl
    · exact .inr (List.mem_cons_of_mem _ h)
/-- the WAIT of a start -/
def wF (b : Bk) (m : Int) (s : Stt) : Int := maxL (((starts b).filterMap (lgF b m s)).map fun x => 1 + x)
/-- the WORST WAIT -/
def wwF (b : Bk) (m : Int) : Int := maxL ((starts b).map (wF b m))
theorem wF_nonneg {m : Int} : 0 ≤ wF b m s := (maxL_ge _ 0).1
theorem lg_nonneg (g : GoodS b s) (h : GoodS b o) {m x : Int} (hm : 0 ≤ m) (e : lgF b m s o = some x) : 0 ≤ x := by
  rcases lgF_is g h hm with ⟨z, _⟩ | ⟨_, N, z, _⟩
  · rw [z] at e; cases e
  · rw [z] at e; cases e; omega
theorem starts_ne (G : GoodB b) : starts b ≠ [] := fun e => by
  have h : ((0, 0) : Stt) ∈ starts b := mem_starts.mpr ⟨G.n1, G.c1 _ (GoodB.clk_mem (show 0 < b.length from G.n1))⟩
  rw [e] at h; cases h
/-- the WORST WAIT within n: each two starts that are not the same part by then -/
theorem ww_le_iff {m : Int} (hm : 0 ≤ m) (n : Nat) : wwF b m ≤ n ↔ ∀ s o, GoodS b s → GoodS b o → ¬ Same b s o → m < max (ov b s o n) (ov b o s n) := by
  have h1 : wwF b m ≤ n ↔ ∀ s, GoodS b s → wF b m s ≤ n := by
    unfold wwF maxL
    constructor
    · intro h s g
      exact Int.le_trans ((maxL_ge _ 0).2 _ (List.mem_map.mpr ⟨s, mem_starts.mpr g, rfl⟩)) h
    · intro h
      rcases maxL_mem ((starts b).map (wF b m)) 0 with e | e
      · rw [e]; omega
      · obtain ⟨s, hs, e2⟩ := List.mem_map.mp e
        rw [← e2]; exact h s (mem_starts.mp hs)
  have h2 : ∀ s, GoodS b s → (wF b m s ≤ n ↔ ∀ o, GoodS b o → ¬ Same b s o → m < max (ov b s o n) (ov b o s n)) := by
    intro s g
    unfold wF maxL
    constructor
    · intro h o go hne
      rcases lgF_is g go hm with ⟨_, e⟩ | ⟨_, N, e, a1, a2, a3⟩
      · exact absurd e hne
      · have hx : 1 + (N : Int) ≤ n := Int.le_trans ((maxL_ge _ 0).2 _ (List.mem_map.mpr ⟨(N : Int), List.mem_filterMap.mpr ⟨o, mem_starts.mpr go, e⟩, rfl⟩)) h
        have k1 : ov b s o (N + 1) ≤ ov b s o n := ov_mono (by omega)
        have k2 : ov b o s (N + 1) ≤ ov b o s n := ov_mono (by omega)
        omega
    · intro h
      rcases maxL_mem (((starts b).filterMap (lgF b m s)).map fun x => 1 + x) 0 with e | e
      · rw [e]; omega
      · obtain ⟨x, hx, e2⟩ := List.mem_map.mp e
        obtain ⟨o, ho, e3⟩ := List.mem_filterMap.mp hx
        rw [← e2]
        have go := mem_starts.mp ho
        rcases lgF_is g go hm with ⟨z, _⟩ | ⟨hne, N, z, a1, a2, a3⟩
        · rw [z] at e3; cases e3
        · rw [z] at e3; cases e3
          have q := h o go hne
          apply Int.le_of_not_gt
          intro w
          have k1 : ov b s o n ≤ ov b s o N := ov_mono (by omega)
          have k2 : ov b o s n ≤ ov b o s N := ov_mono (by omega)
          omega
  rw [h1]
  exact ⟨fun h s o g go hne => (h2 s g).mp (h s g) o go hne, fun h s g => (h2 s g).mpr fun o go hne => h s o g go hne⟩
/-! ### the tolerance -/
def mo (b : Bk) (n : Nat) (s o : Stt) : Int := max (ov b s o n) (ov b o s n) - 1
def IsTol (b : Bk) (n : Nat) (t : Option Int) : Prop :=
  (t = none ∧ ∀ s o, GoodS b s → GoodS b o → Same b s o) ∨ ∃ x, t = some x ∧ (∃ s o, GoodS b s ∧ GoodS b o ∧ ¬ Same b s o ∧ x = mo b n s o) ∧ ∀ s o, GoodS b s → GoodS b o → ¬ Same b s o → x ≤ mo b n s o
theorem mo_comm {n : Nat} : mo b n s o = mo b n o s := by unfold mo; omega
theorem tol_ge {n : Nat} {x : Int} (h : IsTol b n (some x)) : -1 ≤ x := by
  rcases h with ⟨e, _⟩ | ⟨x', e, ⟨s, o, _, _, _, z⟩, _⟩
  · cases e
  · cases e
    have := ov_nonneg (b := b) (s := s) (o := o) n
    rw [z]; unfold mo; omega
theorem tol_le (G : GoodB b) {n : Nat} {x : Int} (h : IsTol b n (some x)) : x ≤ 99 * n - 1 := by
  rcases h with ⟨e, _⟩ | ⟨x', e, ⟨s, o, g, go, _, z⟩, _⟩
  · cases e
  · cases e
    have := ov_le G g go n
    have := ov_le G go g n
    rw [z]; unfold mo; omega
/-- with the tolerance the worst wait is within, with one more it is not -/
theorem tol_in {n : Nat} {x : Int} (h : IsTol b n (some x)) (hx : 0 ≤ x) : wwF b x ≤ n := by
  rw [ww_le_iff hx]
  intro s o g go hne
  rcases h with ⟨e, _⟩ | ⟨x', e, _, q⟩
  · cases e
  · cases e
    have := q s o g go hne
    unfold mo at this; omega
theorem tol_out {n : Nat} {x : Int} (h : IsTol b n (some x)) : ¬ wwF b (x + 1) ≤ n := by
  have h0 := tol_ge h
  rw [ww_le_iff (by omega)]
  intro q
  rcases h with ⟨e, _⟩ | ⟨x', e, ⟨s, o, g, go, hne, z⟩, _⟩
  · cases e
  · cases e
    have := q s o g go hne
    unfold mo at z; omega
/-- the tolerance from a list of the pairs' numbers -/
theorem tol_of_list {n : Nat} (xs : List Int) (h1 : ∀ x ∈ xs, ∃ s o, GoodS b s ∧ GoodS b o ∧ ¬ Same b s o ∧ x = mo b n s o) (h2 : ∀ s o, GoodS b s → GoodS b o → ¬ Same b s o → mo b n s o ∈ xs) {t : Option Int} (ht : IsTol b n t) :
    (xs = [] → t = none) ∧ ∀ m, m ∈ xs → (∀ y, y ∈ xs → m ≤ y) → t = some m := by
  constructor
  · intro e
    rcases ht with ⟨q, _⟩ | ⟨x, q, ⟨s, o, g, go, hne, z⟩, _⟩
    · exact q
    · have := h2 s o g go hne
      rw [e] at this; cases this
  · intro m hm hle
    obtain ⟨s, o, g, go, hne, e⟩ := h1 m hm
    rcases ht with ⟨_, q⟩ | ⟨x, q, ⟨s', o', g', go', hne', z'⟩, q2⟩
    · exact absurd (q s o g go) hne
    · have a1 : x ≤ m := by rw [e]; exact q2 s o g go hne
      have a2 : m ≤ x := by rw [z']; exact hle _ (h2 s' o' g' go' hne')
      rw [q]; congr 1; omega
/-- the pairs gone through: those of the first i, and i's own first j -/
structure TolUp (b : Bk) (n i j : Nat) (xs : List Int) : Prop where
  of : ∀ x ∈ xs, ∃ s o, GoodS b s ∧ GoodS b o ∧ ¬ Same b s o ∧ x = mo b n s o
  to : ∀ (p q : Nat) (s o : Stt), (starts b)[p]? = some s → (starts b)[q]? = some o → p < q → (p < i ∨ (p = i ∧ q < i + 1 + j)) → ¬ Same b s o → mo b n s o ∈ xs
theorem TolUp.zero {n : Nat} : TolUp b n 0 0 [] := ⟨fun x hx => (nomatch hx), fun p q s o _ _ h1 h2 _ => by omega⟩
theorem TolUp.next {n i : Nat} {xs : List Int} (h : TolUp b n i ((starts b).length - (i + 1)) xs) (hi : i < (starts b).length) : TolUp b n (i + 1) 0 xs :=
  ⟨h.of, fun p q s o e1 e2 h1 h2 => h.to p q s o e1 e2 h1 (by have := (List.getElem?_eq_some_iff.mp e2).1; omega)⟩
theorem TolUp.yes {n i j : Nat} {xs : List Int} (h : TolUp b n i j xs) (hi : i < (starts b).length) (hj : i + 1 + j < (starts b).length) (hne : ¬ Same b (starts b)[i] (starts b)[i + 1 + j]) : TolUp b n i (j + 1) (xs ++ [mo b n (starts b)[i] (starts b)[i + 1 + j]]) := by
  refine ⟨fun x hx => ?_, fun p q s o e1 e2 h1 h2 hn => ?_⟩
  · rcases List.mem_append.mp hx with hx | hx
    · exact h.of x hx
    · exact ⟨_, _, mem_starts.mp (List.getElem_mem hi), mem_starts.mp (List.getElem_mem hj), hne, List.mem_singleton.mp hx⟩
  · by_cases z : p = i ∧ q = i + 1 + j
    · obtain ⟨rfl, rfl⟩ := z
      rw [List.getElem?_eq_getElem hi] at e1
      rw [List.getElem?_eq_getElem hj] at e2
      cases e1; cases e2
      exact List.mem_append_right _ (List.mem_singleton.mpr rfl)
    · exact List.mem_append_left _ (h.to p q s o e1 e2 h1 (by omega) hn)
theorem TolUp.no {n i j : Nat} {xs : List Int} (h : TolUp b n i j xs) (hi : i < (starts b).length) (hj : i + 1 + j < (starts b).length) (hs : Same b (starts b)[i] (starts b)[i + 1 + j]) : TolUp b n i (j + 1) xs := by
  refine ⟨h.of, fun p q s o e1 e2 h1 h2 hn => ?_⟩
  by_cases z : p = i ∧ q = i + 1 + j
  · obtain ⟨rfl, rfl⟩ := z
    rw [List.getElem?_eq_getElem hi] at e1
    rw [List.getElem?_eq_getElem hj] at e2
    cases e1; cases e2
    exact absurd hs hn
  · exact h.to p q s o e1 e2 h1 (by omega) hn
theorem TolUp.all {n i j : Nat} {xs : List Int} (h : TolUp b n i j xs) (hi : (starts b).length ≤ i) (g : GoodS b s) (go : GoodS b o) (hne : ¬ Same b s o) : mo b n s o ∈ xs := by
  obtain ⟨p, hp, e1⟩ := List.getElem_of_mem (mem_starts.mpr g)
  obtain ⟨q, hq, e2⟩ := List.getElem_of_mem (mem_starts.mpr go)
  have f1 : (starts b)[p]? = some s := by rw [List.getElem?_eq_getElem hp, e1]
  have f2 : (starts b)[q]? = some o := by rw [List.getElem?_eq_getElem hq, e2]
  have hpq : p ≠ q := fun z => hne (by subst z; rw [f1] at f2; cases f2; exact fun _ => rfl)
  by_cases z : p < q
  · exact h.to p q s o f1 f2 z (by omega) hne
  · rw [mo_comm]
    exact h.to q p o s f2 f1 (by omega) (by omega) fun w => hne w.symm
theorem TolUp.tol {n j : Nat} {xs : List Int} (h : TolUp b n (starts b).length j xs) {t : Option Int} (ht : IsTol b n t) : (xs = [] → t = none) ∧ ∀ m, m ∈ xs → (∀ y, y ∈ xs → m ≤ y) → t = some m :=
  tol_of_list xs h.of (fun s o g go hne => h.all (Nat.le_refl _) g go hne) ht
theorem sum_le {α : Type} (f : α → Nat) (M : Nat) : ∀ l : List α, (∀ x ∈ l, f x ≤ M) → (l.map f).sum ≤ l.length * M
  | [], _ => Nat.zero_le _
  | x :: l, h => by
    have h1 := h x List.mem_cons_self
    have h2 := sum_le f M l fun y hy => h y (List.mem_cons_of_mem _ hy)
    rw [List.map_cons, List.sum_cons, List.length_cons, Nat.add_mul]
    omega
theorem starts_len (G : GoodB b) : (starts b).length ≤ 72 := by
  unfold starts
  rw [List.length_flatten, List.map_map]
  have h := sum_le (List.length ∘ fun i => (List.range (clk b i).length).map fun m => (i, m)) 24 (List.range b.length) fun i hi => by
    show ((List.range (clk b i).length).map fun m => (i, m)).length ≤ 24
    rw [List.length_map, List.length_range]
    exact G.c24 _ (GoodB.clk_mem (List.mem_range.mp hi))
  rw [List.length_range] at h
  have h3 := G.n3
  omega
theorem tol_ex {n : Nat} : ∃ t, IsTol b n t := by
  by_cases h : ∀ s o, GoodS b s → GoodS b o → Same b s o
  · exact ⟨none, .inl ⟨rfl, h⟩⟩
  · have key : ∀ N : Nat, (∃ s o, GoodS b s ∧ GoodS b o ∧ ¬ Same b s o ∧ mo b n s o + 1 ≤ N) → ∃ x, (∃ s o, GoodS b s ∧ GoodS b o ∧ ¬ Same b s o ∧ x = mo b n s o) ∧ ∀ s o, GoodS b s → GoodS b o → ¬ Same b s o → x ≤ mo b n s o := by
      intro N
      induction N with
      | zero =>
        rintro ⟨s, o, g, go, hne, hle⟩
        refine ⟨_, ⟨s, o, g, go, hne, rfl⟩, fun s' o' _ _ _ => ?_⟩
        have h1 := ov_nonneg (b := b) (s := s') (o := o') n
        unfold mo at hle ⊢
        omega
      | succ N ih =>
        rintro ⟨s, o, g, go, hne, hle⟩
        by_cases q : ∃ s o, GoodS b s ∧ GoodS b o ∧ ¬ Same b s o ∧ mo b n s o + 1 ≤ N
        · exact ih q
        · refine ⟨_, ⟨s, o, g, go, hne, rfl⟩, fun s' o' g' go' hne' => ?_⟩
          apply Int.le_of_not_gt
          intro w
          exact q ⟨s', o', g', go', hne', by omega⟩
    have hx : ∃ s o, GoodS b s ∧ GoodS b o ∧ ¬ Same b s o := Classical.byContradiction fun c => h fun s o g go => Classical.byContradiction fun c2 => c ⟨s, o, g, go, c2⟩
    obtain ⟨s, o, g, go, hne⟩ := hx
    obtain ⟨x, h1, h2⟩ := key (mo b n s o + 1).toNat ⟨s, o, g, go, hne, by omega⟩
    exact ⟨some x, .inr ⟨x, rfl, h1, h2⟩⟩
theorem ov_sum (n : Nat) : ((List.range n).map fun k => max 0 (stk b s k - stk b o k)).sum = ov b s o n := by
  induction n with
  | zero => rfl
  | succ n ih =>
    rw [List.range_succ, List.map_append, List.sum_append, ih]
    show _ + (max 0 (stk b s n - stk b o n) + 0) = ov b s o n + max 0 (stk b s n - stk b o n)
    omega
/-- the pairs gone through downwards -/
structure TolDn (b : Bk) (n i j : Nat) (xs : List Int) : Prop where
  of : ∀ x ∈ xs, ∃ s o, GoodS b s ∧ GoodS b o ∧ ¬ Same b s o ∧ x = mo b n s o
  to : ∀ (p q : Nat) (s o : Stt), (starts b)[p]? = some s → (starts b)[q]? = some o → q < p → (p < i ∨ (p = i ∧ q < j)) → ¬ Same b s o → mo b n s o ∈ xs
theorem TolDn.zero {n : Nat} : TolDn b n 0 0 [] := ⟨fun x hx => (nomatch hx), fun p q s o _ _ h1 h2 _ => by omega⟩
theorem TolDn.next {n i : Nat} {xs : List Int} (h : TolDn b n i i xs) : TolDn b n (i + 1) 0 xs := ⟨h.of, fun p q s o e1 e2 h1 h2 => h.to p q s o e1 e2 h1 (by omega)⟩
theorem TolDn.yes {n i j : Nat} {xs : List Int} (h : TolDn b n i j xs) (hi : i < (starts b).length) (hj : j < (starts b).length) (hne : ¬ Same b (starts b)[i] (starts b)[j]) : TolDn b n i (j + 1) (xs ++ [mo b n (starts b)[i] (starts b)[j]]) := by
  refine ⟨fun x hx => ?_, fun p q s o e1 e2 h1 h2 hn => ?_⟩
  · rcases List.mem_append.mp hx with hx | hx
    · exact h.of x hx
    · exact ⟨_, _, mem_starts.mp (List.getElem_mem hi), mem_starts.mp (List.getElem_mem hj), hne, List.mem_singleton.mp hx⟩
  · by_cases z : p = i ∧ q = j
    · obtain ⟨rfl, rfl⟩ := z
      rw [List.getElem?_eq_getElem hi] at e1
      rw [List.getElem?_eq_getElem hj] at e2
      cases e1; cases e2
      exact List.mem_append_right _ (List.mem_singleton.mpr rfl)
    · exact List.mem_append_left _ (h.to p q s o e1 e2 h1 (by omega) hn)
theorem TolDn.no {n i j : Nat} {xs : List Int} (h : TolDn b n i j xs) (hi : i < (starts b).length) (hj : j < (starts b).length) (hs : Same b (starts b)[i] (starts b)[j]) : TolDn b n i (j + 1) xs := by
  refine ⟨h.of, fun p q s o e1 e2 h1 h2 hn => ?_⟩
  by_cases z : p = i ∧ q = j
  · obtain ⟨rfl, rfl⟩ := z
    rw [List.getElem?_eq_getElem hi] at e1
    rw [List.getElem?_eq_getElem hj] at e2
    cases e1; cases e2
    exact absurd hs hn
  · exact h.to p q s o e1 e2 h1 (by omega) hn
theorem TolDn.all {n j : Nat} {xs : List Int} (h : TolDn b n (starts b).length j xs) (g : GoodS b s) (go : GoodS b o) (hne : ¬ Same b s o) : mo b n s o ∈ xs := by
  obtain ⟨p, hp, e1⟩ := List.getElem_of_mem (mem_starts.mpr g)
  obtain ⟨q, hq, e2⟩ := List.getElem_of_mem (mem_starts.mpr go)
  have f1 : (starts b)[p]? = some s := by rw [List.getElem?_eq_getElem hp, e1]
  have f2 : (starts b)[q]? = some o := by rw [List.getElem?_eq_getElem hq, e2]
  have hpq : p ≠ q := fun z => hne (by subst z; rw [f1] at f2; cases f2; exact fun _ => rfl)
  by_cases z : q < p
  · exact h.to p q s o f1 f2 z (.inl hp) hne
  · rw [mo_comm]
    exact h.to q p o s f2 f1 (by omega) (.inl hq) fun w => hne w.symm
theorem TolDn.tol {n j : Nat} {xs : List Int} (h : TolDn b n (starts b).length j xs) {t : Option Int} (ht : IsTol b n t) : (xs = [] → t = none) ∧ ∀ m, m ∈ xs → (∀ y, y ∈ xs → m ≤ y) → t = some m :=
  tol_of_list xs h.of (fun s o g go hne => h.all g go hne) ht
end
end M

/-! The clocks' data, and what each def of the program is to answer. -/
namespace Z
open PySem PySem.Spec PyProof.Rows L2 Evl M
def cD (c : List Int) : PyData := .tuple (c.map PyData.int)
def bD (b : Bk) : PyData := .tuple (b.map cD)
def sD (s : Stt) : PyData := .tuple [.int (s.1 : Int), .int (s.2 : Int)]
def lD (l : Int × Int) : PyData := .tuple [.int l.1, .int l.2]
def oD : Option Int → PyData
  | none => .none
  | some i => .int i
def isD (xs : List Int) : PyData := .list (xs.map PyData.int)
def ssD (xs : List Stt) : PyData := .list (xs.map sD)
theorem getD_map {α : Type} {f : α → PyData} {as : List α} {i : Nat} (h : i < as.length) : (as.map f).getD i .none = f as[i] := by
  rw [List.getD_eq_getElem?_getD, List.getElem?_map, List.getElem?_eq_getElem h]; rfl
theorem atI_map {α : Type} {f : α → PyData} {as : List α} {i : Nat} {a : α} (h : as[i]? = some a) : atI (as.map f) (i : Int) = some (f a) := atI_nat (by rw [List.getElem?_map, h]; rfl)
theorem clk_get {b : Bk} {i : Nat} (h : i < b.length) : b[i]? = some (clk b i) := by
  unfold clk
  rw [List.getD_eq_getElem?_getD, List.getElem?_eq_getElem h]; rfl
theorem clk_eq {b : Bk} {i : Nat} (h : i < b.length) : b[i] = clk b i := by
  have := clk_get h
  rw [List.getElem?_eq_getElem h] at this
  exact Option.some.inj this
theorem at_clk {b : Bk} {i : Nat} (h : i < b.length) : atI (b.map cD) (i : Int) = some (cD (clk b i)) := atI_map (clk_get h)
/-! ### what each def answers -/
def F_is_integer (ds : List PyData) (r : PyData) : Prop := ∃ i, ds = [.int i] ∧ r = .bool true
def F_is_whole (ds : List PyData) (r : PyData) : Prop := ∃ i lo hi, ds = [.int i, .int lo, .int hi] ∧ r = .bool (decide (lo ≤ i) && decide (i ≤ hi))
def F_book_fault (ds : List PyData) (r : PyData) : Prop := ∃ b, GoodB b ∧ ds = [bD b] ∧ r = .none
def F_need_book (ds : List PyData) (r : PyData) : Prop := ∃ b, GoodB b ∧ ds = [bD b] ∧ r = bD b
def F_need_loss (ds : List PyData) (r : PyData) : Prop := ∃ l, GoodL l ∧ ds = [lD l] ∧ r = lD l
def F_need_marks (ds : List PyData) (r : PyData) : Prop := ∃ n : Nat, n ≤ 10 ^ 30 ∧ ds = [.int (n : Int)] ∧ r = .int (n : Int)
def F_is_start (ds : List PyData) (r : PyData) : Prop := ∃ b s, GoodB b ∧ GoodS b s ∧ ds = [bD b, sD s] ∧ r = .bool true
def F_need_start (ds : List PyData) (r : PyData) : Prop := ∃ b s, GoodB b ∧ GoodS b s ∧ ds = [bD b, sD s] ∧ r = sD s
def F_all_starts (ds : List PyData) (r : PyData) : Prop := ∃ b, GoodB b ∧ ds = [bD b] ∧ r = ssD (starts b)
def F_struck (ds : List PyData) (r : PyData) : Prop := ∃ b s, ∃ k : Nat, GoodB b ∧ GoodS b s ∧ ds = [bD b, sD s, .int (k : Int)] ∧ r = .int (stk b s k)
def F_common_round (ds : List PyData) (r : PyData) : Prop := ∃ b s o, GoodB b ∧ GoodS b s ∧ GoodS b o ∧ ds = [bD b, sD s, sD o] ∧ r = .int (rnd b s o : Int)
def F_are_same_in (ds : List PyData) (r : PyData) : Prop := ∃ b s o, GoodB b ∧ GoodS b s ∧ GoodS b o ∧ ds = [bD b, sD s, sD o] ∧ r = .bool (sameB b s o)
def F_rises_of (ds : List PyData) (r : PyData) : Prop := ∃ b s o, GoodB b ∧ GoodS b s ∧ GoodS b o ∧ ds = [bD b, sD s, sD o] ∧ r = isD ((List.range (rnd b s o + 1)).map (ov b s o))
def F_over_by (ds : List PyData) (r : PyData) : Prop := ∃ f R, ∃ n : Nat, Per f R ∧ R ≤ 1000 ∧ f R ≤ 1000000 ∧ ds = [isD ((List.range (R + 1)).map f), .int (n : Int)] ∧ r = .int (f n)
def F_over_in (ds : List PyData) (r : PyData) : Prop := ∃ b s o, ∃ n : Nat, GoodB b ∧ GoodS b s ∧ GoodS b o ∧ ds = [bD b, sD s, sD o, .int (n : Int)] ∧ r = .int (ov b s o n)
def F_reach_of (ds : List PyData) (r : PyData) : Prop := ∃ f R m, Per f R ∧ R ≤ 1000 ∧ f R ≤ 1000000 ∧ 0 ≤ m ∧ ds = [isD ((List.range (R + 1)).map f), .int m] ∧ r = oD (reachF f R m)
def F_longest_in (ds : List PyData) (r : PyData) : Prop := ∃ b l s o, GoodB b ∧ GoodL l ∧ GoodS b s ∧ GoodS b o ∧ ds = [bD b, lD l, sD s, sD o] ∧ r = oD (lgF b (l.1 + l.2) s o)
def F_wait_in (ds : List PyData) (r : PyData) : Prop := ∃ b l s, GoodB b ∧ GoodL l ∧ GoodS b s ∧ ds = [bD b, lD l, sD s] ∧ r = .int (wF b (l.1 + l.2) s)
def F_wait_of := F_wait_in
def F_worst_in (ds : List PyData) (r : PyData) : Prop := ∃ b l, GoodB b ∧ GoodL l ∧ ds = [bD b, lD l] ∧ r = .int (wwF b (l.1 + l.2))
def F_worst_wait := F_worst_in
def F_tolerance (ds : List PyData) (r : PyData) : Prop := ∃ b, ∃ n : Nat, ∃ t, GoodB b ∧ n ≤ 10 ^ 30 ∧ IsTol b n t ∧ ds = [bD b, .int (n : Int)] ∧ r = oD t
def F_q_starts := F_all_starts
def F_q_strokes := F_struck
def F_q_same (ds : List PyData) (r : PyData) : Prop := ∃ b s o, GoodB b ∧ GoodS b s ∧ GoodS b o ∧ ds = [bD b, sD s, sD o] ∧ r = .bool (sameB b s o)
def F_q_over := F_over_in
def F_q_due := F_tolerance
theorem canLay_ints : ∀ xs : List Int, PyData.canLayAll0 (xs.map PyData.int) = true
  | [] => rfl
  | x :: r => by rw [List.map_cons]; simp [PyData.canLayAll0, PyData.canLay0, canLay_ints r]
theorem depth_ints : ∀ xs : List Int, PyData.depthAll (xs.map PyData.int) ≤ 1
  | [] => by simp [PyData.depthAll]
  | x :: r => by have := depth_ints r; rw [List.map_cons]; simp [PyData.depthAll, PyData.depth]; omega
theorem shaped_ints (xs : List Int) : SeqAt.shaped (.list (xs.map PyData.int)) = true := by
  have := depth_ints xs
  simp [SeqAt.shaped, PyData.canLay0, canLay_ints, PyData.depth]
  omega
theorem min_of : ∀ {xs : List Int}, xs ≠ [] → ∃ m, m ∈ xs ∧ ∀ y, y ∈ xs → m ≤ y
  | [], h => absurd rfl h
  | [x], _ => ⟨x, List.mem_singleton.mpr rfl, fun y hy => by rw [List.mem_singleton.mp hy]; exact Int.le_refl _⟩
  | x :: y :: r, _ => by
    obtain ⟨m, hm, hle⟩ := min_of (xs := y :: r) (by simp)
    by_cases q : x ≤ m
    · exact ⟨x, List.mem_cons_self, fun z hz => by
        rcases List.mem_cons.mp hz with e | hz
        · rw [e]; exact Int.le_refl _
        · exact Int.le_trans q (hle z hz)⟩
    · exact ⟨m, List.mem_cons_of_mem _ hm, fun z hz => by
        rcases List.mem_cons.mp hz with e | hz
        · rw [e]; omega
        · exact hle z hz⟩
end Z

/-! The law's draws: the state of all draws is a dict that changes; a draw is any number below its bound. -/
namespace Z
open PySem PySem.Spec PyProof.Rows L2 M
open Evl hiding q_app q_drop q_if q_when q_while s_app s_drop s_if s_ret s_when
/-- all but the object at d stays -/
def ExB (d : Addr) (H H' : Hp) : Prop := ∀ a o, H a = some o → a ≠ d → H' a = some o
section
variable {d : Addr} {H H1 H2 : Hp}
theorem ExB.refl (d : Addr) (H : Hp) : ExB d H H := fun _ _ h _ => h
theorem ExB.trans (a : ExB d H H1) (b : ExB d H1 H2) : ExB d H H2 := fun x o h n => b x o (a x o h n) n
theorem ExB.of (e : Ex H H1) : ExB d H H1 := fun a o h _ => e a o h
theorem ExB.put {o : HO} (e : ExB d H H1) : ExB d H (upd H1 d o) := fun a u h n => by rw [upd_ne n]; exact e a u h n
theorem ExB.mut {l : Addr} {o : HO} (e : ExB d H H1) (h : H l = none) : ExB d H (upd H1 l o) := fun a u ha n => by
  rw [upd_ne (ne_of_none ha h)]; exact e a u ha n
end
theorem ExB.new {d l : Addr} {H H1 : Hp} {o : HO} (e : ExB d H H1) (h : H1 l = none) (n : l ≠ d) : ExB d H (upd H1 l o) := e.mut (by
  cases w : H l with
  | none => rfl
  | some u => rw [e _ _ w n] at h; cases h)
/-- the dict of the draws -/
def dk (c : Addr) (a l u : Int) : List (Key × V) := [(.inr "cells", .ref c), (.inr "at", .int a), (.inr "left", .int l), (.inr "used", .int u)]
theorem dk_cells {c : Addr} {a l u : Int} : valV (dk c a l u) (.inr "cells") = some (.ref c) := valV_pos rfl
theorem kne {x y : Str} (h : x ≠ y) : ¬ (Sum.inr x : Key) = .inr y := fun e => h (Sum.inr.inj e)
theorem dk_at {c : Addr} {a l u : Int} : valV (dk c a l u) (.inr "at") = some (.int a) := (valV_neg (kne (by decide +kernel))).trans (valV_pos rfl)
theorem dk_left {c : Addr} {a l u : Int} : valV (dk c a l u) (.inr "left") = some (.int l) := (valV_neg (kne (by decide +kernel))).trans ((valV_neg (kne (by decide +kernel))).trans (valV_pos rfl))
theorem dk_used {c : Addr} {a l u : Int} : valV (dk c a l u) (.inr "used") = some (.int u) := (valV_neg (kne (by decide +kernel))).trans ((valV_neg (kne (by decide +kernel))).trans ((valV_neg (kne (by decide +kernel))).trans (valV_pos rfl)))
theorem dk_putAt {c : Addr} {a l u z : Int} : putK (dk c a l u) (.inr "at") (.int z) = dk c z l u := by
  unfold putK dk
  rw [if_pos (show _ = true by simp)]
  simp only [List.map_cons, List.map_nil, if_neg (kne (show ("cells" : Str) ≠ "at" by decide +kernel)), if_neg (kne (show ("left" : Str) ≠ "at" by decide +kernel)), if_neg (kne (show ("used" : Str) ≠ "at" by decide +kernel)), if_true]
theorem dk_putLeft {c : Addr} {a l u z : Int} : putK (dk c a l u) (.inr "left") (.int z) = dk c a z u := by
  unfold putK dk
  rw [if_pos (show _ = true by simp)]
  simp only [List.map_cons, List.map_nil, if_neg (kne (show ("cells" : Str) ≠ "left" by decide +kernel)), if_neg (kne (show ("at" : Str) ≠ "left" by decide +kernel)), if_neg (kne (show ("used" : Str) ≠ "left" by decide +kernel)), if_true]
theorem dk_putUsed {c : Addr} {a l u z : Int} : putK (dk c a l u) (.inr "used") (.int z) = dk c a l z := by
  unfold putK dk
  rw [if_pos (show _ = true by simp)]
  simp only [List.map_cons, List.map_nil, if_neg (kne (show ("cells" : Str) ≠ "used" by decide +kernel)), if_neg (kne (show ("at" : Str) ≠ "used" by decide +kernel)), if_neg (kne (show ("left" : Str) ≠ "used" by decide +kernel)), if_true]
theorem dk_len {c : Addr} {a l u : Int} : (dk c a l u).length < sizeLine := by show 4 < sizeLine; decide
/-- the state of the draws at d, at most n draws gone -/
structure DSt (K : PySem.W.Frag) (S : Addr → Prop) (B H : Hp) (d : Addr) (n : Nat) : Prop where
  s : S d
  ex : ∃ (c : Addr) (cs : List Int) (a l u : Int), H d = some (.dK (dk c a l u)) ∧ Dp K B (.ref c) (isD cs) ∧ cs ≠ [] ∧ cs.length ≤ 64 ∧ 0 ≤ a ∧ a ≤ n ∧ 0 ≤ l ∧ 0 ≤ u ∧ u ≤ n
section
variable {K : PySem.W.Frag} {S S' : Addr → Prop} {B B1 H H1 : Hp} {d : Addr} {n m : Nat}
theorem DSt.ofEx (h : DSt K S B H d n) (e : Ex H H1) (b : Ex B B1) : DSt K S B1 H1 d n := by
  obtain ⟨s, c, cs, a, l, u, h1, h2, h3⟩ := h
  exact ⟨s, c, cs, a, l, u, e _ _ h1, dpEx b h2, h3⟩
theorem DSt.up (h : DSt K S B H d n) (hm : n ≤ m) : DSt K S B H d m := by
  obtain ⟨s, c, cs, a, l, u, h1, h2, h3, h4, h5, h6, h7, h8, h9⟩ := h
  exact ⟨s, c, cs, a, l, u, h1, h2, h3, h4, h5, by omega, h7, h8, by omega⟩
theorem DSt.sub (h : DSt K S B H d n) (q : S d → S' d) : DSt K S' B H d n := ⟨q h.s, h.ex⟩
theorem DSt.mut {l : Addr} {o : HO} (h : DSt K S B H d n) (hl : H l = none) : DSt K (fun a => S a ∨ a = l) B (upd H l o) d n := by
  obtain ⟨s, c, cs, a, l', u, h1, h2, h3⟩ := h
  exact ⟨.inl s, c, cs, a, l', u, by rw [upd_ne (ne_of_none h1 hl)]; exact h1, h2, h3⟩
theorem DSt.at (h : DSt K S B H d n) : ∃ o, H d = some o := let ⟨_, _, _, _, _, _, h1, _⟩ := h; ⟨_, h1⟩
theorem DSt.other {l : Addr} {o : HO} (h : DSt K S B H d n) (hl : l ≠ d) : DSt K S B (upd H l o) d n := by
  obtain ⟨s, c, cs, a, l', u, h1, h2, h3⟩ := h
  exact ⟨s, c, cs, a, l', u, by rw [upd_ne (Ne.symm hl)]; exact h1, h2, h3⟩
end
/-! ### what draws are worth -/
def EvW (K : PySem.W.Frag) (d : Addr) (te : TE) (σ : L2.St) (B : Hp) (c : Nat) (P : PyData → Prop) : Prop := ∀ (S : Addr → Prop) (B1 H1 : Hp) (n : Nat), Ok S B1 H1 → Ex B B1 → DSt K S B1 H1 d n → n + c ≤ 1000000000 →
  ∀ Q : VK, (∀ v x B2 H2, ExB d H1 H2 → Ok S B2 H2 → Ex B1 B2 → DSt K S B2 H2 d (n + c) → P x → Dp K B2 v x → Q v H2) → te σ H1 Q
def EvWA (K : PySem.W.Frag) (d : Addr) (ta : TA) (σ : L2.St) (B : Hp) (c : Nat) (P : List PyData → Prop) : Prop := ∀ (S : Addr → Prop) (B1 H1 : Hp) (n : Nat), Ok S B1 H1 → Ex B B1 → DSt K S B1 H1 d n → n + c ≤ 1000000000 →
  ∀ Q : List V → Hp → Prop, (∀ vs xs B2 H2, ExB d H1 H2 → Ok S B2 H2 → Ex B1 B2 → DSt K S B2 H2 d (n + c) → P xs → DpAll K B2 vs xs → Q vs H2) → ta σ H1 Q
/-- a promise of a def that draws: the dict, then data; G says what is answered -/
def SpW (K : PySem.W.Frag) (m c : Nat) (G : List PyData → (PyData → Prop) → Prop) : Sp := fun vs H Q _ => ∃ S B d n us ds P, vs = .ref d :: us ∧ Ok S B H ∧ DSt K S B H d n ∧ n + c ≤ 1000000000 ∧ DpAll K B us ds ∧ ds.length = m ∧ G ds P ∧
  ∀ v x B2 H2, ExB d H H2 → Ok S B2 H2 → Ex B B2 → DSt K S B2 H2 d (n + c) → P x → Dp K B2 v x → Q v H2
theorem SpW.len {K : PySem.W.Frag} {m c : Nat} {G : List PyData → (PyData → Prop) → Prop} {vs : List V} {H : Hp} {Q : VK} {E : XK} (h : SpW K m c G vs H Q E) : vs.length = m + 1 := by
  obtain ⟨S, B, d, n, us, ds, P, rfl, _, _, _, h1, h2, _⟩ := h
  rw [List.length_cons, dpAll_len h1, h2]
section
variable {K : PySem.W.Frag} {d : Addr} {σ : L2.St} {B B' H : Hp} {S : Addr → Prop} {te ta tb : TE} {tr : TA} {c c1 c2 n : Nat} {P P1 P2 P' : PyData → Prop} {x : PyData} {ds : List PyData} {D : Ends} {tz tu : TS}
theorem EvW.mono (q : Ex B B') (h : EvW K d te σ B c P) : EvW K d te σ B' c P := fun S B1 H1 n o b ds hn Q k => h S B1 H1 n o (q.trans b) ds hn Q k
theorem EvWA.mono {Q : List PyData → Prop} (q : Ex B B') (h : EvWA K d tr σ B c Q) : EvWA K d tr σ B' c Q := fun S B1 H1 n o b ds hn Q k => h S B1 H1 n o (q.trans b) ds hn Q k
theorem EvW.up (hc : c1 ≤ c2) (h : EvW K d te σ B c1 P) : EvW K d te σ B c2 P := fun S B1 H1 n o b ds hn Q k => h S B1 H1 n o b ds (by omega) Q fun v x B2 H2 e2 o2 b2 d2 p dv => k v x B2 H2 e2 o2 b2 (d2.up (by omega)) p dv
theorem EvW.imp (h : EvW K d te σ B c P) (hp : ∀ x, P x → P' x) : EvW K d te σ B c P' := fun S B1 H1 n o b ds hn Q k => h S B1 H1 n o b ds hn Q fun v x B2 H2 e2 o2 b2 d2 p dv => k v x B2 H2 e2 o2 b2 d2 (hp x p) dv
theorem EvWA.imp {Q Q' : List PyData → Prop} (h : EvWA K d tr σ B c Q) (hp : ∀ x, Q x → Q' x) : EvWA K d tr σ B c Q' := fun S B1 H1 n o b ds hn R k => h S B1 H1 n o b ds hn R fun v x B2 H2 e2 o2 b2 d2 p dv => k v x B2 H2 e2 o2 b2 d2 (hp x p) dv
theorem evw_of (h : EvD K te σ B x) : EvW K d te σ B 0 (· = x) := fun S B1 H1 n o b ds hn Q k => (h.mono b) S H1 o Q fun v B2 H2 q2 o2 b2 dv => k v x B2 H2 (.of q2) o2 b2 (ds.ofEx q2 b2) rfl dv
theorem evd_c' {v : V} {x : PyData} (h : Dp K B v x) : EvD K (tC v) σ B x := fun S H1 o Q k => k v B H1 (Ex.refl _) o (Ex.refl _) h
/-- an operator behind two draws, by what it is on their values -/
theorem evw_op {r : R2} (ha : EvW K d ta σ B c1 P1) (hb : EvW K d tb σ B c2 P2) (hr : ∀ x y v w B1, Ex B B1 → P1 x → P2 y → Dp K B1 v x → Dp K B1 w y → ∃ z, P z ∧ EvD K (tOp r (tC v) (tC w)) σ B1 z) : EvW K d (tOp r ta tb) σ B (c1 + c2) P := fun S B1 H1 n o b ds hn Q k =>
  ha S B1 H1 n o b ds (by omega) _ fun v x B2 H2 e2 o2 b2 d2 p dv => hb S B2 H2 (n + c1) o2 (b.trans b2) d2 (by omega) _ fun w y B3 H3 e3 o3 b3 d3 p3 dw => by
    obtain ⟨z, pz, ez⟩ := hr x y v w B3 ((b.trans b2).trans b3) p p3 (dpEx b3 dv) dw
    exact ez S H3 o3 Q fun u B4 H4 q4 o4 b4 du => k u z B4 H4 ((e2.trans e3).trans (.of q4)) o4 ((b2.trans b3).trans b4) (by rw [← Nat.add_assoc]; exact d3.ofEx q4 b4) pz du
theorem ewa_nil : EvWA K d tNil σ B 0 (· = []) := fun S B1 H1 n o b ds hn Q k => k [] [] B1 H1 (.refl _ _) o (Ex.refl _) ds rfl .nil
theorem ewa_cons {Q2 : List PyData → Prop} (ha : EvW K d ta σ B c1 P1) (hb : EvWA K d tr σ B c2 Q2) : EvWA K d (tCons ta tr) σ B (c1 + c2) (fun zs => ∃ x xs, zs = x :: xs ∧ P1 x ∧ Q2 xs) := fun S B1 H1 n o b ds hn Q k =>
  ha S B1 H1 n o b ds (by omega) _ fun v x B2 H2 e2 o2 b2 d2 p dv => hb S B2 H2 (n + c1) o2 (b.trans b2) d2 (by omega) _ fun w y B3 H3 e3 o3 b3 d3 p3 dw => k _ _ B3 H3 (e2.trans e3) o3 (b2.trans b3) (by rw [← Nat.add_assoc]; exact d3) ⟨x, y, rfl, p, p3⟩ (.cons (dpEx b3 dv) dw)
theorem evw_lst {Q2 : List PyData → Prop} (hl : ∀ zs, Q2 zs → zs.length ≤ 100000) (h : EvWA K d tr σ B c Q2) : EvW K d (tLst tr) σ B c (fun z => ∃ zs, z = .list zs ∧ Q2 zs) := fun S B1 H1 n o b ds hn Q k =>
  h S B1 H1 n o b ds hn _ fun vs xs B2 H2 e2 o2 b2 d2 p dv => ⟨by rw [dpAll_len dv]; exact sz_of (hl xs p), fun l hl => k _ _ _ _ (e2.mut (by
    cases w : H1 l with
    | none => rfl
    | some u =>
      by_cases z : l = d
      · subst z; obtain ⟨u', hu⟩ := d2.at; rw [hu] at hl; cases hl
      · rw [e2 _ _ w z] at hl; cases hl)) (o2.new hl) (b2.trans (o2.exB hl)) (d2.ofEx (Ex.new hl) (o2.exB hl)) ⟨xs, rfl, p⟩ (dp_newL upd_same (dpExAll (o2.exB hl) dv))⟩
theorem evw_tup {Q2 : List PyData → Prop} (hl : ∀ zs, Q2 zs → zs.length ≤ 100000) (h : EvWA K d tr σ B c Q2) : EvW K d (tTup tr) σ B c (fun z => ∃ zs, z = .tuple zs ∧ Q2 zs) := fun S B1 H1 n o b ds hn Q k =>
  h S B1 H1 n o b ds hn _ fun vs xs B2 H2 e2 o2 b2 d2 p dv => ⟨by rw [dpAll_len dv]; exact sz_of (hl xs p), fun l hl => k _ _ _ _ (e2.mut (by
    cases w : H1 l with
    | none => rfl
    | some u =>
      by_cases z : l = d
      · subst z; obtain ⟨u', hu⟩ := d2.at; rw [hu] at hl; cases hl
      · rw [e2 _ _ w z] at hl; cases hl)) (o2.new hl) (b2.trans (o2.exB hl)) (d2.ofEx (Ex.new hl) (o2.exB hl)) ⟨xs, rfl, p⟩ (dp_newT upd_same (dpExAll (o2.exB hl) dv))⟩
/-- a call of a def that draws -/
theorem evw_call {i m : Nat} {G : List PyData → (PyData → Prop) → Prop} {E : XK} {Q2 : List PyData → Prop} (hi : σ[i]? = some (some (.ref d))) (h : EvWA K d tr σ B c1 Q2) (hG : ∀ zs, Q2 zs → zs.length = m ∧ G zs P) : EvW K d (tCall (SpW K m c2 G) [] E (tCons (tVar i) tr)) σ B (c1 + c2) P := fun S B1 H1 n o b ds hn Q k =>
  ⟨.ref d, hi, h S B1 H1 n o b ds (by omega) _ fun vs xs B2 H2 e2 o2 b2 d2 p dv => ⟨S, B2, d, n + c1, vs, xs, P, by rw [List.append_nil], o2, d2, by omega, dv, (hG xs p).1, (hG xs p).2, fun u x B3 H3 e3 o3 b3 d3 px du => k u x B3 H3 (e2.trans e3) o3 (b2.trans b3) (by rw [← Nat.add_assoc]; exact d3) px du⟩⟩
/-- a def that draws nothing, called on draws -/
theorem evw_callP {m : Nat} {F : List PyData → PyData → Prop} {E : XK} {Q2 : List PyData → Prop} (h : EvWA K d tr σ B c Q2) (hF : ∀ zs, Q2 zs → zs.length = m ∧ ∃ r, F zs r ∧ P r) : EvW K d (tCall (SpF K m F) [] E tr) σ B c P := fun S B1 H1 n o b ds hn Q k =>
  h S B1 H1 n o b ds hn _ fun vs xs B2 H2 e2 o2 b2 d2 p dv => by
    obtain ⟨h1, r, h2, h3⟩ := hF xs p
    exact ⟨S, B2, xs, r, o2, by rw [List.append_nil]; exact dv, h1, h2, fun u B3 H3 q3 o3 b3 du => k u r B3 H3 (e2.trans (.of q3)) o3 (b2.trans b3) (d2.ofEx q3 b3) h3 du⟩
/-- tuple(list) behind draws -/
theorem evw_tupleL (h : EvW K d te σ B c P1) (hp : ∀ x, P1 x → ∃ zs, x = .list zs ∧ P (.tuple zs)) : EvW K d (tThen te (kTup K)) σ B c P := fun S B1 H1 n o b ds hn Q k =>
  h S B1 H1 n o b ds hn _ fun v x B2 H2 e2 o2 b2 d2 p dv => by
    obtain ⟨zs, rfl, pz⟩ := hp x p
    exact (evd_tupleL (σ := σ) (evd_c' dv)) S H2 o2 Q fun u B3 H3 q3 o3 b3 du => k u _ B3 H3 (e2.trans (.of q3)) o3 (b2.trans b3) (d2.ofEx q3 b3) pz du
/-! ### statements -/
theorem s_setW {i : Nat} (o : Ok S B H) (ds : DSt K S B H d n) (hn : n + c ≤ 1000000000) (h : EvW K d te σ B c P) (k : ∀ v x B1 H1, ExB d H H1 → Ok S B1 H1 → Ex B B1 → DSt K S B1 H1 d (n + c) → P x → Dp K B1 v x → D.nx (σ.set i (some v)) H1) : tAsg te (gName i) D σ H := h S B H n o (Ex.refl _) ds hn _ k
theorem q_setW {i : Nat} (o : Ok S B H) (ds : DSt K S B H d n) (hn : n + c ≤ 1000000000) (h : EvW K d te σ B c P) (k : ∀ v x B1 H1, ExB d H H1 → Ok S B1 H1 → Ex B B1 → DSt K S B1 H1 d (n + c) → P x → Dp K B1 v x → tz D (σ.set i (some v)) H1) : tSeq (tAsg te (gName i)) tz D σ H := h S B H n o (Ex.refl _) ds hn _ k
theorem s_retW (o : Ok S B H) (ds : DSt K S B H d n) (hn : n + c ≤ 1000000000) (h : EvW K d te σ B c P) (k : ∀ v x B1 H1, ExB d H H1 → Ok S B1 H1 → Ex B B1 → DSt K S B1 H1 d (n + c) → P x → Dp K B1 v x → D.rt v H1) : tRet te D σ H := h S B H n o (Ex.refl _) ds hn _ k
theorem q_parW {i j : Nat} (o : Ok S B H) (ds : DSt K S B H d n) (hn : n + (c1 + c2) ≤ 1000000000) (h : EvW K d ta σ B c1 P1) (h2 : EvW K d tb σ B c2 P2)
    (k : ∀ v w x y B1 H1, ExB d H H1 → Ok S B1 H1 → Ex B B1 → DSt K S B1 H1 d (n + (c1 + c2)) → P1 x → P2 y → Dp K B1 v x → Dp K B1 w y → tz D ((σ.set i (some v)).set j (some w)) H1) : tSeq (tPar i j (tCons ta (tCons tb tNil))) tz D σ H :=
  h S B H n o (Ex.refl _) ds (by omega) _ fun v x B2 H2 e2 o2 b2 d2 p dv => h2 S B2 H2 (n + c1) o2 b2 d2 (by omega) _ fun w y B3 H3 e3 o3 b3 d3 p3 dw => ⟨v, w, rfl, k v w x y B3 H3 (e2.trans e3) o3 (b2.trans b3) (by rw [← Nat.add_assoc]; exact d3) p p3 (dpEx b3 dv) dw⟩
/-- the loop of a for, its items told -/
theorem for_core {J : It} {n : Nat} {item : Nat → PyData} {g : TG} {tb : TS} (src : Src K J B n item) (Pv : Nat → L2.St → Hp → Prop) (h0 : Pv 0 σ H) (hk : ∀ i σ' H', Pv i σ' H' → ∃ S', Ok S' B H')
    (hs : ∀ i x σ' H' H'', i < n → Pv i σ' H' → Ex H' H'' → (∀ S' B3, Ok S' B3 H' → Ex B B3 → ∃ B4, Ok S' B4 H'' ∧ Ex B3 B4 ∧ Dp K B4 x (item i)) → g x σ' H'' fun σ2 H2 => tb { D with nx := Pv (i + 1), ct := Pv (i + 1), bk := D.nx } σ2 H2)
    (hd : ∀ σ' H', Pv n σ' H' → D.nx σ' H') : ∃ W : Nat → Nat → L2.St → Hp → Prop, (∃ m, W 0 m σ H) ∧ ∀ i m σ H, W i m σ H →
      (J.stop i H ∧ D.nx σ H) ∨ (J.go i H ∧ ∃ N : L2.St → Hp → Prop, (∀ σ' H', N σ' H' → ∃ m', m' < m ∧ W (i + 1) m' σ' H') ∧ ∀ x H', J.yld i H x H' → g x σ H' fun σ2 H2 => tb { D with nx := N, ct := N, bk := D.nx } σ2 H2) := by
  refine ⟨fun i m σ' H' => m = n - i ∧ i ≤ n ∧ Pv i σ' H', ⟨n, rfl, Nat.zero_le _, h0⟩, ?_⟩
  rintro i m σ' H' ⟨rfl, hin, p⟩
  obtain ⟨S', o'⟩ := hk i σ' H' p
  by_cases hlt : i < n
  · refine .inr ⟨src.go i H' hlt o'.le, Pv (i + 1), fun σ2 H3 p' => ⟨n - (i + 1), by omega, rfl, hlt, p'⟩, fun x H'' hy => ?_⟩
    obtain ⟨q, f⟩ := src.yld i H' x H'' hlt o'.le hy
    exact hs i x σ' H' H'' hlt p q f
  · have e : i = n := by omega
    subst e
    exact .inl ⟨src.stop H' o'.le, hd σ' H' p⟩
end
/-! ### exact evaluation, nothing made -/
def EvH (te : TE) (σ : L2.St) (H : Hp) (v : V) : Prop := ∀ Q : VK, Q v H → te σ H Q
section
variable {σ : L2.St} {H : Hp} {ta tb te : TE} {a b : Int} {v : V} {i : Nat} {d : Addr} {x : Str} {kvs kvs' : List (Key × V)} {D : Ends} {tz tu : TS} {K : PySem.W.Frag}
theorem evh_var (h : σ[i]? = some (some v)) : EvH (tVar i) σ H v := fun Q k => ⟨v, h, k⟩
theorem evh_c : EvH (tC v) σ H v := fun Q k => k
theorem evh_I {C : Int → Int → Prop} {f : Int → Int → Int} (hc : C a b) (ha : EvH ta σ H (.int a)) (hb : EvH tb σ H (.int b)) : EvH (tOp (rI C fun i j => V.int (f i j)) ta tb) σ H (.int (f a b)) := fun Q k => ha _ (hb _ ⟨a, b, rfl, rfl, hc, k⟩)
theorem evh_I0 {f : Int → Int → Int} (ha : EvH ta σ H (.int a)) (hb : EvH tb σ H (.int b)) : EvH (tOp (rI0 fun i j => V.int (f i j)) ta tb) σ H (.int (f a b)) := fun Q k => ha _ (hb _ ⟨a, b, rfl, rfl, k⟩)
theorem evh_B {f : Int → Int → Bool} (ha : EvH ta σ H (.int a)) (hb : EvH tb σ H (.int b)) : EvH (tOp (rI0 fun i j => V.bl (f i j)) ta tb) σ H (.bl (f a b)) := fun Q k => ha _ (hb _ ⟨a, b, rfl, rfl, k⟩)
theorem evh_dget (hi : σ[i]? = some (some (.ref d))) (h : H d = some (.dK kvs)) (hv : valV kvs (.inr x) = some v) : EvH (tDGet (tVar i) (tC (.str x))) σ H v := fun Q k => ⟨.ref d, hi, d, v, rfl, by rw [← hv]; exact DGet.k (k := .inr x) h, k⟩
theorem evh_len {c : Addr} {xs : List V} (h : EvH ta σ H (.ref c)) (hs : SqL K H c xs) : EvH (tCB (fun xs H Q => ∃ p ys, xs = [.ref p] ∧ (SqL K H p ys ∨ SqT K H p ys) ∧ Q (.int ys.length) H) (tCons ta tNil)) σ H (.int (xs.length : Int)) := fun Q k => h _ ⟨c, xs, rfl, .inl hs, k⟩
theorem evh_ix {c : Addr} {xs : List V} (h : EvH ta σ H (.ref c)) (hb : EvH tb σ H (.int a)) (hs : SqL K H c xs) (hv : atI xs a = some v) : EvH (tOp (rIxL K) ta tb) σ H v := fun Q k => h _ (hb _ ⟨c, xs, a, v, rfl, rfl, hs, hv, k⟩)
theorem h_when {c : Bool} (h : EvH te σ H (.bl c)) (h1 : c = true → tu { D with nx := tz D } σ H) (h2 : c = false → tz D σ H) : tSeq (tIfS (tTest te) tu tNext) tz D σ H := h _ ⟨c, rfl, by
  cases c with
  | true => rw [if_pos rfl]; exact h1 rfl
  | false => rw [if_neg Bool.false_ne_true]; exact h2 rfl⟩
theorem h_whenA {c c2 : Bool} (h : EvH ta σ H (.bl c)) (h' : EvH tb σ H (.bl c2)) (h1 : c = true → c2 = true → tu { D with nx := tz D } σ H) (h2 : tz D σ H) : tSeq (tIfS (tAnd (tTest ta) (tTest tb)) tu tNext) tz D σ H := h _ ⟨c, rfl, by
  cases c with
  | true =>
    rw [if_pos rfl]
    refine h' _ ⟨c2, rfl, ?_⟩
    cases c2 with
    | true => rw [if_pos rfl]; exact h1 rfl rfl
    | false => rw [if_neg Bool.false_ne_true]; exact h2
  | false => exact h2⟩
theorem h_set (h : EvH te σ H v) (k : tz D (σ.set i (some v)) H) : tSeq (tAsg te (gName i)) tz D σ H := h _ k
theorem h_asg (h : EvH te σ H v) (k : D.nx (σ.set i (some v)) H) : tAsg te (gName i) D σ H := h _ k
theorem h_put (h : EvH te σ H v) (hi : σ[i]? = some (some (.ref d))) (hd : H d = some (.dK kvs)) (hl : kvs.length < sizeLine) (hp : putK kvs (.inr x) v = kvs') (k : tz D σ (upd H d (.dK kvs'))) : tSeq (sDPut (tVar i) (tC (.str x)) te) tz D σ H :=
  h _ ⟨.ref d, hi, d, _, rfl, by rw [← hp]; exact DPut.k (k := .inr x) hd hl, k⟩
theorem h_ret (h : EvH te σ H v) (k : D.rt v H) : tRet te D σ H := h _ k
end
/-! ### what each draw answers -/
def G_next (ds : List PyData) (P : PyData → Prop) : Prop := ∃ m : Int, 1 ≤ m ∧ m < 2 ^ 200 ∧ ds = [.int m] ∧ ∀ r, 0 ≤ r → r < m → P (.int r)
def G_pick (ds : List PyData) (P : PyData → Prop) : Prop := ∃ xs, 1 ≤ xs.length ∧ xs.length ≤ 1000 ∧ ds = [.list xs] ∧ ∀ x ∈ xs, P x
def GoodC (c : List Int) : Prop := 1 ≤ c.length ∧ c.length ≤ 24 ∧ ∀ x ∈ c, 0 ≤ x ∧ x ≤ 99
def G_clock (ds : List PyData) (P : PyData → Prop) : Prop := ∃ n : Int, 1 ≤ n ∧ n ≤ 12 ∧ ds = [.int n] ∧ ∀ c : List Int, GoodC c → P (cD c)
def G_book (ds : List PyData) (P : PyData → Prop) : Prop := ∃ n : Int, 1 ≤ n ∧ n ≤ 12 ∧ ds = [.int n] ∧ ∀ b, GoodB b → P (bD b)
def G_shared (ds : List PyData) (P : PyData → Prop) : Prop := ∃ m : Int, 0 ≤ m ∧ m < 2 ^ 199 ∧ ds = [.int m] ∧ ∀ l : Int × Int, 0 ≤ l.1 → 0 ≤ l.2 → l.1 + l.2 = m → P (lD l)
def G_loss (ds : List PyData) (P : PyData → Prop) : Prop := ds = [] ∧ ∀ l, GoodL l → P (lD l)
/-- the draws' begin -/
def SpB (K : PySem.W.Frag) : Sp := fun vs H Q _ => ∃ S B a ns, vs = [.ref a] ∧ Ok S B H ∧ Dp K B (.ref a) (isD ns) ∧ ns.length ≤ 63 ∧ ∀ d B2 H2, H d = none → Ex H H2 → Ok (fun b => S b ∨ b = d) B2 H2 → Ex B B2 → DSt K (fun b => S b ∨ b = d) B2 H2 d 0 → Q (.ref d) H2
theorem SpB.len {K : PySem.W.Frag} {vs : List V} {H : Hp} {Q : VK} {E : XK} (h : SpB K vs H Q E) : vs.length = 1 := by
  obtain ⟨S, B, a, ns, rfl, _⟩ := h; rfl
/-! ### draws of ints -/
def IntP (p : Int → Prop) : PyData → Prop := fun x => ∃ a, x = .int a ∧ p a
section
variable {K : PySem.W.Frag} {d : Addr} {σ : L2.St} {B B' H : Hp} {S : Addr → Prop} {te ta tb : TE} {tr : TA} {c c1 c2 n : Nat} {P P1 P2 P' : PyData → Prop} {x : PyData} {ds : List PyData} {p q : Int → Prop} {i : Nat} {a : Int} {E : XK}
theorem evw_ofI (h : EvD K te σ B (.int a)) : EvW K d te σ B 0 (IntP (· = a)) := (evw_of h).imp fun x e => ⟨a, e, rfl⟩
theorem evw_I0 {f : Int → Int → Int} (ha : EvW K d ta σ B c1 (IntP p)) (hb : EvW K d tb σ B c2 (IntP q)) : EvW K d (tOp (rI0 fun i j => V.int (f i j)) ta tb) σ B (c1 + c2) (IntP fun z => ∃ a b, p a ∧ q b ∧ z = f a b) :=
  evw_op ha hb fun x y v w B1 b ⟨a, ea, pa⟩ ⟨b', eb, pb⟩ dv dw => by
    subst ea; subst eb
    exact ⟨_, ⟨f a b', rfl, a, b', pa, pb, rfl⟩, evd_I0i (evd_c' dv) (evd_c' dw)⟩
theorem evw_Ii {C : Int → Int → Prop} {f : Int → Int → Int} (hc : ∀ a b, p a → q b → C a b) (ha : EvW K d ta σ B c1 (IntP p)) (hb : EvW K d tb σ B c2 (IntP q)) : EvW K d (tOp (rI C fun i j => V.int (f i j)) ta tb) σ B (c1 + c2) (IntP fun z => ∃ a b, p a ∧ q b ∧ z = f a b) :=
  evw_op ha hb fun x y v w B1 b ⟨a, ea, pa⟩ ⟨b', eb, pb⟩ dv dw => by
    subst ea; subst eb
    exact ⟨_, ⟨f a b', rfl, a, b', pa, pb, rfl⟩, evd_Ii (hc _ _ pa pb) (evd_c' dv) (evd_c' dw)⟩
theorem evw_next (hi : σ[i]? = some (some (.ref d))) (he : EvD K te σ B (.int a)) (h1 : 1 ≤ a) (h2 : a < 2 ^ 200) : EvW K d (tCall (SpW K 1 1 G_next) [] E (tCons (tVar i) (tCons te tNil))) σ B 1 (IntP fun r => 0 ≤ r ∧ r < a) :=
  (evw_call (c1 := 0 + 0) hi (ewa_cons (evw_of he) ewa_nil) fun zs hz => by
    obtain ⟨_, _, rfl, rfl, rfl⟩ := hz
    exact ⟨rfl, a, h1, h2, rfl, fun r r0 r1 => ⟨r, rfl, r0, r1⟩⟩).up (by omega)
theorem evw_lcR {te0 : TE} {vs : List Nat} {j M : Nat} (h : EvW K d te0 σ B c1 (IntP p)) (hp : ∀ a, p a → 0 ≤ a ∧ a ≤ (M : Int)) (hM : M ≤ 1000000) (hw : ∀ x, wipe ((wipe σ vs).set j (some x)) vs = wipe σ vs)
    (he : ∀ (i : Nat) B1, Ex B B1 → EvW K d te ((wipe σ vs).set j (some (.int (i : Int)))) B1 c2 P) : EvW K d (tLc (iRng1 (tCons te0 tNil)) (gName j) tYes te vs) σ B (c1 + M * c2) (fun z => ∃ zs, z = .list zs ∧ p (zs.length : Int) ∧ ∀ x ∈ zs, P x) := fun S B1 H1 n o b ds hn Q k =>
  h S B1 H1 n o b ds (by omega) _ fun v x B2 H2 e2 o2 b2 d2 ⟨a, ea, pa⟩ dv => by
    subst ea
    cases dp_int dv
    obtain ⟨g0, g1⟩ := hp a pa
    obtain ⟨N, rfl⟩ : ∃ N : Nat, a = (N : Int) := ⟨a.toNat, by omega⟩
    refine ⟨(N : Int), rfl, by omega, by omega, fun L hL => ?_⟩
    rw [Int.toNat_natCast]
    have hLd : L ≠ d := fun e => by obtain ⟨u, hu⟩ := d2.at; rw [e, hu] at hL; cases hL
    have hSL : ¬ S L := o2.notS hL
    have hNM : N * c2 ≤ M * c2 := Nat.mul_le_mul_right c2 (by omega)
    refine ⟨fun i m H => m = N - i ∧ i ≤ N ∧ ∃ B3 ys zs, Ok (fun a => S a ∨ a = L) B3 H ∧ Ex B2 B3 ∧ ExB d H2 H ∧ DSt K (fun a => S a ∨ a = L) B3 H d (n + c1 + i * c2) ∧ H L = some (.lst ys) ∧ DpAll K B3 ys zs ∧ zs.length = i ∧ ∀ x ∈ zs, P x,
      ⟨N, rfl, Nat.zero_le _, B2, [], [], o2.mut hL, Ex.refl _, (ExB.refl d H2).new hL hLd, by rw [Nat.zero_mul, Nat.add_zero]; exact d2.mut hL, upd_same, .nil, rfl, fun x hx => by cases hx⟩, ?_⟩
    rintro i m H ⟨rfl, hin, B3, ys, zs, o3, b3, x3, d3, hys, dys, hzl, hz⟩
    by_cases hlt : i < N
    · have hmul : (i + 1) * c2 = i * c2 + c2 := Nat.succ_mul i c2
      have hmul2 : (i + 1) * c2 ≤ N * c2 := Nat.mul_le_mul_right c2 hlt
      refine .inr ⟨hlt, fun H' => (N - (i + 1)) = N - (i + 1) ∧ i + 1 ≤ N ∧ ∃ B3 ys zs, Ok (fun a => S a ∨ a = L) B3 H' ∧ Ex B2 B3 ∧ ExB d H2 H' ∧ DSt K (fun a => S a ∨ a = L) B3 H' d (n + c1 + (i + 1) * c2) ∧ H' L = some (.lst ys) ∧ DpAll K B3 ys zs ∧ zs.length = i + 1 ∧ ∀ x ∈ zs, P x, fun H' r => ⟨N - (i + 1), by omega, r⟩, fun x H' hy => ?_⟩
      obtain ⟨rfl, rfl⟩ := hy
      rw [Int.zero_add]
      refine ⟨hw _, (etYes (B := B3)) _ H' o3 _ fun B4 H4 q4 o4 b4 => ?_⟩
      rw [if_pos rfl]
      refine he i B4 (((b.trans b2).trans b3).trans b4) _ _ H4 (n + c1 + i * c2) o4 (Ex.refl _) (d3.ofEx q4 b4) (by omega) _ fun y z B5 H5 e5 o5 b5 d5 pz dz => ⟨ys, e5 _ _ (q4 _ _ hys) hLd, ?_, rfl, hlt, B5, ys ++ [y], zs ++ [z], o5.put (.inr rfl), (b3.trans b4).trans b5, ?_, ?_, upd_same, dpAll_append (dpExAll (b4.trans b5) dys) (dpAll_one dz), by rw [List.length_append, hzl]; rfl, fun x hx => ?_⟩
      · rw [dpAll_len dys, hzl]
        exact Nat.lt_of_lt_of_le (show i < 1000001 by omega) (by decide)
      · intro a u ha hn
        by_cases z : a = L
        · subst z; rw [hL] at ha; cases ha
        · rw [upd_ne z]; exact e5 _ _ (q4 _ _ (x3 _ _ ha hn)) hn
      · rw [hmul, ← Nat.add_assoc]; exact d5.other hLd
      · rcases List.mem_append.mp hx with hx | hx
        · exact hz x hx
        · rw [List.mem_singleton.mp hx]; exact pz
    · have e : i = N := by omega
      subst e
      refine .inl ⟨Nat.le_refl _, k _ (.list zs) _ H (e2.trans x3) (o3.fix hys hSL) ((b2.trans b3).trans o3.fixE) ?_ ⟨zs, rfl, by rw [hzl]; exact pa, hz⟩ (dp_newL upd_same (dpExAll o3.fixE dys))⟩
      exact ⟨ds.s, (d3.ofEx (Ex.refl _) o3.fixE).up (by omega) |>.ex⟩
theorem evd_tupRg2 {lo hi : Int} (h0 : 0 ≤ lo ∧ lo ≤ 1000 ∧ 0 ≤ hi ∧ hi ≤ 1000) (ha : EvD K ta σ B (.int lo)) (hb : EvD K tb σ B (.int hi)) : EvD K (tTupRg (tRg2 ta tb)) σ B (.tuple (((List.range (hi - lo).toNat).map fun i : Nat => lo + (i : Int)).map PyData.int)) := fun S H1 o Q k =>
  ha S H1 o _ fun x B2 H2 q2 o2 b2 dx => (hb.mono b2) S H2 o2 _ fun y B3 H3 q3 o3 b3 dy => by
    cases dp_int dx
    cases dp_int dy
    refine ⟨lo, hi, rfl, rfl, RgOk.of_le (by omega) (by omega) (by omega) (by omega), fun p hp => k _ _ _ ((q2.trans q3).trans (Ex.new hp)) (o3.new hp) ((b2.trans b3).trans (o3.exB hp)) (dp_newT upd_same ?_)⟩
    have e : rgV lo hi = ((List.range (hi - lo).toNat).map fun i : Nat => lo + (i : Int)).map V.int := by unfold rgV; rw [List.map_map]; rfl
    rw [e]
    exact dpAll_ofInts _
theorem evd_tupRg1 {hi : Int} (h0 : 0 ≤ hi ∧ hi ≤ 1000) (hb : EvD K tb σ B (.int hi)) : EvD K (tTupRg (tRg1 tb)) σ B (.tuple (((List.range hi.toNat).map fun i => ((i : Nat) : Int)).map PyData.int)) := fun S H1 o Q k =>
  hb S H1 o _ fun y B3 H3 q3 o3 b3 dy => by
    cases dp_int dy
    refine ⟨hi, rfl, RgOk.of_le (by omega) (by omega) (by omega) (by omega), fun p hp => k _ _ _ (q3.trans (Ex.new hp)) (o3.new hp) (b3.trans (o3.exB hp)) (dp_newT upd_same ?_)⟩
    have e : rgV 0 hi = ((List.range hi.toNat).map fun i => ((i : Nat) : Int)).map V.int := by unfold rgV; rw [List.map_map, Int.sub_zero]; congr 1; funext i; simp
    rw [e]
    exact dpAll_ofInts _
/-- a list of ints is data -/
theorem ints_of : ∀ {zs : List PyData}, (∀ x ∈ zs, IntP p x) → ∃ ns : List Int, zs = ns.map PyData.int ∧ ∀ a ∈ ns, p a
  | [], _ => ⟨[], rfl, fun _ h => by cases h⟩
  | z :: zs, h => by
    obtain ⟨a, rfl, pa⟩ := h z (List.mem_cons_self ..)
    obtain ⟨ns, rfl, hn⟩ := ints_of fun x hx => h x (List.mem_cons_of_mem _ hx)
    exact ⟨a :: ns, rfl, fun b hb => by
      rcases List.mem_cons.mp hb with rfl | hb
      · exact pa
      · exact hn b hb⟩
end
section
variable {K : PySem.W.Frag} {σ : L2.St} {B H : Hp} {S : Addr → Prop} {wi : TI} {n : Nat} {item : Nat → PyData} {D : Ends} {g : TG} {tb tz : TS}
theorem s_walk (o : Ok S B H) (h : EvI K wi σ B n item) (k : ∀ J B1 H1, Ex H H1 → Ok S B1 H1 → Ex B B1 → Src K J B1 n item → ∃ W : Nat → Nat → L2.St → Hp → Prop, (∃ m, W 0 m σ H1) ∧ ∀ i m σ H, W i m σ H →
      (J.stop i H ∧ D.nx σ H) ∨ (J.go i H ∧ ∃ N : L2.St → Hp → Prop, (∀ σ' H', N σ' H' → ∃ m', m' < m ∧ W (i + 1) m' σ' H') ∧ ∀ x H', J.yld i H x H' → g x σ H' fun σ2 H2 => tb { D with nx := N, ct := N, bk := D.nx } σ2 H2)) : tFor wi g tb D σ H := h S H o _ k
theorem q_walk (o : Ok S B H) (h : EvI K wi σ B n item) (k : ∀ J B1 H1, Ex H H1 → Ok S B1 H1 → Ex B B1 → Src K J B1 n item → ∃ W : Nat → Nat → L2.St → Hp → Prop, (∃ m, W 0 m σ H1) ∧ ∀ i m σ H, W i m σ H →
      (J.stop i H ∧ tz D σ H) ∨ (J.go i H ∧ ∃ N : L2.St → Hp → Prop, (∀ σ' H', N σ' H' → ∃ m', m' < m ∧ W (i + 1) m' σ' H') ∧ ∀ x H', J.yld i H x H' → g x σ H' fun σ2 H2 => tb { D with nx := N, ct := N, bk := tz D } σ2 H2)) : tSeq (tFor wi g tb) tz D σ H := h S H o _ k
end
section
variable {K : PySem.W.Frag} {d : Addr} {σ : L2.St} {B H : Hp} {S : Addr → Prop} {te : TE} {tr : TA} {c n i : Nat} {P : PyData → Prop} {a : Int} {D : Ends} {tz tb : TS} {E : XK} {p : Int → Prop} {g : TG}
theorem next_at {Q : VK} (o : Ok S B H) (ds : DSt K S B H d n) (hn : n + 1 ≤ 1000000000) (hi : σ[i]? = some (some (.ref d))) (he : EvH te σ H (.int a)) (h1 : 1 ≤ a) (h2 : a < 2 ^ 200)
    (k : ∀ r B2 H2, 0 ≤ r → r < a → ExB d H H2 → Ok S B2 H2 → Ex B B2 → DSt K S B2 H2 d (n + 1) → Q (.int r) H2) : tCall (SpW K 1 1 G_next) [] E (tCons (tVar i) (tCons te tNil)) σ H Q :=
  ⟨.ref d, hi, he _ ⟨S, B, d, n, [.int a], [.int a], IntP fun r => 0 ≤ r ∧ r < a, rfl, o, ds, hn, .cons (.int a) .nil, rfl, ⟨a, h1, h2, rfl, fun r r0 r1 => ⟨r, rfl, r0, r1⟩⟩, fun v x B2 H2 e2 o2 b2 d2 ⟨r, e, r0, r1⟩ dv => by
    subst e; cases dp_int dv; exact k r B2 H2 r0 r1 e2 o2 b2 d2⟩⟩
theorem q_newLW {Q2 : List PyData → Prop} (o : Ok S B H) (ds : DSt K S B H d n) (hn : n + c ≤ 1000000000) (hl : ∀ zs, Q2 zs → zs.length ≤ 100000) (h : EvWA K d tr σ B c Q2)
    (k : ∀ l xs zs B1 H1, H l = none → l ≠ d → ExB d H H1 → Ok (fun b => S b ∨ b = l) B1 H1 → Ex B B1 → DSt K (fun b => S b ∨ b = l) B1 H1 d (n + c) → H1 l = some (.lst xs) → DpAll K B1 xs zs → Q2 zs → tz D (σ.set i (some (.ref l))) H1) : tSeq (tAsg (tLst tr) (gName i)) tz D σ H :=
  h S B H n o (Ex.refl _) ds hn _ fun vs xs B2 H2 e2 o2 b2 d2 p dv => ⟨by rw [dpAll_len dv]; exact sz_of (hl xs p), fun l hl => by
    have hld : l ≠ d := fun e => by obtain ⟨u, hu⟩ := d2.at; rw [e, hu] at hl; cases hl
    refine k l vs xs B2 _ ?_ hld (e2.new hl hld) (o2.mut hl) b2 (d2.mut hl) upd_same dv p
    cases w : H l with
    | none => rfl
    | some u => rw [e2 _ _ w hld] at hl; cases hl⟩
theorem s_appW {l : Addr} {xs : List V} (o : Ok S B H) (hS : S l) (hld : l ≠ d) (hl : H l = some (.lst xs)) (hz : xs.length ≤ 1000000) (hi : σ[i]? = some (some (.ref l))) (ds : DSt K S B H d n) (hn : n + c ≤ 1000000000) (h : EvW K d te σ B c P)
    (k : ∀ v x B1 H1, ExB d H H1 → Ok S B1 (upd H1 l (.lst (xs ++ [v]))) → Ex B B1 → DSt K S B1 (upd H1 l (.lst (xs ++ [v]))) d (n + c) → P x → Dp K B1 v x → D.nx σ (upd H1 l (.lst (xs ++ [v])))) : tDrop (tBM K "list" rAppend (tVar i) (tCons te tNil)) D σ H :=
  ⟨.ref l, hi, .inl ⟨rfl, _, .inl (.inl hl)⟩, h S B H n o (Ex.refl _) ds hn _ fun v x B2 H2 e2 o2 b2 d2 p dv => ⟨l, xs, v, rfl, rfl, e2 _ _ hl hld, Nat.lt_of_le_of_lt hz (by decide), k v x B2 H2 e2 (o2.put hS) b2 (d2.other hld) p dv⟩⟩
/-- a for over range(a draw) -/
theorem q_walkR {M : Nat} (o : Ok S B H) (ds : DSt K S B H d n) (hn : n + c ≤ 1000000000) (h : EvW K d te σ B c (IntP p)) (hp : ∀ a, p a → 0 ≤ a ∧ a ≤ (M : Int)) (hM : M ≤ 1000000)
    (k : ∀ (N : Nat) B1 H1, p (N : Int) → N ≤ M → ExB d H H1 → Ok S B1 H1 → Ex B B1 → DSt K S B1 H1 d (n + c) → Src K (Itr 0 N) B1 N (fun i => .int (0 + (i : Int))) → ∃ W : Nat → Nat → L2.St → Hp → Prop, (∃ m, W 0 m σ H1) ∧ ∀ i m σ H, W i m σ H →
      ((Itr 0 N).stop i H ∧ tz D σ H) ∨ ((Itr 0 N).go i H ∧ ∃ Nx : L2.St → Hp → Prop, (∀ σ' H', Nx σ' H' → ∃ m', m' < m ∧ W (i + 1) m' σ' H') ∧ ∀ x H', (Itr 0 N).yld i H x H' → g x σ H' fun σ2 H2 => tb { D with nx := Nx, ct := Nx, bk := tz D } σ2 H2)) : tSeq (tFor (iRng1 (tCons te tNil)) g tb) tz D σ H :=
  h S B H n o (Ex.refl _) ds hn _ fun v x B2 H2 e2 o2 b2 d2 ⟨a, e, pa⟩ dv => by
    subst e
    cases dp_int dv
    obtain ⟨g0, g1⟩ := hp a pa
    obtain ⟨N, rfl⟩ : ∃ N : Nat, a = (N : Int) := ⟨a.toNat, by omega⟩
    refine ⟨(N : Int), rfl, by omega, by omega, ?_⟩
    rw [Int.toNat_natCast]
    exact k N B2 H2 pa (by omega) e2 o2 b2 d2 srcR
theorem cut_from {α : Type} {xs : List α} {m : Nat} : Z.cutD xs (some (m : Int)) none = xs.drop m := by
  unfold Z.cutD
  rw [HT.sIx_nat, show HT.sIx xs.length xs.length none = xs.length from rfl]
  by_cases h : m ≤ xs.length
  · rw [Nat.min_eq_left h, List.take_of_length_le (by rw [List.length_drop]; exact Nat.le_refl _)]
  · rw [Nat.min_eq_right (by omega), List.drop_of_length_le (Nat.le_refl _), List.drop_of_length_le (by omega), List.take_nil]
theorem cut_to {α : Type} {xs : List α} {m : Nat} : Z.cutD xs none (some (m : Int)) = xs.take m := by
  unfold Z.cutD
  rw [HT.sIx_nat, show HT.sIx xs.length 0 none = 0 from rfl, List.drop_zero, Nat.sub_zero]
  by_cases h : m ≤ xs.length
  · rw [Nat.min_eq_left h]
  · rw [Nat.min_eq_right (by omega), List.take_of_length_le (Nat.le_refl _), List.take_of_length_le (by omega)]
theorem cut_but {α : Type} {xs : List α} (h : 1 ≤ xs.length) : Z.cutD xs none (some (-1)) = xs.take (xs.length - 1) := by
  unfold Z.cutD
  rw [show HT.sIx xs.length 0 none = 0 from rfl, List.drop_zero, Nat.sub_zero, show HT.sIx xs.length xs.length (some (-1)) = xs.length - 1 by unfold HT.sIx; simp only []; rw [if_pos (by omega)]; omega]
end
end Z

/-! For the laws' own runs: data that can be shown, calls with keywords alone, tests that draw, loops over what was drawn, tolerances of given books. -/
namespace Z
open PySem PySem.Spec PyProof.Rows L2 M
open Evl hiding q_app q_drop q_if q_when q_while s_app s_drop s_if s_ret s_when
/-! ### data that can be shown -/
structure Sh (d : PyData) (D L : Nat) : Prop where
  s : d.showable = true
  h : d.hasDict = false
  dp : d.depth ≤ D
  l : d.shown.length ≤ L
theorem sh_none : Sh .none 1 4 := ⟨rfl, rfl, by decide, by decide +kernel⟩
theorem sh_int {i : Int} (h : i.natAbs < 10 ^ 40) : Sh (.int i) 1 41 := by
  refine ⟨?_, rfl, by simp [PyData.depth], ?_⟩
  · have h2 : i.natAbs < 2 ^ 200 := Nat.lt_of_lt_of_le h (by decide +kernel)
    have h3 := PySem.Flt.log2_lt_of (show 0 < 200 by decide) h2
    exact decide_eq_true (Nat.lt_of_lt_of_le h3 (by decide))
  · have e := int_text_length_le10 (a := i) (k := 40) (by decide) h
    show (Str.ofString (toString i)).length ≤ 41
    rw [PySem.ofString_length]; exact e
theorem Sh.up {d : PyData} {D L D' L' : Nat} (h : Sh d D L) (h1 : D ≤ D') (h2 : L ≤ L') : Sh d D' L' := ⟨h.s, h.h, Nat.le_trans h.dp h1, Nat.le_trans h.l h2⟩
theorem sh_all {D L : Nat} : ∀ {xs : List PyData}, (∀ x ∈ xs, Sh x D L) → PyData.showableAll xs = true ∧ PyData.hasDictAll xs = false ∧ PyData.depthAll xs ≤ D ∧ ((PyData.shownAll xs).map (·.length)).sum ≤ xs.length * L ∧ (PyData.shownAll xs).length = xs.length
  | [], _ => by simp [PyData.showableAll, PyData.hasDictAll, PyData.depthAll, PyData.shownAll]
  | x :: r, h => by
    obtain ⟨h1, h2, h3, h4, h5⟩ := sh_all fun y hy => h y (List.mem_cons_of_mem _ hy)
    obtain ⟨g1, g2, g3, g4⟩ := h x List.mem_cons_self
    have e : (r.length + 1) * L = r.length * L + L := Nat.succ_mul _ _
    refine ⟨by simp [PyData.showableAll, h1, g1], by simp [PyData.hasDictAll, h2, g2], by simp [PyData.depthAll]; omega, ?_, by simp [PyData.shownAll, h5]⟩
    simp only [PyData.shownAll, List.map_cons, List.sum_cons, List.length_cons]
    omega
theorem sh_list {xs : List PyData} {D L n : Nat} (h : ∀ x ∈ xs, Sh x D L) (hn : xs.length ≤ n) : Sh (.list xs) (D + 1) (n * L + 2 * n + 3) := by
  obtain ⟨h1, h2, h3, h4, h5⟩ := sh_all h
  refine ⟨by simpa [PyData.showable] using h1, by simpa [PyData.hasDict] using h2, by simp [PyData.depth]; omega, ?_⟩
  have e := listText_len_le (PyData.shownAll xs)
  have e2 : xs.length * L ≤ n * L := Nat.mul_le_mul_right L hn
  simp only [PyData.shown]
  omega
theorem sh_tuple {xs : List PyData} {D L n : Nat} (h : ∀ x ∈ xs, Sh x D L) (hn : xs.length ≤ n) : Sh (.tuple xs) (D + 1) (n * L + 2 * n + 3) := by
  obtain ⟨h1, h2, h3, h4, h5⟩ := sh_all h
  refine ⟨by simpa [PyData.showable] using h1, by simpa [PyData.hasDict] using h2, by simp [PyData.depth]; omega, ?_⟩
  have e := tupleText_len_le (PyData.shownAll xs)
  have e2 : xs.length * L ≤ n * L := Nat.mul_le_mul_right L hn
  simp only [PyData.shown]
  omega
theorem sh_two {x y : PyData} {D L : Nat} (h : Sh x D L) (g : Sh y D L) : ∀ z ∈ [x, y], Sh z D L := fun z hz => by
  rcases List.mem_cons.mp hz with rfl | hz
  · exact h
  · rw [List.mem_singleton.mp hz]; exact g
theorem sh_oD {t : Option Int} (h : ∀ x, t = some x → x.natAbs < 10 ^ 40) : Sh (oD t) 1 41 := by
  cases t with
  | none => exact sh_none.up (by decide) (by decide)
  | some x => exact sh_int (h x rfl)
section
variable {K : PySem.W.Frag} {d : Addr} {σ : L2.St} {B H : Hp} {S : Addr → Prop} {te ta tb : TE} {c c1 c2 n : Nat} {P : PyData → Prop} {D : Ends} {tz tu : TS} {t u : TT} {E : XK} {x y : PyData}
theorem evd_reprS {D L : Nat} (hr : ∃ xs, x = .list xs ∨ x = .tuple xs) (h : Sh x D L) (hD : D ≤ 32) (hL : L ≤ 1000000) (e : EvD K ta σ B x) : EvD K (tCB (rRepr K) (tCons ta tNil)) σ B (.str x.shown) :=
  evd_repr hr h.s h.h (Nat.le_trans h.dp hD) (Nat.le_trans h.l (Nat.le_trans hL (by decide))) e
/-- repr(..) != repr(..) of the same data -/
theorem eq_repr {D L : Nat} (hr : ∃ xs, x = .list xs ∨ x = .tuple xs) (h : Sh x D L) (hD : D ≤ 32) (hL : L ≤ 1000000) (ha : EvD K ta σ B x) (hb : EvD K tb σ B x) : EvQ (tTest (tOp rNe (tCB (rRepr K) (tCons ta tNil)) (tCB (rRepr K) (tCons tb tNil)))) σ B false :=
  (etest (evd_neS (evd_reprS hr h hD hL ha) (evd_reprS hr h hD hL hb))).is (by simp)
/-! ### keywords alone -/
def g21 {α : Type} (us ws : List α) : List α := match us, ws with
  | [], [m, b] => [b, m]
  | _, _ => []
theorem kb21 {K : PySem.W.Frag} {x qual : Str} {params : Arguments} {body : List Stmt} {scope : Scope} {kws : List (Str × V)} {f : Addr} {fd : FuncData} {p1 p2 k1 k2 : Str} (F : FunD K x qual params body scope [] kws f fd)
    (h : ∀ (kV doc pm : Value) (an : Option Addr) (cdv ct m b : Value), bindArgs (PySem.W.fnOf x qual params body scope .none kV doc pm an cdv ct) ⟨[], [(k1, m), (k2, b)]⟩ = pure [(p1, b), (p2, m)]) : KBinds K fd [p1, p2] [k1, k2] g21 g21 := by
  obtain ⟨oc, od, dV, kV, doc, pm, an, cdv, ct, osl, rfl, lk, hcd, hD, hK⟩ := F.ex
  rcases hD with ⟨_, rfl⟩ | ⟨e, _⟩
  · refine ⟨fun s us ws _ hl => ?_, fun {vs us zs ws} r1 r2 => ?_⟩
    · match us, ws, hl with
      | [], [m, b], _ => exact .of_eq (h kV doc pm an cdv ct m b)
    · cases r1 with
      | nil =>
        cases r2 with
        | nil => exact .nil
        | cons a r2 =>
          cases r2 with
          | nil => exact .nil
          | cons b r2 =>
            cases r2 with
            | nil => exact .cons b (.cons a .nil)
            | cons c r2 => exact .nil
      | cons _ _ => exact .nil
  · exact absurd rfl e
theorem evd_callK21 {F : List PyData → PyData → Prop} {r : PyData} (hF : F [x, y] r) (hy : EvD K ta σ B y) (hx : EvD K tb σ B x) : EvD K (tCallK (SpF K 2 F) g21 E tNil (tCons ta (tCons tb tNil))) σ B r := fun S H1 o Q k =>
  hy S H1 o _ fun v B2 H2 q2 o2 b2 dv => (hx.mono b2) S H2 o2 _ fun w B3 H3 q3 o3 b3 dw => ⟨S, B3, [x, y], r, o3, .cons dw (.cons (dpEx b3 dv) .nil), rfl, hF, fun u B4 H4 q4 o4 b4 du => k u B4 H4 ((q2.trans q3).trans q4) o4 ((b2.trans b3).trans b4) du⟩
/-! ### tests that draw -/
def EvWQ (K : PySem.W.Frag) (d : Addr) (tt : TT) (σ : L2.St) (B : Hp) (c : Nat) (b : Bool) : Prop := ∀ (S : Addr → Prop) (B1 H1 : Hp) (n : Nat), Ok S B1 H1 → Ex B B1 → DSt K S B1 H1 d n → n + c ≤ 1000000000 →
  ∀ Q : Bool → Hp → Prop, (∀ B2 H2, ExB d H1 H2 → Ok S B2 H2 → Ex B1 B2 → DSt K S B2 H2 d (n + c) → Q b H2) → tt σ H1 Q
theorem ewq_of {b : Bool} (h : EvQ t σ B b) : EvWQ K d t σ B 0 b := fun S B1 H1 n o q ds hn Q k => (h.mono q) S H1 o Q fun B2 H2 q2 o2 b2 => k B2 H2 (.of q2) o2 b2 (ds.ofEx q2 b2)
theorem ewq_test {b : Bool} (h : EvW K d te σ B c (· = .bool b)) : EvWQ K d (tTest te) σ B c b := fun S B1 H1 n o q ds hn Q k => h S B1 H1 n o q ds hn _ fun v x B2 H2 e2 o2 b2 d2 p dv => by
  subst p
  exact ⟨b, dp_bool dv, k B2 H2 e2 o2 b2 d2⟩
theorem ewq_and {b b' : Bool} (h : EvWQ K d t σ B c1 b) (h2 : b = true → EvWQ K d u σ B c2 b') : EvWQ K d (tAnd t u) σ B (c1 + c2) (b && b') := fun S B1 H1 n o q ds hn Q k => h S B1 H1 n o q ds (by omega) _ fun B2 H2 e2 o2 b2 d2 => by
  cases b with
  | true =>
    rw [if_pos rfl]
    exact h2 rfl S B2 H2 (n + c1) o2 (q.trans b2) d2 (by omega) _ fun B3 H3 e3 o3 b3 d3 => k B3 H3 (e2.trans e3) o3 (b2.trans b3) (by rw [← Nat.add_assoc]; exact d3)
  | false =>
    rw [if_neg Bool.false_ne_true]
    exact k B2 H2 e2 o2 b2 (d2.up (by omega))
theorem EvWQ.is {b b' : Bool} (h : EvWQ K d t σ B c b) (e : b = b') : EvWQ K d t σ B c b' := e ▸ h
theorem EvWQ.up {b : Bool} (hc : c1 ≤ c2) (h : EvWQ K d t σ B c1 b) : EvWQ K d t σ B c2 b := fun S B1 H1 n o q ds hn Q k => h S B1 H1 n o q ds (by omega) Q fun B2 H2 e2 o2 b2 d2 => k B2 H2 e2 o2 b2 (d2.up (by omega))
theorem q_notW (o : Ok S B H) (ds : DSt K S B H d n) (hn : n + c ≤ 1000000000) (h : EvWQ K d t σ B c false) (k : ∀ B1 H1, ExB d H H1 → Ok S B1 H1 → Ex B B1 → DSt K S B1 H1 d (n + c) → tz D σ H1) : tSeq (tIfS t tu tNext) tz D σ H :=
  h S B H n o (Ex.refl _) ds hn _ fun B2 H2 e2 o2 b2 d2 => by
    rw [if_neg Bool.false_ne_true]; exact k B2 H2 e2 o2 b2 d2
theorem s_notW (o : Ok S B H) (ds : DSt K S B H d n) (hn : n + c ≤ 1000000000) (h : EvWQ K d t σ B c false) (k : ∀ B1 H1, ExB d H H1 → Ok S B1 H1 → Ex B B1 → DSt K S B1 H1 d (n + c) → D.nx σ H1) : tIfS t tu tNext D σ H :=
  h S B H n o (Ex.refl _) ds hn _ fun B2 H2 e2 o2 b2 d2 => by
    rw [if_neg Bool.false_ne_true]; exact k B2 H2 e2 o2 b2 d2
/-- for x in a tuple that draws -/
theorem s_forTW {tb : TS} {g : TG} {Q2 : List PyData → Prop} (o : Ok S B H) (ds : DSt K S B H d n) (hn : n + c ≤ 1000000000) (h : EvW K d te σ B c (fun x => ∃ zs, x = .tuple zs ∧ Q2 zs)) (Pv : List PyData → Hp → Nat → L2.St → Hp → Prop)
    (h0 : ∀ zs B2 H2, Q2 zs → ExB d H H2 → Ok S B2 H2 → Ex B B2 → DSt K S B2 H2 d (n + c) → Pv zs B2 0 σ H2) (hk : ∀ zs B2 i σ' H', Pv zs B2 i σ' H' → ∃ S', Ok S' B2 H')
    (hs : ∀ zs B2 i x σ' H' H'', Q2 zs → Ex B B2 → i < zs.length → Pv zs B2 i σ' H' → Ex H' H'' → (∀ S' B3, Ok S' B3 H' → Ex B2 B3 → ∃ B4, Ok S' B4 H'' ∧ Ex B3 B4 ∧ Dp K B4 x (zs.getD i .none)) → g x σ' H'' fun σ2 H2 => tb { D with nx := Pv zs B2 (i + 1), ct := Pv zs B2 (i + 1), bk := D.nx } σ2 H2)
    (hd : ∀ zs B2 σ' H', Q2 zs → Ex B B2 → Pv zs B2 zs.length σ' H' → D.nx σ' H') : tFor (iTup K te) g tb D σ H :=
  h S B H n o (Ex.refl _) ds hn _ fun v x B2 H2 e2 o2 b2 d2 ⟨zs, ex, q⟩ dv => by
    subst ex
    obtain ⟨p, xs, rfl, hsq, hda⟩ := dp_tuple dv
    refine ⟨p, rfl, ⟨xs, ex_t o2.le hsq⟩, ?_⟩
    exact for_core (srcT hsq hda) (Pv zs B2) (h0 zs B2 H2 q e2 o2 b2 d2) (hk zs B2) (fun i x σ' H' H'' hi p eh f => hs zs B2 i x σ' H' H'' q b2 hi p eh f) fun σ' H' p => hd zs B2 σ' H' q b2 p
end
/-! ### the tolerance of a given book -/
theorem isTol_of {b : Bk} {n : Nat} {x : Int} (h : ((starts b).all fun s => (starts b).all fun o => decide (s = o) || decide (x ≤ mo b n s o)) = true) (s o : Stt) (k : Nat) (hs : GoodS b s) (ho : GoodS b o) (hne : stk b s k ≠ stk b o k) (hx : x = mo b n s o) : IsTol b n (some x) := by
  refine .inr ⟨x, rfl, ⟨s, o, hs, ho, fun q => hne (q k), hx⟩, fun s o g go hn => ?_⟩
  have h1 := List.all_eq_true.mp (List.all_eq_true.mp h s (mem_starts.mpr g)) o (mem_starts.mpr go)
  rcases Bool.or_eq_true_iff.mp h1 with h2 | h2
  · exact absurd (fun _ => by rw [of_decide_eq_true h2]) hn
  · exact of_decide_eq_true h2
theorem isTol_none {b : Bk} {n : Nat} (h : ((starts b).all fun s => (starts b).all fun o => sameB b s o) = true) : IsTol b n none :=
  .inl ⟨rfl, fun s o g go => (sameB_iff g go).mp (List.all_eq_true.mp (List.all_eq_true.mp h s (mem_starts.mpr g)) o (mem_starts.mpr go))⟩
end Z

/-! For the law over all waits: the least of rows, None in a list, the best starts, a clock's wait, the law's own reach. -/
namespace M
section
variable {b : Bk} {s o : Stt}
def bestF (b : Bk) (m : Int) : List Stt := (starts b).filter fun s => (starts b).all fun o => decide (wF b m s ≤ wF b m o)
def lgs (b : Bk) (m : Int) (s : Stt) : List (Option Int) := ((starts b).filter fun o => !decide ((o.1 : Int) = (s.1 : Int))).map (lgF b m s)
def cwF (b : Bk) (m : Int) (s : Stt) : Option Int := if (lgs b m s).any Option.isNone then none else some (maxL (((lgs b m s).filterMap id).map fun x => 1 + x))
theorem best_of {m w : Int} (h1 : ∃ s, s ∈ starts b ∧ wF b m s = w) (h2 : ∀ s, s ∈ starts b → w ≤ wF b m s) : bestF b m = (starts b).filter fun s => decide (wF b m s = w) := by
  unfold bestF
  refine List.filter_congr fun s hs => ?_
  rw [Bool.eq_iff_iff, List.all_eq_true]
  simp only [decide_eq_true_eq]
  obtain ⟨s0, hs0, e0⟩ := h1
  constructor
  · intro h
    have := h s0 hs0
    have := h2 s hs
    omega
  · intro h o ho
    have := h2 o ho
    omega
/-- the law's own reach: both sums together -/
theorem reach_law (g : GoodS b s) (h : GoodS b o) {R : Nat} (hR : 0 < R) (d1 : len b s ∣ R) (d2 : len b o ∣ R) (hne : ¬ Same b s o) {m : Int} (hm : 0 ≤ m) :
    0 < max (ov b s o R) (ov b o s R) ∧ lgF b m s o = some ((m / max (ov b s o R) (ov b o s R)) * R + (((List.range R).filter fun k => decide (ov b s o (k + 1) ≤ m - (m / max (ov b s o R) (ov b o s R)) * ov b s o R) && decide (ov b o s (k + 1) ≤ m - (m / max (ov b s o R) (ov b o s R)) * ov b o s R)).length : Nat)) := by
  have hsame := same_iff_ov g h hR d1 d2
  have n1 := ov_nonneg (b := b) (s := s) (o := o) R
  have n2 := ov_nonneg (b := b) (s := o) (o := s) R
  have hpos : 0 < max (ov b s o R) (ov b o s R) := by
    by_cases z1 : ov b s o R = 0
    · by_cases z2 : ov b o s R = 0
      · exact absurd (hsame.mpr ⟨z1, z2⟩) hne
      · omega
    · omega
  refine ⟨hpos, (lgF_is g h hm).uniq ?_⟩
  have hF : ov b s o R ≤ max (ov b s o R) (ov b o s R) := Int.le_max_left _ _
  have hG : ov b o s R ≤ max (ov b s o R) (ov b o s R) := Int.le_max_right _ _
  have hMx : max (ov b s o R) (ov b o s R) = ov b s o R ∨ max (ov b s o R) (ov b o s R) = ov b o s R := by omega
  generalize max (ov b s o R) (ov b o s R) = M0 at *
  obtain ⟨q, hq⟩ : ∃ q : Nat, m / M0 = (q : Int) := ⟨(m / M0).toNat, by have := Int.ediv_nonneg hm (Int.le_of_lt hpos); omega⟩
  have hd := Int.emod_add_mul_ediv m M0
  have hr0 := Int.emod_nonneg m (show M0 ≠ 0 by omega)
  have hr1 := Int.emod_lt_of_pos m hpos
  rw [hq] at hd ⊢
  have e1 : M0 * (q : Int) = (q : Int) * M0 := Int.mul_comm _ _
  have l1 : (q : Int) * ov b s o R ≤ (q : Int) * M0 := Int.mul_le_mul_of_nonneg_left hF (by omega)
  have l2 : (q : Int) * ov b o s R ≤ (q : Int) * M0 := Int.mul_le_mul_of_nonneg_left hG (by omega)
  have hfun : (fun k => decide (ov b s o (k + 1) ≤ m - (q : Int) * ov b s o R) && decide (ov b o s (k + 1) ≤ m - (q : Int) * ov b o s R)) = fun k => decide ((fun k => max (ov b s o k - (m - (q : Int) * ov b s o R)) (ov b o s k - (m - (q : Int) * ov b o s R))) (k + 1) ≤ 0) := by
    funext k
    rw [Bool.eq_iff_iff, Bool.and_eq_true]
    simp only [decide_eq_true_eq]
    omega
  rw [hfun]
  obtain ⟨c, hc, e, h1, h2⟩ := count_mono (fun k => max (ov b s o k - (m - (q : Int) * ov b s o R)) (ov b o s k - (m - (q : Int) * ov b o s R))) (fun i j hij => by
    have a1 := ov_mono (b := b) (s := s) (o := o) hij
    have a2 := ov_mono (b := b) (s := o) (o := s) hij
    show max _ _ ≤ max _ _
    omega) R 0 (by
    have z1 : ov b s o 0 = 0 := rfl
    have z2 : ov b o s 0 = 0 := rfl
    show max _ _ ≤ 0
    rw [z1, z2]
    omega)
  rw [e]
  have h1' : max (ov b s o c - (m - (q : Int) * ov b s o R)) (ov b o s c - (m - (q : Int) * ov b o s R)) ≤ 0 := h1
  have hcR : c < R := by
    apply Nat.lt_of_le_of_ne hc
    intro z
    rw [z] at h1'
    rcases hMx with w | w
    · have : (q : Int) * ov b s o R = (q : Int) * M0 := by rw [← w]
      omega
    · have : (q : Int) * ov b o s R = (q : Int) * M0 := by rw [← w]
      omega
  have h2' : 0 < max (ov b s o (c + 1) - (m - (q : Int) * ov b s o R)) (ov b o s (c + 1) - (m - (q : Int) * ov b o s R)) := h2 hcR
  refine .inr ⟨hne, q * R + c, by simp, ?_, ?_, ?_⟩
  · rw [ov_mul d1 d2]; omega
  · rw [ov_mul d2 d1]; omega
  · rw [Nat.add_assoc, ov_mul d1 d2, ov_mul d2 d1]; omega
/-- the worst wait told by two counts -/
theorem ww_is {m : Int} (hm : 0 ≤ m) {n : Nat} (h : ((starts b).all fun s => (starts b).all fun o => decide (s = o) || decide (m < max (ov b s o (n + 1)) (ov b o s (n + 1)))) = true) (s o : Stt) (k : Nat) (hs : GoodS b s) (ho : GoodS b o) (hne : stk b s k ≠ stk b o k) (hx : max (ov b s o n) (ov b o s n) ≤ m) : wwF b m = ((n + 1 : Nat) : Int) := by
  have h1 : wwF b m ≤ ((n + 1 : Nat) : Int) := by
    rw [ww_le_iff hm]
    intro s o g go hn
    have h1 := List.all_eq_true.mp (List.all_eq_true.mp h s (mem_starts.mpr g)) o (mem_starts.mpr go)
    rcases Bool.or_eq_true_iff.mp h1 with h2 | h2
    · exact absurd (fun _ => by rw [of_decide_eq_true h2]) hn
    · exact of_decide_eq_true h2
  have h2 : ¬ wwF b m ≤ (n : Int) := by
    rw [ww_le_iff hm]
    intro q
    have := q s o hs ho fun e => hne (e k)
    omega
  omega
theorem ww_zero {m : Int} (hm : 0 ≤ m) (h : ((starts b).all fun s => (starts b).all fun o => sameB b s o) = true) : wwF b m = 0 := by
  have h1 : wwF b m ≤ ((0 : Nat) : Int) := by
    rw [ww_le_iff hm]
    intro s o g go hn
    exact absurd ((sameB_iff g go).mp (List.all_eq_true.mp (List.all_eq_true.mp h s (mem_starts.mpr g)) o (mem_starts.mpr go))) hn
  have h2 : 0 ≤ wwF b m := (maxL_ge _ 0).1
  omega
theorem lg_le (G : GoodB b) (g : GoodS b s) (h : GoodS b o) {m x : Int} (hm : 0 ≤ m) (e : lgF b m s o = some x) : x ≤ (m + 1) * 576 := by
  rcases lgF_is g h hm with ⟨z, _⟩ | ⟨hne, N, z, a1, a2, _⟩
  · rw [z] at e; cases e
  rw [z] at e
  cases e
  obtain ⟨k, rfl⟩ : ∃ k : Nat, m = (k : Int) := ⟨m.toNat, by omega⟩
  have hR := rnd_pos g h
  have hR2 := rnd_le G g h
  have hs := same_iff_ov g h hR rnd_l rnd_r
  have n1 := ov_nonneg (b := b) (s := s) (o := o) (rnd b s o)
  have n2 := ov_nonneg (b := b) (s := o) (o := s) (rnd b s o)
  apply Int.le_of_not_gt
  intro hgt
  have hle : (k + 1) * rnd b s o ≤ (k + 1) * 576 := Nat.mul_le_mul_left _ hR2
  have hgt' : (k + 1) * 576 < N := by omega
  have m1 := ov_mono (b := b) (s := s) (o := o) (i := (k + 1) * rnd b s o + 0) (j := N) (by omega)
  have m2 := ov_mono (b := b) (s := o) (o := s) (i := (k + 1) * rnd b s o + 0) (j := N) (by omega)
  rw [ov_mul rnd_l rnd_r] at m1
  rw [ov_mul rnd_r rnd_l] at m2
  have z1 : ov b s o 0 = 0 := rfl
  have z2 : ov b o s 0 = 0 := rfl
  by_cases w1 : ov b s o (rnd b s o) = 0
  · by_cases w2 : ov b o s (rnd b s o) = 0
    · exact hne (hs.mpr ⟨w1, w2⟩)
    · have : ((k + 1 : Nat) : Int) * 1 ≤ ((k + 1 : Nat) : Int) * ov b o s (rnd b s o) := Int.mul_le_mul_of_nonneg_left (by omega) (by omega)
      omega
  · have : ((k + 1 : Nat) : Int) * 1 ≤ ((k + 1 : Nat) : Int) * ov b s o (rnd b s o) := Int.mul_le_mul_of_nonneg_left (by omega) (by omega)
    omega
theorem wF_le (G : GoodB b) (g : GoodS b s) {m : Int} (hm : 0 ≤ m) : wF b m s ≤ 1 + (m + 1) * 576 := by
  unfold wF maxL
  rcases maxL_mem (((starts b).filterMap (lgF b m s)).map fun x => 1 + x) 0 with e | e
  · rw [e]; omega
  · obtain ⟨x, hx, e2⟩ := List.mem_map.mp e
    obtain ⟨o, ho, e3⟩ := List.mem_filterMap.mp hx
    have := lg_le G g (mem_starts.mp ho) hm e3
    omega
theorem cw_le (G : GoodB b) (g : GoodS b s) {m x : Int} (hm : 0 ≤ m) (e : cwF b m s = some x) : 0 ≤ x ∧ x ≤ 1 + (m + 1) * 576 := by
  unfold cwF at e
  split at e
  · cases e
  · cases e
    refine ⟨(maxL_ge _ 0).1, ?_⟩
    unfold maxL
    rcases maxL_mem (((lgs b m s).filterMap id).map fun x => 1 + x) 0 with e | e
    · rw [e]; omega
    · obtain ⟨x, hx, e2⟩ := List.mem_map.mp e
      obtain ⟨a, ha, e3⟩ := List.mem_filterMap.mp hx
      unfold lgs at ha
      obtain ⟨o, ho, e4⟩ := List.mem_map.mp ha
      have e5 : lgF b m s o = some x := by rw [e4]; exact e3
      have := lg_le G g (mem_starts.mp (List.mem_filter.mp ho).1) hm e5
      omega
theorem ww_mem (G : GoodB b) {m : Int} : wwF b m ∈ (starts b).map (wF b m) := by
  unfold wwF maxL
  rcases maxL_mem ((starts b).map (wF b m)) 0 with e | e
  · rw [e]
    obtain ⟨c, ss, hss⟩ : ∃ c ss, starts b = c :: ss := by
      cases h : starts b with
      | nil => exact absurd h (starts_ne G)
      | cons c ss => exact ⟨c, ss, rfl⟩
    have hc : c ∈ starts b := by rw [hss]; exact List.mem_cons_self
    have h1 := (maxL_ge ((starts b).map (wF b m)) 0).2 _ (List.mem_map.mpr ⟨c, hc, rfl⟩)
    have h2 := wF_nonneg (b := b) (s := c) (m := m)
    exact List.mem_map.mpr ⟨c, hc, by omega⟩
  · exact e
theorem ww_ge {m y : Int} (h : y ∈ (starts b).map (wF b m)) : y ≤ wwF b m := (maxL_ge _ 0).2 _ h
end
end M
namespace Z
open PySem PySem.Spec PyProof.Rows L2 M
open Evl hiding q_app q_drop q_if q_when q_while s_app s_drop s_if s_ret s_when
/-! ### min of rows -/
def rMinRows (K : PySem.W.Frag) : List V → Hp → VK → Prop := fun xs H Q => ∃ (a : Addr) (vs : List V) (x : PyData) (r : List PyData), xs = [V.ref a] ∧ SqL K H a vs ∧ DpAll K H vs (x :: r) ∧ PySem.W.AlikeAll (x :: r) ∧ PyData.canLayAll0 (x :: r) = true ∧ PyData.depthAll (x :: r) ≤ 32 ∧ ∀ (i : Nat) (v : V), vs[i]? = some v → (x :: r)[i]? = some (PySem.W.minD x r) → Q v H
theorem canLay_mem : ∀ {ds : List PyData} {d : PyData}, PyData.canLayAll0 ds = true → d ∈ ds → d.canLay0 = true
  | x :: r, d, h, hm => by
    have h' : x.canLay0 = true ∧ PyData.canLayAll0 r = true := by simpa [PyData.canLayAll0] using h
    rcases List.mem_cons.mp hm with rfl | hm
    · exact h'.1
    · exact canLay_mem h'.2 hm
theorem vals_at : ∀ {vs : List V} {us : List Value}, Vals vs us → ∀ (i : Nat) (u : Value), us[i]? = some u → ∃ v, vs[i]? = some v ∧ RelV v u
  | _, _, .nil, i, u, h => by simp at h
  | _, _, .cons r _, 0, u, h => by simp at h; subst h; exact ⟨_, rfl, r⟩
  | _, _, .cons _ rr, i + 1, u, h => (vals_at rr i u (by simpa using h)).imp fun v q => ⟨by simpa using q.1, q.2⟩
section
variable {X : Cx}
theorem cr_minRows (hc : X.calm = true) (hu : X.A.units + 64 < cLine) : CallR X (.builtin "min") (rMinRows X.K) := by
  intro pins s σ H xs us Q I r1 h
  obtain ⟨a, vs, x, r, rfl, hq, hd, ha, hcl, hdp, k⟩ := h
  cases r1 with | cons r1 r1' =>
  cases r1'
  cases r1
  obtain ⟨its, rv, p, hz⟩ := I.list hq
  obtain ⟨as, rd⟩ := Dp.readsAll I (x :: r) _ its hd rv
  refine PySem.W.min_list_data (x := x) (xs := r) (as := as) (I.ok.hd hc) p.isList (by simpa using rd) ha (by omega) fun i v h' tk bs hi rr hk => ?_
  have hi' : its[i]? = some v := by simpa using hi
  obtain ⟨y, hy, ry⟩ := vals_at rv i v hi'
  obtain ⟨e, he, dy⟩ := dpAll_getV hd hy
  obtain ⟨bs2, r2⟩ := Dp.reads I e y v dy ry
  have hmem : e ∈ x :: r := List.mem_of_getElem? he
  have eq := SeqAt.Reads.unique e _ v _ _ (canLay_mem hcl hmem) (PySem.W.reads_keeps hk r2) rr
  exact ⟨y, H, I.kept hk, ry, k i y hy (by rw [← eq]; exact he)⟩
end
def rowD (a : Int) (p : PyData) : PyData := .tuple [.int a, p]
theorem row_lt {a b : Int} {p q : PyData} (h : PySem.W.alike p q = true) : (PySem.W.dataLt (rowD a p) (rowD b q) = true → a ≤ b) ∧ (PySem.W.dataLt (rowD a p) (rowD b q) = false → b ≤ a) := by
  by_cases e : a = b
  · exact ⟨fun _ => by omega, fun _ => by omega⟩
  · have h1 : PyData.eqv (.int a) (.int b) = false := by simp [PyData.eqv, e]
    have h2 : PySem.W.dataLt (rowD a p) (rowD b q) = decide (a < b) := by
      unfold rowD
      rw [PySem.W.dataLt_tuple, PySem.W.dataLt_all_no (by simp [PySem.W.alike]) h1, PySem.W.dataLt_int]
    rw [h2]
    simp only [decide_eq_true_eq, decide_eq_false_iff_not]
    omega
theorem minD_rows {α : Type} (w : α → Int) (f : α → PyData) (hal : ∀ x y, PySem.W.alike (f x) (f y) = true) : ∀ (l : List α) (x : α), ∃ y, y ∈ x :: l ∧ PySem.W.minD (rowD (w x) (f x)) (l.map fun z => rowD (w z) (f z)) = rowD (w y) (f y) ∧ ∀ z, z ∈ x :: l → w y ≤ w z
  | [], x => ⟨x, List.mem_cons_self, rfl, fun z hz => by rw [List.mem_singleton.mp hz]; exact Int.le_refl _⟩
  | c :: l, x => by
    have step : PySem.W.minD (rowD (w x) (f x)) ((c :: l).map fun z => rowD (w z) (f z)) = PySem.W.minD (if PySem.W.dataLt (rowD (w c) (f c)) (rowD (w x) (f x)) = true then rowD (w c) (f c) else rowD (w x) (f x)) (l.map fun z => rowD (w z) (f z)) := by
      unfold PySem.W.minD
      rw [List.map_cons, List.foldl_cons]
    rw [step]
    have hl := row_lt (a := w c) (b := w x) (hal c x)
    cases hb : PySem.W.dataLt (rowD (w c) (f c)) (rowD (w x) (f x)) with
    | true =>
      rw [if_pos rfl]
      obtain ⟨y, hy, e, hle⟩ := minD_rows w f hal l c
      have h1 := hl.1 hb
      refine ⟨y, List.mem_cons_of_mem _ hy, e, fun z hz => ?_⟩
      rcases List.mem_cons.mp hz with rfl | hz
      · exact Int.le_trans (hle c List.mem_cons_self) h1
      · exact hle z hz
    | false =>
      rw [if_neg Bool.false_ne_true]
      obtain ⟨y, hy, e, hle⟩ := minD_rows w f hal l x
      have h1 := hl.2 hb
      refine ⟨y, ?_, e, fun z hz => ?_⟩
      · rcases List.mem_cons.mp hy with rfl | hy
        · exact List.mem_cons_self
        · exact List.mem_cons_of_mem _ (List.mem_cons_of_mem _ hy)
      · rcases List.mem_cons.mp hz with rfl | hz
        · exact hle z List.mem_cons_self
        · rcases List.mem_cons.mp hz with rfl | hz
          · exact Int.le_trans (hle x List.mem_cons_self) h1
          · exact hle z (List.mem_cons_of_mem _ hz)
section
variable {K : PySem.W.Frag} {d : Addr} {σ : L2.St} {B H : Hp} {S : Addr → Prop} {te ta tb tc : TE} {D : Ends} {tz tu : TS} {E : XK} {x y z : PyData} {v : V} {i : Nat} {a b : Int}
theorem evd_minRows {r : List PyData} (ha : PySem.W.AlikeAll (x :: r)) (hc : PyData.canLayAll0 (x :: r) = true) (hd : PyData.depthAll (x :: r) ≤ 32) (h : EvD K ta σ B (.list (x :: r))) : EvD K (tCB (rMinRows K) (tCons ta tNil)) σ B (PySem.W.minD x r) :=
  evd_cb0 (eda_cons h eda_nil) fun xs B1 H1 l dx Q k => by
    obtain ⟨w, rfl, hw⟩ := dpAll_inv1 dx
    obtain ⟨p, ys, rfl, hs, hda⟩ := dp_list hw
    refine ⟨p, ys, x, r, rfl, ex_l l hs, dpExAll l hda, ha, hc, hd, fun i v hv hm => ?_⟩
    obtain ⟨e, he, de⟩ := dpAll_getV hda hv
    rw [hm] at he
    cases he
    exact k v de
/-! ### None in a list -/
def oV : Option Int → V
  | none => .non
  | some i => .int i
theorem dpAll_oD : ∀ {vs : List V} {os : List (Option Int)}, DpAll K H vs (os.map oD) → vs = os.map oV
  | _, [], h => by cases h; rfl
  | _, none :: os, h => by
    rw [List.map_cons] at h
    cases h with | cons h1 h2 => rw [dp_none h1, dpAll_oD h2]; rfl
  | _, some i :: os, h => by
    rw [List.map_cons] at h
    cases h with | cons h1 h2 => rw [dp_int h1, dpAll_oD h2]; rfl
theorem evd_noneIn {os : List (Option Int)} (h : EvD K ta σ B (.list (os.map oD))) : EvD K (tOp (rIn K false) (tC .non) ta) σ B (.bool (os.any Option.isNone)) :=
  evd_op0 evd_non h fun x y B1 H1 l hx hy Q k => by
    cases dp_none hx
    obtain ⟨p, ys, rfl, hs, hda⟩ := dp_list hy
    cases dpAll_oD hda
    refine ⟨p, _, rfl, .inl (ex_l l hs), rfl, ?_, ?_⟩
    · rw [List.all_map, List.all_eq_true]
      intro o _
      cases o <;> rfl
    · have e : inV V.non (os.map oV) = os.any Option.isNone := by
        unfold inV
        rw [List.any_map]
        congr 1
        funext o
        cases o <;> rfl
      rw [if_neg Bool.false_ne_true, e]
      exact k _ (.bl _)
/-! ### exact evaluation, more -/
theorem evh_un {f : Int → Int} (ha : EvH ta σ H (.int a)) : EvH (tUn (rU fun i => V.int (f i)) ta) σ H (.int (f a)) := fun Q k => ha _ ⟨a, rfl, k⟩
theorem evh_max2 (ha : EvH ta σ H (.int a)) (hb : EvH tb σ H (.int b)) : EvH (tCB (fun xs H Q => ∃ i j, xs = [.int i, .int j] ∧ Q (.int (if j > i then j else i)) H) (tCons ta (tCons tb tNil))) σ H (.int (max a b)) := fun Q k => ha _ (hb _ (by
    have e1 : (if b > a then b else a) = max a b := by split <;> omega
    exact ⟨a, b, rfl, by rw [e1]; exact k⟩))
theorem s_appH {l : Addr} {xs : List V} (hl : H l = some (.lst xs)) (hz : xs.length ≤ 1000000) (hi : σ[i]? = some (some (.ref l))) (h : EvH te σ H v) (k : D.nx σ (upd H l (.lst (xs ++ [v])))) : tDrop (tBM K "list" rAppend (tVar i) (tCons te tNil)) D σ H :=
  ⟨.ref l, hi, .inl ⟨rfl, _, .inl (.inl hl)⟩, h _ ⟨l, xs, v, rfl, rfl, hl, Nat.lt_of_le_of_lt hz (by decide), k⟩⟩
theorem q_appH {l : Addr} {xs : List V} (hl : H l = some (.lst xs)) (hz : xs.length ≤ 1000000) (hi : σ[i]? = some (some (.ref l))) (h : EvH te σ H v) (k : tz D σ (upd H l (.lst (xs ++ [v])))) : tSeq (tDrop (tBM K "list" rAppend (tVar i) (tCons te tNil))) tz D σ H := s_appH (D := { D with nx := tz D }) hl hz hi h k
/-! ### three keywords alone -/
def g321 {α : Type} (us ws : List α) : List α := match us, ws with
  | [], [a, b, c] => [c, b, a]
  | _, _ => []
theorem kb321 {K : PySem.W.Frag} {x qual : Str} {params : Arguments} {body : List Stmt} {scope : Scope} {kws : List (Str × V)} {f : Addr} {fd : FuncData} {p1 p2 p3 k1 k2 k3 : Str} (F : FunD K x qual params body scope [] kws f fd)
    (h : ∀ (kV doc pm : Value) (an : Option Addr) (cdv ct a b c : Value), bindArgs (PySem.W.fnOf x qual params body scope .none kV doc pm an cdv ct) ⟨[], [(k1, a), (k2, b), (k3, c)]⟩ = pure [(p1, c), (p2, b), (p3, a)]) : KBinds K fd [p1, p2, p3] [k1, k2, k3] g321 g321 := by
  obtain ⟨oc, od, dV, kV, doc, pm, an, cdv, ct, osl, rfl, lk, hcd, hD, hK⟩ := F.ex
  rcases hD with ⟨_, rfl⟩ | ⟨e, _⟩
  · refine ⟨fun s us ws _ hl => ?_, fun {vs us zs ws} r1 r2 => ?_⟩
    · match us, ws, hl with
      | [], [a, b, c], _ => exact .of_eq (h kV doc pm an cdv ct a b c)
    · cases r1 with
      | nil =>
        cases r2 with
        | nil => exact .nil
        | cons a r2 =>
          cases r2 with
          | nil => exact .nil
          | cons b r2 =>
            cases r2 with
            | nil => exact .nil
            | cons c r2 =>
              cases r2 with
              | nil => exact .cons c (.cons b (.cons a .nil))
              | cons d r2 => exact .nil
      | cons _ _ => exact .nil
  · exact absurd rfl e
theorem evd_callK321 {F : List PyData → PyData → Prop} {r : PyData} (hF : F [x, y, z] r) (hz : EvD K ta σ B z) (hy : EvD K tb σ B y) (hx : EvD K tc σ B x) : EvD K (tCallK (SpF K 3 F) g321 E tNil (tCons ta (tCons tb (tCons tc tNil)))) σ B r := fun S H1 o Q k =>
  hz S H1 o _ fun v B2 H2 q2 o2 b2 dv => (hy.mono b2) S H2 o2 _ fun w B3 H3 q3 o3 b3 dw => (hx.mono (b2.trans b3)) S H3 o3 _ fun u B4 H4 q4 o4 b4 du => ⟨S, B4, [x, y, z], r, o4, .cons du (.cons (dpEx b4 dw) (.cons (dpEx (b3.trans b4) dv) .nil)), rfl, hF, fun u' B5 H5 q5 o5 b5 du' => k u' B5 H5 (((q2.trans q3).trans q4).trans q5) o5 (((b2.trans b3).trans b4).trans b5) du'⟩
end
/-! ### what each def answers -/
def F_best_starts (ds : List PyData) (r : PyData) : Prop := ∃ b l, GoodB b ∧ GoodL l ∧ ds = [bD b, lD l] ∧ r = .tuple ((bestF b (l.1 + l.2)).map sD)
def F_clock_wait (ds : List PyData) (r : PyData) : Prop := ∃ b l s, GoodB b ∧ GoodL l ∧ GoodS b s ∧ ds = [bD b, lD l, sD s] ∧ r = oD (cwF b (l.1 + l.2) s)
def F_q_reach (ds : List PyData) (r : PyData) : Prop := ∃ b s o, ∃ m : Int, GoodB b ∧ GoodS b s ∧ GoodS b o ∧ 0 ≤ m ∧ m ≤ 2 * 10 ^ 30 ∧ ds = [bD b, sD s, sD o, .int m] ∧ r = oD (lgF b m s o)
def F_q_wait := F_wait_in
def F_q_clock_wait := F_clock_wait
theorem ex_none {H H1 : Hp} {a : Addr} (e : Ex H H1) (h : H1 a = none) : H a = none := by
  cases w : H a with
  | none => rfl
  | some u => rw [e _ _ w] at h; cases h
theorem fm_count {α : Type} (p : Nat → Bool) (F : Nat → Option α) (h : ∀ i, (F i).isSome = p i) (n : Nat) : ((List.range n).filterMap F).length = ((List.range n).filter p).length := by
  generalize List.range n = L
  induction L with
  | nil => rfl
  | cons a r ih =>
    have ha := h a
    rw [List.filterMap_cons, List.filter_cons]
    cases hF : F a with
    | none => rw [hF] at ha; rw [if_neg (by rw [← ha]; simp)]; exact ih
    | some x => rw [hF] at ha; rw [if_pos (by rw [← ha]; rfl)]; simp only [List.length_cons]; rw [ih]
theorem q_asgD {K : PySem.W.Frag} {σ : L2.St} {B H : Hp} {S : Addr → Prop} {te : TE} {g : TG} {tz : TS} {D : Ends} {d : PyData} (ok : Ok S B H) (h : EvD K te σ B d) (k : ∀ v B1 H1, Ex H H1 → Ok S B1 H1 → Ex B B1 → Dp K B1 v d → g v σ H1 (tz D)) : tSeq (tAsg te g) tz D σ H := h S H ok _ fun v B2 H2 q2 o2 b2 dv => k v B2 H2 q2 o2 b2 dv
theorem q_asgW {K : PySem.W.Frag} {d : Addr} {σ : L2.St} {B H : Hp} {S : Addr → Prop} {te : TE} {g : TG} {tz : TS} {D : Ends} {c n : Nat} {P : PyData → Prop} (o : Ok S B H) (ds : DSt K S B H d n) (hn : n + c ≤ 1000000000) (h : EvW K d te σ B c P) (k : ∀ v x B1 H1, ExB d H H1 → Ok S B1 H1 → Ex B B1 → DSt K S B1 H1 d (n + c) → P x → Dp K B1 v x → g v σ H1 (tz D)) : tSeq (tAsg te g) tz D σ H := h S B H n o (Ex.refl _) ds hn _ k
theorem evd_rep2 {K : PySem.W.Frag} {σ : L2.St} {B : Hp} {te : TE} {x : PyData} (h : EvD K te σ B x) : EvD K (tOp rRep (tLst (tCons te tNil)) (tC (.int 2))) σ B (.list [x, x]) := (evd_repL (n := 2) (by decide) (by simp) (by simp) (eda_cons h eda_nil) evd_int).is rfl
theorem sh_ints {ns : List Int} {n : Nat} (h : ∀ x ∈ ns, x.natAbs < 10 ^ 40) (hn : ns.length ≤ n) : Sh (isD ns) 2 (n * 41 + 2 * n + 3) := sh_list (fun z hz => by
  obtain ⟨x, hx, rfl⟩ := List.mem_map.mp hz
  exact sh_int (h x hx)) (by rw [List.length_map]; exact hn)
theorem sh_sD (s : Stt) (h1 : s.1 < 10 ^ 9) (h2 : s.2 < 10 ^ 9) : Sh (sD s) 2 89 := sh_tuple (n := 2) (sh_two (sh_int (by omega)) (sh_int (by omega))) (by simp)
end Z

namespace K8
open PySem PySem.Spec PyProof.Rows L2
def top (i : Nat) : Stmt := PySem.Challenge.pw_strokesheard_k08_whole_waits.main.body.getD i (.Pass ⟨0, 0, 0, 0⟩)
abbrev s_is_integer : Stmt := top 10
abbrev s_is_whole : Stmt := top 11
abbrev s_book_fault : Stmt := top 12
abbrev s_need_book : Stmt := top 13
abbrev s_need_loss : Stmt := top 14
abbrev s_is_start : Stmt := top 15
abbrev s_need_start : Stmt := top 16
abbrev s_all_starts : Stmt := top 17
abbrev s_struck : Stmt := top 18
abbrev s_common_round : Stmt := top 19
abbrev s_rises_of : Stmt := top 21
abbrev s_reach_of : Stmt := top 22
abbrev s_longest_in : Stmt := top 23
abbrev s_wait_in : Stmt := top 25
abbrev s_wait_of : Stmt := top 26
abbrev s_worst_in : Stmt := top 27
abbrev s_worst_wait : Stmt := top 28
abbrev s_best_starts : Stmt := top 29
abbrev s_clock_wait : Stmt := top 30
abbrev s_q_begin : Stmt := top 32
abbrev s_q_next : Stmt := top 33
abbrev s_q_pick : Stmt := top 34
abbrev s_q_clock : Stmt := top 35
abbrev s_q_book : Stmt := top 36
abbrev s_q_starts : Stmt := top 37
abbrev s_q_strokes : Stmt := top 38
abbrev s_q_loss : Stmt := top 39
abbrev s_q_same : Stmt := top 40
abbrev s_q_reach : Stmt := top 41
abbrev s_q_wait : Stmt := top 42
abbrev s_q_clock_wait : Stmt := top 43
abbrev s_law : Stmt := top 44
abbrev FnP (K : PySem.W.Frag) (x : Str) (st : Stmt) (f : Addr) (fd : FuncData) : Prop := FunD K x x (defArgs st) (defBody st) (defScope st) [] [] f fd
end K8

namespace K8
open PySem PySem.Spec PyProof.Rows L2 Z M
open Evl hiding q_app q_drop q_if q_when q_while s_app s_drop s_if s_ret s_when
structure Cs (mg : Str → Option Value) : Prop where
  bool : mg "bool" = none
  enumerate : mg "enumerate" = none
  int : mg "int" = none
  isinstance : mg "isinstance" = none
  len : mg "len" = none
  max : mg "max" = none
  min : mg "min" = none
  range : mg "range" = none
  repr : mg "repr" = none
  tuple : mg "tuple" = none
  zip : mg "zip" = none
  MOST_CLOCKS : ∃ u, mg "MOST_CLOCKS" = some (.int 3 u)
  MOST_MARKS : ∃ u, mg "MOST_MARKS" = some (.int 24 u)
  MOST_STROKES : ∃ u, mg "MOST_STROKES" = some (.int 99 u)
  MOST_NUMBER : ∃ u, mg "MOST_NUMBER" = some (.int 1000000000000000000000000000000 u)
section
variable {P : Program} {w : World} {K : PySem.W.Frag} {mg : Str → Option Value} {base : Heap}
abbrev N_is_integer : List Str := ["thing"]
theorem sc_is_integer : FnScope N_is_integer ["thing"] (defScope s_is_integer) := ⟨rfl, rfl, rfl, by decide +kernel, rfl, by decide +kernel, by decide +kernel⟩
theorem ok_is_integer (C : Cs mg)  (D : Std K mg "is_integer" s_is_integer ["thing"]) : Def P w K mg base "is_integer" s_is_integer 1 ["thing"] (SpF K 1 F_is_integer) := by
  refine D.pure sc_is_integer F_is_integer rfl (fun f cdv A outer s H E hr => ⟨_, PSs.nox (pss_one (ps_ret (pe_and (pe_callB call_isi (by rfl) C.isinstance (by decide +kernel) (pa_cons (pv 0) (pa_cons (pe_bltn (v := .ty "int") (by rfl) C.int (by decide +kernel) rfl) pa_nil))) (pe_one (pe_not (pe_callB call_isi (by rfl) C.isinstance (by decide +kernel) (pa_cons (pv 0) (pa_cons (pe_bltn (v := .ty "bool") (by rfl) C.bool (by decide +kernel) rfl) pa_nil)))))))), ?_⟩)
  intro S B vs ds r Q o dv hl hF k
  obtain ⟨i, rfl, rfl⟩ := hF
  obtain ⟨x, rfl, dx⟩ := dpAll_inv1 dv
  exact s_ret o (evd_andV (evd_isi (evd_var rfl dx) rfl) fun _ => evd_notV (evd_isi (evd_var rfl dx) rfl)) k
abbrev N_is_whole : List Str := ["thing", "least", "most"]
theorem sc_is_whole : FnScope N_is_whole ["thing", "least", "most"] (defScope s_is_whole) := ⟨rfl, rfl, rfl, by decide +kernel, rfl, by decide +kernel, by decide +kernel⟩
theorem ok_is_whole (C : Cs mg) (D_is_integer : Def P w K mg base "is_integer" s_is_integer 1 ["thing"] (SpF K 1 F_is_integer)) (D : Std K mg "is_whole" s_is_whole ["thing", "least", "most"]) : Def P w K mg base "is_whole" s_is_whole 2 ["thing", "least", "most"] (SpF K 3 F_is_whole) := by
  refine D.pure sc_is_whole F_is_whole rfl (fun f cdv A outer s H E hr => ⟨_, PSs.nox (pss_one (ps_ret (pe_and (pe_callD D_is_integer hr (by decide) (by rfl) (pa_cons (pv 0) pa_nil)) (pe_one (pe_chain op_le op_le (pv 1) (pv 0) (pv 2)))))), ?_⟩)
  intro S B vs ds r Q o dv hl hF k
  obtain ⟨i, lo, hi, rfl, rfl⟩ := hF
  obtain ⟨x, y, z, rfl, dx, dy, dz⟩ := dpAll_inv3 dv
  exact s_ret o (evd_andV (evd_call ⟨i, rfl, rfl⟩ rfl (eda_cons (evd_var rfl dx) eda_nil)) fun _ => evd_chain (evd_var rfl dy) (evd_var rfl dx) (evd_var rfl dz)) k
abbrev N_book_fault : List Str := ["thing", "number", "clock", "mark", "strokes"]
theorem sc_book_fault : FnScope N_book_fault ["thing"] (defScope s_book_fault) := ⟨rfl, rfl, rfl, by decide +kernel, rfl, by decide +kernel, by decide +kernel⟩
theorem ok_book_fault (C : Cs mg) (D_is_whole : Def P w K mg base "is_whole" s_is_whole 2 ["thing", "least", "most"] (SpF K 3 F_is_whole)) (D : Std K mg "book_fault" s_book_fault ["thing"]) : Def P w K mg base "book_fault" s_book_fault 3 ["thing"] (SpF K 1 F_book_fault) := by
  refine D.pure sc_book_fault F_book_fault rfl (fun f cdv A outer s H E hr => ⟨_, PSs.nox (pss_cons (ps_if (PW.pt (pw_or (pt_not (pt_val (pe_callB call_isi (by rfl) C.isinstance (by decide +kernel) (pa_cons (pv 0) (pa_cons (pe_bltn (v := .ty "tuple") (by rfl) C.tuple (by decide +kernel) rfl) pa_nil))))) (pw_or1 (pt_not (pt_chain op_le op_le pe_int (pe_callB call_len_seq (by rfl) C.len (by decide +kernel) (pa_cons (pv 0) pa_nil)) (pe_globI C.MOST_CLOCKS rfl)))))) (pss_one (ps_ret (pe_tup pa_nil))) pss_nil)
      (pss_cons (ps_for PassesOwn.never rfl (pi_enumT (by rfl) C.enumerate (pa_cons (pv 0) pa_nil)) (pg_tup rfl (pgs_cons (pg_name (i := 1) sc_book_fault.nd rfl (Or.inl rfl)) (pgs_cons (pg_name (i := 2) sc_book_fault.nd rfl (Or.inl rfl)) pgs_nil)))
      (pss_cons (ps_if (PW.pt (pw_or (pt_not (pt_val (pe_callB call_isi (by rfl) C.isinstance (by decide +kernel) (pa_cons (pv 2) (pa_cons (pe_bltn (v := .ty "tuple") (by rfl) C.tuple (by decide +kernel) rfl) pa_nil))))) (pw_or1 (pt_not (pt_chain op_le op_le pe_int (pe_callB call_len_seq (by rfl) C.len (by decide +kernel) (pa_cons (pv 2) pa_nil)) (pe_globI C.MOST_MARKS rfl)))))) (pss_one (ps_ret (pe_tup (pa_cons (pv 1) pa_nil)))) pss_nil)
      (pss_one (ps_for PassesOwn.never rfl (pi_enumT (by rfl) C.enumerate (pa_cons (pv 2) pa_nil)) (pg_tup rfl (pgs_cons (pg_name (i := 3) sc_book_fault.nd rfl (Or.inl rfl)) (pgs_cons (pg_name (i := 4) sc_book_fault.nd rfl (Or.inl rfl)) pgs_nil)))
      (pss_one (ps_if (pt_not (pt_val (pe_callD D_is_whole hr (by decide) (by rfl) (pa_cons (pv 4) (pa_cons pe_int (pa_cons (pe_globI C.MOST_STROKES rfl) pa_nil)))))) (pss_one (ps_ret (pe_tup (pa_cons (pv 1) (pa_cons (pv 3) pa_nil))))) pss_nil))))))
      (pss_one (ps_ret pe_non)))), ?_⟩)
  intro S B vs ds r Q o dv hl hF k
  obtain ⟨b, G, rfl, rfl⟩ := hF
  obtain ⟨x, rfl, dx⟩ := dpAll_inv1 dv
  have l1 := G.n1
  have l3 := G.n3
  -- if not isinstance(thing, tuple) or not 1 <= len(thing) <= 3
  refine q_not o ((etOr (etNot (etB (evd_isi (T := "tuple") (b := true) (evd_var rfl dx) rfl))) fun _ => etNot (etest (evd_chain evd_int (evd_lenT (evd_var rfl dx)) evd_int))).is (by rw [List.length_map]; simp; omega)) fun B1 H1 q1 o1 b1 => ?_
  -- for number, clock in enumerate(thing)
  refine q_for o1 (evi_enumT (evd_var rfl (dpEx b1 dx))) (fun B2 i σ' H' => ∃ v1 v2 v3 v4, σ' = [some x, v1, v2, v3, v4] ∧ Ok S B2 H' ∧ Ex H1 H') (fun B2 H2 q2 o2 b2 => ⟨_, _, _, _, rfl, o2, q2⟩) (fun B2 i σ' H' ⟨_, _, _, _, _, oo, _⟩ => ⟨S, oo⟩) ?_ ?_
  · rintro B2 i y σ' H' H'' bb hi ⟨v1, v2, v3, v4, rfl, oo, ee⟩ eh f
    obtain ⟨B4, o4, b4, dy⟩ := f S B2 oo (Ex.refl _)
    obtain ⟨p, q, dp, dq, eg⟩ := evg_two dy
    rw [List.length_map] at hi
    rw [getD_map hi] at dq
    have hc : b[i] ∈ b := List.getElem_mem hi
    have c1 := G.c1 _ hc
    have c24 := G.c24 _ hc
    refine eg H'' _ o4.le ?_
    refine q_not o4 ((etOr (etNot (etB (evd_isi (T := "tuple") (b := true) (evd_var rfl dq) rfl))) fun _ => etNot (etest (evd_chain evd_int (evd_lenT (evd_var rfl dq)) evd_int))).is (by rw [List.length_map]; simp; omega)) fun B5 H5 q5 o5 b5 => ?_
    refine s_for o5 (evi_enumT (evd_var rfl (dpEx b5 dq))) (fun B6 j σ' H' => ∃ w1 w2, σ' = [some x, some p, some q, w1, w2] ∧ Ok S B6 H' ∧ Ex H5 H') (fun B6 H6 q6 o6 b6 => ⟨_, _, rfl, o6, q6⟩) (fun B6 j σ' H' ⟨_, _, _, oo, _⟩ => ⟨S, oo⟩) ?_ ?_
    · rintro B6 j y2 σ6 H6 H7 bb6 hj ⟨w1, w2, rfl, oo6, ee6⟩ eh6 f6
      obtain ⟨B8, o8, b8, dy8⟩ := f6 S B6 oo6 (Ex.refl _)
      obtain ⟨p2, q2, dp2, dq2, eg2⟩ := evg_two dy8
      rw [List.length_map] at hj
      rw [getD_map hj] at dq2
      have hm : b[i][j] ∈ b[i] := List.getElem_mem hj
      have m0 := G.v0 _ hc _ hm
      have m99 := G.v99 _ hc _ hm
      refine eg2 H7 _ o8.le ?_
      refine s_when o8 ((etNot (etB (evd_call (d := .bool true) ⟨b[i][j], 0, 99, rfl, by simp; omega⟩ rfl (eda_cons (evd_var rfl dq2) (eda_cons evd_int (eda_cons evd_int eda_nil)))))).is (by rfl)) (fun e => by cases e) fun _ B9 H9 q9 o9 b9 => ?_
      exact ⟨some p2, some q2, rfl, (oo6.grow eh6).grow q9, (ee6.trans eh6).trans q9⟩
    · rintro B6 σ6 H6 bb6 ⟨w1, w2, rfl, oo6, ee6⟩
      exact ⟨some p, some q, w1, w2, rfl, oo.grow ((eh.trans q5).trans ee6), ((ee.trans eh).trans q5).trans ee6⟩
  · rintro B2 σ' H' bb ⟨v1, v2, v3, v4, rfl, oo, ee⟩
    exact s_ret oo evd_non fun v B3 H3 q3 o3 b3 dv => k v B3 H3 ((q1.trans ee).trans q3) o3 ((b1.trans bb).trans b3) dv
abbrev N_need_book : List Str := ["thing", "place"]
theorem sc_need_book : FnScope N_need_book ["thing"] (defScope s_need_book) := ⟨rfl, rfl, rfl, by decide +kernel, rfl, by decide +kernel, by decide +kernel⟩
theorem ok_need_book (C : Cs mg) (D_book_fault : Def P w K mg base "book_fault" s_book_fault 3 ["thing"] (SpF K 1 F_book_fault)) (D : Std K mg "need_book" s_need_book ["thing"]) : Def P w K mg base "need_book" s_need_book 4 ["thing"] (SpF K 1 F_need_book) := by
  refine D.pure sc_need_book F_need_book rfl (fun f cdv A outer s H E hr => ⟨_, PSs.nox (pss_cons (ps_set (i := 1) sc_need_book.nd rfl (Or.inl rfl) (pe_callD D_book_fault hr (by decide) (by rfl) (pa_cons (pv 0) pa_nil)))
      (pss_cons (ps_if (pt_cmpR op_notN (pv 1) pe_non (nomark _)) (pss_one ps_never) pss_nil)
      (pss_one (ps_ret (pv 0))))), ?_⟩)
  intro S B vs ds r Q o dv hl hF k
  obtain ⟨b, G, rfl, rfl⟩ := hF
  obtain ⟨x, rfl, dx⟩ := dpAll_inv1 dv
  refine q_set o (evd_call (d := .none) ⟨b, G, rfl, rfl⟩ rfl (eda_cons (evd_var rfl dx) eda_nil)) fun v B1 H1 q1 o1 b1 dv => ?_
  refine q_not o1 ((etest (evd_notN (evd_var rfl dv))).is rfl) fun B2 H2 q2 o2 b2 => ?_
  exact s_ret o2 (evd_var rfl (dpEx (b1.trans b2) dx)) fun v B3 H3 q3 o3 b3 dv => k v B3 H3 ((q1.trans q2).trans q3) o3 ((b1.trans b2).trans b3) dv
abbrev N_need_loss : List Str := ["thing"]
theorem sc_need_loss : FnScope N_need_loss ["thing"] (defScope s_need_loss) := ⟨rfl, rfl, rfl, by decide +kernel, rfl, by decide +kernel, by decide +kernel⟩
theorem ok_need_loss (C : Cs mg) (D_is_whole : Def P w K mg base "is_whole" s_is_whole 2 ["thing", "least", "most"] (SpF K 3 F_is_whole)) (D : Std K mg "need_loss" s_need_loss ["thing"]) : Def P w K mg base "need_loss" s_need_loss 3 ["thing"] (SpF K 1 F_need_loss) := by
  refine D.pure sc_need_loss F_need_loss rfl (fun f cdv A outer s H E hr => ⟨_, PSs.nox (pss_cons (ps_if (PW.pt (pw_or (pt_not (pt_val (pe_callB call_isi (by rfl) C.isinstance (by decide +kernel) (pa_cons (pv 0) (pa_cons (pe_bltn (v := .ty "tuple") (by rfl) C.tuple (by decide +kernel) rfl) pa_nil))))) (pw_or1 (pt_cmpR op_ne (pe_callB call_len_seq (by rfl) C.len (by decide +kernel) (pa_cons (pv 0) pa_nil)) pe_int (nomark _))))) (pss_one ps_never) pss_nil)
      (pss_cons (ps_if (pt_not (pt_val (pe_callD D_is_whole hr (by decide) (by rfl) (pa_cons (pe_ix ix_tup (pv 0) pe_int (fun _ _ => rfl)) (pa_cons pe_int (pa_cons (pe_globI C.MOST_NUMBER rfl) pa_nil)))))) (pss_one ps_never) pss_nil)
      (pss_cons (ps_if (pt_not (pt_val (pe_callD D_is_whole hr (by decide) (by rfl) (pa_cons (pe_ix ix_tup (pv 0) pe_int (fun _ _ => rfl)) (pa_cons pe_int (pa_cons (pe_globI C.MOST_NUMBER rfl) pa_nil)))))) (pss_one ps_never) pss_nil)
      (pss_one (ps_ret (pv 0)))))), ?_⟩)
  intro S B vs ds r Q o dv hl hF k
  obtain ⟨l, G, rfl, rfl⟩ := hF
  obtain ⟨x, rfl, dx⟩ := dpAll_inv1 dv
  have a0 := G.a0
  have a1 := G.a1
  have c0 := G.b0
  have c1 := G.b1
  refine q_not o ((etOr (etNot (etB (evd_isi (T := "tuple") (b := true) (evd_var rfl dx) rfl))) fun _ => etest (evd_neI (evd_lenT (evd_var rfl dx)) evd_int)).is rfl) fun B1 H1 q1 o1 b1 => ?_
  refine q_not o1 ((etNot (etB (evd_call (d := .bool true) ⟨l.1, 0, 10 ^ 30, rfl, by simp; omega⟩ rfl (eda_cons (evd_ixT (atI_nat (j := 0) rfl) (evd_var rfl (dpEx b1 dx)) evd_int) (eda_cons evd_int (eda_cons evd_int eda_nil)))))).is rfl) fun B2 H2 q2 o2 b2 => ?_
  refine q_not o2 ((etNot (etB (evd_call (d := .bool true) ⟨l.2, 0, 10 ^ 30, rfl, by simp; omega⟩ rfl (eda_cons (evd_ixT (atI_nat (j := 1) rfl) (evd_var rfl (dpEx (b1.trans b2) dx)) evd_int) (eda_cons evd_int (eda_cons evd_int eda_nil)))))).is rfl) fun B3 H3 q3 o3 b3 => ?_
  exact s_ret o3 (evd_var rfl (dpEx ((b1.trans b2).trans b3) dx)) fun v B4 H4 q4 o4 b4 dv => k v B4 H4 (((q1.trans q2).trans q3).trans q4) o4 (((b1.trans b2).trans b3).trans b4) dv
abbrev N_is_start : List Str := ["book", "thing"]
theorem sc_is_start : FnScope N_is_start ["book", "thing"] (defScope s_is_start) := ⟨rfl, rfl, rfl, by decide +kernel, rfl, by decide +kernel, by decide +kernel⟩
theorem ok_is_start (C : Cs mg) (D_is_whole : Def P w K mg base "is_whole" s_is_whole 2 ["thing", "least", "most"] (SpF K 3 F_is_whole)) (D : Std K mg "is_start" s_is_start ["book", "thing"]) : Def P w K mg base "is_start" s_is_start 3 ["book", "thing"] (SpF K 2 F_is_start) := by
  refine D.pure sc_is_start F_is_start rfl (fun f cdv A outer s H E hr => ⟨_, PSs.nox (pss_cons (ps_if (PW.pt (pw_or (pt_not (pt_val (pe_callB call_isi (by rfl) C.isinstance (by decide +kernel) (pa_cons (pv 1) (pa_cons (pe_bltn (v := .ty "tuple") (by rfl) C.tuple (by decide +kernel) rfl) pa_nil))))) (pw_or (pt_cmpR op_ne (pe_callB call_len_seq (by rfl) C.len (by decide +kernel) (pa_cons (pv 1) pa_nil)) pe_int (nomark _)) (pw_or1 (pt_not (pt_val (pe_callD D_is_whole hr (by decide) (by rfl) (pa_cons (pe_ix ix_tup (pv 1) pe_int (fun _ _ => rfl)) (pa_cons pe_int (pa_cons (pe_op op_sub (pe_callB call_len_seq (by rfl) C.len (by decide +kernel) (pa_cons (pv 0) pa_nil)) pe_int) pa_nil)))))))))) (pss_one (ps_ret pe_bl)) pss_nil)
      (pss_one (ps_ret (pe_callD D_is_whole hr (by decide) (by rfl) (pa_cons (pe_ix ix_tup (pv 1) pe_int (fun _ _ => rfl)) (pa_cons pe_int (pa_cons (pe_op op_sub (pe_callB call_len_seq (by rfl) C.len (by decide +kernel) (pa_cons (pe_ix ix_tup (pv 0) (pe_ix ix_tup (pv 1) pe_int (fun _ _ => rfl)) (fun _ _ => rfl)) pa_nil)) pe_int) pa_nil))))))), ?_⟩)
  intro S B vs ds r Q o dv hl hF k
  obtain ⟨b, s, G, g, rfl, rfl⟩ := hF
  obtain ⟨x, y, rfl, dx, dy⟩ := dpAll_inv2 dv
  have hc := g.c
  have hm := g.m
  have hl1 : (b.map cD).length = b.length := List.length_map ..
  have hl2 : ((clk b s.1).map PyData.int).length = (clk b s.1).length := List.length_map ..
  refine q_not o ((etOr (etNot (etB (evd_isi (T := "tuple") (b := true) (evd_var rfl dy) rfl))) fun _ => etOr (etest (K := K) (evd_neI (evd_lenT (evd_var rfl dy)) evd_int)) fun _ => etNot (etB (evd_call (d := .bool true) ⟨(s.1 : Int), 0, ((b.map cD).length : Int) - 1, rfl, by rw [hl1]; simp; omega⟩ rfl (eda_cons (evd_ixT (atI_nat (j := 0) rfl) (evd_var rfl dy) evd_int) (eda_cons evd_int (eda_cons (evd_I0i (evd_lenT (evd_var rfl dx)) evd_int) eda_nil)))))).is rfl) fun B1 H1 q1 o1 b1 => ?_
  have dx1 := dpEx b1 dx
  have dy1 := dpEx b1 dy
  exact s_ret o1 (evd_call (d := .bool true) ⟨(s.2 : Int), 0, (((clk b s.1).map PyData.int).length : Int) - 1, rfl, by rw [hl2]; simp; omega⟩ rfl (eda_cons (evd_ixT (atI_nat (j := 1) rfl) (evd_var rfl dy1) evd_int) (eda_cons evd_int (eda_cons (evd_I0i (evd_lenT (evd_ixT (at_clk g.c) (evd_var rfl dx1) (evd_ixT (atI_nat (j := 0) rfl) (evd_var rfl dy1) evd_int))) evd_int) eda_nil)))) fun v B4 H4 q4 o4 b4 dv => k v B4 H4 (q1.trans q4) o4 (b1.trans b4) dv
abbrev N_need_start : List Str := ["book", "thing"]
theorem sc_need_start : FnScope N_need_start ["book", "thing"] (defScope s_need_start) := ⟨rfl, rfl, rfl, by decide +kernel, rfl, by decide +kernel, by decide +kernel⟩
theorem ok_need_start (C : Cs mg) (D_is_start : Def P w K mg base "is_start" s_is_start 3 ["book", "thing"] (SpF K 2 F_is_start)) (D : Std K mg "need_start" s_need_start ["book", "thing"]) : Def P w K mg base "need_start" s_need_start 4 ["book", "thing"] (SpF K 2 F_need_start) := by
  refine D.pure sc_need_start F_need_start rfl (fun f cdv A outer s H E hr => ⟨_, PSs.nox (pss_cons (ps_if (pt_not (pt_val (pe_callD D_is_start hr (by decide) (by rfl) (pa_cons (pv 0) (pa_cons (pv 1) pa_nil))))) (pss_one ps_never) pss_nil)
      (pss_one (ps_ret (pv 1)))), ?_⟩)
  intro S B vs ds r Q o dv hl hF k
  obtain ⟨b, s, G, g, rfl, rfl⟩ := hF
  obtain ⟨x, y, rfl, dx, dy⟩ := dpAll_inv2 dv
  refine q_not o ((etNot (etB (evd_call (d := .bool true) ⟨b, s, G, g, rfl, rfl⟩ rfl (eda_cons (evd_var rfl dx) (eda_cons (evd_var rfl dy) eda_nil))))).is rfl) fun B1 H1 q1 o1 b1 => ?_
  exact s_ret o1 (evd_var rfl (dpEx b1 dy)) fun v B4 H4 q4 o4 b4 dv => k v B4 H4 (q1.trans q4) o4 (b1.trans b4) dv
abbrev N_all_starts : List Str := ["book", "number", "clock", "mark"]
theorem sc_all_starts : FnScope N_all_starts ["book"] (defScope s_all_starts) := ⟨rfl, rfl, rfl, by decide +kernel, rfl, by decide +kernel, by decide +kernel⟩
theorem ok_all_starts (C : Cs mg)  (D : Std K mg "all_starts" s_all_starts ["book"]) : Def P w K mg base "all_starts" s_all_starts 1 ["book"] (SpF K 1 F_all_starts) := by
  refine D.pure sc_all_starts F_all_starts rfl (fun f cdv A outer s H E hr => ⟨_, PSs.nox (pss_one (ps_ret (pe_lc2 (own := [("number", 1), ("clock", 2), ("mark", 3)]) (vs1 := [3]) (g := (gTup K 2 (gCons (gName 1) (gCons (gName 2) gNil)))) (g1 := (gName 3)) (by rfl) sc_all_starts.nd (pi_enumT (by rfl) C.enumerate (pa_cons (pv 0) pa_nil)) (blkOk_by (own := [("number", 1), ("clock", 2), ("mark", 3)]) (N := N_all_starts) (sc := defScope s_all_starts) (by decide +kernel)) (by decide) (fun _ _ _ _ _ => (pg_tup rfl (pgs_cons (pg_name (i := 1) sc_all_starts.nd rfl (Or.inl rfl)) (pgs_cons (pg_name (i := 2) sc_all_starts.nd rfl (Or.inl rfl)) pgs_nil)))) (fun _ _ _ _ _ => pts_nil) (fun _ _ _ _ _ => (pi_range1 (by rfl) C.range (pa_cons (pe_callB (call_lenK (K := K) rfl) (by rfl) C.len (by decide +kernel) (pa_cons (pv 2) pa_nil)) pa_nil))) (fun _ _ _ _ _ => (pg_name (i := 3) sc_all_starts.nd rfl (Or.inl rfl))) (fun _ _ _ _ _ => pts_nil) (fun _ _ _ _ _ => (pe_tup (pa_cons (pv 1) (pa_cons (pv 3) pa_nil))))))), ?_⟩)
  intro S B vs ds r Q o dv hl hF k
  obtain ⟨b, G, rfl, rfl⟩ := hF
  obtain ⟨x, rfl, dx⟩ := dpAll_inv1 dv
  have l3 := G.n3
  have hb : EvI K (iEnumT K (tCons (tVar 0) tNil)) (start N_all_starts [x]) B b.length (fun i => .tuple [.int (i : Int), (b.map cD).getD i .none]) := by
    have := evi_enumT (σ := start N_all_starts [x]) (tl := tVar 0) (evd_var rfl dx)
    rw [List.length_map] at this
    exact this
  refine s_ret o ((evd_lc2 (m := fun i => (clk b i).length) (it1 := fun _ j => .int (0 + (j : Int))) (F := fun i j => sD (i, j)) 24 hb (by omega) (fun i hi => G.c24 _ (GoodB.clk_mem hi)) fun i y B1 hi b1 dy => ?_).is ?_) k
  · obtain ⟨p, q, dp, dq, eg⟩ := evg_two (i := 1) (j := 2) (σ := wipe (start N_all_starts [x]) [1, 2, 3]) dy
    rw [getD_map hi, clk_eq hi] at dq
    cases dp_int dp
    have hc := G.c24 _ (GoodB.clk_mem hi)
    refine ⟨[some x, some (.int (i : Int)), some q, none], rfl, eg, evi_rng1 (by omega) ((evd_lenT (evd_var rfl dq)).is (by rw [List.length_map])), fun j z B2 hj b2 dz => ?_⟩
    have ez := dp_int dz
    rw [Int.zero_add] at ez
    subst ez
    exact ⟨[some x, some (.int (i : Int)), some q, some (.int (j : Int))], rfl, evg_name, evd_tup (ds := [.int (i : Int), .int (j : Int)]) (by simp) (eda_cons (evd_var rfl (.int _)) (eda_cons (evd_var rfl (.int _)) eda_nil))⟩
  · unfold ssD starts
    rw [List.map_flatten, List.map_map]
    simp only [Function.comp_def, List.map_map]
abbrev N_struck : List Str := ["book", "start", "later", "clock"]
theorem sc_struck : FnScope N_struck ["book", "start", "later"] (defScope s_struck) := ⟨rfl, rfl, rfl, by decide +kernel, rfl, by decide +kernel, by decide +kernel⟩
theorem ok_struck (C : Cs mg)  (D : Std K mg "struck" s_struck ["book", "start", "later"]) : Def P w K mg base "struck" s_struck 1 ["book", "start", "later"] (SpF K 3 F_struck) := by
  refine D.pure sc_struck F_struck rfl (fun f cdv A outer s H E hr => ⟨_, PSs.nox (pss_cons (ps_set (i := 3) sc_struck.nd rfl (Or.inl rfl) (pe_ix ix_tup (pv 0) (pe_ix ix_tup (pv 1) pe_int (fun _ _ => rfl)) (fun _ _ => rfl)))
      (pss_one (ps_ret (pe_ix ix_tup (pv 3) (pe_op op_mod (pe_callTy call_int1 (by rfl) C.int (by decide +kernel) (pa_cons (pe_op op_add (pe_ix ix_tup (pv 1) pe_int (fun _ _ => rfl)) (pv 2)) pa_nil)) (pe_callB call_len_seq (by rfl) C.len (by decide +kernel) (pa_cons (pv 3) pa_nil))) (fun _ _ => rfl))))), ?_⟩)
  intro S B vs ds r Q o dv hl hF k
  obtain ⟨b, s, n, G, g, rfl, rfl⟩ := hF
  obtain ⟨x, y, z, rfl, dx, dy, dz⟩ := dpAll_inv3 dv
  refine q_set o (evd_ixT (at_clk g.c) (evd_var rfl dx) (evd_ixT (atI_nat (j := 0) rfl) (evd_var rfl dy) evd_int)) fun v B1 H1 q1 o1 b1 dv => ?_
  have hp := g.pos
  unfold len at hp
  have hx := stk_get g n
  refine s_ret o1 (evd_ixT (a := (((s.2 + n) % (clk b s.1).length : Nat) : Int)) (atI_map hx) (evd_var rfl dv) ((evd_Ii ?_ (evd_int1 (evd_I0i (evd_ixT (atI_nat (j := 1) rfl) (evd_var rfl (dpEx b1 dy)) evd_int) (evd_var rfl (dpEx b1 dz)))) (evd_lenT (evd_var rfl dv))).is ?_)) fun v B3 H3 q3 o3 b3 dv => k v B3 H3 (q1.trans q3) o3 (b1.trans b3) dv
  · show (0 : Int) < _
    rw [List.length_map]; omega
  · rw [List.length_map]; simp
abbrev N_common_round : List Str := ["book", "one", "other", "mine", "yours", "found"]
theorem sc_common_round : FnScope N_common_round ["book", "one", "other"] (defScope s_common_round) := ⟨rfl, rfl, rfl, by decide +kernel, rfl, by decide +kernel, by decide +kernel⟩
theorem ok_common_round (C : Cs mg)  (D : Std K mg "common_round" s_common_round ["book", "one", "other"]) : Def P w K mg base "common_round" s_common_round 1 ["book", "one", "other"] (SpF K 3 F_common_round) := by
  refine D.pure sc_common_round F_common_round rfl (fun f cdv A outer s H E hr => ⟨_, PSs.nox (pss_cons (ps_par (i := 3) (j := 4) rfl sc_common_round.nd rfl rfl (by decide) rfl rfl (pa_cons (pe_callB call_len_seq (by rfl) C.len (by decide +kernel) (pa_cons (pe_ix ix_tup (pv 0) (pe_ix ix_tup (pv 1) pe_int (fun _ _ => rfl)) (fun _ _ => rfl)) pa_nil)) (pa_cons (pe_callB call_len_seq (by rfl) C.len (by decide +kernel) (pa_cons (pe_ix ix_tup (pv 0) (pe_ix ix_tup (pv 2) pe_int (fun _ _ => rfl)) (fun _ _ => rfl)) pa_nil)) pa_nil)) (by rfl))
      (pss_cons (ps_set (i := 5) sc_common_round.nd rfl (Or.inl rfl) (pv 3))
      (pss_cons (ps_while PassesOwn.never (pt_cmpR op_ne (pe_op op_mod (pe_callTy call_int1 (by rfl) C.int (by decide +kernel) (pa_cons (pv 5) pa_nil)) (pv 4)) pe_int (nomark _)) (pss_one (ps_aug (i := 5) sc_common_round.nd rfl (Or.inl rfl) (pv 3) ip_add)))
      (pss_one (ps_ret (pv 5)))))), ?_⟩)
  intro S B vs ds r Q o dv hl hF k
  obtain ⟨b, s, t, G, g, h, rfl, rfl⟩ := hF
  obtain ⟨x, y, z, rfl, dx, dy, dz⟩ := dpAll_inv3 dv
  refine q_par o ((evd_lenT (evd_ixT (at_clk g.c) (evd_var rfl dx) (evd_ixT (atI_nat (j := 0) rfl) (evd_var rfl dy) evd_int))).is (e := .int (len b s : Int)) (by rw [List.length_map]; rfl)) ((evd_lenT (evd_ixT (at_clk h.c) (evd_var rfl dx) (evd_ixT (atI_nat (j := 0) rfl) (evd_var rfl dz) evd_int))).is (e := .int (len b t : Int)) (by rw [List.length_map]; rfl)) fun v w B1 H1 q1 o1 b1 dv dw => ?_
  refine q_set o1 (evd_var rfl dv) fun u B2 H2 q2 o2 b2 du => ?_
  cases dp_int dv
  cases dp_int dw
  cases dp_int du
  have hp := g.pos
  have hp2 := h.pos
  have hL : 0 < rnd b s t := rnd_pos g h
  have hm := rnd_l (b := b) (s := s) (o := t)
  have hn := rnd_r (b := b) (s := s) (o := t)
  -- the loop: found = j * mine, not yet beyond the common round
  refine q_while (W := fun m σ' H' => ∃ j : Nat, 1 ≤ j ∧ j * len b s ≤ rnd b s t ∧ m = rnd b s t - j * len b s ∧ σ' = [some x, some y, some z, some (.int (len b s : Int)), some (.int (len b t : Int)), some (.int ((j * len b s : Nat) : Int))] ∧ Ok S B2 H' ∧ Ex H2 H') (rnd b s t - len b s) ⟨1, Nat.le_refl _, by rw [Nat.one_mul]; exact Nat.le_of_dvd hL hm, by rw [Nat.one_mul], by rw [Nat.one_mul]; rfl, o2, Ex.refl _⟩ ?_
  rintro m σ' H' ⟨j, hj, hle, rfl, rfl, oo, ee⟩
  refine ⟨S, B2, !decide (((j * len b s : Nat) : Int) % (len b t : Int) = 0), oo, etest (K := K) (evd_neI (evd_Ii (by show (0 : Int) < _; omega) (evd_int1 (evd_var rfl (.int _))) (evd_var rfl (.int _))) evd_int), fun e B3 H3 q3 o3 b3 => ?_, fun e B3 H3 q3 o3 b3 => ?_⟩
  · have hnd : ¬ len b t ∣ j * len b s := fun q => by
      have q2 := Nat.mod_eq_zero_of_dvd q
      simp only [Bool.not_eq_true', decide_eq_false_iff_not] at e
      apply e
      omega
    have hlt : j * len b s < rnd b s t := Nat.lt_of_le_of_ne hle fun q => hnd (by rw [q]; exact hn)
    obtain ⟨i, hi⟩ := hm
    have hij : j + 1 ≤ i := by
      apply Nat.lt_of_not_le
      intro q
      have h3 := Nat.mul_le_mul_left (len b s) q
      rw [hi, Nat.mul_comm j] at hlt
      omega
    have hle2 : (j + 1) * len b s ≤ rnd b s t := by rw [hi, Nat.mul_comm]; exact Nat.mul_le_mul_left _ hij
    have e2 : (j + 1) * len b s = j * len b s + len b s := by rw [Nat.add_mul, Nat.one_mul]
    refine ⟨fun σ2 H4 => ∃ m', m' < rnd b s t - j * len b s ∧ ∃ j : Nat, 1 ≤ j ∧ j * len b s ≤ rnd b s t ∧ m' = rnd b s t - j * len b s ∧ σ2 = [some x, some y, some z, some (.int (len b s : Int)), some (.int (len b t : Int)), some (.int ((j * len b s : Nat) : Int))] ∧ Ok S B2 H4 ∧ Ex H2 H4, fun σ2 H4 q => q, ?_⟩
    refine ⟨_, rfl, _, rfl, ((j * len b s : Nat) : Int), (len b s : Int), rfl, rfl, rnd b s t - (j + 1) * len b s, by omega, j + 1, by omega, hle2, rfl, ?_, oo.grow q3, ee.trans q3⟩
    rw [e2]
    simp
  · have hd : len b t ∣ j * len b s := by
      simp only [Bool.not_eq_false', decide_eq_true_eq] at e
      have e3 : ((j * len b s % len b t : Nat) : Int) = 0 := by rw [Int.natCast_emod]; exact e
      exact Nat.dvd_of_mod_eq_zero (by omega)
    have ej : j * len b s = rnd b s t := Nat.le_antisymm hle (Nat.le_of_dvd (Nat.mul_pos hj hp) (Nat.lcm_dvd (Nat.dvd_mul_left _ _) hd))
    rw [ej]
    exact s_ret o3 (evd_var rfl (.int _)) fun v B4 H4 q4 o4 b4 dv => k v B4 H4 ((((q1.trans q2).trans ee).trans q3).trans q4) o4 (((b1.trans b2).trans b3).trans b4) dv
abbrev N_rises_of : List Str := ["book", "one", "other", "found", "later"]
theorem sc_rises_of : FnScope N_rises_of ["book", "one", "other"] (defScope s_rises_of) := ⟨rfl, rfl, rfl, by decide +kernel, rfl, by decide +kernel, by decide +kernel⟩
theorem ok_rises_of (C : Cs mg) (D_common_round : Def P w K mg base "common_round" s_common_round 1 ["book", "one", "other"] (SpF K 3 F_common_round)) (D_struck : Def P w K mg base "struck" s_struck 1 ["book", "start", "later"] (SpF K 3 F_struck)) (D : Std K mg "rises_of" s_rises_of ["book", "one", "other"]) : Def P w K mg base "rises_of" s_rises_of 2 ["book", "one", "other"] (SpF K 3 F_rises_of) := by
  refine D.pure sc_rises_of F_rises_of rfl (fun f cdv A outer s H E hr => ⟨_, PSs.nox (pss_cons (ps_set (i := 3) sc_rises_of.nd rfl (Or.inl rfl) (pe_lst (pa_cons pe_int pa_nil)))
      (pss_cons (ps_for PassesOwn.never rfl (pi_range1 (by rfl) C.range (pa_cons (pe_callD D_common_round hr (by decide) (by rfl) (pa_cons (pv 0) (pa_cons (pv 1) (pa_cons (pv 2) pa_nil)))) pa_nil)) (pg_name (i := 4) sc_rises_of.nd rfl (Or.inl rfl))
      (pss_one (ps_expr (pe_bm PySem.F.plainAttrs_list PySem.F.slot_list_append PySem.F.type_list_append mt_append (pv 3) (pa_cons (pe_op op_add (pe_ix ix_list (pv 3) (pe_un un_neg pe_int) (fun _ _ => rfl)) (pe_callB (call_max2 rfl) (by rfl) C.max (by decide +kernel) (pa_cons pe_int (pa_cons (pe_op op_sub (pe_callD D_struck hr (by decide) (by rfl) (pa_cons (pv 0) (pa_cons (pv 1) (pa_cons (pv 4) pa_nil)))) (pe_callD D_struck hr (by decide) (by rfl) (pa_cons (pv 0) (pa_cons (pv 2) (pa_cons (pv 4) pa_nil))))) pa_nil)))) pa_nil)))))
      (pss_one (ps_ret (pv 3))))), ?_⟩)
  intro S B vs ds r Q o dv hl hF k
  obtain ⟨b, s, t, G, g, h, rfl, rfl⟩ := hF
  obtain ⟨x, y, z, rfl, dx, dy, dz⟩ := dpAll_inv3 dv
  have hR := rnd_le G g h
  refine q_newL (K := K) o (by decide) (eda_cons evd_int eda_nil) fun l xs B1 H1 hl0 q1 o1 b1 hxs dxs => ?_
  have hSl : ¬ S l := o.notS hl0
  obtain ⟨w, rfl, dw⟩ := dpAll_inv1 dxs
  cases dp_int dw
  -- for later in range(common_round(..)): found.append(found[-1] + max(0, ..))
  refine q_for o1 (evi_rng1 (n := rnd b s t) (by omega) (evd_call ⟨b, s, t, G, g, h, rfl, rfl⟩ rfl (eda_cons (evd_var rfl (dpEx b1 dx)) (eda_cons (evd_var rfl (dpEx b1 dy)) (eda_cons (evd_var rfl (dpEx b1 dz)) eda_nil)))))
    (fun B2 i σ' H' => ∃ v4, σ' = [some x, some y, some z, some (.ref l), v4] ∧ Ok (fun a => S a ∨ a = l) B2 H' ∧ H' l = some (.lst (((List.range (i + 1)).map (ov b s t)).map V.int)) ∧ Ex H H') (fun B2 H2 q2 o2 b2 => ⟨none, rfl, o2, q2 _ _ hxs, q1.trans q2⟩) (fun B2 i σ' H' ⟨_, _, oo, _, _⟩ => ⟨_, oo⟩) ?_ ?_
  · rintro B2 i y2 σ' H' H'' bb hi ⟨v4, rfl, oo, hl1, ee⟩ eh f
    obtain ⟨B4, o4, b4, dy2⟩ := f _ B2 oo (Ex.refl _)
    have e2 := dp_int dy2
    rw [Int.zero_add] at e2
    subst e2
    have bx := (b1.trans bb).trans b4
    have hl2 : H'' l = some (.lst (((List.range (i + 1)).map (ov b s t)).map V.int)) := eh _ _ hl1
    have hat : atI (((List.range (i + 1)).map (ov b s t)).map V.int) (-1) = some (.int (ov b s t i)) := by
      rw [List.range_succ, List.map_append, List.map_append]
      exact atI_last _ _
    refine ⟨.ref l, rfl, .inl ⟨rfl, _, .inl (.inl hl2)⟩, ?_⟩
    refine ⟨.ref l, rfl, _, rfl, l, _, _, _, rfl, rfl, .inl (.inl hl2), hat, ?_⟩
    refine (evd_max2 evd_int (evd_I0i (evd_call ⟨b, s, i, G, g, rfl, rfl⟩ rfl (eda_cons (evd_var rfl (dpEx bx dx)) (eda_cons (evd_var rfl (dpEx bx dy)) (eda_cons (evd_var rfl (.int _)) eda_nil)))) (evd_call ⟨b, t, i, G, h, rfl, rfl⟩ rfl (eda_cons (evd_var rfl (dpEx bx dx)) (eda_cons (evd_var rfl (dpEx bx dz)) (eda_cons (evd_var rfl (.int _)) eda_nil)))))) _ H'' o4 _ fun u B5 H5 q5 o5 b5 du => ?_
    cases dp_int du
    refine ⟨_, _, rfl, rfl, l, _, _, rfl, rfl, q5 _ _ hl2, ?_, some (.int (i : Int)), rfl, (((oo.grow eh).grow q5).put (.inr rfl)), ?_, ?_⟩
    · rw [List.length_map, List.length_map, List.length_range]
      exact Nat.lt_of_le_of_lt (show i + 1 ≤ 1000 by omega) (by decide)
    · rw [upd_same, List.range_succ (n := i + 1), List.map_append, List.map_append]
      rfl
    · exact Ex.mut ((ee.trans eh).trans q5) hl0
  · rintro B2 σ' H' bb ⟨v4, rfl, oo, hl1, ee⟩
    have o6 := oo.fix hl1 hSl
    exact s_ret o6 (evd_var rfl (dp_newL upd_same (dpAll_ofInts _))) fun v B3 H3 q3 o3 b3 dv => k v B3 H3 (ee.trans q3) o3 (((b1.trans bb).trans oo.fixE).trans b3) dv
abbrev N_reach_of : List Str := ["rises", "most", "size", "whole", "rounds", "left", "one"]
theorem sc_reach_of : FnScope N_reach_of ["rises", "most"] (defScope s_reach_of) := ⟨rfl, rfl, rfl, by decide +kernel, rfl, by decide +kernel, by decide +kernel⟩
theorem ok_reach_of (C : Cs mg)  (D : Std K mg "reach_of" s_reach_of ["rises", "most"]) : Def P w K mg base "reach_of" s_reach_of 1 ["rises", "most"] (SpF K 2 F_reach_of) := by
  refine D.pure sc_reach_of F_reach_of rfl (fun f cdv A outer s H E hr => ⟨_, PSs.nox (pss_cons (ps_par (i := 2) (j := 3) rfl sc_reach_of.nd rfl rfl (by decide) rfl rfl (pa_cons (pe_op op_sub (pe_callB call_len_seq (by rfl) C.len (by decide +kernel) (pa_cons (pv 0) pa_nil)) pe_int) (pa_cons (pe_ix ix_list (pv 0) (pe_un un_neg pe_int) (fun _ _ => rfl)) pa_nil)) (by rfl))
      (pss_cons (ps_if (pt_cmpR op_eq (pv 3) pe_int (nomark _)) (pss_one (ps_ret pe_non)) pss_nil)
      (pss_cons (ps_set (i := 4) sc_reach_of.nd rfl (Or.inl rfl) (pe_op op_fdiv (pv 1) (pv 3)))
      (pss_cons (ps_set (i := 5) sc_reach_of.nd rfl (Or.inr rfl) (pe_op op_sub (pv 1) (pe_op op_mul (pv 4) (pv 3))))
      (pss_one (ps_ret (pe_op op_add (pe_op op_mul (pv 4) (pv 2)) (pe_callB call_len_seq (by rfl) C.len (by decide +kernel) (pa_cons (pe_lc (own := [("one", 6)]) (g := (gName 6)) (by rfl) sc_reach_of.nd (pi_list (pe_slice sl_list (pv 0) (po_some pe_int) po_none)) (blkOk_by (own := [("one", 6)]) (N := N_reach_of) (sc := defScope s_reach_of) (by decide +kernel)) (fun _ _ _ _ _ => (pg_name (i := 6) sc_reach_of.nd rfl (Or.inl rfl))) (fun _ _ _ _ _ => (pts_one (pt_cmpR op_le (pv 6) (pv 5) (nomark _)))) (fun _ _ _ _ _ => (pv 6))) pa_nil))))))))), ?_⟩)
  intro S B vs ds r Q o dv hl hF k
  obtain ⟨f, R, m, hP, hR, hf, hm, rfl, rfl⟩ := hF
  obtain ⟨x, y, rfl, dx, dy⟩ := dpAll_inv2 dv
  have hp := hP.pos
  have f0 := hP.zero
  have fR := hP.mono 0 R (Nat.zero_le _)
  have hlen : (((List.range (R + 1)).map f).map PyData.int).length = R + 1 := by rw [List.length_map, List.length_map, List.length_range]
  have at1 : atI (((List.range (R + 1)).map f).map PyData.int) (-1) = some (.int (f R)) := by
    rw [List.range_succ, List.map_append, List.map_append]
    exact atI_last _ _
  refine q_par o ((evd_I0i (evd_lenL (evd_var rfl dx)) evd_int).is (e := .int (R : Int)) (by rw [hlen]; congr 1; omega)) (evd_ixL at1 (evd_var rfl dx) (evd_un evd_int)) fun v w B1 H1 q1 o1 b1 dv dw => ?_
  cases dp_int dv
  cases dp_int dw
  refine q_when o1 (etest (K := K) (evd_eqI (evd_var rfl dw) evd_int)) (fun e B2 H2 q2 o2 b2 => ?_) fun e B2 H2 q2 o2 b2 => ?_
  · have e0 : reachF f R m = none := if_pos (of_decide_eq_true e)
    rw [e0] at k
    exact s_ret o2 evd_non fun v B3 H3 q3 o3 b3 dv => k v B3 H3 ((q1.trans q2).trans q3) o3 ((b1.trans b2).trans b3) dv
  have hne : f R ≠ 0 := of_decide_eq_false e
  have bx := b1.trans b2
  refine q_set o2 (evd_Ii (by show (0 : Int) < _ ∧ _; omega) (evd_var rfl (dpEx bx dy)) (evd_var rfl (.int (f R)))) fun u B3 H3 q3 o3 b3 du => ?_
  cases dp_int du
  refine q_set o3 (evd_I0i (evd_var rfl (dpEx (bx.trans b3) dy)) (evd_Ii (.inr (by omega)) (evd_var rfl (.int _)) (evd_var rfl (.int (f R))))) fun u2 B4 H4 q4 o4 b4 du2 => ?_
  cases dp_int du2
  have bz := (bx.trans b3).trans b4
  have e0 : reachF f R m = some ((m / f R) * R + (((List.range R).filter fun k => decide (f (k + 1) ≤ m - (m / f R) * f R)).length : Nat)) := if_neg hne
  rw [e0] at k
  -- rises[1:]
  have hcut : Z.cutD (((List.range (R + 1)).map f).map PyData.int) (some 1) none = ((List.range R).map fun k => f (k + 1)).map PyData.int := by
    unfold Z.cutD
    rw [hlen, show HT.sIx (R + 1) 0 (some 1) = 1 by unfold HT.sIx; simp only []; split <;> omega]
    rw [show HT.sIx (R + 1) (R + 1) none = R + 1 from rfl, List.range_succ_eq_map, List.map_cons, List.map_cons, List.drop_one, List.tail_cons, List.take_of_length_le (by rw [List.length_map, List.length_map, List.length_map, List.length_range]; omega), List.map_map, List.map_map, List.map_map]
    rfl
  refine s_ret o4 ((evd_I0i (evd_Ii (.inr (by omega)) (evd_var rfl (.int _)) (evd_var rfl (.int (R : Int)))) (evd_lenL (evd_lcL (as := (List.range R).map fun k => f (k + 1)) (toD := PyData.int) (fun i => if i ≤ m - (m / f R) * f R then some (PyData.int i) else none) ((evd_slL (evd_var rfl (dpEx bz dx)) (edo_some (K := K) evd_int) edo_none).is (by rw [hcut])) (by rw [List.length_map, List.length_range]; omega) (fun _ => rfl) (fun i z B5 _ b5 dz => ?_) (fun i z d B5 _ b5 dz hd => ?_)))).is ?_) fun v B3' H3' q3' o3' b3' dv => k v B3' H3' ((((q1.trans q2).trans q3).trans q4).trans q3') o3' (bz.trans b3') dv
  · refine (etest (evd_I0b (evd_var rfl dz) (evd_var rfl (.int (m - m / f R * f R))))).is ?_
    by_cases q : i ≤ m - m / f R * f R
    · rw [if_pos q, decide_eq_true q]; rfl
    · rw [if_neg q, decide_eq_false q]; rfl
  · split at hd
    · cases hd; exact evd_var rfl dz
    · cases hd
  · congr 1
    congr 1
    congr 1
    rw [List.filterMap_map]
    have e3 : ((fun i => if i ≤ m - (m / f R) * f R then some (PyData.int i) else none) ∘ fun k => f (k + 1)) = fun k => if decide (f (k + 1) ≤ m - (m / f R) * f R) = true then some (PyData.int (f (k + 1))) else none := by
      funext k
      simp
    rw [e3]
    generalize List.range R = L
    induction L with
    | nil => rfl
    | cons a L ih =>
      rw [List.filterMap_cons, List.filter_cons]
      by_cases q : decide (f (a + 1) ≤ m - (m / f R) * f R) = true
      · rw [if_pos q, if_pos q]; simp only [List.length_cons]; rw [ih]
      · rw [if_neg q, if_neg q]; exact ih
abbrev N_longest_in : List Str := ["book", "loss", "one", "other", "most", "some", "reach"]
theorem sc_longest_in : FnScope N_longest_in ["book", "loss", "one", "other"] (defScope s_longest_in) := ⟨rfl, rfl, rfl, by decide +kernel, rfl, by decide +kernel, by decide +kernel⟩
theorem ok_longest_in (C : Cs mg) (D_reach_of : Def P w K mg base "reach_of" s_reach_of 1 ["rises", "most"] (SpF K 2 F_reach_of)) (D_rises_of : Def P w K mg base "rises_of" s_rises_of 2 ["book", "one", "other"] (SpF K 3 F_rises_of)) (D : Std K mg "longest_in" s_longest_in ["book", "loss", "one", "other"]) : Def P w K mg base "longest_in" s_longest_in 3 ["book", "loss", "one", "other"] (SpF K 4 F_longest_in) := by
  refine D.pure sc_longest_in F_longest_in rfl (fun f cdv A outer s H E hr => ⟨_, PSs.nox (pss_cons (ps_set (i := 4) sc_longest_in.nd rfl (Or.inl rfl) (pe_op op_add (pe_ix ix_tup (pv 1) pe_int (fun _ _ => rfl)) (pe_ix ix_tup (pv 1) pe_int (fun _ _ => rfl))))
      (pss_cons (ps_set (i := 5) sc_longest_in.nd rfl (Or.inl rfl) (pe_lst (pa_cons (pe_callD D_reach_of hr (by decide) (by rfl) (pa_cons (pe_callD D_rises_of hr (by decide) (by rfl) (pa_cons (pv 0) (pa_cons (pv 2) (pa_cons (pv 3) pa_nil)))) (pa_cons (pv 4) pa_nil))) (pa_cons (pe_callD D_reach_of hr (by decide) (by rfl) (pa_cons (pe_callD D_rises_of hr (by decide) (by rfl) (pa_cons (pv 0) (pa_cons (pv 3) (pa_cons (pv 2) pa_nil)))) (pa_cons (pv 4) pa_nil))) pa_nil))))
      (pss_one (ps_ret (pe_callBK (cr_minDef rfl hr.units) (by rfl) C.min (by decide +kernel) (pa_cons (pe_lc (own := [("reach", 6)]) (g := (gName 6)) (by rfl) sc_longest_in.nd (pi_list (pv 5)) (blkOk_by (own := [("reach", 6)]) (N := N_longest_in) (sc := defScope s_longest_in) (by decide +kernel)) (fun _ _ _ _ _ => (pg_name (i := 6) sc_longest_in.nd rfl (Or.inl rfl))) (fun _ _ _ _ _ => (pts_one (pt_cmpR op_notN (pv 6) pe_non (nomark _)))) (fun _ _ _ _ _ => (pv 6))) pa_nil) (pk_cons pe_non pk_nil)))))), ?_⟩)
  intro S B vs ds r Q o dv hl hF k
  obtain ⟨b, l, s, t, G, L, g, h, rfl, rfl⟩ := hF
  obtain ⟨x, y, z, w, rfl, dx, dy, dz, dw⟩ := dpAll_inv4 dv
  have hR := rnd_le G g h
  have hv := ov_le G g h (rnd b s t)
  have hv2 := ov_le G h g (rnd b t s)
  have hc : rnd b t s = rnd b s t := rnd_comm
  have l0 := L.a0
  have l1 := L.b0
  refine q_set o (evd_I0i (evd_ixT (atI_nat (j := 0) rfl) (evd_var rfl dy) evd_int) (evd_ixT (atI_nat (j := 1) rfl) (evd_var rfl dy) evd_int)) fun u B1 H1 q1 o1 b1 du => ?_
  cases dp_int du
  have dx1 := dpEx b1 dx
  have dz1 := dpEx b1 dz
  have dw1 := dpEx b1 dw
  refine q_set o1 (evd_lst (ds := [oD (reachF (ov b s t) (rnd b s t) (l.1 + l.2)), oD (reachF (ov b t s) (rnd b t s) (l.1 + l.2))]) (by simp) (eda_cons (evd_call ⟨_, _, _, per_ov (rnd_pos g h) rnd_l rnd_r, by omega, by omega, by omega, rfl, rfl⟩ rfl (eda_cons (evd_call ⟨b, s, t, G, g, h, rfl, rfl⟩ rfl (eda_cons (evd_var rfl dx1) (eda_cons (evd_var rfl dz1) (eda_cons (evd_var rfl dw1) eda_nil)))) (eda_cons (evd_var rfl (.int _)) eda_nil)))
    (eda_cons (evd_call ⟨_, _, _, per_ov (rnd_pos h g) rnd_l rnd_r, by omega, by omega, by omega, rfl, rfl⟩ rfl (eda_cons (evd_call ⟨b, t, s, G, h, g, rfl, rfl⟩ rfl (eda_cons (evd_var rfl dx1) (eda_cons (evd_var rfl dw1) (eda_cons (evd_var rfl dz1) eda_nil)))) (eda_cons (evd_var rfl (.int _)) eda_nil))) eda_nil))) fun u2 B2 H2 q2 o2 b2 du2 => ?_
  have hk : oD (lgF b (l.1 + l.2) s t) = oD (minO (reachF (ov b s t) (rnd b s t) (l.1 + l.2)) (reachF (ov b t s) (rnd b t s) (l.1 + l.2))) := rfl
  rw [hk] at k
  generalize reachF (ov b s t) (rnd b s t) (l.1 + l.2) = r1 at *
  generalize reachF (ov b t s) (rnd b t s) (l.1 + l.2) = r2 at *
  refine s_ret o2 (evd_minDef (ns := [r1, r2].filterMap id) ((evd_lcL (as := [r1, r2]) (toD := oD) (fun a => a.map PyData.int) (evd_var rfl du2) (by simp) (fun _ => rfl) (fun a v B3 _ b3 da => (etest (evd_notN (evd_var rfl da))).is (by cases a <;> rfl)) (fun a v d B3 _ b3 da hd => by
      cases a with
      | none => cases hd
      | some i => cases hd; exact evd_var rfl da)).is (by cases r1 <;> cases r2 <;> rfl)) (fun e => ?_) (fun m hm hle => ?_)) fun v B3 H3 q3 o3 b3 dv => k v B3 H3 ((q1.trans q2).trans q3) o3 ((b1.trans b2).trans b3) dv
  · cases r1 <;> cases r2 <;> simp at e ⊢ <;> rfl
  · cases r1 with
    | none =>
      cases r2 with
      | none => cases hm
      | some c => simp at hm; subst hm; rfl
    | some a =>
      cases r2 with
      | none => simp at hm; subst hm; rfl
      | some c =>
        simp at hm hle
        show PyData.int (min a c) = _
        congr 1
        omega
abbrev N_wait_in : List Str := ["book", "loss", "start", "some", "other", "reach"]
theorem sc_wait_in : FnScope N_wait_in ["book", "loss", "start"] (defScope s_wait_in) := ⟨rfl, rfl, rfl, by decide +kernel, rfl, by decide +kernel, by decide +kernel⟩
theorem ok_wait_in (C : Cs mg) (D_longest_in : Def P w K mg base "longest_in" s_longest_in 3 ["book", "loss", "one", "other"] (SpF K 4 F_longest_in)) (D_all_starts : Def P w K mg base "all_starts" s_all_starts 1 ["book"] (SpF K 1 F_all_starts)) (D : Std K mg "wait_in" s_wait_in ["book", "loss", "start"]) : Def P w K mg base "wait_in" s_wait_in 4 ["book", "loss", "start"] (SpF K 3 F_wait_in) := by
  refine D.pure sc_wait_in F_wait_in rfl (fun f cdv A outer s H E hr => ⟨_, PSs.nox (pss_cons (ps_setLc (i := 3) (own := [("other", 4)]) (g := (gName 4)) (by rfl) sc_wait_in.nd rfl rfl (sw_true rfl rfl rfl (by decide +kernel)) (pi_list (pe_callD D_all_starts hr (by decide) (by rfl) (pa_cons (pv 0) pa_nil))) (blkOk_by (own := [("other", 4)]) (N := N_wait_in) (sc := defScope s_wait_in) (by decide +kernel)) (fun _ _ _ _ _ => (pg_name (i := 4) sc_wait_in.nd rfl (Or.inl rfl))) (fun _ _ _ _ _ => pts_nil) (fun _ _ _ _ _ => (pe_callD D_longest_in hr (by decide) (by rfl) (pa_cons (pv 0) (pa_cons (pv 1) (pa_cons (pv 2) (pa_cons (pv 4) pa_nil)))))))
      (pss_one (ps_ret (pe_callB (cr_max rfl) (by rfl) C.max (by decide +kernel) (pa_cons (pe_op op_catL (pe_lst (pa_cons pe_int pa_nil)) (pe_lc (own := [("reach", 5)]) (g := (gName 5)) (by rfl) sc_wait_in.nd (pi_list (pv 3)) (blkOk_by (own := [("reach", 5)]) (N := N_wait_in) (sc := defScope s_wait_in) (by decide +kernel)) (fun _ _ _ _ _ => (pg_name (i := 5) sc_wait_in.nd rfl (Or.inl rfl))) (fun _ _ _ _ _ => (pts_one (pt_cmpR op_notN (pv 5) pe_non (nomark _)))) (fun _ _ _ _ _ => (pe_op op_add pe_int (pv 5))))) pa_nil))))), ?_⟩)
  intro S B vs ds r Q o dv hl hF k
  obtain ⟨b, l, s, G, L, g, rfl, rfl⟩ := hF
  obtain ⟨x, y, z, rfl, dx, dy, dz⟩ := dpAll_inv3 dv
  have hsl := starts_len G
  refine q_set o (evd_lcLm (as := starts b) (toD := sD) (fun t => oD (lgF b (l.1 + l.2) s t)) (evd_call ⟨b, G, rfl, rfl⟩ rfl (eda_cons (evd_var rfl dx) eda_nil)) (by omega) (fun _ => rfl) fun t v B1 ht b1 dt => evd_call ⟨b, l, s, t, G, L, g, mem_starts.mp ht, rfl, rfl⟩ rfl (eda_cons (evd_var rfl (dpEx b1 dx)) (eda_cons (evd_var rfl (dpEx b1 dy)) (eda_cons (evd_var rfl (dpEx b1 dz)) (eda_cons (evd_var rfl dt) eda_nil))))) fun u B1 H1 q1 o1 b1 du => ?_
  have hle := List.length_filterMap_le (lgF b (l.1 + l.2) s) (starts b)
  have hw := maxL_mem (((starts b).filterMap (lgF b (l.1 + l.2) s)).map fun x => 1 + x) 0
  have hg := maxL_ge (((starts b).filterMap (lgF b (l.1 + l.2) s)).map fun x => 1 + x) 0
  refine s_ret o1 (evd_maxL (ns := 0 :: ((starts b).filterMap (lgF b (l.1 + l.2) s)).map fun x => 1 + x) (m := wF b (l.1 + l.2) s) ?_ ?_ ((evd_catL (ds := [.int 0]) ?_ (evd_lst (by simp) (eda_cons evd_int eda_nil)) (evd_lcL (as := (starts b).map (lgF b (l.1 + l.2) s)) (toD := oD) (fun a => a.map fun i => PyData.int (1 + i)) (evd_var rfl (by rw [List.map_map]; exact du)) (by rw [List.length_map]; omega) (fun _ => rfl) (fun a v B3 _ b3 da => (etest (evd_notN (evd_var rfl da))).is (by cases a <;> rfl)) (fun a v d B3 _ b3 da hd => by
      cases a with
      | none => cases hd
      | some i => cases hd; exact evd_I0i evd_int (evd_var rfl da)))).is ?_)) fun v B3 H3 q3 o3 b3 dv => k v B3 H3 (q1.trans q3) o3 (b1.trans b3) dv
  · rcases hw with e | e
    · unfold wF maxL; rw [e]; exact List.mem_cons_self
    · exact List.mem_cons_of_mem _ e
  · intro a ha
    rcases List.mem_cons.mp ha with e | e
    · rw [e]; exact hg.1
    · exact hg.2 a e
  · have h2 := List.length_filterMap_le (fun a => Option.map (fun i => PyData.int (1 + i)) a) ((starts b).map (lgF b (l.1 + l.2) s))
    rw [List.length_map] at h2
    simp only [List.length_cons, List.length_nil]
    omega
  · have e1 : ((fun a => Option.map (fun i => PyData.int (1 + i)) a) ∘ lgF b (l.1 + l.2) s) = fun t => Option.map (PyData.int ∘ fun x => 1 + x) (lgF b (l.1 + l.2) s t) := by
      funext t
      show Option.map _ (lgF b (l.1 + l.2) s t) = _
      cases lgF b (l.1 + l.2) s t <;> rfl
    rw [List.filterMap_map, List.map_cons, List.map_map, List.map_filterMap, e1]
    rfl
abbrev N_wait_of : List Str := ["book", "loss", "start"]
theorem sc_wait_of : FnScope N_wait_of ["book", "loss", "start"] (defScope s_wait_of) := ⟨rfl, rfl, rfl, by decide +kernel, rfl, by decide +kernel, by decide +kernel⟩
theorem ok_wait_of (C : Cs mg) (D_need_book : Def P w K mg base "need_book" s_need_book 4 ["thing"] (SpF K 1 F_need_book)) (D_need_loss : Def P w K mg base "need_loss" s_need_loss 3 ["thing"] (SpF K 1 F_need_loss)) (D_wait_in : Def P w K mg base "wait_in" s_wait_in 4 ["book", "loss", "start"] (SpF K 3 F_wait_in)) (D_need_start : Def P w K mg base "need_start" s_need_start 4 ["book", "thing"] (SpF K 2 F_need_start)) (D : Std K mg "wait_of" s_wait_of ["book", "loss", "start"]) : Def P w K mg base "wait_of" s_wait_of 5 ["book", "loss", "start"] (SpF K 3 F_wait_of) := by
  refine D.pure sc_wait_of F_wait_of rfl (fun f cdv A outer s H E hr => ⟨_, PSs.nox (pss_cons (ps_expr (pe_callD D_need_book hr (by decide) (by rfl) (pa_cons (pv 0) pa_nil)))
      (pss_cons (ps_expr (pe_callD D_need_loss hr (by decide) (by rfl) (pa_cons (pv 1) pa_nil)))
      (pss_one (ps_ret (pe_callD D_wait_in hr (by decide) (by rfl) (pa_cons (pv 0) (pa_cons (pv 1) (pa_cons (pe_callD D_need_start hr (by decide) (by rfl) (pa_cons (pv 0) (pa_cons (pv 2) pa_nil))) pa_nil)))))))), ?_⟩)
  intro S B vs ds r Q o dv hl hF k
  obtain ⟨b, l, s, G, L, g, rfl, rfl⟩ := hF
  obtain ⟨x, y, z, rfl, dx, dy, dz⟩ := dpAll_inv3 dv
  refine q_drop o (evd_call (d := bD b) ⟨b, G, rfl, rfl⟩ rfl (eda_cons (evd_var rfl dx) eda_nil)) fun B1 H1 q1 o1 b1 => ?_
  refine q_drop o1 (evd_call (d := lD l) ⟨l, L, rfl, rfl⟩ rfl (eda_cons (evd_var rfl (dpEx b1 dy)) eda_nil)) fun B2 H2 q2 o2 b2 => ?_
  have bx := b1.trans b2
  exact s_ret o2 (evd_call ⟨b, l, s, G, L, g, rfl, rfl⟩ rfl (eda_cons (evd_var rfl (dpEx bx dx)) (eda_cons (evd_var rfl (dpEx bx dy)) (eda_cons (evd_call (d := sD s) ⟨b, s, G, g, rfl, rfl⟩ rfl (eda_cons (evd_var rfl (dpEx bx dx)) (eda_cons (evd_var rfl (dpEx bx dz)) eda_nil))) eda_nil)))) fun v B3 H3 q3 o3 b3 dv => k v B3 H3 ((q1.trans q2).trans q3) o3 (bx.trans b3) dv
abbrev N_worst_in : List Str := ["book", "loss", "start"]
theorem sc_worst_in : FnScope N_worst_in ["book", "loss"] (defScope s_worst_in) := ⟨rfl, rfl, rfl, by decide +kernel, rfl, by decide +kernel, by decide +kernel⟩
theorem ok_worst_in (C : Cs mg) (D_wait_in : Def P w K mg base "wait_in" s_wait_in 4 ["book", "loss", "start"] (SpF K 3 F_wait_in)) (D_all_starts : Def P w K mg base "all_starts" s_all_starts 1 ["book"] (SpF K 1 F_all_starts)) (D : Std K mg "worst_in" s_worst_in ["book", "loss"]) : Def P w K mg base "worst_in" s_worst_in 5 ["book", "loss"] (SpF K 2 F_worst_in) := by
  refine D.pure sc_worst_in F_worst_in rfl (fun f cdv A outer s H E hr => ⟨_, PSs.nox (pss_one (ps_ret (pe_callB (cr_max rfl) (by rfl) C.max (by decide +kernel) (pa_cons (pe_lc (own := [("start", 2)]) (g := (gName 2)) (by rfl) sc_worst_in.nd (pi_list (pe_callD D_all_starts hr (by decide) (by rfl) (pa_cons (pv 0) pa_nil))) (blkOk_by (own := [("start", 2)]) (N := N_worst_in) (sc := defScope s_worst_in) (by decide +kernel)) (fun _ _ _ _ _ => (pg_name (i := 2) sc_worst_in.nd rfl (Or.inl rfl))) (fun _ _ _ _ _ => pts_nil) (fun _ _ _ _ _ => (pe_callD D_wait_in hr (by decide) (by rfl) (pa_cons (pv 0) (pa_cons (pv 1) (pa_cons (pv 2) pa_nil)))))) pa_nil)))), ?_⟩)
  intro S B vs ds r Q o dv hl hF k
  obtain ⟨b, l, G, L, rfl, rfl⟩ := hF
  obtain ⟨x, y, rfl, dx, dy⟩ := dpAll_inv2 dv
  have hsl := starts_len G
  have hw := maxL_mem ((starts b).map (wF b (l.1 + l.2))) 0
  have hg := maxL_ge ((starts b).map (wF b (l.1 + l.2))) 0
  refine s_ret o (evd_maxL (ns := (starts b).map (wF b (l.1 + l.2))) (m := wwF b (l.1 + l.2)) ?_ (fun y hy => hg.2 y hy) ((evd_lcLm (as := starts b) (toD := sD) (fun t => .int (wF b (l.1 + l.2) t)) (evd_call ⟨b, G, rfl, rfl⟩ rfl (eda_cons (evd_var rfl dx) eda_nil)) (by omega) (fun _ => rfl) fun t v B1 ht b1 dt => evd_call (ds := [bD b, lD l, sD t]) ⟨b, l, t, G, L, mem_starts.mp ht, rfl, rfl⟩ rfl (eda_cons (evd_var rfl (dpEx b1 dx)) (eda_cons (evd_var rfl (dpEx b1 dy)) (eda_cons (evd_var rfl dt) eda_nil)))).is ?_)) k
  · rcases hw with e | e
    · have hne := starts_ne G
      cases hs : starts b with
      | nil => exact absurd hs hne
      | cons a rest =>
        have h1 : wF b (l.1 + l.2) a ∈ (starts b).map (wF b (l.1 + l.2)) := List.mem_map.mpr ⟨a, by rw [hs]; exact List.mem_cons_self, rfl⟩
        have h2 := hg.2 _ h1
        have h3 : 0 ≤ wF b (l.1 + l.2) a := wF_nonneg
        rw [e] at h2
        have h4 : wwF b (l.1 + l.2) = wF b (l.1 + l.2) a := by unfold wwF maxL; rw [e]; omega
        rw [h4, ← hs]; exact h1
    · exact e
  · rw [List.map_map]; rfl
abbrev N_worst_wait : List Str := ["book", "loss"]
theorem sc_worst_wait : FnScope N_worst_wait ["book", "loss"] (defScope s_worst_wait) := ⟨rfl, rfl, rfl, by decide +kernel, rfl, by decide +kernel, by decide +kernel⟩
theorem ok_worst_wait (C : Cs mg) (D_need_book : Def P w K mg base "need_book" s_need_book 4 ["thing"] (SpF K 1 F_need_book)) (D_worst_in : Def P w K mg base "worst_in" s_worst_in 5 ["book", "loss"] (SpF K 2 F_worst_in)) (D_need_loss : Def P w K mg base "need_loss" s_need_loss 3 ["thing"] (SpF K 1 F_need_loss)) (D : Std K mg "worst_wait" s_worst_wait ["book", "loss"]) : Def P w K mg base "worst_wait" s_worst_wait 6 ["book", "loss"] (SpF K 2 F_worst_wait) := by
  refine D.pure sc_worst_wait F_worst_wait rfl (fun f cdv A outer s H E hr => ⟨_, PSs.nox (pss_cons (ps_expr (pe_callD D_need_book hr (by decide) (by rfl) (pa_cons (pv 0) pa_nil)))
      (pss_one (ps_ret (pe_callD D_worst_in hr (by decide) (by rfl) (pa_cons (pv 0) (pa_cons (pe_callD D_need_loss hr (by decide) (by rfl) (pa_cons (pv 1) pa_nil)) pa_nil)))))), ?_⟩)
  intro S B vs ds r Q o dv hl hF k
  obtain ⟨b, l, G, L, rfl, rfl⟩ := hF
  obtain ⟨x, y, rfl, dx, dy⟩ := dpAll_inv2 dv
  refine q_drop o (evd_call (d := bD b) ⟨b, G, rfl, rfl⟩ rfl (eda_cons (evd_var rfl dx) eda_nil)) fun B1 H1 q1 o1 b1 => ?_
  exact s_ret o1 (evd_call ⟨b, l, G, L, rfl, rfl⟩ rfl (eda_cons (evd_var rfl (dpEx b1 dx)) (eda_cons (evd_call (d := lD l) ⟨l, L, rfl, rfl⟩ rfl (eda_cons (evd_var rfl (dpEx b1 dy)) eda_nil)) eda_nil))) fun v B3 H3 q3 o3 b3 dv => k v B3 H3 (q1.trans q3) o3 (b1.trans b3) dv
abbrev N_best_starts : List Str := ["book", "loss", "rows", "least", "start", "many"]
theorem sc_best_starts : FnScope N_best_starts ["book", "loss"] (defScope s_best_starts) := ⟨rfl, rfl, rfl, by decide +kernel, rfl, by decide +kernel, by decide +kernel⟩
theorem ok_best_starts (C : Cs mg) (D_need_book : Def P w K mg base "need_book" s_need_book 4 ["thing"] (SpF K 1 F_need_book)) (D_need_loss : Def P w K mg base "need_loss" s_need_loss 3 ["thing"] (SpF K 1 F_need_loss)) (D_wait_in : Def P w K mg base "wait_in" s_wait_in 4 ["book", "loss", "start"] (SpF K 3 F_wait_in)) (D_all_starts : Def P w K mg base "all_starts" s_all_starts 1 ["book"] (SpF K 1 F_all_starts)) (D : Std K mg "best_starts" s_best_starts ["book", "loss"]) : Def P w K mg base "best_starts" s_best_starts 5 ["book", "loss"] (SpF K 2 F_best_starts) := by
  refine D.pure sc_best_starts F_best_starts rfl (fun f cdv A outer s H E hr => ⟨_, PSs.nox (pss_cons (ps_expr (pe_callD D_need_book hr (by decide) (by rfl) (pa_cons (pv 0) pa_nil)))
      (pss_cons (ps_expr (pe_callD D_need_loss hr (by decide) (by rfl) (pa_cons (pv 1) pa_nil)))
      (pss_cons (ps_setLc (i := 2) (own := [("start", 4)]) (g := (gName 4)) (by rfl) sc_best_starts.nd rfl rfl (sw_true rfl rfl rfl (by decide +kernel)) (pi_list (pe_callD D_all_starts hr (by decide) (by rfl) (pa_cons (pv 0) pa_nil))) (blkOk_by (own := [("start", 4)]) (N := N_best_starts) (sc := defScope s_best_starts) (by decide +kernel)) (fun _ _ _ _ _ => (pg_name (i := 4) sc_best_starts.nd rfl (Or.inl rfl))) (fun _ _ _ _ _ => pts_nil) (fun _ _ _ _ _ => (pe_tup (pa_cons (pe_callD D_wait_in hr (by decide) (by rfl) (pa_cons (pv 0) (pa_cons (pv 1) (pa_cons (pv 4) pa_nil)))) (pa_cons (pv 4) pa_nil)))))
      (pss_cons (ps_set (i := 3) sc_best_starts.nd rfl (Or.inr rfl) (pe_ix ix_tup (pe_callB (cr_minRows rfl hr.units) (by rfl) C.min (by decide +kernel) (pa_cons (pv 2) pa_nil)) pe_int (fun _ _ => rfl)))
      (pss_one (ps_ret (pe_tupleOf (by rfl) C.tuple (pe_lc (own := [("many", 5), ("start", 4)]) (g := (gTup K 2 (gCons (gName 5) (gCons (gName 4) gNil)))) (by rfl) sc_best_starts.nd (pi_list (pv 2)) (blkOk_by (own := [("many", 5), ("start", 4)]) (N := N_best_starts) (sc := defScope s_best_starts) (by decide +kernel)) (fun _ _ _ _ _ => (pg_tup rfl (pgs_cons (pg_name (i := 5) sc_best_starts.nd rfl (Or.inl rfl)) (pgs_cons (pg_name (i := 4) sc_best_starts.nd rfl (Or.inl rfl)) pgs_nil)))) (fun _ _ _ _ _ => (pts_one (pt_cmpR op_eq (pv 5) (pv 3) (nomark _)))) (fun _ _ _ _ _ => (pv 4)))))))))), ?_⟩)
  intro S B vs ds r Q o dv hl hF k
  obtain ⟨b, l, G, L, rfl, rfl⟩ := hF
  obtain ⟨x, y, rfl, dx, dy⟩ := dpAll_inv2 dv
  have hsl := starts_len G
  have hne := starts_ne G
  refine q_drop o (evd_call (d := bD b) ⟨b, G, rfl, rfl⟩ rfl (eda_cons (evd_var rfl dx) eda_nil)) fun B1 H1 q1 o1 b1 => ?_
  refine q_drop o1 (evd_call (d := lD l) ⟨l, L, rfl, rfl⟩ rfl (eda_cons (evd_var rfl (dpEx b1 dy)) eda_nil)) fun B2 H2 q2 o2 b2 => ?_
  have bx := b1.trans b2
  have dx2 := dpEx bx dx
  have dy2 := dpEx bx dy
  refine q_set o2 (evd_lcLm (as := starts b) (toD := sD) (fun t => rowD (wF b (l.1 + l.2) t) (sD t)) (evd_call ⟨b, G, rfl, rfl⟩ rfl (eda_cons (evd_var rfl dx2) eda_nil)) (by omega) (fun _ => rfl) fun t v B3 ht b3 dt => evd_tup (ds := [.int (wF b (l.1 + l.2) t), sD t]) (by simp) (eda_cons (evd_call ⟨b, l, t, G, L, mem_starts.mp ht, rfl, rfl⟩ rfl (eda_cons (evd_var rfl (dpEx b3 dx2)) (eda_cons (evd_var rfl (dpEx b3 dy2)) (eda_cons (evd_var rfl dt) eda_nil)))) (eda_cons (evd_var rfl dt) eda_nil))) fun u B3 H3 q3 o3 b3 du => ?_
  obtain ⟨c, ss, hss⟩ : ∃ c ss, starts b = c :: ss := by
    cases h : starts b with
    | nil => exact absurd h hne
    | cons c ss => exact ⟨c, ss, rfl⟩
  obtain ⟨s0, hs0, e0, hle⟩ := minD_rows (wF b (l.1 + l.2)) sD (fun x y => by simp [sD, PySem.W.alike, PySem.W.alikeAll]) ss c
  have hrows : (starts b).map (fun t => rowD (wF b (l.1 + l.2) t) (sD t)) = rowD (wF b (l.1 + l.2) c) (sD c) :: ss.map fun t => rowD (wF b (l.1 + l.2) t) (sD t) := by rw [hss, List.map_cons]
  have du' := du
  rw [hrows] at du'
  have hdp : ∀ xs : List Stt, PyData.canLayAll0 (xs.map fun t => rowD (wF b (l.1 + l.2) t) (sD t)) = true ∧ PyData.depthAll (xs.map fun t => rowD (wF b (l.1 + l.2) t) (sD t)) ≤ 8 := fun xs => by
    induction xs with
    | nil => exact ⟨rfl, by simp [PyData.depthAll]⟩
    | cons a r ih =>
      obtain ⟨h1, h2⟩ := ih
      rw [List.map_cons]
      refine ⟨?_, ?_⟩
      · simp only [PyData.canLayAll0, h1, Bool.and_true]
        simp [rowD, sD, PyData.canLay0, PyData.canLayAll0]
      · simp only [PyData.depthAll]
        have h3 : (rowD (wF b (l.1 + l.2) a) (sD a)).depth ≤ 8 := by simp [rowD, sD, PyData.depth, PyData.depthAll]
        omega
  have hal : PySem.W.AlikeAll (rowD (wF b (l.1 + l.2) c) (sD c) :: ss.map fun t => rowD (wF b (l.1 + l.2) t) (sD t)) := by
    rw [← hrows]
    refine ⟨fun p hp q hq => ?_, fun p hp => ?_⟩
    · obtain ⟨p', _, rfl⟩ := List.mem_map.mp hp
      obtain ⟨q', _, rfl⟩ := List.mem_map.mp hq
      simp [rowD, sD, PySem.W.alike, PySem.W.alikeAll]
    · obtain ⟨p', _, rfl⟩ := List.mem_map.mp hp
      exact fun e => by cases e
  refine q_set o3 ((evd_ixT (ds := [.int (wF b (l.1 + l.2) s0), sD s0]) (atI_nat (j := 0) rfl) ((evd_minRows hal (by rw [← hrows]; exact (hdp _).1) (by rw [← hrows]; exact Nat.le_trans (hdp _).2 (by decide)) (evd_var rfl du')).is e0) evd_int).is (e := .int (wF b (l.1 + l.2) s0)) rfl) fun u2 B4 H4 q4 o4 b4 du2 => ?_
  cases dp_int du2
  have hbest : bestF b (l.1 + l.2) = (starts b).filter fun s => decide (wF b (l.1 + l.2) s = wF b (l.1 + l.2) s0) := best_of ⟨s0, by rw [hss]; exact hs0, rfl⟩ fun s hs => hle s (by rw [← hss]; exact hs)
  rw [hbest] at k
  have hrl : ((starts b).map fun t => rowD (wF b (l.1 + l.2) t) (sD t)).length = (starts b).length := List.length_map ..
  refine s_ret o4 (evd_tupleL ((evd_lc (fun i => ((starts b)[i]?).bind fun s => if wF b (l.1 + l.2) s = wF b (l.1 + l.2) s0 then some (sD s) else none) (evi_list (evd_var rfl (dpEx b4 du))) (by omega) fun i z B5 hi b5 dz => ?_).is ?_)) fun v B6 H6 q6 o6 b6 dv => k v B6 H6 ((((q1.trans q2).trans q3).trans q4).trans q6) o6 (((bx.trans b3).trans b4).trans b6) dv
  · rw [hrl] at hi
    rw [getD_map hi] at dz
    obtain ⟨p, q, dp, dq, eg⟩ := evg_two (i := 5) (j := 4) (σ := wipe ((((start N_best_starts [x, y]).set 2 (some u)).set 3 (some (.int (wF b (l.1 + l.2) s0))))) [5, 4]) dz
    cases dp_int dp
    refine ⟨[some x, some y, some u, some (.int (wF b (l.1 + l.2) s0)), some q, some (.int (wF b (l.1 + l.2) (starts b)[i]))], rfl, eg, ?_, fun d hd => ?_⟩
    · refine (etest (K := K) (evd_eqI (evd_var rfl (.int _)) (evd_var rfl (.int _)))).is ?_
      rw [List.getElem?_eq_getElem hi]
      show _ = (if _ then _ else _ : Option PyData).isSome
      split
      · rename_i h; exact decide_eq_true h
      · rename_i h; exact decide_eq_false h
    · rw [List.getElem?_eq_getElem hi] at hd
      have hd' : (if wF b (l.1 + l.2) (starts b)[i] = wF b (l.1 + l.2) s0 then some (sD (starts b)[i]) else none) = some d := hd
      split at hd'
      · cases hd'; exact evd_var rfl dq
      · cases hd'
  · congr 1
    rw [hrl, fm_map]
    generalize starts b = L0
    induction L0 with
    | nil => rfl
    | cons a r ih =>
      rw [List.filterMap_cons, List.filter_cons]
      by_cases h : wF b (l.1 + l.2) a = wF b (l.1 + l.2) s0
      · rw [if_pos h, if_pos (decide_eq_true h), List.map_cons]; simp only []; rw [ih]
      · rw [if_neg h, if_neg (by simpa using h)]; exact ih
abbrev N_clock_wait : List Str := ["book", "loss", "start", "others", "some", "other", "reach"]
theorem sc_clock_wait : FnScope N_clock_wait ["book", "loss", "start"] (defScope s_clock_wait) := ⟨rfl, rfl, rfl, by decide +kernel, rfl, by decide +kernel, by decide +kernel⟩
theorem ok_clock_wait (C : Cs mg) (D_need_book : Def P w K mg base "need_book" s_need_book 4 ["thing"] (SpF K 1 F_need_book)) (D_need_loss : Def P w K mg base "need_loss" s_need_loss 3 ["thing"] (SpF K 1 F_need_loss)) (D_need_start : Def P w K mg base "need_start" s_need_start 4 ["book", "thing"] (SpF K 2 F_need_start)) (D_longest_in : Def P w K mg base "longest_in" s_longest_in 3 ["book", "loss", "one", "other"] (SpF K 4 F_longest_in)) (D_all_starts : Def P w K mg base "all_starts" s_all_starts 1 ["book"] (SpF K 1 F_all_starts)) (D : Std K mg "clock_wait" s_clock_wait ["book", "loss", "start"]) : Def P w K mg base "clock_wait" s_clock_wait 5 ["book", "loss", "start"] (SpF K 3 F_clock_wait) := by
  refine D.pure sc_clock_wait F_clock_wait rfl (fun f cdv A outer s H E hr => ⟨_, PSs.nox (pss_cons (ps_expr (pe_callD D_need_book hr (by decide) (by rfl) (pa_cons (pv 0) pa_nil)))
      (pss_cons (ps_expr (pe_callD D_need_loss hr (by decide) (by rfl) (pa_cons (pv 1) pa_nil)))
      (pss_cons (ps_expr (pe_callD D_need_start hr (by decide) (by rfl) (pa_cons (pv 0) (pa_cons (pv 2) pa_nil))))
      (pss_cons (ps_setLc (i := 3) (own := [("other", 5)]) (g := (gName 5)) (by rfl) sc_clock_wait.nd rfl rfl (sw_true rfl rfl rfl (by decide +kernel)) (pi_list (pe_callD D_all_starts hr (by decide) (by rfl) (pa_cons (pv 0) pa_nil))) (blkOk_by (own := [("other", 5)]) (N := N_clock_wait) (sc := defScope s_clock_wait) (by decide +kernel)) (fun _ _ _ _ _ => (pg_name (i := 5) sc_clock_wait.nd rfl (Or.inl rfl))) (fun _ _ _ _ _ => (pts_one (pt_cmpR op_ne (pe_ix (ix_tupK (K := K) rfl) (pv 5) pe_int (fun _ _ => rfl)) (pe_ix (ix_tupK (K := K) rfl) (pv 2) pe_int (fun _ _ => rfl)) (nomark _)))) (fun _ _ _ _ _ => (pv 5)))
      (pss_cons (ps_setLc (i := 4) (own := [("other", 5)]) (g := (gName 5)) (by rfl) sc_clock_wait.nd rfl rfl (sw_true rfl rfl rfl (by decide +kernel)) (pi_list (pv 3)) (blkOk_by (own := [("other", 5)]) (N := N_clock_wait) (sc := defScope s_clock_wait) (by decide +kernel)) (fun _ _ _ _ _ => (pg_name (i := 5) sc_clock_wait.nd rfl (Or.inl rfl))) (fun _ _ _ _ _ => pts_nil) (fun _ _ _ _ _ => (pe_callD D_longest_in hr (by decide) (by rfl) (pa_cons (pv 0) (pa_cons (pv 1) (pa_cons (pv 2) (pa_cons (pv 5) pa_nil)))))))
      (pss_one (ps_ret (pe_ifExp (pt_cmpR op_in_seq pe_non (pv 4) (by rfl)) pe_non (pe_callB (cr_max rfl) (by rfl) C.max (by decide +kernel) (pa_cons (pe_op op_catL (pe_lst (pa_cons pe_int pa_nil)) (pe_lc (own := [("reach", 6)]) (g := (gName 6)) (by rfl) sc_clock_wait.nd (pi_list (pv 4)) (blkOk_by (own := [("reach", 6)]) (N := N_clock_wait) (sc := defScope s_clock_wait) (by decide +kernel)) (fun _ _ _ _ _ => (pg_name (i := 6) sc_clock_wait.nd rfl (Or.inl rfl))) (fun _ _ _ _ _ => pts_nil) (fun _ _ _ _ _ => (pe_op op_add pe_int (pv 6))))) pa_nil)))))))))), ?_⟩)
  intro S B vs ds r Q o dv hl hF k
  obtain ⟨b, l, s, G, L, g, rfl, rfl⟩ := hF
  obtain ⟨x, y, z, rfl, dx, dy, dz⟩ := dpAll_inv3 dv
  have hsl := starts_len G
  refine q_drop o (evd_call (d := bD b) ⟨b, G, rfl, rfl⟩ rfl (eda_cons (evd_var rfl dx) eda_nil)) fun B1 H1 q1 o1 b1 => ?_
  refine q_drop o1 (evd_call (d := lD l) ⟨l, L, rfl, rfl⟩ rfl (eda_cons (evd_var rfl (dpEx b1 dy)) eda_nil)) fun B2 H2 q2 o2 b2 => ?_
  have bx2 := b1.trans b2
  refine q_drop o2 (evd_call (d := sD s) ⟨b, s, G, g, rfl, rfl⟩ rfl (eda_cons (evd_var rfl (dpEx bx2 dx)) (eda_cons (evd_var rfl (dpEx bx2 dz)) eda_nil))) fun B3 H3 q3 o3 b3 => ?_
  have bx := bx2.trans b3
  have dx3 := dpEx bx dx
  have dy3 := dpEx bx dy
  have dz3 := dpEx bx dz
  have hfl : ((starts b).filter fun o => !decide ((o.1 : Int) = (s.1 : Int))).length ≤ 72 := Nat.le_trans (List.length_filter_le _ _) hsl
  refine q_set o3 ((evd_lcL (as := starts b) (toD := sD) (fun t => if (t.1 : Int) = (s.1 : Int) then none else some (sD t)) (evd_call ⟨b, G, rfl, rfl⟩ rfl (eda_cons (evd_var rfl dx3) eda_nil)) (by omega) (fun _ => rfl) (fun t v B4 ht b4 dt => (etest (K := K) (evd_neI (evd_ixT (ds := [.int (t.1 : Int), .int (t.2 : Int)]) (atI_nat (j := 0) rfl) (evd_var rfl dt) evd_int) (evd_ixT (ds := [.int (s.1 : Int), .int (s.2 : Int)]) (atI_nat (j := 0) rfl) (evd_var rfl (dpEx b4 dz3)) evd_int))).is ?_) (fun t v d B4 ht b4 dt hd => ?_)).is (e := ssD ((starts b).filter fun o => !decide ((o.1 : Int) = (s.1 : Int)))) ?_) fun u B4 H4 q4 o4 b4 du => ?_
  · by_cases h : (t.1 : Int) = (s.1 : Int)
    · rw [if_pos h, decide_eq_true h]; rfl
    · rw [if_neg h, decide_eq_false h]; rfl
  · split at hd
    · cases hd
    · cases hd; exact evd_var rfl dt
  · unfold ssD
    congr 1
    generalize starts b = L0
    induction L0 with
    | nil => rfl
    | cons a r ih =>
      rw [List.filterMap_cons, List.filter_cons]
      by_cases h : (a.1 : Int) = (s.1 : Int)
      · rw [if_pos h, decide_eq_true h]; exact ih
      · rw [if_neg h, decide_eq_false h]; simp only [Bool.not_false, if_true, List.map_cons]; rw [ih]
  refine q_set o4 ((evd_lcLm (as := (starts b).filter fun o => !decide ((o.1 : Int) = (s.1 : Int))) (toD := sD) (fun t => oD (lgF b (l.1 + l.2) s t)) (evd_var rfl du) (by omega) (fun _ => rfl) fun t v B5 ht b5 dt => evd_call (ds := [bD b, lD l, sD s, sD t]) ⟨b, l, s, t, G, L, g, mem_starts.mp (List.mem_filter.mp ht).1, rfl, rfl⟩ rfl (eda_cons (evd_var rfl (dpEx (b4.trans b5) dx3)) (eda_cons (evd_var rfl (dpEx (b4.trans b5) dy3)) (eda_cons (evd_var rfl (dpEx (b4.trans b5) dz3)) (eda_cons (evd_var rfl dt) eda_nil))))).is (e := .list ((lgs b (l.1 + l.2) s).map oD)) (by unfold lgs; rw [List.map_map]; rfl)) fun u2 B5 H5 q5 o5 b5 du2 => ?_
  have hlg : (lgs b (l.1 + l.2) s).length ≤ 72 := by unfold lgs; rw [List.length_map]; exact hfl
  have hcw : cwF b (l.1 + l.2) s = if (lgs b (l.1 + l.2) s).any Option.isNone then none else some (maxL (((lgs b (l.1 + l.2) s).filterMap id).map fun x => 1 + x)) := rfl
  rw [hcw] at k
  generalize lgs b (l.1 + l.2) s = os at *
  refine s_ret o5 (evd_if (etest (K := K) (evd_noneIn (evd_var rfl du2))) (fun e => ?_) fun e => ?_) fun v B6 H6 q6 o6 b6 dv => k v B6 H6 (((((q1.trans q2).trans q3).trans q4).trans q5).trans q6) o6 (((bx.trans b4).trans b5).trans b6) dv
  · rw [if_pos e]; exact evd_non
  · rw [if_neg (by rw [e]; simp)]
    have hw := maxL_mem ((os.filterMap id).map fun x => 1 + x) 0
    have hg := maxL_ge ((os.filterMap id).map fun x => 1 + x) 0
    have hall : ∀ a ∈ os, a.isSome = true := fun a ha => by
      have := List.any_eq_false.mp e a ha
      cases a with
      | none => exact absurd rfl this
      | some i => rfl
    refine evd_maxL (ns := 0 :: (os.filterMap id).map fun x => 1 + x) (m := maxL ((os.filterMap id).map fun x => 1 + x)) ?_ ?_ ((evd_catL (ds := [.int 0]) ?_ (evd_lst (by simp) (eda_cons evd_int eda_nil)) (evd_lcL (as := os) (toD := oD) (fun a => a.map fun i => PyData.int (1 + i)) (evd_var rfl du2) (by omega) (fun _ => rfl) (fun a v B6 ha b6 da => etYes.is (by have := hall a ha; cases a <;> simp at this ⊢)) (fun a v d B6 _ b6 da hd => by
      cases a with
      | none => cases hd
      | some i => cases hd; exact evd_I0i evd_int (evd_var rfl da)))).is ?_)
    · rcases hw with e | e
      · unfold maxL; rw [e]; exact List.mem_cons_self
      · exact List.mem_cons_of_mem _ e
    · intro a ha
      rcases List.mem_cons.mp ha with e | e
      · rw [e]; exact hg.1
      · exact hg.2 a e
    · have h2 := List.length_filterMap_le (fun a : Option Int => Option.map (fun i => PyData.int (1 + i)) a) os
      simp only [List.length_cons, List.length_nil]
      omega
    · rw [List.map_cons, List.map_map, List.map_filterMap]
      rfl
abbrev N_q_begin : List Str := ["_law_script"]
theorem sc_q_begin : FnScope N_q_begin ["_law_script"] (defScope s_q_begin) := ⟨rfl, rfl, rfl, by decide +kernel, rfl, by decide +kernel, by decide +kernel⟩
theorem ok_q_begin (C : Cs mg)  (D : Std K mg "_law_begin" s_q_begin ["_law_script"]) : Def P w K mg base "_law_begin" s_q_begin 1 ["_law_script"] (SpB K) := by
  refine D.any sc_q_begin (fun _ _ _ _ h => SpB.len h) (fun f cdv A outer s H vs Q E hr h => ?_)
  refine ⟨_, PSs.nox (pss_one (ps_ret (pe_disp (pps_cons pe_str (pe_op op_catL (pv 0) (pe_lst (pa_cons pe_int pa_nil))) (pps_cons pe_str pe_int (pps_cons pe_str pe_int (pps_cons pe_str pe_int pps_nil)))) (by rfl) (by rfl) (fun z => by cases z) (by decide)))), ?_⟩
  obtain ⟨S, B, a, ns, rfl, o, dv, hl, k⟩ := h
  intro p hp
  have o1 := o.mut (o := .dK []) hp
  refine (evd_catL (ds := ns.map PyData.int) (es := [.int 0]) (by rw [List.length_map]; simp; omega) (evd_var rfl dv) (evd_lst (by simp) (eda_cons evd_int eda_nil))) _ _ o1 _ fun v B2 H2 q2 o2 b2 du => ?_
  have hz : (ns.map PyData.int ++ [PyData.int 0]) = (ns ++ [0]).map PyData.int := by rw [List.map_append]; rfl
  rw [hz] at du
  obtain ⟨c, xs, rfl, hs, hd⟩ := dp_list du
  have h2 : H2 p = some (.dK []) := q2 _ _ upd_same
  refine ⟨h2, dk c 0 0 0, rfl, by show 4 ≤ 15; decide, ?_⟩
  have em : mergeK [] (dk c 0 0 0) = dk c 0 0 0 := by
    show putK (putK (putK (putK [] (.inr "cells" : Key) (.ref c)) (.inr "at") (.int 0)) (.inr "left") (.int 0)) (.inr "used") (.int 0) = _
    rw [putK_new (.ref c) valV_nil, List.nil_append, putK_new (.int 0) ((valV_neg (kne (by decide +kernel))).trans valV_nil), List.singleton_append]
    rw [putK_new (.int 0) ((valV_neg (kne (by decide +kernel))).trans ((valV_neg (kne (by decide +kernel))).trans valV_nil))]
    rw [List.cons_append, List.singleton_append, putK_new (.int 0) ((valV_neg (kne (by decide +kernel))).trans ((valV_neg (kne (by decide +kernel))).trans ((valV_neg (kne (by decide +kernel))).trans valV_nil)))]
    rfl
  rw [em]
  exact k p B2 _ hp (Ex.mut ((Ex.new (o := .dK []) hp).trans q2) hp) (o2.put (.inr rfl)) b2 ⟨.inr rfl, c, ns ++ [0], 0, 0, 0, upd_same, du, by simp, by rw [List.length_append]; simp; omega, Int.le_refl _, Int.le_refl _, Int.le_refl _, Int.le_refl _, Int.le_refl _⟩
abbrev N_q_next : List Str := ["_law_draw", "_law_many", "_law_cell", "_law_cells", "_law_number", "_law_k"]
theorem sc_q_next : FnScope N_q_next ["_law_draw", "_law_many"] (defScope s_q_next) := ⟨rfl, rfl, rfl, by decide +kernel, rfl, by decide +kernel, by decide +kernel⟩
theorem ok_q_next (C : Cs mg)  (D : Std K mg "_law_next" s_q_next ["_law_draw", "_law_many"]) : Def P w K mg base "_law_next" s_q_next 1 ["_law_draw", "_law_many"] (SpW K 1 1 G_next) := by
  refine D.any sc_q_next (fun _ _ _ _ h => SpW.len h) (fun f cdv A outer s H vs Q E hr h => ?_)
  have hu := hu_of hr
  refine ⟨_, PSs.nox (pss_cons (ps_if (pt_cmpR op_gt (pe_dget hu (pv 0) pe_str (fun _ _ => rfl)) pe_int (nomark _)) (pss_cons (ps_asg (pe_tup (pa_cons (pe_dget hu (pv 0) pe_str (fun _ _ => rfl)) (pa_cons (pe_op op_fdivW (pe_dget hu (pv 0) pe_str (fun _ _ => rfl)) (pv 1)) pa_nil))) (pg_tup rfl (pgs_cons (pg_name (i := 2) sc_q_next.nd rfl (Or.inl rfl)) (pgs_cons (pg_sub (pv 0) pe_str (set_dict hu)) pgs_nil))))
      (pss_one (ps_ret (pe_op op_mod (pv 2) (pv 1))))) pss_nil)
      (pss_cons (ps_set (i := 3) sc_q_next.nd rfl (Or.inl rfl) (pe_dget hu (pv 0) pe_str (fun _ _ => rfl)))
      (pss_cons (ps_set (i := 2) sc_q_next.nd rfl (Or.inl rfl) (pe_ix ix_list (pv 3) (pe_op op_mod (pe_dget hu (pv 0) pe_str (fun _ _ => rfl)) (pe_callB call_len_seq (by rfl) C.len (by decide +kernel) (pa_cons (pv 3) pa_nil))) (fun _ _ => rfl)))
      (pss_cons (ps_dput hu (pv 0) pe_str (pe_op op_add (pe_dget hu (pv 0) pe_str (fun _ _ => rfl)) pe_int) rfl)
      (pss_cons (ps_if (PW.pt (pw_and (pt_cmpR op_ge (pv 2) (pe_op op_pow pe_int pe_int) (nomark _)) (pw_and1 (pt_cmpR op_le (pe_dget hu (pv 0) pe_str (fun _ _ => rfl)) (pe_callB call_len_seq (by rfl) C.len (by decide +kernel) (pa_cons (pv 3) pa_nil)) (nomark _))))) (pss_cons (ps_dput hu (pv 0) pe_str (pe_op op_fdivW (pv 2) (pv 1)) rfl)
      (pss_one (ps_ret (pe_op op_mod (pv 2) (pv 1))))) pss_nil)
      (pss_cons (ps_dput hu (pv 0) pe_str (pe_op op_add (pe_dget hu (pv 0) pe_str (fun _ _ => rfl)) pe_int) rfl)
      (pss_cons (ps_set (i := 4) sc_q_next.nd rfl (Or.inl rfl) (pe_op op_add (pe_op op_mod (pv 2) pe_int) (pe_op op_mul (pe_op op_mul pe_int (pe_dget hu (pv 0) pe_str (fun _ _ => rfl))) (pe_dget hu (pv 0) pe_str (fun _ _ => rfl)))))
      (pss_cons (ps_for PassesOwn.never rfl (pi_tup (pe_tup (pa_cons (pe_dget hu (pv 0) pe_str (fun _ _ => rfl)) (pa_cons (pe_dget hu (pv 0) pe_str (fun _ _ => rfl)) pa_nil)))) (pg_name (i := 5) sc_q_next.nd rfl (Or.inl rfl))
      (pss_cons (ps_set (i := 4) sc_q_next.nd rfl (Or.inl rfl) (pe_op op_mod (pe_op op_mul (pe_op op_add (pe_op op_add (pv 4) (pe_op op_mul pe_int (pv 5))) pe_int) pe_int) pe_int))
      (pss_one (ps_set (i := 4) sc_q_next.nd rfl (Or.inl rfl) (pe_op op_mod (pe_op op_mul (pv 4) (pe_op op_add pe_int (pe_op op_mul pe_int (pe_op op_mod (pv 5) pe_int)))) pe_int)))))
      (pss_one (ps_ret (pe_op op_mod (pe_op op_fdiv (pv 4) pe_int) (pv 1)))))))))))), ?_⟩
  obtain ⟨S, B, d, n, us, ds, P, rfl, o, ⟨hs, c, cs, a, l, u, h1, h2, h3, h4, h5, h6, h7, h8, h9⟩, hn, dv, hl, ⟨m, m1, m2, rfl, hP⟩, k⟩ := h
  obtain ⟨x, rfl, dx⟩ := dpAll_inv1 dv
  cases dp_int dx
  have hm2 : m.natAbs < 2 ^ 200 := by omega
  have hmod : ∀ z : Int, P (.int (z % m)) := fun z => hP _ (Int.emod_nonneg _ (by omega)) (Int.emod_lt_of_pos _ (by omega))
  refine h_when (evh_B (evh_dget rfl h1 dk_left) evh_c) (fun _ => ?_) fun _ => ?_
  · -- a great cell is read on
    show tSeq _ _ _ _ _
    refine evh_dget rfl h1 dk_left _ ?_
    refine (evh_I (wide_div (by omega) hm2 (by omega) (by omega)) (evh_dget rfl h1 dk_left) (evh_var rfl)) _ ⟨sz_of (by simp), fun p hp => ?_⟩
    have hpd : p ≠ d := fun e => by rw [e, h1] at hp; cases hp
    have h1' : upd H p (.tup [.int l, .int (l / m)]) d = some (.dK (dk c a l u)) := by rw [upd_ne (Ne.symm hpd)]; exact h1
    refine ⟨p, _, rfl, st_of upd_same, rfl, _, _, rfl, _, _, rfl, .ref d, rfl, d, _, rfl, DPut.k (k := .inr "left") h1' dk_len, rfl, ?_⟩
    rw [dk_putLeft]
    have o1 := (o.new (o := .tup [.int l, .int (l / m)]) hp).put (o := .dK (dk c a (l / m) u)) hs
    refine h_ret (evh_I (by omega) (evh_var rfl) (evh_var rfl)) (k _ _ _ _ (((ExB.refl d H).mut hp).put) o1 (o.exB hp) ⟨hs, c, cs, a, l / m, u, upd_same, dpEx (o.exB hp) h2, h3, h4, h5, by omega, Int.ediv_nonneg h7 (by omega), h8, by omega⟩ (hmod l) (.int _))
  obtain ⟨c', xs, ec, hsq, hall⟩ := dp_list h2
  cases ec
  cases dpAll_ints hall
  have hlc : (0 : Int) < ((cs.map V.int).length : Int) := by
    rw [List.length_map]
    have := List.length_pos_iff.mpr h3
    omega
  refine h_set (evh_dget rfl h1 dk_cells) ?_
  obtain ⟨j, hj1, hj2⟩ : ∃ j : Nat, a % ((cs.map V.int).length : Int) = (j : Int) ∧ j < cs.length := by
    have q1 := Int.emod_nonneg a (show ((cs.map V.int).length : Int) ≠ 0 by omega)
    have q2 := Int.emod_lt_of_pos a hlc
    refine ⟨(a % ((cs.map V.int).length : Int)).toNat, by omega, ?_⟩
    rw [List.length_map] at q1 q2 ⊢
    omega
  have hat : atI (cs.map V.int) (a % ((cs.map V.int).length : Int)) = some (.int cs[j]) := by
    rw [hj1]
    exact atI_nat (by rw [List.getElem?_map, List.getElem?_eq_getElem hj2]; rfl)
  refine h_set (evh_ix (K := K) (evh_var rfl) (evh_I hlc (evh_dget rfl h1 dk_at) (evh_len (K := K) (evh_var rfl) (ex_l o.le hsq))) (ex_l o.le hsq) hat) ?_
  generalize cs[j] = cell at *
  refine h_put (evh_I0 (evh_dget rfl h1 dk_at) evh_c) rfl h1 dk_len dk_putAt ?_
  have o1 := o.put (o := .dK (dk c (a + 1) l u)) hs
  have g1 : upd H d (.dK (dk c (a + 1) l u)) d = some (.dK (dk c (a + 1) l u)) := upd_same
  generalize hH1 : upd H d (.dK (dk c (a + 1) l u)) = H1 at *
  have x1 : ExB d H H1 := by rw [← hH1]; exact (ExB.refl d H).put
  refine h_whenA (evh_B (evh_var rfl) (evh_I ⟨by decide, by decide, by decide⟩ evh_c evh_c)) (evh_B (evh_dget rfl g1 dk_at) (evh_len (K := K) (evh_var rfl) (ex_l o1.le hsq))) (fun hc1 _ => ?_) ?_
  · have hc0 : (10 : Int) ^ (18 : Int).toNat ≤ cell := of_decide_eq_true hc1
    have hc2 : (0 : Int) ≤ cell := Int.le_trans (by decide) hc0
    refine h_put (evh_I (wide_div (by omega) hm2 (by omega) (by omega)) (evh_var rfl) (evh_var rfl)) rfl g1 dk_len dk_putLeft ?_
    exact h_ret (evh_I (by omega) (evh_var rfl) (evh_var rfl)) (k _ _ _ _ x1.put (o1.put hs) (Ex.refl _) ⟨hs, c, cs, a + 1, cell / m, u, upd_same, h2, h3, h4, by omega, by omega, Int.ediv_nonneg hc2 (by omega), h8, by omega⟩ (hmod cell) (.int _))
  refine h_put (evh_I0 (evh_dget rfl g1 dk_used) evh_c) rfl g1 dk_len dk_putUsed ?_
  have o2 := o1.put (o := .dK (dk c (a + 1) l (u + 1))) hs
  have g2 : upd H1 d (.dK (dk c (a + 1) l (u + 1))) d = some (.dK (dk c (a + 1) l (u + 1))) := upd_same
  generalize hH2 : upd H1 d (.dK (dk c (a + 1) l (u + 1))) = H2 at *
  have x2 : ExB d H H2 := by rw [← hH2]; exact x1.put
  refine h_set (evh_I0 (evh_I (by decide) (evh_var rfl) evh_c) (evh_I (.inr (by omega)) (evh_I (.inl (by decide)) evh_c (evh_dget rfl g2 dk_used)) (evh_dget rfl g2 dk_used))) ?_
  generalize cell % 1000000007 + 7919 * (u + 1) * (u + 1) = num
  refine evh_dget rfl g2 dk_at _ ?_
  refine evh_dget rfl g2 dk_used _ ⟨sz_of (by simp), fun p hp => ?_⟩
  have hpd : p ≠ d := fun e => by rw [e, g2] at hp; cases hp
  have o3 := o2.new (o := .tup [.int (a + 1), .int (u + 1)]) hp
  have q3 := o2.exB (o := .tup [.int (a + 1), .int (u + 1)]) hp
  have x3 : ExB d H (upd H2 p (.tup [.int (a + 1), .int (u + 1)])) := x2.new hp hpd
  have g3 : upd H2 p (.tup [.int (a + 1), .int (u + 1)]) d = some (.dK (dk c (a + 1) l (u + 1))) := by rw [upd_ne (Ne.symm hpd)]; exact g2
  have hst : SqT K (upd H2 p (.tup [.int (a + 1), .int (u + 1)])) p [.int (a + 1), .int (u + 1)] := st_of upd_same
  have hst2 : SqT K (upd B p (.tup [.int (a + 1), .int (u + 1)])) p [.int (a + 1), .int (u + 1)] := st_of upd_same
  generalize upd H2 p (.tup [.int (a + 1), .int (u + 1)]) = H3 at *
  generalize upd B p (.tup [.int (a + 1), .int (u + 1)]) = B3 at *
  refine ⟨p, rfl, ⟨_, hst⟩, ?_⟩
  have src := srcT (ds := [PyData.int (a + 1), .int (u + 1)]) hst2 (dpAll_two (.int _) (.int _))
  refine for_core src (fun i σ' H' => ∃ v5 z, σ' = [some (.ref d), some (.int m), some (.int cell), some (.ref c), some (.int z), v5] ∧ Ex H3 H') ⟨none, num, rfl, Ex.refl _⟩ (fun i σ' H' ⟨_, _, _, e⟩ => ⟨S, o3.grow e⟩) ?_ ?_
  · rintro i x σ' H' H'' hi ⟨v5, z, rfl, e⟩ eh f
    obtain ⟨B4, o4, b4, dx⟩ := f S B3 (o3.grow e) (Ex.refl _)
    obtain ⟨kk, rfl⟩ : ∃ kk : Int, x = .int kk := by
      match i, hi, dx with
      | 0, _, dx => exact ⟨_, dp_int dx⟩
      | 1, _, dx => exact ⟨_, dp_int dx⟩
    have hk0 := Int.emod_nonneg kk (show (1000 : Int) ≠ 0 by decide)
    have hk1 := Int.emod_lt_of_pos kk (show (0 : Int) < 1000 by decide)
    refine h_set (evh_I (by decide) (evh_I (.inr (by decide)) (evh_I0 (evh_I0 (evh_var rfl) (evh_I (.inl (by decide)) evh_c (evh_var rfl))) evh_c) evh_c) evh_c) ?_
    refine h_asg (evh_I (by decide) (evh_I (.inr (by omega)) (evh_var rfl) (evh_I0 evh_c (evh_I (.inl (by decide)) evh_c (evh_I (by decide) (evh_var rfl) evh_c)))) evh_c) ?_
    exact ⟨some (.int kk), _, rfl, e.trans eh⟩
  · rintro σ' H' ⟨v5, z, rfl, e⟩
    exact h_ret (evh_I (by omega) (evh_I ⟨by decide, by decide⟩ (evh_var rfl) evh_c) (evh_var rfl)) (k _ _ _ _ (x3.trans (.of e)) (o3.grow e) q3 ⟨hs, c, cs, a + 1, l, u + 1, e _ _ g3, dpEx q3 h2, h3, h4, by omega, by omega, h7, by omega, by omega⟩ (hmod _) (.int _))
abbrev N_q_pick : List Str := ["_law_draw", "_law_some"]
theorem sc_q_pick : FnScope N_q_pick ["_law_draw", "_law_some"] (defScope s_q_pick) := ⟨rfl, rfl, rfl, by decide +kernel, rfl, by decide +kernel, by decide +kernel⟩
theorem ok_q_pick (C : Cs mg) (D_q_next : Def P w K mg base "_law_next" s_q_next 1 ["_law_draw", "_law_many"] (SpW K 1 1 G_next)) (D : Std K mg "_law_pick" s_q_pick ["_law_draw", "_law_some"]) : Def P w K mg base "_law_pick" s_q_pick 2 ["_law_draw", "_law_some"] (SpW K 1 1 G_pick) := by
  refine D.any sc_q_pick (fun _ _ _ _ h => SpW.len h) (fun f cdv A outer s H vs Q E hr h => ?_)
  refine ⟨_, PSs.nox (pss_one (ps_ret (pe_ix ix_list (pv 1) (pe_callD D_q_next hr (by decide) (by rfl) (pa_cons (pv 0) (pa_cons (pe_callB call_len_seq (by rfl) C.len (by decide +kernel) (pa_cons (pv 1) pa_nil)) pa_nil))) (fun _ _ => rfl)))), ?_⟩
  obtain ⟨S, B, d, n, us, ds, P, rfl, o, hd, hn, dv, hl, ⟨xs, l1, l2, rfl, hP⟩, k⟩ := h
  obtain ⟨x, rfl, dx⟩ := dpAll_inv1 dv
  refine s_retW o hd (show n + (0 + 1) ≤ _ by omega) (evw_op (P1 := (· = .list xs)) (P2 := fun y => ∃ r : Int, 0 ≤ r ∧ r < (xs.length : Int) ∧ y = .int r) (evw_of (evd_var rfl dx)) ((evw_call rfl (ewa_cons (evw_of (evd_lenL (evd_var rfl dx))) ewa_nil) fun zs hz => ?_).up (by decide)) fun y z v w B1 b1 hy hz dv dw => ?_) fun v y B1 H1 q1 o1 b1 d1 p1 dy => k v y B1 H1 q1 o1 b1 d1 p1 dy
  · obtain ⟨a, as, rfl, rfl, rfl⟩ := hz
    exact ⟨rfl, _, by omega, by omega, rfl, fun r h0 h1 => ⟨r, h0, h1, rfl⟩⟩
  · subst hy
    obtain ⟨r, h0, h1, rfl⟩ := hz
    obtain ⟨j, rfl⟩ : ∃ j : Nat, r = (j : Int) := ⟨r.toNat, by omega⟩
    have hr : j < xs.length := by omega
    exact ⟨xs[j], hP _ (List.getElem_mem hr), evd_ixL (atI_nat (List.getElem?_eq_getElem hr)) (evd_c' dv) (evd_c' dw)⟩
abbrev N_q_clock : List Str := ["_law_draw", "_law_size", "_law_long", "_law_way", "_law_part", "_law_found", "_law_k", "_law_some"]
theorem sc_q_clock : FnScope N_q_clock ["_law_draw", "_law_size"] (defScope s_q_clock) := ⟨rfl, rfl, rfl, by decide +kernel, rfl, by decide +kernel, by decide +kernel⟩
theorem ok_q_clock (C : Cs mg) (D_q_next : Def P w K mg base "_law_next" s_q_next 1 ["_law_draw", "_law_many"] (SpW K 1 1 G_next)) (D_q_pick : Def P w K mg base "_law_pick" s_q_pick 2 ["_law_draw", "_law_some"] (SpW K 1 1 G_pick)) (D : Std K mg "_law_clock" s_q_clock ["_law_draw", "_law_size"]) : Def P w K mg base "_law_clock" s_q_clock 3 ["_law_draw", "_law_size"] (SpW K 1 40 G_clock) := by
  refine D.any sc_q_clock (fun _ _ _ _ h => SpW.len h) (fun f cdv A outer s H vs Q E hr h => ?_)
  refine ⟨_, PSs.nox (pss_cons (ps_set (i := 2) sc_q_clock.nd rfl (Or.inl rfl) (pe_op op_add pe_int (pe_callD D_q_next hr (by decide) (by rfl) (pa_cons (pv 0) (pa_cons (pv 1) pa_nil)))))
      (pss_cons (ps_set (i := 3) sc_q_clock.nd rfl (Or.inl rfl) (pe_callD D_q_next hr (by decide) (by rfl) (pa_cons (pv 0) (pa_cons pe_int pa_nil))))
      (pss_cons (ps_if (pt_cmpR op_eq (pv 3) pe_int (nomark _)) (pss_one (ps_ret (pe_tupRg rfl (by rfl) C.tuple (prg_2 (by rfl) C.range pe_int (pe_op op_add (pv 2) pe_int))))) pss_nil)
      (pss_cons (ps_if (pt_cmpR op_eq (pv 3) pe_int (nomark _)) (pss_cons (ps_set (i := 4) sc_q_clock.nd rfl (Or.inl rfl) (pe_tupleOf (by rfl) C.tuple (pe_lc (own := [("_law_k", 6)]) (g := (gName 6)) (by rfl) sc_q_clock.nd (pi_range1 (by rfl) C.range (pa_cons (pe_op op_add pe_int (pe_callD D_q_next hr (by decide) (by rfl) (pa_cons (pv 0) (pa_cons pe_int pa_nil)))) pa_nil)) (blkOk_by (own := [("_law_k", 6)]) (N := N_q_clock) (sc := defScope s_q_clock) (by decide +kernel)) (fun _ _ _ _ _ => (pg_name (i := 6) sc_q_clock.nd rfl (Or.inl rfl))) (fun _ _ _ _ _ => pts_nil) (fun _ _ _ _ _ => (pe_callD D_q_next hr (by decide) (by rfl) (pa_cons (pv 0) (pa_cons pe_int pa_nil)))))))
      (pss_one (ps_ret (pe_slice sl_tupA (pe_op op_repT (pv 4) pe_int) po_none (po_some (pe_op op_mul (pe_callB (call_max2 rfl) (by rfl) C.max (by decide +kernel) (pa_cons pe_int (pa_cons (pe_op op_fdiv (pv 2) (pe_callB call_len_seq (by rfl) C.len (by decide +kernel) (pa_cons (pv 4) pa_nil))) pa_nil))) (pe_callB call_len_seq (by rfl) C.len (by decide +kernel) (pa_cons (pv 4) pa_nil)))))))) pss_nil)
      (pss_cons (ps_if (pt_cmpR op_eq (pv 3) pe_int (nomark _)) (pss_one (ps_ret (pe_tupleOf (by rfl) C.tuple (pe_lc (own := [("_law_k", 6)]) (g := (gName 6)) (by rfl) sc_q_clock.nd (pi_range1 (by rfl) C.range (pa_cons (pv 2) pa_nil)) (blkOk_by (own := [("_law_k", 6)]) (N := N_q_clock) (sc := defScope s_q_clock) (by decide +kernel)) (fun _ _ _ _ _ => (pg_name (i := 6) sc_q_clock.nd rfl (Or.inl rfl))) (fun _ _ _ _ _ => pts_nil) (fun _ _ _ _ _ => (pe_op op_add (pe_op op_mul (pe_op op_mod (pe_callTy call_int1 (by rfl) C.int (by decide +kernel) (pa_cons (pe_op op_add (pv 6) pe_int) pa_nil)) pe_int) (pe_op op_add pe_int (pe_op op_fdiv (pv 6) pe_int))) (pe_op op_mod (pe_callTy call_int1 (by rfl) C.int (by decide +kernel) (pa_cons (pv 6) pa_nil)) pe_int))))))) pss_nil)
      (pss_cons (ps_set (i := 5) sc_q_clock.nd rfl (Or.inl rfl) (pe_tup pa_nil))
      (pss_cons (ps_for PassesOwn.never rfl (pi_range1 (by rfl) C.range (pa_cons (pv 2) pa_nil)) (pg_name (i := 6) sc_q_clock.nd rfl (Or.inl rfl))
      (pss_cons (ps_set (i := 7) sc_q_clock.nd rfl (Or.inl rfl) (pe_lst (pa_cons pe_int (pa_cons pe_int (pa_cons pe_int (pa_cons pe_int (pa_cons (pe_op op_add pe_int (pe_callD D_q_next hr (by decide) (by rfl) (pa_cons (pv 0) (pa_cons pe_int pa_nil)))) (pa_cons (pe_callD D_q_next hr (by decide) (by rfl) (pa_cons (pv 0) (pa_cons pe_int pa_nil))) pa_nil))))))))
      (pss_one (ps_set (i := 5) sc_q_clock.nd rfl (Or.inl rfl) (pe_op op_catA (pv 5) (pe_tup (pa_cons (pe_callD D_q_pick hr (by decide) (by rfl) (pa_cons (pv 0) (pa_cons (pv 7) pa_nil))) pa_nil)))))))
      (pss_one (ps_ret (pv 5)))))))))), ?_⟩
  obtain ⟨S, B, d, n, us, ds, P, rfl, o, hd, hn, dv, hl, ⟨m, m1, m2, rfl, hP⟩, k⟩ := h
  obtain ⟨x, rfl, dx⟩ := dpAll_inv1 dv
  cases dp_int dx
  refine q_setW (c := 0 + 1) o hd (by omega) (evw_I0 (evw_ofI evd_int) (evw_next rfl (evd_var rfl (.int m)) m1 (by omega))) fun v y B1 H1 x1 o1 b1 d1 ⟨L, e, ⟨_, L', rfl, ⟨L0, L1⟩, hL⟩⟩ dv => ?_
  subst e
  cases dp_int dv
  have hL1 : 1 ≤ L := by omega
  have hL2 : L ≤ 12 := by omega
  refine q_setW o1 d1 (by omega) (evw_next rfl evd_int (by decide) (by decide)) fun v y B2 H2 x2 o2 b2 d2 ⟨W, e, W0, W1⟩ dv => ?_
  subst e
  cases dp_int dv
  have xx := x1.trans x2
  have bb := b1.trans b2
  refine q_when o2 (etest (K := K) (evd_eqI (evd_var rfl (.int W)) evd_int)) (fun _ B3 H3 q3 o3 b3 => ?_) fun hw0 B3 H3 q3 o3 b3 => ?_
  · -- the hours
    refine s_ret o3 (evd_tupRg2 (lo := 1) (hi := L + 1) (by omega) evd_int (evd_I0i (evd_var rfl (.int L)) evd_int)) fun v B4 H4 q4 o4 b4 dv => k v _ B4 H4 (xx.trans (.of (q3.trans q4))) o4 (bb.trans (b3.trans b4)) ((d2.ofEx (q3.trans q4) (b3.trans b4)).up (by omega)) (hP _ ⟨?_, ?_, fun z hz => ?_⟩) dv
    · rw [List.length_map, List.length_range]; omega
    · rw [List.length_map, List.length_range]; omega
    · obtain ⟨j, hj, rfl⟩ := List.mem_map.mp hz
      have := List.mem_range.mp hj
      omega
  refine q_when o3 (etest (K := K) (evd_eqI (evd_var rfl (.int W)) evd_int)) (fun _ B4 H4 q4 o4 b4 => ?_) fun hw1 B4 H4 q4 o4 b4 => ?_
  · -- a part again and again
    have d4 := d2.ofEx (q3.trans q4) (b3.trans b4)
    refine q_setW (c := 0 + 1 + 3 * 1) o4 d4 (by omega) (evw_tupleL (P := fun z => ∃ ns : List Int, z = .tuple (ns.map PyData.int) ∧ (1 ≤ ns.length ∧ ns.length ≤ 3) ∧ ∀ a ∈ ns, 0 ≤ a ∧ a < 3) (evw_lcR (p := fun a => ∃ a' b : Int, a' = 1 ∧ (0 ≤ b ∧ b < 3) ∧ a = a' + b) (M := 3) (evw_I0 (evw_ofI evd_int) (evw_next rfl evd_int (by decide) (by decide))) (fun a h => by obtain ⟨_, b, rfl, h1, rfl⟩ := h; omega) (by decide) (fun _ => rfl) fun i B5 b5 => evw_next rfl evd_int (by decide) (by decide)) fun x hx => ?_) fun v y B5 H5 x5 o5 b5 d5 ⟨ns, e, hns, hna⟩ dv => ?_
    · obtain ⟨zs, rfl, ⟨_, b, rfl, h1, hz⟩, hz2⟩ := hx
      obtain ⟨ns, rfl, hn⟩ := ints_of hz2
      rw [List.length_map] at hz
      exact ⟨_, rfl, ns, rfl, by omega, hn⟩
    subst e
    obtain ⟨lp, hlp⟩ : ∃ lp : Nat, max (1 : Int) (L / (ns.length : Int)) * (ns.length : Int) = (lp : Int) ∧ ns.length ≤ lp ∧ lp ≤ 24 := by
      have h0 : (0 : Int) < (ns.length : Int) := by omega
      have h1 := Int.ediv_nonneg (show (0 : Int) ≤ L by omega) (show (0 : Int) ≤ (ns.length : Int) by omega)
      have h2 : L / (ns.length : Int) * (ns.length : Int) ≤ L := Int.ediv_mul_le L (by omega)
      by_cases hc : (1 : Int) ≤ L / (ns.length : Int)
      · have e : max (1 : Int) (L / (ns.length : Int)) = L / (ns.length : Int) := by omega
        have h3 : (1 : Int) * (ns.length : Int) ≤ L / (ns.length : Int) * (ns.length : Int) := Int.mul_le_mul_of_nonneg_right hc (by omega)
        rw [e]
        exact ⟨(L / (ns.length : Int) * (ns.length : Int)).toNat, by omega, by omega, by omega⟩
      · have e : max (1 : Int) (L / (ns.length : Int)) = 1 := by omega
        rw [e, Int.one_mul]
        exact ⟨ns.length, rfl, Nat.le_refl _, by omega⟩
    have hne : ns.map PyData.int ≠ [] := by
      cases ns with
      | nil => simp at hns
      | cons a r => simp
    have hlm : (ns.map PyData.int).length = ns.length := List.length_map ..
    have hfl : ∀ n : Nat, (List.replicate n (ns.map PyData.int)).flatten = (List.replicate n ns).flatten.map PyData.int := fun n => by rw [List.map_flatten, List.map_replicate]
    have hfn0 : ∀ n : Nat, (List.replicate n ns).flatten.length = n * ns.length := fun n => by
      induction n with
      | zero => rw [Nat.zero_mul]; rfl
      | succ n ih => rw [List.replicate_succ, List.flatten_cons, List.length_append, ih, Nat.succ_mul, Nat.add_comm]
    have hfn := hfn0 24
    refine s_ret o5 ((evd_slT (evd_repT hne (n := 24) (by decide) (by decide) (by omega) (evd_var rfl dv) evd_int) edo_none (edo_some (K := K) (evd_Ii (.inr (by omega)) (evd_max2 evd_int (evd_Ii ⟨by omega, by omega⟩ (evd_var rfl (.int L)) ((evd_lenT (evd_var rfl dv)).is (by rw [hlm])))) ((evd_lenT (evd_var rfl dv)).is (by rw [hlm]))))).is (e := cD ((List.replicate 24 ns).flatten.take lp)) ?_) fun v B6 H6 q6 o6 b6 dv => k v _ B6 H6 ((xx.trans (.of (q3.trans q4))).trans (x5.trans (.of q6))) o6 (bb.trans ((b3.trans b4).trans (b5.trans b6))) ((d5.ofEx q6 b6).up (by omega)) (hP _ ⟨?_, ?_, fun z hz => ?_⟩) dv
    · rw [hlp.1, hfl]
      unfold Z.cutD cD
      rw [List.length_map, hfn, show HT.sIx (24 * ns.length) 0 none = 0 from rfl, HT.sIx_nat, List.drop_zero, Nat.sub_zero, Nat.min_eq_left (by omega), List.map_take]
    · rw [List.length_take, hfn]; omega
    · rw [List.length_take, hfn]; omega
    · have h1 := List.mem_of_mem_take hz
      obtain ⟨l, hl, hz2⟩ := List.mem_flatten.mp h1
      rw [List.mem_replicate] at hl
      rw [hl.2] at hz2
      have := hna z hz2
      omega
  refine q_when o4 (etest (K := K) (evd_eqI (evd_var rfl (.int W)) evd_int)) (fun _ B5 H5 q5 o5 b5 => ?_) fun hw2 B5 H5 q5 o5 b5 => ?_
  · obtain ⟨N, rfl⟩ : ∃ N : Nat, L = (N : Int) := ⟨L.toNat, by omega⟩
    refine s_ret o5 ((evd_tupleL (evd_lcR1m (n := N) (fun i => .int (((i : Int) + 1) % 2 * (1 + (i : Int) / 2) + (i : Int) % 2)) (evd_var rfl (.int _)) (by omega) (fun _ => rfl) fun i B6 hi b6 => ?_)).is (e := cD ((List.range N).map fun i : Nat => ((i : Int) + 1) % 2 * (1 + (i : Int) / 2) + (i : Int) % 2)) (by unfold cD; rw [List.map_map]; rfl)) fun v B6 H6 q6 o6 b6 dv => k v _ B6 H6 (xx.trans (.of (((q3.trans q4).trans q5).trans q6))) o6 (bb.trans (((b3.trans b4).trans b5).trans b6)) ((d2.ofEx (((q3.trans q4).trans q5).trans q6) (((b3.trans b4).trans b5).trans b6)).up (by omega)) (hP _ ⟨?_, ?_, fun z hz => ?_⟩) dv
    · have hm0 := Int.emod_nonneg ((i : Int) + 1) (show (2 : Int) ≠ 0 by decide)
      have hm1 := Int.emod_lt_of_pos ((i : Int) + 1) (show (0 : Int) < 2 by decide)
      exact evd_I0i (evd_Ii (.inl (by omega)) (evd_Ii (show (0 : Int) < 2 by decide) (evd_int1 (evd_I0i (evd_var rfl (.int (i : Int))) evd_int)) evd_int) (evd_I0i evd_int (evd_Ii ⟨by decide, by decide⟩ (evd_var rfl (.int (i : Int))) evd_int))) (evd_Ii (show (0 : Int) < 2 by decide) (evd_int1 (evd_var rfl (.int (i : Int)))) evd_int)
    · rw [List.length_map, List.length_range]; omega
    · rw [List.length_map, List.length_range]; omega
    · obtain ⟨j, hj, rfl⟩ := List.mem_map.mp hz
      have := List.mem_range.mp hj
      have e : ((j : Int) + 1) % 2 = 0 ∨ ((j : Int) + 1) % 2 = 1 := by omega
      rcases e with e | e <;> rw [e] <;> omega
  -- marks drawn one by one
  have q5' := (q3.trans q4).trans q5
  have d5 := d2.ofEx q5' ((b3.trans b4).trans b5)
  refine q_set (K := K) o5 (evd_tup (ds := []) (by simp) eda_nil) fun v B6 H6 q6 o6 b6 dv => ?_
  have d6 := d5.ofEx q6 b6
  have hLn : ((L.toNat : Nat) : Int) = L := by omega
  have ei := evi_rng1 (K := K) (tl := tVar 2) (σ := [some (.ref d), some (.int m), some (.int L), some (.int W), none, some v, none, none]) (B := B6) (n := L.toNat) (by omega) (evd_var rfl (by rw [hLn]; exact .int L))
  refine q_walk o6 ei fun J B7 H7 q7 o7 b7 src => ?_
  have hbx := bb.trans (((b3.trans b4).trans b5).trans (b6.trans b7))
  have hxx : ExB d H H7 := xx.trans (.of (q5'.trans (q6.trans q7)))
  have d7 := d6.ofEx q7 b7
  refine for_core (D := { nx := tRet (tVar 5) { nx := fun _ H' => Q .non H', rt := Q }, rt := Q }) src (fun i σ' H' => ∃ B' v5 v6 v7, ∃ c : List Int, σ' = [some (.ref d), some (.int m), some (.int L), some (.int W), none, some v5, v6, v7] ∧ Ok S B' H' ∧ Ex B7 B' ∧ ExB d H7 H' ∧ DSt K S B' H' d (n + 2 + 3 * i) ∧ Dp K B' v5 (cD c) ∧ c.length = i ∧ ∀ z ∈ c, 0 ≤ z ∧ z ≤ 99)
    ⟨B7, v, none, none, [], rfl, o7, Ex.refl _, ExB.refl _ _, d7.up (by omega), dpEx b7 dv, rfl, fun z hz => by cases hz⟩ (fun i σ' H' ⟨B', _, _, _, _, _, oo, be, _⟩ => ⟨S, oo.weak be⟩) ?_ ?_
  · rintro i x σ' H' H'' hi ⟨B', v5, v6, v7, c, rfl, oo, be, xe, de, dc, hc1, hc2⟩ eh f
    obtain ⟨B8, o8, b8, dx⟩ := f S B' oo be
    cases dp_int dx
    have d8 := de.ofEx eh b8
    show tSeq _ _ _ _ _
    refine q_setW (c := 0 + (0 + (0 + (0 + ((0 + 1) + (1 + 0)))))) o8 d8 (by omega) (evw_lst (fun zs hz => ?_) (ewa_cons (evw_ofI evd_int) (ewa_cons (evw_ofI evd_int) (ewa_cons (evw_ofI evd_int) (ewa_cons (evw_ofI evd_int) (ewa_cons (evw_I0 (evw_ofI evd_int) (evw_next rfl evd_int (by decide) (by decide))) (ewa_cons (evw_next rfl evd_int (by decide) (by decide)) ewa_nil))))))) fun w y B9 H9 x9 o9 b9 d9 hy dw => ?_
    · obtain ⟨_, _, rfl, _, _, _, rfl, _, _, _, rfl, _, _, _, rfl, _, _, _, rfl, _, _, _, rfl, _, rfl⟩ := hz
      simp
    obtain ⟨_, rfl, _, _, rfl, ⟨z1, rfl, rfl⟩, _, _, rfl, ⟨z2, rfl, rfl⟩, _, _, rfl, ⟨z3, rfl, rfl⟩, _, _, rfl, ⟨z4, rfl, rfl⟩, _, _, rfl, ⟨z5, rfl, h5⟩, _, _, rfl, ⟨z6, rfl, h6⟩, rfl⟩ := hy
    obtain ⟨_, b5', rfl, h5', rfl⟩ := h5
    have dc9 := dpEx (b8.trans b9) dc
    refine s_setW (c := 0 + ((0 + 0) + 1 + 0)) o9 d9 (by omega) (evw_op (P2 := fun y => ∃ z : Int, y = .tuple [.int z] ∧ 0 ≤ z ∧ z ≤ 99) (P := fun y => ∃ z : Int, y = cD (c ++ [z]) ∧ 0 ≤ z ∧ z ≤ 99) (evw_of (evd_var rfl dc9)) ((evw_tup (Q2 := fun zs => ∃ z : Int, zs = [.int z] ∧ 0 ≤ z ∧ z ≤ 99) (fun zs hz => by obtain ⟨z, rfl, _⟩ := hz; simp) ((ewa_cons (evw_call (P := IntP fun z => 0 ≤ z ∧ z ≤ 99) rfl (ewa_cons (evw_of (evd_var rfl dw)) ewa_nil) fun zs hz => ?_) ewa_nil).imp fun zs hz => ?_)).imp fun y hy => ?_) fun y z v w B10 b10 hy hz dv dw => ?_) fun u y B10 H10 x10 o10 b10 d10 hy du => ?_
    · obtain ⟨_, _, rfl, rfl, rfl⟩ := hz
      refine ⟨rfl, _, by simp, by simp, rfl, fun x hx => ?_⟩
      simp only [List.mem_cons, List.not_mem_nil, or_false] at hx
      rcases hx with rfl | rfl | rfl | rfl | rfl | rfl
      · exact ⟨_, rfl, by omega, by omega⟩
      · exact ⟨_, rfl, by omega, by omega⟩
      · exact ⟨_, rfl, by omega, by omega⟩
      · exact ⟨_, rfl, by omega, by omega⟩
      · exact ⟨_, rfl, by omega, by omega⟩
      · exact ⟨_, rfl, by omega, by omega⟩
    · obtain ⟨_, _, rfl, ⟨z, rfl, hz⟩, rfl⟩ := hz
      exact ⟨z, rfl, hz⟩
    · obtain ⟨_, rfl, z, rfl, hz⟩ := hy
      exact ⟨z, rfl, hz⟩
    · obtain ⟨z, rfl, hz⟩ := hz
      subst hy
      refine ⟨_, ⟨z, rfl, hz⟩, (evd_catT ?_ (evd_c' dv) (evd_c' dw)).is (by unfold cD; rw [List.map_append]; rfl)⟩
      rw [List.length_map]; simp; omega
    · obtain ⟨z, rfl, hz⟩ := hy
      refine ⟨B10, u, _, _, c ++ [z], rfl, o10, be.trans (b8.trans (b9.trans b10)), (xe.trans (.of eh)).trans (x9.trans x10), d10.up (by omega), du, by rw [List.length_append, hc1]; rfl, fun y hy => ?_⟩
      rcases List.mem_append.mp hy with hy | hy
      · exact hc2 y hy
      · rw [List.mem_singleton.mp hy]; exact hz
  · rintro σ' H' ⟨B', v5, v6, v7, c, rfl, oo, be, xe, de, dc, hc1, hc2⟩
    exact s_ret oo (evd_var rfl dc) fun w B8 H8 q8 o8 b8 dw => k w _ B8 H8 (hxx.trans (xe.trans (.of q8))) o8 (hbx.trans (be.trans b8)) ((de.ofEx q8 b8).up (by omega)) (hP c ⟨by omega, by omega, hc2⟩) dw
abbrev N_q_book : List Str := ["_law_draw", "_law_size", "_law_found", "_law_k", "_law_clock_here", "_law_mark", "_law_way", "_law_turned"]
theorem sc_q_book : FnScope N_q_book ["_law_draw", "_law_size"] (defScope s_q_book) := ⟨rfl, rfl, rfl, by decide +kernel, rfl, by decide +kernel, by decide +kernel⟩
theorem ok_q_book (C : Cs mg) (D_q_clock : Def P w K mg base "_law_clock" s_q_clock 3 ["_law_draw", "_law_size"] (SpW K 1 40 G_clock)) (D_q_next : Def P w K mg base "_law_next" s_q_next 1 ["_law_draw", "_law_many"] (SpW K 1 1 G_next)) (D : Std K mg "_law_book" s_q_book ["_law_draw", "_law_size"]) : Def P w K mg base "_law_book" s_q_book 4 ["_law_draw", "_law_size"] (SpW K 1 130 G_book) := by
  refine D.any sc_q_book (fun _ _ _ _ h => SpW.len h) (fun f cdv A outer s H vs Q E hr h => ?_)
  refine ⟨_, PSs.nox (pss_cons (ps_set (i := 2) sc_q_book.nd rfl (Or.inl rfl) (pe_lst (pa_cons (pe_callD D_q_clock hr (by decide) (by rfl) (pa_cons (pv 0) (pa_cons (pv 1) pa_nil))) pa_nil)))
      (pss_cons (ps_for PassesOwn.never rfl (pi_range1 (by rfl) C.range (pa_cons (pe_callD D_q_next hr (by decide) (by rfl) (pa_cons (pv 0) (pa_cons pe_int pa_nil))) pa_nil)) (pg_name (i := 3) sc_q_book.nd rfl (Or.inl rfl))
      (pss_cons (ps_par (i := 4) (j := 5) rfl sc_q_book.nd rfl rfl (by decide) rfl rfl (pa_cons (pe_ix ix_list (pv 2) (pe_callD D_q_next hr (by decide) (by rfl) (pa_cons (pv 0) (pa_cons (pe_callB call_len_seq (by rfl) C.len (by decide +kernel) (pa_cons (pv 2) pa_nil)) pa_nil))) (fun _ _ => rfl)) (pa_cons (pe_callD D_q_next hr (by decide) (by rfl) (pa_cons (pv 0) (pa_cons (pv 1) pa_nil))) pa_nil)) (by rfl))
      (pss_cons (ps_par (i := 6) (j := 5) rfl sc_q_book.nd rfl rfl (by decide) rfl rfl (pa_cons (pe_callD D_q_next hr (by decide) (by rfl) (pa_cons (pv 0) (pa_cons pe_int pa_nil))) (pa_cons (pe_op op_mod (pe_callTy call_int1 (by rfl) C.int (by decide +kernel) (pa_cons (pv 5) pa_nil)) (pe_callB call_len_seq (by rfl) C.len (by decide +kernel) (pa_cons (pv 4) pa_nil))) pa_nil)) (by rfl))
      (pss_cons (ps_set (i := 7) sc_q_book.nd rfl (Or.inl rfl) (pe_op op_catA (pe_slice sl_tupA (pv 4) (po_some (pv 5)) po_none) (pe_slice sl_tupA (pv 4) po_none (po_some (pv 5)))))
      (pss_one (ps_if (pt_cmpR op_eq (pv 6) pe_int (nomark _)) (pss_one (ps_expr (pe_bm PySem.F.plainAttrs_list PySem.F.slot_list_append PySem.F.type_list_append mt_append (pv 2) (pa_cons (pv 7) pa_nil)))) (pss_one (ps_if (PW.pt (pw_and (pt_cmpR op_eq (pv 6) pe_int (nomark _)) (pw_and1 (pt_cmpR op_lt (pe_callB call_len_seq (by rfl) C.len (by decide +kernel) (pa_cons (pv 4) pa_nil)) pe_int (nomark _))))) (pss_one (ps_expr (pe_bm PySem.F.plainAttrs_list PySem.F.slot_list_append PySem.F.type_list_append mt_append (pv 2) (pa_cons (pe_op op_catA (pv 7) (pv 7)) pa_nil)))) (pss_one (ps_if (pt_cmpR op_eq (pv 6) pe_int (nomark _)) (pss_one (ps_expr (pe_bm PySem.F.plainAttrs_list PySem.F.slot_list_append PySem.F.type_list_append mt_append (pv 2) (pa_cons (pe_op op_catA (pe_slice sl_tupA (pv 7) po_none (po_some (pe_un un_neg pe_int))) (pe_tup (pa_cons (pe_callD D_q_next hr (by decide) (by rfl) (pa_cons (pv 0) (pa_cons pe_int pa_nil))) pa_nil))) pa_nil)))) (pss_one (ps_expr (pe_bm PySem.F.plainAttrs_list PySem.F.slot_list_append PySem.F.type_list_append mt_append (pv 2) (pa_cons (pe_callD D_q_clock hr (by decide) (by rfl) (pa_cons (pv 0) (pa_cons (pv 1) pa_nil))) pa_nil))))))))))))))
      (pss_one (ps_ret (pe_tupleOf (by rfl) C.tuple (pv 2)))))), ?_⟩
  obtain ⟨S, B, d, n, us, ds, P, rfl, o, hd, hn, dv, hl, ⟨m, m1, m2, rfl, hP⟩, k⟩ := h
  obtain ⟨x, rfl, dx⟩ := dpAll_inv1 dv
  cases dp_int dx
  have clk : ∀ (σ : L2.St) (B1 : Hp) (d : Addr), σ[0]? = some (some (.ref d)) → σ[1]? = some (some (.int m)) → EvW K d (tCall (SpW K 1 40 G_clock) [] E0 (tCons (tVar 0) (tCons (tVar 1) tNil))) σ B1 40 (fun z => ∃ c, z = cD c ∧ GoodC c) := fun σ B1 d h0 h1 =>
    (evw_call (c1 := 0 + 0) h0 (ewa_cons (evw_of (evd_var h1 (.int m))) ewa_nil) fun zs hz => by
      obtain ⟨_, _, rfl, rfl, rfl⟩ := hz
      exact ⟨rfl, m, m1, m2, rfl, fun c hc => ⟨c, rfl, hc⟩⟩).up (by omega)
  refine q_newLW (c := 40 + 0) o hd (by omega) (fun zs hz => ?_) (ewa_cons (clk _ _ _ rfl rfl) ewa_nil) fun l xs zs B1 H1 hl0 hld x1 o1 b1 d1 hl1 dxs hz => ?_
  · obtain ⟨_, _, rfl, _, rfl⟩ := hz
    simp
  obtain ⟨_, _, rfl, ⟨c0, rfl, hc0⟩, rfl⟩ := hz
  have hSl : ¬ S l := o.notS hl0
  refine q_walkR (M := 2) o1 d1 (by omega) (evw_next rfl evd_int (by decide) (by decide)) (fun a ha => by omega) (by decide) fun N B2 H2 _ hN x2 o2 b2 d2 src => ?_
  refine for_core (D := { nx := tRet (tThen (tVar 2) (kTup K)) { nx := fun _ H' => Q .non H', rt := Q }, rt := Q }) src (fun i σ' H' => ∃ B' v3 v4 v5 v6 v7 xs, ∃ b : List (List Int), σ' = [some (.ref d), some (.int m), some (.ref l), v3, v4, v5, v6, v7] ∧ Ok (fun b => S b ∨ b = l) B' H' ∧ Ex B2 B' ∧ ExB d H H' ∧ DSt K (fun b => S b ∨ b = l) B' H' d (n + 41 + 43 * i) ∧ H' l = some (.lst xs) ∧ DpAll K B' xs (b.map cD) ∧ b.length = i + 1 ∧ ∀ c ∈ b, GoodC c)
    ⟨B2, none, none, none, none, none, xs, [c0], rfl, o2, Ex.refl _, x1.trans x2, d2.up (by omega), x2 _ _ hl1 hld, dpExAll b2 dxs, rfl, fun c hc => by rw [List.mem_singleton.mp hc]; exact hc0⟩ (fun i σ' H' ⟨B', _, _, _, _, _, _, _, _, oo, be, _⟩ => ⟨_, oo.weak be⟩) ?_ ?_
  · rintro i x σ' H' H'' hi ⟨B', v3, v4, v5, v6, v7, xs, b, rfl, oo, be, xe, de, hxs, dxs, hb1, hb2⟩ eh f
    obtain ⟨B3, o3, b3, dx⟩ := f _ B' oo be
    cases dp_int dx
    have d3 := de.ofEx eh b3
    have hxs3 := eh _ _ hxs
    have hxl : xs.length = b.length := by rw [dpAll_len dxs, List.length_map]
    show tSeq _ _ _ _ _
    -- clock_here, mark = found[..], ..
    refine ⟨.ref l, rfl, next_at o3 d3 (by omega) rfl (evh_len (K := K) (evh_var rfl) (sq_of hxs3)) (by omega) (by omega) fun r B4 H4 r0 r1 x4 o4 b4 d4 => ?_⟩
    obtain ⟨j, rfl⟩ : ∃ j : Nat, r = (j : Int) := ⟨r.toNat, by omega⟩
    have hj : j < b.length := by omega
    have hbj : (b.map cD)[j]? = some (cD b[j]) := by rw [List.getElem?_map, List.getElem?_eq_getElem hj]; rfl
    obtain ⟨v, hv, dvc⟩ := dpAll_get dxs hbj
    have hgc := hb2 _ (List.getElem_mem hj)
    generalize b[j] = ch at *
    obtain ⟨hg1, hg2, hg3⟩ := hgc
    refine ⟨l, xs, _, v, rfl, rfl, sq_of (x4 _ _ hxs3 hld), atI_nat hv, ?_⟩
    refine next_at o4 d4 (by omega) rfl (evh_var rfl) m1 (by omega) fun r2 B5 H5 r20 r21 x5 o5 b5 d5 => ?_
    refine ⟨_, _, rfl, ?_⟩
    have hxs5 := x5 _ _ (x4 _ _ hxs3 hld) hld
    have dvc5 := dpEx ((b3.trans b4).trans b5) dvc
    refine q_parW (c1 := 1) (c2 := 0) o5 d5 (by omega) (evw_next rfl evd_int (by decide) (by decide)) (evw_ofI (evd_Ii (show (0 : Int) < ((ch.map PyData.int).length : Int) by rw [List.length_map]; omega) (evd_int1 (evd_var rfl (.int r2))) (evd_lenT (evd_var rfl dvc5)))) fun v6 v5 y6 y5 B6 H6 x6 o6 b6 d6 ⟨W, e6, W0, W1⟩ ⟨mk, e5, emk⟩ dv6 dv5 => ?_
    subst e6; subst e5
    cases dp_int dv6; cases dp_int dv5
    rw [List.length_map] at emk
    obtain ⟨k2, hk2, hk3⟩ : ∃ k2 : Nat, mk = (k2 : Int) ∧ k2 < ch.length := by
      have q1 := Int.emod_nonneg r2 (show (ch.length : Int) ≠ 0 by omega)
      have q2 := Int.emod_lt_of_pos r2 (show (0 : Int) < (ch.length : Int) by omega)
      exact ⟨mk.toNat, by omega, by omega⟩
    subst hk2
    have dvc6 := dpEx b6 dvc5
    have htl : (ch.drop k2 ++ ch.take k2).length = ch.length := by rw [List.length_append, List.length_drop, List.length_take]; omega
    have htm : ∀ z ∈ ch.drop k2 ++ ch.take k2, 0 ≤ z ∧ z ≤ 99 := fun z hz => by
      rcases List.mem_append.mp hz with hz | hz
      · exact hg3 z (List.mem_of_mem_drop hz)
      · exact hg3 z (List.mem_of_mem_take hz)
    refine q_set o6 ((evd_catT (by rw [cut_from, cut_to, List.length_drop, List.length_take, List.length_map]; omega) (evd_slT (evd_var rfl dvc6) (edo_some (K := K) (evd_var rfl (.int (k2 : Int)))) edo_none) (evd_slT (evd_var rfl dvc6) edo_none (edo_some (K := K) (evd_var rfl (.int (k2 : Int)))))).is (e := cD (ch.drop k2 ++ ch.take k2)) (by rw [cut_from, cut_to]; unfold cD; rw [List.map_append, List.map_drop, List.map_take])) fun vt B7 H7 q7 o7 b7 dvt => ?_
    have hxs7 := q7 _ _ (x6 _ _ hxs5 hld)
    have d7 := d6.ofEx q7 b7
    have xx7 : ExB d H H7 := xe.trans ((ExB.of eh).trans (x4.trans (x5.trans (x6.trans (.of q7)))))
    have bb7 : Ex B' B7 := b3.trans (b4.trans (b5.trans (b6.trans b7)))
    have dch7 := dpEx b7 dvc6
    generalize ch.drop k2 ++ ch.take k2 = tu at *
    generalize eσ : ((((((([some (.ref d), some (.int m), some (.ref l), v3, v4, v5, v6, v7] : L2.St).set 3 (some (.int (0 + (i : Int))))).set 4 (some v)).set 5 (some (.int r2))).set 6 (some (.int W))).set 5 (some (.int (k2 : Int)))).set 7 (some vt)) = σ7
    have s0 : σ7[0]? = some (some (.ref d)) := by rw [← eσ]; rfl
    have s1 : σ7[1]? = some (some (.int m)) := by rw [← eσ]; rfl
    have s2 : σ7[2]? = some (some (.ref l)) := by rw [← eσ]; rfl
    have s4 : σ7[4]? = some (some v) := by rw [← eσ]; rfl
    have s6 : σ7[6]? = some (some (.int W)) := by rw [← eσ]; rfl
    have s7 : σ7[7]? = some (some vt) := by rw [← eσ]; rfl
    have app : ∀ (te : TE) (B8 H8 : Hp), Ex H7 H8 → Ok (fun b => S b ∨ b = l) B8 H8 → Ex B7 B8 → EvW K d te σ7 B8 40 (fun z => ∃ c, z = cD c ∧ GoodC c) → ∀ D : Ends, D.nx = (fun σ' H' => ∃ B' v3 v4 v5 v6 v7 xs, ∃ b : List (List Int), σ' = [some (.ref d), some (.int m), some (.ref l), v3, v4, v5, v6, v7] ∧ Ok (fun b => S b ∨ b = l) B' H' ∧ Ex B2 B' ∧ ExB d H H' ∧ DSt K (fun b => S b ∨ b = l) B' H' d (n + 41 + 43 * (i + 1)) ∧ H' l = some (.lst xs) ∧ DpAll K B' xs (b.map cD) ∧ b.length = i + 1 + 1 ∧ ∀ c ∈ b, GoodC c) → tDrop (tBM K "list" rAppend (tVar 2) (tCons te tNil)) D σ7 H8 := by
      intro te B8 H8 q8 o8 b8 he D eD
      refine s_appW (c := 40) o8 (.inr rfl) hld (q8 _ _ hxs7) (by omega) s2 (d7.ofEx q8 b8) (by omega) he fun w y B9 H9 x9 o9 b9 d9 ⟨c, ey, hc⟩ dw => ?_
      subst ey
      rw [eD]
      refine ⟨B9, _, _, _, _, _, xs ++ [w], b ++ [c], eσ.symm, o9, be.trans (bb7.trans (b8.trans b9)), ((xx7.trans (.of q8)).trans x9).mut hl0, d9.up (by omega), upd_same, ?_, by rw [List.length_append, hb1]; rfl, fun z hz => ?_⟩
      · rw [List.map_append]
        exact dpAll_append (dpExAll (bb7.trans (b8.trans b9)) dxs) (dpAll_one dw)
      · rcases List.mem_append.mp hz with hz | hz
        · exact hb2 z hz
        · rw [List.mem_singleton.mp hz]; exact hc
    refine s_if o7 (etest (K := K) (evd_eqI (evd_var s6 (.int W)) evd_int)) (fun _ B8 H8 q8 o8 b8 => app _ B8 H8 q8 o8 b8 ((evw_of (evd_var s7 (dpEx b8 dvt))).up (by decide) |>.imp fun z hz => ⟨tu, hz, by omega, by omega, htm⟩) _ rfl) fun _ B8 H8 q8 o8 b8 => ?_
    refine s_if o8 (etAnd (etest (K := K) (evd_eqI (evd_var s6 (.int W)) evd_int)) (fun _ => etest (K := K) (evd_I0b (evd_lenT (evd_var s4 (dpEx b8 dch7))) evd_int))) (fun hc B9 H9 q9 o9 b9 => app _ B9 H9 (q8.trans q9) o9 (b8.trans b9) ((evw_of ((evd_catT ?_ (evd_var s7 (dpEx (b8.trans b9) dvt)) (evd_var s7 (dpEx (b8.trans b9) dvt))).is (e := cD (tu ++ tu)) (by unfold cD; rw [List.map_append]))).up (by decide) |>.imp fun z hz => ⟨tu ++ tu, hz, ?_, ?_, fun z hz => by rcases List.mem_append.mp hz with h | h <;> exact htm z h⟩) _ rfl) fun _ B9 H9 q9 o9 b9 => ?_
    · rw [List.length_map]; omega
    · rw [List.length_append]; omega
    · have hc2 := (Bool.and_eq_true_iff.mp hc).2
      have hc3 := of_decide_eq_true hc2
      rw [List.length_map] at hc3
      rw [List.length_append]; omega
    refine s_if o9 (etest (K := K) (evd_eqI (evd_var s6 (.int W)) evd_int)) (fun _ B10 H10 q10 o10 b10 => app _ B10 H10 ((q8.trans q9).trans q10) o10 ((b8.trans b9).trans b10) ?_ _ rfl) fun _ B10 H10 q10 o10 b10 => app _ B10 H10 ((q8.trans q9).trans q10) o10 ((b8.trans b9).trans b10) (clk _ _ _ s0 s1) _ rfl
    have htn : 1 ≤ (tu.map PyData.int).length := by rw [List.length_map]; omega
    refine (evw_op (P1 := (· = cD (tu.take (tu.length - 1)))) (P2 := fun y => ∃ z : Int, y = .tuple [.int z] ∧ 0 ≤ z ∧ z < 100) (evw_of ((evd_slT (evd_var s7 (dpEx ((b8.trans b9).trans b10) dvt)) edo_none (edo_some (K := K) (evd_un evd_int))).is ?_)) ((evw_tup (Q2 := fun zs => ∃ z : Int, zs = [.int z] ∧ 0 ≤ z ∧ z < 100) (fun zs hz => by obtain ⟨z, rfl, _⟩ := hz; simp) ((ewa_cons (evw_next s0 evd_int (by decide) (by decide)) ewa_nil).imp fun zs hz => ?_)).imp fun y hy => ?_) fun y z v w B11 b11 hy hz dv dw => ?_).up (by decide)
    · show PyData.tuple (Z.cutD (tu.map PyData.int) none (some (-1))) = _
      rw [cut_but htn]
      unfold cD
      rw [List.length_map, List.map_take]
    · obtain ⟨_, _, rfl, ⟨z, rfl, hz⟩, rfl⟩ := hz
      exact ⟨z, rfl, hz⟩
    · obtain ⟨_, rfl, z, rfl, hz⟩ := hy
      exact ⟨z, rfl, hz⟩
    · obtain ⟨z, rfl, hz⟩ := hz
      subst hy
      refine ⟨_, ⟨tu.take (tu.length - 1) ++ [z], rfl, ?_, ?_, fun y hy => ?_⟩, (evd_catT ?_ (evd_c' dv) (evd_c' dw)).is (by unfold cD; rw [List.map_append]; rfl)⟩
      · rw [List.length_append, List.length_take]; simp
      · rw [List.length_append, List.length_take]; simp; omega
      · rcases List.mem_append.mp hy with hy | hy
        · exact htm y (List.mem_of_mem_take hy)
        · rw [List.mem_singleton.mp hy]; omega
      · rw [List.length_map, List.length_take]; simp; omega
  · rintro σ' H' ⟨B', v3, v4, v5, v6, v7, xs, b, rfl, oo, be, xe, de, hxs, dxs, hb1, hb2⟩
    have dl : Dp K (upd B' l (.lst xs)) (.ref l) (.list (b.map cD)) := dp_newL upd_same (dpExAll oo.fixE dxs)
    refine s_ret (oo.fix hxs hSl) (evd_tupleL (evd_var rfl dl)) fun w B8 H8 q8 o8 b8 dw => k w _ B8 H8 (xe.trans (.of q8)) o8 (b1.trans (b2.trans (be.trans (oo.fixE.trans b8)))) ?_ (hP b ⟨by omega, by omega, fun c hc => (hb2 c hc).1, fun c hc => (hb2 c hc).2.1, fun c hc z hz => ((hb2 c hc).2.2 z hz).1, fun c hc z hz => ((hb2 c hc).2.2 z hz).2⟩) dw
    exact ⟨hd.s, ((de.ofEx q8 (oo.fixE.trans b8)).up (by omega)).ex⟩
abbrev N_q_starts : List Str := ["_law_shelf", "_law_found", "_law_k", "_law_mark"]
theorem sc_q_starts : FnScope N_q_starts ["_law_shelf"] (defScope s_q_starts) := ⟨rfl, rfl, rfl, by decide +kernel, rfl, by decide +kernel, by decide +kernel⟩
theorem ok_q_starts (C : Cs mg)  (D : Std K mg "_law_starts" s_q_starts ["_law_shelf"]) : Def P w K mg base "_law_starts" s_q_starts 1 ["_law_shelf"] (SpF K 1 F_q_starts) := by
  refine D.pure sc_q_starts F_q_starts rfl (fun f cdv A outer s H E hr => ⟨_, PSs.nox (pss_cons (ps_set (i := 1) sc_q_starts.nd rfl (Or.inl rfl) (pe_lst pa_nil))
      (pss_cons (ps_for PassesOwn.never rfl (pi_range1 (by rfl) C.range (pa_cons (pe_callB call_len_seq (by rfl) C.len (by decide +kernel) (pa_cons (pv 0) pa_nil)) pa_nil)) (pg_name (i := 2) sc_q_starts.nd rfl (Or.inr rfl))
      (pss_one (ps_set (i := 1) sc_q_starts.nd rfl (Or.inl rfl) (pe_op op_catL (pv 1) (pe_lc (own := [("_law_mark", 3)]) (g := (gName 3)) (by rfl) sc_q_starts.nd (pi_range1 (by rfl) C.range (pa_cons (pe_callB call_len_seq (by rfl) C.len (by decide +kernel) (pa_cons (pe_ix ix_tup (pv 0) (pv 2) (fun _ _ => rfl)) pa_nil)) pa_nil)) (blkOk_by (own := [("_law_mark", 3)]) (N := N_q_starts) (sc := defScope s_q_starts) (by decide +kernel)) (fun _ _ _ _ _ => (pg_name (i := 3) sc_q_starts.nd rfl (Or.inl rfl))) (fun _ _ _ _ _ => pts_nil) (fun _ _ _ _ _ => (pe_tup (pa_cons (pv 2) (pa_cons (pv 3) pa_nil)))))))))
      (pss_one (ps_ret (pv 1))))), ?_⟩)
  intro S B vs ds r Q o dv hl hF k
  obtain ⟨b, G, rfl, rfl⟩ := hF
  obtain ⟨x, rfl, dx⟩ := dpAll_inv1 dv
  have l3 := G.n3
  refine q_set (K := K) o (evd_lst (ds := []) (by simp) eda_nil) fun v B1 H1 q1 o1 b1 dv => ?_
  refine q_for o1 (evi_rng1 (n := b.length) (by omega) ((evd_lenT (evd_var rfl (dpEx b1 dx))).is (by rw [List.length_map])))
    (fun B2 i σ' H' => ∃ B' v1 v2 v3, σ' = [some x, some v1, v2, v3] ∧ Ok S B' H' ∧ Ex B2 B' ∧ Ex H H' ∧ Dp K B' v1 (ssD ((List.range i).map fun i => (List.range (clk b i).length).map fun m => ((i, m) : Stt)).flatten) ∧ ((List.range i).map fun i => (List.range (clk b i).length).map fun m => ((i, m) : Stt)).flatten.length ≤ i * 24)
    (fun B2 H2 q2 o2 b2 => ⟨B2, v, none, none, rfl, o2, Ex.refl _, q1.trans q2, dpEx b2 dv, Nat.zero_le _⟩) (fun B2 i σ' H' ⟨_, _, _, _, _, oo, be, _⟩ => ⟨S, oo.weak be⟩) ?_ ?_
  · rintro B2 i y σ' H' H'' bb hi ⟨B', v1, v2, v3, rfl, oo, be, ee, dv1, hlen⟩ eh f
    obtain ⟨B4, o4, b4, dy⟩ := f S B' oo be
    have e2 := dp_int dy
    rw [Int.zero_add] at e2
    subst e2
    have hc := G.c24 _ (GoodB.clk_mem hi)
    have dx4 := dpEx (b1.trans (bb.trans (be.trans b4))) dx
    refine s_set o4 ((evd_catL ?_ (evd_var rfl (dpEx b4 dv1)) (evd_lcR1m (n := (clk b i).length) (fun m => sD (i, m)) ((evd_lenT (evd_ixT (at_clk hi) (evd_var rfl dx4) (evd_var rfl (.int (i : Int))))).is (by rw [List.length_map])) (by omega) (fun _ => rfl) fun m B5 hm b5 => evd_tup (ds := [.int (i : Int), .int (m : Int)]) (by simp) (eda_cons (evd_var rfl (.int _)) (eda_cons (evd_var rfl (.int _)) eda_nil)))).is (e := ssD ((List.range (i + 1)).map fun i => (List.range (clk b i).length).map fun m => ((i, m) : Stt)).flatten) ?_) fun w B5 H5 q5 o5 b5 dw => ⟨B5, w, _, _, rfl, o5, be.trans (b4.trans b5), (ee.trans eh).trans q5, dw, ?_⟩
    · rw [List.length_map, List.length_map, List.length_range]
      have : i * 24 ≤ 3 * 24 := Nat.mul_le_mul_right 24 (by omega)
      omega
    · unfold ssD
      rw [flat_succ, List.map_append, List.map_map]
      rfl
    · rw [flat_succ, List.length_append, List.length_map, List.length_range]
      omega
  · rintro B2 σ' H' bb ⟨B', v1, v2, v3, rfl, oo, be, ee, dv1, hlen⟩
    exact s_ret oo (evd_var rfl dv1) fun v B3 H3 q3 o3 b3 dv => k v B3 H3 (ee.trans q3) o3 (b1.trans (bb.trans (be.trans b3))) dv
abbrev N_q_strokes : List Str := ["_law_shelf", "_law_begin_so", "_law_later", "_law_clock_here"]
theorem sc_q_strokes : FnScope N_q_strokes ["_law_shelf", "_law_begin_so", "_law_later"] (defScope s_q_strokes) := ⟨rfl, rfl, rfl, by decide +kernel, rfl, by decide +kernel, by decide +kernel⟩
theorem ok_q_strokes (C : Cs mg)  (D : Std K mg "_law_strokes" s_q_strokes ["_law_shelf", "_law_begin_so", "_law_later"]) : Def P w K mg base "_law_strokes" s_q_strokes 1 ["_law_shelf", "_law_begin_so", "_law_later"] (SpF K 3 F_q_strokes) := by
  refine D.pure sc_q_strokes F_q_strokes rfl (fun f cdv A outer s H E hr => ⟨_, PSs.nox (pss_cons (ps_set (i := 3) sc_q_strokes.nd rfl (Or.inl rfl) (pe_ix ix_tup (pv 0) (pe_ix ix_tup (pv 1) pe_int (fun _ _ => rfl)) (fun _ _ => rfl)))
      (pss_one (ps_ret (pe_ix ix_tup (pv 3) (pe_op op_mod (pe_callTy call_int1 (by rfl) C.int (by decide +kernel) (pa_cons (pe_op op_add (pe_ix ix_tup (pv 1) pe_int (fun _ _ => rfl)) (pv 2)) pa_nil)) (pe_callB call_len_seq (by rfl) C.len (by decide +kernel) (pa_cons (pv 3) pa_nil))) (fun _ _ => rfl))))), ?_⟩)
  intro S B vs ds r Q o dv hl hF k
  obtain ⟨b, s, n, G, g, rfl, rfl⟩ := hF
  obtain ⟨x, y, z, rfl, dx, dy, dz⟩ := dpAll_inv3 dv
  refine q_set o (evd_ixT (at_clk g.c) (evd_var rfl dx) (evd_ixT (atI_nat (j := 0) rfl) (evd_var rfl dy) evd_int)) fun v B1 H1 q1 o1 b1 dv => ?_
  have hp := g.pos
  unfold len at hp
  have hx := stk_get g n
  refine s_ret o1 (evd_ixT (a := (((s.2 + n) % (clk b s.1).length : Nat) : Int)) (atI_map hx) (evd_var rfl dv) ((evd_Ii ?_ (evd_int1 (evd_I0i (evd_ixT (atI_nat (j := 1) rfl) (evd_var rfl (dpEx b1 dy)) evd_int) (evd_var rfl (dpEx b1 dz)))) (evd_lenT (evd_var rfl dv))).is ?_)) fun v B3 H3 q3 o3 b3 dv => k v B3 H3 (q1.trans q3) o3 (b1.trans b3) dv
  · show (0 : Int) < _
    rw [List.length_map]; omega
  · rw [List.length_map]; simp
abbrev N_q_loss : List Str := ["_law_draw", "_law_some"]
theorem sc_q_loss : FnScope N_q_loss ["_law_draw"] (defScope s_q_loss) := ⟨rfl, rfl, rfl, by decide +kernel, rfl, by decide +kernel, by decide +kernel⟩
theorem ok_q_loss (C : Cs mg) (D_q_next : Def P w K mg base "_law_next" s_q_next 1 ["_law_draw", "_law_many"] (SpW K 1 1 G_next)) (D_q_pick : Def P w K mg base "_law_pick" s_q_pick 2 ["_law_draw", "_law_some"] (SpW K 1 1 G_pick)) (D : Std K mg "_law_loss" s_q_loss ["_law_draw"]) : Def P w K mg base "_law_loss" s_q_loss 3 ["_law_draw"] (SpW K 0 4 G_loss) := by
  refine D.any sc_q_loss (fun _ _ _ _ h => SpW.len h) (fun f cdv A outer s H vs Q E hr h => ?_)
  refine ⟨_, PSs.nox (pss_cons (ps_set (i := 1) sc_q_loss.nd rfl (Or.inl rfl) (pe_lst (pa_cons pe_int (pa_cons pe_int (pa_cons pe_int (pa_cons pe_int (pa_cons pe_int (pa_cons (pe_callD D_q_next hr (by decide) (by rfl) (pa_cons (pv 0) (pa_cons pe_int pa_nil))) (pa_cons (pe_callD D_q_next hr (by decide) (by rfl) (pa_cons (pv 0) (pa_cons pe_int pa_nil))) pa_nil)))))))))
      (pss_one (ps_ret (pe_tup (pa_cons (pe_callD D_q_pick hr (by decide) (by rfl) (pa_cons (pv 0) (pa_cons (pv 1) pa_nil))) (pa_cons (pe_callD D_q_pick hr (by decide) (by rfl) (pa_cons (pv 0) (pa_cons (pv 1) pa_nil))) pa_nil)))))), ?_⟩
  obtain ⟨S, B, d, n, us, ds, P, rfl, o, hd, hn, dv, hl, ⟨rfl, hP⟩, k⟩ := h
  cases dv
  refine q_setW (c := 0 + (0 + (0 + (0 + (0 + (1 + (1 + 0))))))) (P := fun z => ∃ xs, z = .list xs ∧ xs.length = 7 ∧ ∀ x ∈ xs, IntP (fun r => 0 ≤ r ∧ r ≤ 10 ^ 30) x) o hd (by omega) ((evw_lst (fun zs hz => ?_) (ewa_cons (evw_ofI evd_int) (ewa_cons (evw_ofI evd_int) (ewa_cons (evw_ofI evd_int) (ewa_cons (evw_ofI evd_int) (ewa_cons (evw_ofI evd_int) (ewa_cons (evw_next rfl evd_int (by decide) (by decide)) (ewa_cons (evw_next rfl evd_int (by decide) (by decide)) ewa_nil)))))))).imp fun z hz => ?_) fun v y B1 H1 x1 o1 b1 d1 hy dw => ?_
  · obtain ⟨_, _, rfl, _, _, _, rfl, _, _, _, rfl, _, _, _, rfl, _, _, _, rfl, _, _, _, rfl, _, _, _, rfl, _, rfl⟩ := hz
    simp
  · obtain ⟨_, rfl, _, _, rfl, ⟨z1, rfl, rfl⟩, _, _, rfl, ⟨z2, rfl, rfl⟩, _, _, rfl, ⟨z3, rfl, rfl⟩, _, _, rfl, ⟨z4, rfl, rfl⟩, _, _, rfl, ⟨z5, rfl, rfl⟩, _, _, rfl, ⟨z6, rfl, h6⟩, _, _, rfl, ⟨z7, rfl, h7⟩, rfl⟩ := hz
    refine ⟨_, rfl, rfl, fun x hx => ?_⟩
    simp only [List.mem_cons, List.not_mem_nil, or_false] at hx
    rcases hx with rfl | rfl | rfl | rfl | rfl | rfl | rfl <;> exact ⟨_, rfl, by omega, by omega⟩
  obtain ⟨xs, rfl, hxl, hxs⟩ := hy
  have pick : ∀ B', Ex B1 B' → EvW K d (tCall (SpW K 1 1 G_pick) [] E0 (tCons (tVar 0) (tCons (tVar 1) tNil))) [some (.ref d), some v] B' 1 (IntP fun r => 0 ≤ r ∧ r ≤ 10 ^ 30) := fun B' b' =>
    (evw_call (c1 := 0 + 0) rfl (ewa_cons (evw_of (evd_var rfl (dpEx b' dw))) ewa_nil) fun zs hz => by
      obtain ⟨_, _, rfl, rfl, rfl⟩ := hz
      exact ⟨rfl, xs, by omega, by omega, rfl, hxs⟩).up (by omega)
  refine s_retW (c := 1 + (1 + 0)) o1 d1 (by omega) (evw_tup (fun zs hz => ?_) (ewa_cons (pick _ (Ex.refl _)) (ewa_cons (pick _ (Ex.refl _)) ewa_nil))) fun v y B2 H2 x2 o2 b2 d2 hy dv => ?_
  · obtain ⟨_, _, rfl, _, _, _, rfl, _, rfl⟩ := hz
    simp
  obtain ⟨_, rfl, _, _, rfl, ⟨r1, rfl, h1⟩, _, _, rfl, ⟨r2, rfl, h2⟩, rfl⟩ := hy
  exact k v _ B2 H2 (x1.trans x2) o2 (b1.trans b2) (d2.up (by omega)) (hP (r1, r2) ⟨h1.1, h1.2, h2.1, h2.2⟩) dv
abbrev N_q_same : List Str := ["_law_shelf", "_law_one", "_law_other", "_law_k"]
theorem sc_q_same : FnScope N_q_same ["_law_shelf", "_law_one", "_law_other"] (defScope s_q_same) := ⟨rfl, rfl, rfl, by decide +kernel, rfl, by decide +kernel, by decide +kernel⟩
theorem ok_q_same (C : Cs mg) (D_q_strokes : Def P w K mg base "_law_strokes" s_q_strokes 1 ["_law_shelf", "_law_begin_so", "_law_later"] (SpF K 3 F_q_strokes)) (D : Std K mg "_law_same" s_q_same ["_law_shelf", "_law_one", "_law_other"]) : Def P w K mg base "_law_same" s_q_same 2 ["_law_shelf", "_law_one", "_law_other"] (SpF K 3 F_q_same) := by
  refine D.pure sc_q_same F_q_same rfl (fun f cdv A outer s H E hr => ⟨_, PSs.nox (pss_cons (ps_for PassesOwn.never rfl (pi_range1 (by rfl) C.range (pa_cons (pe_op op_mul (pe_callB call_len_seq (by rfl) C.len (by decide +kernel) (pa_cons (pe_ix ix_tup (pv 0) (pe_ix ix_tup (pv 1) pe_int (fun _ _ => rfl)) (fun _ _ => rfl)) pa_nil)) (pe_callB call_len_seq (by rfl) C.len (by decide +kernel) (pa_cons (pe_ix ix_tup (pv 0) (pe_ix ix_tup (pv 2) pe_int (fun _ _ => rfl)) (fun _ _ => rfl)) pa_nil))) pa_nil)) (pg_name (i := 3) sc_q_same.nd rfl (Or.inl rfl))
      (pss_one (ps_if (pt_cmpR op_ne (pe_callD D_q_strokes hr (by decide) (by rfl) (pa_cons (pv 0) (pa_cons (pv 1) (pa_cons (pv 3) pa_nil)))) (pe_callD D_q_strokes hr (by decide) (by rfl) (pa_cons (pv 0) (pa_cons (pv 2) (pa_cons (pv 3) pa_nil)))) (nomark _)) (pss_one (ps_ret pe_bl)) pss_nil)))
      (pss_one (ps_ret pe_bl))), ?_⟩)
  intro S B vs ds r Q o dv hl hF k
  obtain ⟨b, s, t, G, g, h, rfl, rfl⟩ := hF
  obtain ⟨x, y, z, rfl, dx, dy, dz⟩ := dpAll_inv3 dv
  have hg24 := g.le24 G
  have hh24 := h.le24 G
  have hpos : 0 < len b s * len b t := Nat.mul_pos g.pos h.pos
  have hle : len b s * len b t ≤ 24 * 24 := Nat.mul_le_mul hg24 hh24
  have lenT : ∀ (i : Nat) (v : V) (q : Stt) (B' : Hp), (start N_q_same [x, y, z])[i]? = some (some v) → GoodS b q → Ex B B' → Dp K B' v (sD q) → EvD K (tCB (fun xs H Q => ∃ p ys, xs = [.ref p] ∧ (SqL K H p ys ∨ SqT K H p ys) ∧ Q (.int ys.length) H) (tCons (tOp (rIxT K) (tVar 0) (tOp (rIxT K) (tVar i) (tC (.int 0)))) tNil)) (start N_q_same [x, y, z]) B' (.int (len b q : Int)) := fun i v q B' hv gq be dq =>
    (evd_lenT (evd_ixT (at_clk gq.c) (evd_var rfl (dpEx be dx)) (evd_ixT (atI_nat (j := 0) rfl) (evd_var hv dq) evd_int))).is (by rw [List.length_map]; rfl)
  refine q_for o (evi_rng1 (n := len b s * len b t) (by omega) ((evd_Ii (.inl (by omega)) (lenT 1 y s B rfl g (Ex.refl _) dy) (lenT 2 z t B rfl h (Ex.refl _) dz)).is (by rw [Int.natCast_mul])))
    (fun B2 i σ' H' => ∃ B' v3, σ' = [some x, some y, some z, v3] ∧ Ok S B' H' ∧ Ex B2 B' ∧ Ex H H' ∧ ∀ j, j < i → stk b s j = stk b t j) (fun B2 H2 q2 o2 b2 => ⟨B2, none, rfl, o2, Ex.refl _, q2, fun j hj => by omega⟩) (fun B2 i σ' H' ⟨_, _, _, oo, be, _⟩ => ⟨S, oo.weak be⟩) ?_ ?_
  · rintro B2 i w σ' H' H'' bb hi ⟨B', v3, rfl, oo, be, ee, hall⟩ eh f
    obtain ⟨B4, o4, b4, dw⟩ := f S B' oo be
    have e2 := dp_int dw
    rw [Int.zero_add] at e2
    subst e2
    have b5 := bb.trans (be.trans b4)
    refine s_when o4 (etest (K := K) (evd_neI (evd_call ⟨b, s, i, G, g, rfl, rfl⟩ rfl (eda_cons (evd_var rfl (dpEx b5 dx)) (eda_cons (evd_var rfl (dpEx b5 dy)) (eda_cons (evd_var rfl (.int _)) eda_nil)))) (evd_call ⟨b, t, i, G, h, rfl, rfl⟩ rfl (eda_cons (evd_var rfl (dpEx b5 dx)) (eda_cons (evd_var rfl (dpEx b5 dz)) (eda_cons (evd_var rfl (.int _)) eda_nil)))))) (fun e B6 H6 q6 o6 b6 => ?_) fun e B6 H6 q6 o6 b6 => ?_
    · have hne : stk b s i ≠ stk b t i := fun q => by rw [decide_eq_true q] at e; cases e
      have hf : sameB b s t = false := by
        cases q : sameB b s t with
        | false => rfl
        | true => exact absurd ((sameB_iff g h).mp q i) hne
      rw [hf] at k
      exact s_ret o6 evd_bl fun v B7 H7 q7 o7 b7 dv => k v B7 H7 (((ee.trans eh).trans q6).trans q7) o7 (b5.trans (b6.trans b7)) dv
    · have he : stk b s i = stk b t i := by
        by_cases q : stk b s i = stk b t i
        · exact q
        · rw [decide_eq_false q] at e; cases e
      refine ⟨B6, _, rfl, o6, be.trans (b4.trans b6), (ee.trans eh).trans q6, fun j hj => ?_⟩
      by_cases z : j = i
      · subst z; exact he
      · exact hall j (by omega)
  · rintro B2 σ' H' bb ⟨B', v3, rfl, oo, be, ee, hall⟩
    have ht : sameB b s t = true := by
      rw [sameB_iff g h, ← same_of_round hpos (Nat.dvd_mul_right _ _) (Nat.dvd_mul_left _ _), List.all_eq_true]
      exact fun j hj => decide_eq_true (hall j (List.mem_range.mp hj))
    rw [ht] at k
    exact s_ret oo evd_bl fun v B7 H7 q7 o7 b7 dv => k v B7 H7 (ee.trans q7) o7 (bb.trans (be.trans b7)) dv
abbrev N_q_reach : List Str := ["_law_shelf", "_law_one", "_law_other", "_law_bound", "_law_size", "_law_near", "_law_far", "_law_k", "_law_mine", "_law_yours", "_law_rounds", "_law_more", "_law_less"]
theorem sc_q_reach : FnScope N_q_reach ["_law_shelf", "_law_one", "_law_other", "_law_bound"] (defScope s_q_reach) := ⟨rfl, rfl, rfl, by decide +kernel, rfl, by decide +kernel, by decide +kernel⟩
theorem ok_q_reach (C : Cs mg) (D_q_same : Def P w K mg base "_law_same" s_q_same 2 ["_law_shelf", "_law_one", "_law_other"] (SpF K 3 F_q_same)) (D_q_strokes : Def P w K mg base "_law_strokes" s_q_strokes 1 ["_law_shelf", "_law_begin_so", "_law_later"] (SpF K 3 F_q_strokes)) (D : Std K mg "_law_reach" s_q_reach ["_law_shelf", "_law_one", "_law_other", "_law_bound"]) : Def P w K mg base "_law_reach" s_q_reach 3 ["_law_shelf", "_law_one", "_law_other", "_law_bound"] (SpF K 4 F_q_reach) := by
  refine D.pure sc_q_reach F_q_reach rfl (fun f cdv A outer s H E hr => ⟨_, PSs.nox (pss_cons (ps_if (pt_val (pe_callD D_q_same hr (by decide) (by rfl) (pa_cons (pv 0) (pa_cons (pv 1) (pa_cons (pv 2) pa_nil))))) (pss_one (ps_ret pe_non)) pss_nil)
      (pss_cons (ps_asg (pe_tup (pa_cons (pe_op op_mul (pe_callB call_len_seq (by rfl) C.len (by decide +kernel) (pa_cons (pe_ix ix_tup (pv 0) (pe_ix ix_tup (pv 1) pe_int (fun _ _ => rfl)) (fun _ _ => rfl)) pa_nil)) (pe_callB call_len_seq (by rfl) C.len (by decide +kernel) (pa_cons (pe_ix ix_tup (pv 0) (pe_ix ix_tup (pv 2) pe_int (fun _ _ => rfl)) (fun _ _ => rfl)) pa_nil))) (pa_cons (pe_lst (pa_cons pe_int pa_nil)) (pa_cons (pe_lst (pa_cons pe_int pa_nil)) pa_nil)))) (pg_tup rfl (pgs_cons (pg_name (i := 4) sc_q_reach.nd rfl (Or.inl rfl)) (pgs_cons (pg_name (i := 5) sc_q_reach.nd rfl (Or.inr rfl)) (pgs_cons (pg_name (i := 6) sc_q_reach.nd rfl (Or.inr rfl)) pgs_nil)))))
      (pss_cons (ps_for PassesOwn.never rfl (pi_range1 (by rfl) C.range (pa_cons (pv 4) pa_nil)) (pg_name (i := 7) sc_q_reach.nd rfl (Or.inl rfl))
      (pss_cons (ps_par (i := 8) (j := 9) rfl sc_q_reach.nd rfl rfl (by decide) rfl rfl (pa_cons (pe_callD D_q_strokes hr (by decide) (by rfl) (pa_cons (pv 0) (pa_cons (pv 1) (pa_cons (pv 7) pa_nil)))) (pa_cons (pe_callD D_q_strokes hr (by decide) (by rfl) (pa_cons (pv 0) (pa_cons (pv 2) (pa_cons (pv 7) pa_nil)))) pa_nil)) (by rfl))
      (pss_cons (ps_expr (pe_bm PySem.F.plainAttrs_list PySem.F.slot_list_append PySem.F.type_list_append mt_append (pv 5) (pa_cons (pe_op op_add (pe_ix ix_list (pv 5) (pe_un un_neg pe_int) (fun _ _ => rfl)) (pe_callB (call_max2 rfl) (by rfl) C.max (by decide +kernel) (pa_cons pe_int (pa_cons (pe_op op_sub (pv 8) (pv 9)) pa_nil)))) pa_nil)))
      (pss_one (ps_expr (pe_bm PySem.F.plainAttrs_list PySem.F.slot_list_append PySem.F.type_list_append mt_append (pv 6) (pa_cons (pe_op op_add (pe_ix ix_list (pv 6) (pe_un un_neg pe_int) (fun _ _ => rfl)) (pe_callB (call_max2 rfl) (by rfl) C.max (by decide +kernel) (pa_cons pe_int (pa_cons (pe_op op_sub (pv 9) (pv 8)) pa_nil)))) pa_nil)))))))
      (pss_cons (ps_set (i := 10) sc_q_reach.nd rfl (Or.inl rfl) (pe_op op_fdiv (pv 3) (pe_callB (call_max2 rfl) (by rfl) C.max (by decide +kernel) (pa_cons (pe_ix ix_list (pv 5) (pe_un un_neg pe_int) (fun _ _ => rfl)) (pa_cons (pe_ix ix_list (pv 6) (pe_un un_neg pe_int) (fun _ _ => rfl)) pa_nil)))))
      (pss_cons (ps_asg (pe_tup (pa_cons (pe_op op_sub (pv 3) (pe_op op_mul (pv 10) (pe_ix ix_list (pv 5) (pe_un un_neg pe_int) (fun _ _ => rfl)))) (pa_cons (pe_op op_sub (pv 3) (pe_op op_mul (pv 10) (pe_ix ix_list (pv 6) (pe_un un_neg pe_int) (fun _ _ => rfl)))) pa_nil))) (pg_tup rfl (pgs_cons (pg_name (i := 11) sc_q_reach.nd rfl (Or.inr rfl)) (pgs_cons (pg_name (i := 12) sc_q_reach.nd rfl (Or.inr rfl)) pgs_nil))))
      (pss_one (ps_ret (pe_op op_add (pe_op op_mul (pv 10) (pv 4)) (pe_callB call_len_seq (by rfl) C.len (by decide +kernel) (pa_cons (pe_lc (own := [("_law_k", 7)]) (g := (gName 7)) (by rfl) sc_q_reach.nd (pi_range2 (by rfl) C.range (pa_cons pe_int (pa_cons (pe_op op_add (pv 4) pe_int) pa_nil))) (blkOk_by (own := [("_law_k", 7)]) (N := N_q_reach) (sc := defScope s_q_reach) (by decide +kernel)) (fun _ _ _ _ _ => (pg_name (i := 7) sc_q_reach.nd rfl (Or.inl rfl))) (fun _ _ _ _ _ => (pts_one (PW.pt (pw_and (pt_cmpR op_le (pe_ix (ix_listK (K := K) rfl) (pv 5) (pv 7) (fun _ _ => rfl)) (pv 11) (nomark _)) (pw_and1 (pt_cmpR op_le (pe_ix (ix_listK (K := K) rfl) (pv 6) (pv 7) (fun _ _ => rfl)) (pv 12) (nomark _))))))) (fun _ _ _ _ _ => (pv 7))) pa_nil)))))))))), ?_⟩)
  intro S B vs ds r Q o dv hl hF k
  obtain ⟨b, s, t, m, G, g, h, hm0, hm1, rfl, rfl⟩ := hF
  obtain ⟨x, y, z, w, rfl, dx, dy, dz, dw⟩ := dpAll_inv4 dv
  cases dp_int dw
  have hg24 := g.le24 G
  have hh24 := h.le24 G
  have hpos : 0 < len b s * len b t := Nat.mul_pos g.pos h.pos
  have hle : len b s * len b t ≤ 24 * 24 := Nat.mul_le_mul hg24 hh24
  have hd1 : len b s ∣ len b s * len b t := Nat.dvd_mul_right _ _
  have hd2 : len b t ∣ len b s * len b t := Nat.dvd_mul_left _ _
  refine q_when o (etB (evd_call ⟨b, s, t, G, g, h, rfl, rfl⟩ rfl (eda_cons (evd_var rfl dx) (eda_cons (evd_var rfl dy) (eda_cons (evd_var rfl dz) eda_nil))))) (fun e B1 H1 q1 o1 b1 => ?_) fun e B1 H1 q1 o1 b1 => ?_
  · have hs := (sameB_iff g h).mp e
    have e0 : lgF b m s t = none := (lgF_is g h hm0).uniq (.inl ⟨rfl, hs⟩)
    rw [e0] at k
    exact s_ret o1 evd_non fun v B2 H2 q2 o2 b2 dv => k v B2 H2 (q1.trans q2) o2 (b1.trans b2) dv
  have hne : ¬ Same b s t := fun z => by rw [(sameB_iff g h).mpr z] at e; cases e
  obtain ⟨hMpos, hres⟩ := reach_law g h hpos hd1 hd2 hne hm0
  rw [hres] at k
  have dx1 := dpEx b1 dx
  have dy1 := dpEx b1 dy
  have dz1 := dpEx b1 dz
  have lenT : ∀ (i : Nat) (v : V) (q : Stt), (start N_q_reach [x, y, z, .int m])[i]? = some (some v) → GoodS b q → Dp K B1 v (sD q) → EvD K (tCB (fun xs H Q => ∃ p ys, xs = [.ref p] ∧ (SqL K H p ys ∨ SqT K H p ys) ∧ Q (.int ys.length) H) (tCons (tOp (rIxT K) (tVar 0) (tOp (rIxT K) (tVar i) (tC (.int 0)))) tNil)) (start N_q_reach [x, y, z, .int m]) B1 (.int (len b q : Int)) := fun i v q hv gq dq =>
    (evd_lenT (evd_ixT (at_clk gq.c) (evd_var rfl dx1) (evd_ixT (atI_nat (j := 0) rfl) (evd_var hv dq) evd_int))).is (by rw [List.length_map]; rfl)
  -- size, near, far = .., [0], [0]
  refine ((evd_Ii (.inl (by omega)) (lenT 1 y s rfl g dy1) (lenT 2 z t rfl h dz1)).is (e := .int ((len b s * len b t : Nat) : Int)) (by rw [Int.natCast_mul])) S H1 o1 _ fun v B2 H2 q2 o2 b2 dv => ?_
  cases dp_int dv
  generalize len b s * len b t = R at *
  refine ⟨sz_of (by simp), fun l1 hl1 => ⟨sz_of (by simp), fun l2 hl2 => ⟨sz_of (by simp), fun p hp => ⟨p, _, rfl, st_of upd_same, rfl, _, _, rfl, _, _, rfl, _, _, rfl, rfl, ?_⟩⟩⟩⟩
  have hS1 : ¬ S l1 := o2.notS hl1
  have o3 := (o2.mut (o := .lst [.int 0]) hl1).mut (o := .lst [.int 0]) hl2
  have hS2 : ¬ (S l2 ∨ l2 = l1) := (o2.mut (o := .lst [.int 0]) hl1).notS hl2
  have h12 : l1 ≠ l2 := fun e => hS2 (.inr e.symm)
  have hn1 : H l1 = none := ex_none (q1.trans q2) hl1
  have hn2 : H l2 = none := ex_none ((q1.trans q2).trans (Ex.new hl1)) hl2
  have e1 : upd (upd H2 l1 (.lst [.int 0])) l2 (.lst [.int 0]) l1 = some (.lst [.int 0]) := by rw [upd_ne h12, upd_same]
  have e2 : upd (upd H2 l1 (.lst [.int 0])) l2 (.lst [.int 0]) l2 = some (.lst [.int 0]) := upd_same
  have xx : Ex H (upd (upd H2 l1 (.lst [.int 0])) l2 (.lst [.int 0])) := ((q1.trans q2).trans (Ex.new hl1)).trans (Ex.new hl2)
  generalize upd (upd H2 l1 (.lst [.int 0])) l2 (.lst [.int 0]) = H3 at *
  have o4 := o3.new (o := .tup [.int (R : Int), .ref l1, .ref l2]) hp
  have q4 : Ex H3 (upd H3 p (.tup [.int (R : Int), .ref l1, .ref l2])) := Ex.new hp
  have b4 := o3.exB (o := .tup [.int (R : Int), .ref l1, .ref l2]) hp
  generalize upd H3 p (.tup [.int (R : Int), .ref l1, .ref l2]) = H4 at *
  generalize upd B2 p (.tup [.int (R : Int), .ref l1, .ref l2]) = B4 at *
  have ovb : ∀ k, k ≤ R → ov b s t k ≤ 99 * R ∧ ov b t s k ≤ 99 * R := fun k hk => by
    have := ov_le G g h k
    have := ov_le G h g k
    omega
  have bx4 := (b1.trans b2).trans b4
  have last : ∀ (f : Nat → Int) (i : Nat), atI (((List.range (i + 1)).map f).map V.int) (-1) = some (.int (f i)) := fun f i => by
    rw [List.range_succ, List.map_append, List.map_append]
    exact atI_last _ _
  refine q_for (K := K) o4 (evi_rng1 (n := R) (by omega) (evd_var rfl (.int (R : Int)))) (fun B3 i σ' H' => ∃ B' v7 v8 v9, σ' = [some x, some y, some z, some (.int m), some (.int (R : Int)), some (.ref l1), some (.ref l2), v7, v8, v9, none, none, none] ∧ Ok (fun a => (S a ∨ a = l1) ∨ a = l2) B' H' ∧ Ex B3 B' ∧ H' l1 = some (.lst (((List.range (i + 1)).map (ov b s t)).map V.int)) ∧ H' l2 = some (.lst (((List.range (i + 1)).map (ov b t s)).map V.int)) ∧ Ex H H')
    (fun B5 H5 q5 o5 b5 => ⟨B5, none, none, none, rfl, o5, Ex.refl _, q5 _ _ (q4 _ _ e1), q5 _ _ (q4 _ _ e2), (xx.trans q4).trans q5⟩) (fun B3 i σ' H' ⟨_, _, _, _, _, oo, be, _⟩ => ⟨_, oo.weak be⟩) ?_ ?_
  · rintro B5 i x0 σ' H' H'' bb hi ⟨B', v7, v8, v9, rfl, oo, be, h1, h2, ee⟩ eh f
    obtain ⟨B6, o6, b6, dx0⟩ := f _ B' oo be
    have ei := dp_int dx0
    rw [Int.zero_add] at ei
    subst ei
    have bw := bx4.trans (bb.trans (be.trans b6))
    have dx6 := dpEx bw dx
    have dy6 := dpEx bw dy
    have dz6 := dpEx bw dz
    show tSeq _ _ _ _ _
    refine q_par o6 (evd_call ⟨b, s, i, G, g, rfl, rfl⟩ rfl (eda_cons (evd_var rfl dx6) (eda_cons (evd_var rfl dy6) (eda_cons (evd_var rfl (.int (i : Int))) eda_nil)))) (evd_call ⟨b, t, i, G, h, rfl, rfl⟩ rfl (eda_cons (evd_var rfl dx6) (eda_cons (evd_var rfl dz6) (eda_cons (evd_var rfl (.int (i : Int))) eda_nil)))) fun u1 u2 B7 H7 q7 o7 b7 du1 du2 => ?_
    cases dp_int du1
    cases dp_int du2
    have k1 := q7 _ _ (eh _ _ h1)
    have k2 := q7 _ _ (eh _ _ h2)
    refine q_appH k1 (by rw [List.length_map, List.length_map, List.length_range]; omega) rfl (evh_I0 (evh_ix (K := K) (evh_var rfl) (evh_un evh_c) (sq_of k1) (last _ _)) (evh_max2 evh_c (evh_I0 (evh_var rfl) (evh_var rfl)))) ?_
    have k2' : upd H7 l1 (.lst (((List.range (i + 1)).map (ov b s t)).map V.int ++ [.int (ov b s t i + max 0 (stk b s i - stk b t i))])) l2 = some (.lst (((List.range (i + 1)).map (ov b t s)).map V.int)) := by rw [upd_ne (Ne.symm h12)]; exact k2
    refine s_appH k2' (by rw [List.length_map, List.length_map, List.length_range]; omega) rfl (evh_I0 (evh_ix (K := K) (evh_var rfl) (evh_un evh_c) (sq_of k2') (last _ _)) (evh_max2 evh_c (evh_I0 (evh_var rfl) (evh_var rfl)))) ?_
    refine ⟨B7, _, _, _, rfl, (o7.put (.inl (.inr rfl))).put (.inr rfl), be.trans (b6.trans b7), ?_, ?_, Ex.mut (Ex.mut ((ee.trans eh).trans q7) hn1) hn2⟩
    · rw [upd_ne h12, upd_same, List.range_succ (n := i + 1), List.map_append, List.map_append]
      rfl
    · rw [upd_same, List.range_succ (n := i + 1), List.map_append, List.map_append]
      rfl
  · rintro B5 σ' H' bb ⟨B', v7, v8, v9, rfl, oo, be, h1, h2, ee⟩
    have o6 := oo.fix h2 hS2
    have o7 := o6.fix h1 hS1
    have f6 := oo.fixE (o := .lst (((List.range (R + 1)).map (ov b t s)).map V.int))
    have f7 := o6.fixE (o := .lst (((List.range (R + 1)).map (ov b s t)).map V.int))
    have dl1 : Dp K (upd (upd B' l2 (.lst (((List.range (R + 1)).map (ov b t s)).map V.int))) l1 (.lst (((List.range (R + 1)).map (ov b s t)).map V.int))) (.ref l1) (isD ((List.range (R + 1)).map (ov b s t))) := dp_newL upd_same (dpAll_ofInts _)
    have dl2 : Dp K (upd (upd B' l2 (.lst (((List.range (R + 1)).map (ov b t s)).map V.int))) l1 (.lst (((List.range (R + 1)).map (ov b s t)).map V.int))) (.ref l2) (isD ((List.range (R + 1)).map (ov b t s))) := dpEx f7 (dp_newL upd_same (dpAll_ofInts _))
    generalize upd (upd B' l2 (.lst (((List.range (R + 1)).map (ov b t s)).map V.int))) l1 (.lst (((List.range (R + 1)).map (ov b s t)).map V.int)) = B7 at *
    have lastD : ∀ f : Nat → Int, atI (((List.range (R + 1)).map f).map PyData.int) (-1) = some (.int (f R)) := fun f => by
      rw [List.range_succ, List.map_append, List.map_append]
      exact atI_last _ _
    have atD : ∀ (f : Nat → Int) (j : Nat), j < R → atI (((List.range (R + 1)).map f).map PyData.int) (1 + (j : Int)) = some (.int (f (j + 1))) := fun f j hj => by
      rw [show (1 : Int) + (j : Int) = ((j + 1 : Nat) : Int) by omega]
      refine atI_nat ?_
      rw [List.getElem?_map, List.getElem?_map, List.getElem?_range (by omega)]
      rfl
    have hR1 := ovb R (Nat.le_refl _)
    have n1 := ov_nonneg (b := b) (s := s) (o := t) R
    have n2 := ov_nonneg (b := b) (s := t) (o := s) R
    refine q_set (K := K) o7 (evd_Ii (by show (0 : Int) < _ ∧ _; omega) (evd_var rfl (.int m)) (evd_max2 (evd_ixL (lastD _) (evd_var rfl dl1) (evd_un evd_int)) (evd_ixL (lastD _) (evd_var rfl dl2) (evd_un evd_int)))) fun u B8 H8 q8 o8 b8 du => ?_
    cases dp_int du
    generalize hq : m / max (ov b s t R) (ov b t s R) = q at *
    refine q_asgD (K := K) o8 (evd_tup (ds := [.int (m - q * ov b s t R), .int (m - q * ov b t s R)]) (by simp) (eda_cons (evd_I0i (evd_var rfl (.int m)) (evd_Ii (.inr (by omega)) (evd_var rfl (.int q)) (evd_ixL (lastD _) (evd_var rfl (dpEx b8 dl1)) (evd_un evd_int)))) (eda_cons (evd_I0i (evd_var rfl (.int m)) (evd_Ii (.inr (by omega)) (evd_var rfl (.int q)) (evd_ixL (lastD _) (evd_var rfl (dpEx b8 dl2)) (evd_un evd_int)))) eda_nil))) fun vt B9 H9 q9 o9 b9 dvt => ?_
    obtain ⟨pt, xt, rfl, hst, hdt⟩ := dp_tuple dvt
    obtain ⟨a1, a2, rfl, da1, da2⟩ := dpAll_inv2 hdt
    cases dp_int da1
    cases dp_int da2
    refine ⟨pt, _, rfl, ex_t o9.le hst, rfl, _, _, rfl, _, _, rfl, rfl, ?_⟩
    have dl1' := dpEx (b8.trans b9) dl1
    have dl2' := dpEx (b8.trans b9) dl2
    refine s_ret o9 ((evd_I0i (evd_Ii (.inr (by omega)) (evd_var rfl (.int q)) (evd_var rfl (.int (R : Int)))) (evd_lenL (evd_lc (fun i => if (decide (ov b s t (i + 1) ≤ m - q * ov b s t R) && decide (ov b t s (i + 1) ≤ m - q * ov b t s R)) = true then some (PyData.int (1 + (i : Int))) else none) (evi_rng2 (lo := 1) (hi := (R : Int) + 1) (by omega) evd_int (evd_I0i (evd_var rfl (.int (R : Int))) evd_int)) (by omega) fun i zz BA hi bA dzz => ?_))).is ?_) fun v BC HC qC oC bC dv => k v BC HC (((ee.trans q8).trans q9).trans qC) oC (bx4.trans (bb.trans (be.trans (f6.trans (f7.trans (b8.trans (b9.trans bC))))))) dv
    · cases dp_int dzz
      have hiR : i < R := by omega
      refine ⟨[some x, some y, some z, some (.int m), some (.int (R : Int)), some (.ref l1), some (.ref l2), some (.int (1 + (i : Int))), v8, v9, some (.int q), some (.int (m - q * ov b s t R)), some (.int (m - q * ov b t s R))], rfl, evg_name, ?_, fun d hd => ?_⟩
      · refine (etAnd (etest (K := K) (evd_I0b (evd_ixL (atD _ i hiR) (evd_var rfl (dpEx bA dl1')) (evd_var rfl (.int (1 + (i : Int))))) (evd_var rfl (.int _)))) fun _ => etest (K := K) (evd_I0b (evd_ixL (atD _ i hiR) (evd_var rfl (dpEx bA dl2')) (evd_var rfl (.int (1 + (i : Int))))) (evd_var rfl (.int _)))).is ?_
        cases hc : (decide (ov b s t (i + 1) ≤ m - q * ov b s t R) && decide (ov b t s (i + 1) ≤ m - q * ov b t s R)) with
        | true => rw [if_pos rfl]; rfl
        | false => rw [if_neg Bool.false_ne_true]; rfl
      · split at hd
        · cases hd; exact evd_var rfl (.int _)
        · cases hd
    · show PyData.int _ = PyData.int _
      congr 1
      rw [show ((R : Int) + 1 - 1).toNat = R by omega]
      rw [fm_count (fun k => decide (ov b s t (k + 1) ≤ m - q * ov b s t R) && decide (ov b t s (k + 1) ≤ m - q * ov b t s R)) _ (fun i => by
        cases hc : (decide (ov b s t (i + 1) ≤ m - q * ov b s t R) && decide (ov b t s (i + 1) ≤ m - q * ov b t s R)) with
        | true => rw [if_pos rfl]; rfl
        | false => rw [if_neg Bool.false_ne_true]; rfl)]
abbrev N_q_wait : List Str := ["_law_shelf", "_law_slack", "_law_begin_so", "_law_some", "_law_other", "_law_reach_here"]
theorem sc_q_wait : FnScope N_q_wait ["_law_shelf", "_law_slack", "_law_begin_so"] (defScope s_q_wait) := ⟨rfl, rfl, rfl, by decide +kernel, rfl, by decide +kernel, by decide +kernel⟩
theorem ok_q_wait (C : Cs mg) (D_q_reach : Def P w K mg base "_law_reach" s_q_reach 3 ["_law_shelf", "_law_one", "_law_other", "_law_bound"] (SpF K 4 F_q_reach)) (D_q_starts : Def P w K mg base "_law_starts" s_q_starts 1 ["_law_shelf"] (SpF K 1 F_q_starts)) (D : Std K mg "_law_wait" s_q_wait ["_law_shelf", "_law_slack", "_law_begin_so"]) : Def P w K mg base "_law_wait" s_q_wait 4 ["_law_shelf", "_law_slack", "_law_begin_so"] (SpF K 3 F_q_wait) := by
  refine D.pure sc_q_wait F_q_wait rfl (fun f cdv A outer s H E hr => ⟨_, PSs.nox (pss_cons (ps_setLc (i := 3) (own := [("_law_other", 4)]) (g := (gName 4)) (by rfl) sc_q_wait.nd rfl rfl (sw_true rfl rfl rfl (by decide +kernel)) (pi_list (pe_callD D_q_starts hr (by decide) (by rfl) (pa_cons (pv 0) pa_nil))) (blkOk_by (own := [("_law_other", 4)]) (N := N_q_wait) (sc := defScope s_q_wait) (by decide +kernel)) (fun _ _ _ _ _ => (pg_name (i := 4) sc_q_wait.nd rfl (Or.inl rfl))) (fun _ _ _ _ _ => pts_nil) (fun _ _ _ _ _ => (pe_callD D_q_reach hr (by decide) (by rfl) (pa_cons (pv 0) (pa_cons (pv 2) (pa_cons (pv 4) (pa_cons (pe_op op_add (pe_ix (ix_tupK (K := K) rfl) (pv 1) pe_int (fun _ _ => rfl)) (pe_ix (ix_tupK (K := K) rfl) (pv 1) pe_int (fun _ _ => rfl))) pa_nil)))))))
      (pss_one (ps_ret (pe_callB (cr_max rfl) (by rfl) C.max (by decide +kernel) (pa_cons (pe_op op_catL (pe_lst (pa_cons pe_int pa_nil)) (pe_lc (own := [("_law_reach_here", 5)]) (g := (gName 5)) (by rfl) sc_q_wait.nd (pi_list (pv 3)) (blkOk_by (own := [("_law_reach_here", 5)]) (N := N_q_wait) (sc := defScope s_q_wait) (by decide +kernel)) (fun _ _ _ _ _ => (pg_name (i := 5) sc_q_wait.nd rfl (Or.inl rfl))) (fun _ _ _ _ _ => (pts_one (pt_cmpR op_notN (pv 5) pe_non (nomark _)))) (fun _ _ _ _ _ => (pe_op op_add (pv 5) pe_int)))) pa_nil))))), ?_⟩)
  intro S B vs ds r Q o dv hl hF k
  obtain ⟨b, l, s, G, L, g, rfl, rfl⟩ := hF
  obtain ⟨x, y, z, rfl, dx, dy, dz⟩ := dpAll_inv3 dv
  have hsl := starts_len G
  have l0 := L.a0
  have l1 := L.b0
  have l2 := L.a1
  have l3 := L.b1
  refine q_set o (evd_lcLm (as := starts b) (toD := sD) (fun t => oD (lgF b (l.1 + l.2) s t)) (evd_call ⟨b, G, rfl, rfl⟩ rfl (eda_cons (evd_var rfl dx) eda_nil)) (by omega) (fun _ => rfl) fun t v B1 ht b1 dt => evd_call ⟨b, s, t, l.1 + l.2, G, g, mem_starts.mp ht, by omega, by omega, rfl, rfl⟩ rfl (eda_cons (evd_var rfl (dpEx b1 dx)) (eda_cons (evd_var rfl (dpEx b1 dz)) (eda_cons (evd_var rfl dt) (eda_cons (evd_I0i (evd_ixT (ds := [.int l.1, .int l.2]) (atI_nat (j := 0) rfl) (evd_var rfl (dpEx b1 dy)) evd_int) (evd_ixT (ds := [.int l.1, .int l.2]) (atI_nat (j := 1) rfl) (evd_var rfl (dpEx b1 dy)) evd_int)) eda_nil))))) fun u B1 H1 q1 o1 b1 du => ?_
  have hle := List.length_filterMap_le (lgF b (l.1 + l.2) s) (starts b)
  have hw := maxL_mem (((starts b).filterMap (lgF b (l.1 + l.2) s)).map fun x => 1 + x) 0
  have hg := maxL_ge (((starts b).filterMap (lgF b (l.1 + l.2) s)).map fun x => 1 + x) 0
  refine s_ret o1 (evd_maxL (ns := 0 :: ((starts b).filterMap (lgF b (l.1 + l.2) s)).map fun x => 1 + x) (m := wF b (l.1 + l.2) s) ?_ ?_ ((evd_catL (ds := [.int 0]) ?_ (evd_lst (by simp) (eda_cons evd_int eda_nil)) (evd_lcL (as := (starts b).map (lgF b (l.1 + l.2) s)) (toD := oD) (fun a => a.map fun i => PyData.int (i + 1)) (evd_var rfl (by rw [List.map_map]; exact du)) (by rw [List.length_map]; omega) (fun _ => rfl) (fun a v B3 _ b3 da => (etest (evd_notN (evd_var rfl da))).is (by cases a <;> rfl)) (fun a v d B3 _ b3 da hd => by
      cases a with
      | none => cases hd
      | some i => cases hd; exact evd_I0i (evd_var rfl da) evd_int))).is ?_)) fun v B3 H3 q3 o3 b3 dv => k v B3 H3 (q1.trans q3) o3 (b1.trans b3) dv
  · rcases hw with e | e
    · unfold wF maxL; rw [e]; exact List.mem_cons_self
    · exact List.mem_cons_of_mem _ e
  · intro a ha
    rcases List.mem_cons.mp ha with e | e
    · rw [e]; exact hg.1
    · exact hg.2 a e
  · have h2 := List.length_filterMap_le (fun a => Option.map (fun i => PyData.int (i + 1)) a) ((starts b).map (lgF b (l.1 + l.2) s))
    rw [List.length_map] at h2
    simp only [List.length_cons, List.length_nil]
    omega
  · have e1 : ((fun a => Option.map (fun i => PyData.int (i + 1)) a) ∘ lgF b (l.1 + l.2) s) = fun t => Option.map (PyData.int ∘ fun x => 1 + x) (lgF b (l.1 + l.2) s t) := by
      funext t
      show Option.map _ (lgF b (l.1 + l.2) s t) = _
      cases lgF b (l.1 + l.2) s t with
      | none => rfl
      | some i => show some (PyData.int (i + 1)) = some (PyData.int (1 + i)); rw [Int.add_comm]
    rw [List.filterMap_map, List.map_cons, List.map_map, List.map_filterMap, e1]
    rfl
abbrev N_q_clock_wait : List Str := ["_law_shelf", "_law_slack", "_law_begin_so", "_law_others", "_law_some", "_law_other", "_law_reach_here"]
theorem sc_q_clock_wait : FnScope N_q_clock_wait ["_law_shelf", "_law_slack", "_law_begin_so"] (defScope s_q_clock_wait) := ⟨rfl, rfl, rfl, by decide +kernel, rfl, by decide +kernel, by decide +kernel⟩
theorem ok_q_clock_wait (C : Cs mg) (D_q_reach : Def P w K mg base "_law_reach" s_q_reach 3 ["_law_shelf", "_law_one", "_law_other", "_law_bound"] (SpF K 4 F_q_reach)) (D_q_starts : Def P w K mg base "_law_starts" s_q_starts 1 ["_law_shelf"] (SpF K 1 F_q_starts)) (D : Std K mg "_law_clock_wait" s_q_clock_wait ["_law_shelf", "_law_slack", "_law_begin_so"]) : Def P w K mg base "_law_clock_wait" s_q_clock_wait 4 ["_law_shelf", "_law_slack", "_law_begin_so"] (SpF K 3 F_q_clock_wait) := by
  refine D.pure sc_q_clock_wait F_q_clock_wait rfl (fun f cdv A outer s H E hr => ⟨_, PSs.nox (pss_cons (ps_setLc (i := 3) (own := [("_law_other", 5)]) (g := (gName 5)) (by rfl) sc_q_clock_wait.nd rfl rfl (sw_true rfl rfl rfl (by decide +kernel)) (pi_list (pe_callD D_q_starts hr (by decide) (by rfl) (pa_cons (pv 0) pa_nil))) (blkOk_by (own := [("_law_other", 5)]) (N := N_q_clock_wait) (sc := defScope s_q_clock_wait) (by decide +kernel)) (fun _ _ _ _ _ => (pg_name (i := 5) sc_q_clock_wait.nd rfl (Or.inl rfl))) (fun _ _ _ _ _ => (pts_one (pt_cmpR op_ne (pe_ix (ix_tupK (K := K) rfl) (pv 5) pe_int (fun _ _ => rfl)) (pe_ix (ix_tupK (K := K) rfl) (pv 2) pe_int (fun _ _ => rfl)) (nomark _)))) (fun _ _ _ _ _ => (pv 5)))
      (pss_cons (ps_setLc (i := 4) (own := [("_law_other", 5)]) (g := (gName 5)) (by rfl) sc_q_clock_wait.nd rfl rfl (sw_true rfl rfl rfl (by decide +kernel)) (pi_list (pv 3)) (blkOk_by (own := [("_law_other", 5)]) (N := N_q_clock_wait) (sc := defScope s_q_clock_wait) (by decide +kernel)) (fun _ _ _ _ _ => (pg_name (i := 5) sc_q_clock_wait.nd rfl (Or.inl rfl))) (fun _ _ _ _ _ => pts_nil) (fun _ _ _ _ _ => (pe_callD D_q_reach hr (by decide) (by rfl) (pa_cons (pv 0) (pa_cons (pv 2) (pa_cons (pv 5) (pa_cons (pe_op op_add (pe_ix (ix_tupK (K := K) rfl) (pv 1) pe_int (fun _ _ => rfl)) (pe_ix (ix_tupK (K := K) rfl) (pv 1) pe_int (fun _ _ => rfl))) pa_nil)))))))
      (pss_one (ps_ret (pe_ifExp (pt_cmpR op_in_seq pe_non (pv 4) (by rfl)) pe_non (pe_callB (cr_max rfl) (by rfl) C.max (by decide +kernel) (pa_cons (pe_op op_catL (pe_lst (pa_cons pe_int pa_nil)) (pe_lc (own := [("_law_reach_here", 6)]) (g := (gName 6)) (by rfl) sc_q_clock_wait.nd (pi_list (pv 4)) (blkOk_by (own := [("_law_reach_here", 6)]) (N := N_q_clock_wait) (sc := defScope s_q_clock_wait) (by decide +kernel)) (fun _ _ _ _ _ => (pg_name (i := 6) sc_q_clock_wait.nd rfl (Or.inl rfl))) (fun _ _ _ _ _ => pts_nil) (fun _ _ _ _ _ => (pe_op op_add (pv 6) pe_int)))) pa_nil))))))), ?_⟩)
  intro S B vs ds r Q o dv hl hF k
  obtain ⟨b, l, s, G, L, g, rfl, rfl⟩ := hF
  obtain ⟨x, y, z, rfl, dx, dy, dz⟩ := dpAll_inv3 dv
  have hsl := starts_len G
  have l0 := L.a0
  have l1 := L.b0
  have l2 := L.a1
  have l3 := L.b1
  have hfl : ((starts b).filter fun o => !decide ((o.1 : Int) = (s.1 : Int))).length ≤ 72 := Nat.le_trans (List.length_filter_le _ _) hsl
  refine q_set o ((evd_lcL (as := starts b) (toD := sD) (fun t => if (t.1 : Int) = (s.1 : Int) then none else some (sD t)) (evd_call ⟨b, G, rfl, rfl⟩ rfl (eda_cons (evd_var rfl dx) eda_nil)) (by omega) (fun _ => rfl) (fun t v B4 ht b4 dt => (etest (K := K) (evd_neI (evd_ixT (ds := [.int (t.1 : Int), .int (t.2 : Int)]) (atI_nat (j := 0) rfl) (evd_var rfl dt) evd_int) (evd_ixT (ds := [.int (s.1 : Int), .int (s.2 : Int)]) (atI_nat (j := 0) rfl) (evd_var rfl (dpEx b4 dz)) evd_int))).is ?_) (fun t v d B4 ht b4 dt hd => ?_)).is (e := ssD ((starts b).filter fun o => !decide ((o.1 : Int) = (s.1 : Int)))) ?_) fun u B4 H4 q4 o4 b4 du => ?_
  · by_cases h : (t.1 : Int) = (s.1 : Int)
    · rw [if_pos h, decide_eq_true h]; rfl
    · rw [if_neg h, decide_eq_false h]; rfl
  · split at hd
    · cases hd
    · cases hd; exact evd_var rfl dt
  · unfold ssD
    congr 1
    generalize starts b = L0
    induction L0 with
    | nil => rfl
    | cons a r ih =>
      rw [List.filterMap_cons, List.filter_cons]
      by_cases h : (a.1 : Int) = (s.1 : Int)
      · rw [if_pos h, decide_eq_true h]; exact ih
      · rw [if_neg h, decide_eq_false h]; simp only [Bool.not_false, if_true, List.map_cons]; rw [ih]
  refine q_set o4 ((evd_lcLm (as := (starts b).filter fun o => !decide ((o.1 : Int) = (s.1 : Int))) (toD := sD) (fun t => oD (lgF b (l.1 + l.2) s t)) (evd_var rfl du) (by omega) (fun _ => rfl) fun t v B5 ht b5 dt => evd_call (ds := [bD b, sD s, sD t, .int (l.1 + l.2)]) ⟨b, s, t, l.1 + l.2, G, g, mem_starts.mp (List.mem_filter.mp ht).1, by omega, by omega, rfl, rfl⟩ rfl (eda_cons (evd_var rfl (dpEx (b4.trans b5) dx)) (eda_cons (evd_var rfl (dpEx (b4.trans b5) dz)) (eda_cons (evd_var rfl dt) (eda_cons (evd_I0i (evd_ixT (ds := [.int l.1, .int l.2]) (atI_nat (j := 0) rfl) (evd_var rfl (dpEx (b4.trans b5) dy)) evd_int) (evd_ixT (ds := [.int l.1, .int l.2]) (atI_nat (j := 1) rfl) (evd_var rfl (dpEx (b4.trans b5) dy)) evd_int)) eda_nil))))).is (e := .list ((lgs b (l.1 + l.2) s).map oD)) (by unfold lgs; rw [List.map_map]; rfl)) fun u2 B5 H5 q5 o5 b5 du2 => ?_
  have hlg : (lgs b (l.1 + l.2) s).length ≤ 72 := by unfold lgs; rw [List.length_map]; exact hfl
  have hcw : cwF b (l.1 + l.2) s = if (lgs b (l.1 + l.2) s).any Option.isNone then none else some (maxL (((lgs b (l.1 + l.2) s).filterMap id).map fun x => 1 + x)) := rfl
  rw [hcw] at k
  generalize lgs b (l.1 + l.2) s = os at *
  refine s_ret o5 (evd_if (etest (K := K) (evd_noneIn (evd_var rfl du2))) (fun e => ?_) fun e => ?_) fun v B6 H6 q6 o6 b6 dv => k v B6 H6 ((q4.trans q5).trans q6) o6 ((b4.trans b5).trans b6) dv
  · rw [if_pos e]; exact evd_non
  · rw [if_neg (by rw [e]; simp)]
    have hw := maxL_mem ((os.filterMap id).map fun x => 1 + x) 0
    have hg := maxL_ge ((os.filterMap id).map fun x => 1 + x) 0
    have hall : ∀ a ∈ os, a.isSome = true := fun a ha => by
      have := List.any_eq_false.mp e a ha
      cases a with
      | none => exact absurd rfl this
      | some i => rfl
    refine evd_maxL (ns := 0 :: (os.filterMap id).map fun x => 1 + x) (m := maxL ((os.filterMap id).map fun x => 1 + x)) ?_ ?_ ((evd_catL (ds := [.int 0]) ?_ (evd_lst (by simp) (eda_cons evd_int eda_nil)) (evd_lcL (as := os) (toD := oD) (fun a => a.map fun i => PyData.int (i + 1)) (evd_var rfl du2) (by omega) (fun _ => rfl) (fun a v B6 ha b6 da => etYes.is (by have := hall a ha; cases a <;> simp at this ⊢)) (fun a v d B6 _ b6 da hd => by
      cases a with
      | none => cases hd
      | some i => cases hd; exact evd_I0i (evd_var rfl da) evd_int))).is ?_)
    · rcases hw with e | e
      · unfold maxL; rw [e]; exact List.mem_cons_self
      · exact List.mem_cons_of_mem _ e
    · intro a ha
      rcases List.mem_cons.mp ha with e | e
      · rw [e]; exact hg.1
      · exact hg.2 a e
    · have h2 := List.length_filterMap_le (fun a : Option Int => Option.map (fun i => PyData.int (i + 1)) a) os
      simp only [List.length_cons, List.length_nil]
      omega
    · rw [List.map_cons, List.map_map, List.map_filterMap]
      have e1 : (fun a : Option Int => Option.map (fun i => PyData.int (i + 1)) a) = fun x => Option.map (PyData.int ∘ fun x => 1 + x) (id x) := by
        funext a
        cases a with
        | none => rfl
        | some i => show some (PyData.int (i + 1)) = some (PyData.int (1 + i)); rw [Int.add_comm]
      rw [e1]
      rfl
abbrev N_law : List Str := ["_law_script", "_law_draw", "_law_turn", "_law_shelf", "_law_slack", "_law_starts_here", "_law_waits", "_law_told", "_law_due", "_law_begin_so", "_law_hours", "_law_halves", "_law_wait_here"]
theorem sc_law : FnScope N_law ["_law_script"] (defScope s_law) := ⟨rfl, rfl, rfl, by decide +kernel, rfl, by decide +kernel, by decide +kernel⟩
theorem kb_best_starts_loss_book : ∀ fd, FnP K "best_starts" s_best_starts (He.ga K "best_starts") fd → KBinds K fd ["book", "loss"] ["loss", "book"] g21 g21 := fun fd F => kb21 F (fun _ _ _ _ _ _ _ _ => rfl)
theorem kb_clock_wait_start_loss_book : ∀ fd, FnP K "clock_wait" s_clock_wait (He.ga K "clock_wait") fd → KBinds K fd ["book", "loss", "start"] ["start", "loss", "book"] g321 g321 := fun fd F => kb321 F (fun _ _ _ _ _ _ _ _ _ => rfl)
def bkT : Bk := [(List.range (24 : Int).toNat).map fun i => ((i : Nat) : Int), (List.range ((48 : Int) - 24).toNat).map fun i : Nat => 24 + (i : Int), [99, 99, 98]]
theorem goodT : GoodB bkT := ⟨by decide +kernel, by decide +kernel, by decide +kernel, by decide +kernel, by decide +kernel, by decide +kernel⟩
theorem wwT : wwF bkT 0 = 2 := ww_is (n := 1) (by decide) (by decide +kernel) (2, 0) (2, 1) 1 ⟨by decide +kernel, by decide +kernel⟩ ⟨by decide +kernel, by decide +kernel⟩ (by decide +kernel) (by decide +kernel)
def bkH : Bk := [[1, 2, 3, 4, 5, 6, 7, 8, 9, 10, 11, 12]]
theorem goodH : GoodB bkH := ⟨by decide +kernel, by decide +kernel, by decide +kernel, by decide +kernel, by decide +kernel, by decide +kernel⟩
theorem wwH0 : wwF bkH 0 = 1 := ww_is (n := 0) (by decide) (by decide +kernel) (0, 0) (0, 1) 0 ⟨by decide +kernel, by decide +kernel⟩ ⟨by decide +kernel, by decide +kernel⟩ (by decide +kernel) (by decide +kernel)
theorem wwH1 : wwF bkH 1 = 2 := ww_is (n := 1) (by decide) (by decide +kernel) (0, 0) (0, 1) 0 ⟨by decide +kernel, by decide +kernel⟩ ⟨by decide +kernel, by decide +kernel⟩ (by decide +kernel) (by decide +kernel)
def bkV : Bk := [[1, 1, 2, 1, 3, 1, 4, 1, 5, 1, 6, 1]]
theorem goodV : GoodB bkV := ⟨by decide +kernel, by decide +kernel, by decide +kernel, by decide +kernel, by decide +kernel, by decide +kernel⟩
theorem wwV : wwF bkV 0 = 3 := ww_is (n := 2) (by decide) (by decide +kernel) (0, 0) (0, 11) 2 ⟨by decide +kernel, by decide +kernel⟩ ⟨by decide +kernel, by decide +kernel⟩ (by decide +kernel) (by decide +kernel)
theorem bestV : bestF bkV 0 = [(0, 2), (0, 4), (0, 6), (0, 8), (0, 10)] := by decide +kernel
def bkF : Bk := [[5, 5]]
theorem goodF : GoodB bkF := ⟨by decide +kernel, by decide +kernel, by decide +kernel, by decide +kernel, by decide +kernel, by decide +kernel⟩
theorem wwFive : wwF bkF 18 = 0 := ww_zero (by decide) (by decide +kernel)
def bkC : Bk := [[1, 2, 3, 4, 5, 6, 7, 8, 9, 10, 11, 12], [4, 5, 6, 7, 8, 9, 10, 11, 12, 1, 2, 3]]
theorem goodC' : GoodB bkC := ⟨by decide +kernel, by decide +kernel, by decide +kernel, by decide +kernel, by decide +kernel, by decide +kernel⟩
theorem cwC : cwF bkC 0 (0, 0) = none := by decide +kernel
theorem ok_law (C : Cs mg) (D_q_begin : Def P w K mg base "_law_begin" s_q_begin 1 ["_law_script"] (SpB K)) (D_q_pick : Def P w K mg base "_law_pick" s_q_pick 2 ["_law_draw", "_law_some"] (SpW K 1 1 G_pick)) (D_q_starts : Def P w K mg base "_law_starts" s_q_starts 1 ["_law_shelf"] (SpF K 1 F_q_starts)) (D_worst_wait : Def P w K mg base "worst_wait" s_worst_wait 6 ["book", "loss"] (SpF K 2 F_worst_wait)) (D_best_starts : Def P w K mg base "best_starts" s_best_starts 5 ["book", "loss"] (SpF K 2 F_best_starts)) (D_q_book : Def P w K mg base "_law_book" s_q_book 4 ["_law_draw", "_law_size"] (SpW K 1 130 G_book)) (D_q_loss : Def P w K mg base "_law_loss" s_q_loss 3 ["_law_draw"] (SpW K 0 4 G_loss)) (D_q_wait : Def P w K mg base "_law_wait" s_q_wait 4 ["_law_shelf", "_law_slack", "_law_begin_so"] (SpF K 3 F_q_wait)) (D_wait_of : Def P w K mg base "wait_of" s_wait_of 5 ["book", "loss", "start"] (SpF K 3 F_wait_of)) (D_clock_wait : Def P w K mg base "clock_wait" s_clock_wait 5 ["book", "loss", "start"] (SpF K 3 F_clock_wait)) (D_q_clock_wait : Def P w K mg base "_law_clock_wait" s_q_clock_wait 4 ["_law_shelf", "_law_slack", "_law_begin_so"] (SpF K 3 F_q_clock_wait))
    {f : Addr} {cdv : Value} {s : Shared} {H : Hp} {a : Addr} {ns : List Int} (hr : Room 6 (callerA.deeper (envOfC "law" (defScope s_law) s.heap.objs.size f cdv))) (hgd : (callerA.deeper (envOfC "law" (defScope s_law) s.heap.objs.size f cdv)).guards = some []) (hS : SqL K H a (ns.map V.int)) (hlen : ns.length ≤ 63) :
    ∃ t, PSs (cxOf CX0 P w K mg base N_law "law" (defScope s_law) f cdv callerA [] s H fun _ _ _ => False) (defBody s_law) t ∧ t { nx := fun _ _ => False, rt := fun v _ => v = .bl true } (start N_law [.ref a]) H := by
  refine ⟨_, PSs.nox (pss_cons (ps_set (i := 1) sc_law.nd rfl (Or.inl rfl) (pe_callD D_q_begin hr (by decide) (by rfl) (pa_cons (pv 0) pa_nil)))
      (pss_cons (ps_for PassesOwn.never rfl (pi_range1 (by rfl) C.range (pa_cons pe_int pa_nil)) (pg_name (i := 2) sc_law.nd rfl (Or.inl rfl))
      (pss_cons (ps_asg (pe_tup (pa_cons (pe_callD D_q_book hr (by decide) (by rfl) (pa_cons (pv 1) (pa_cons (pe_callD D_q_pick hr (by decide) (by rfl) (pa_cons (pv 1) (pa_cons (pe_lst (pa_cons pe_int (pa_cons pe_int (pa_cons pe_int pa_nil)))) pa_nil))) pa_nil))) (pa_cons (pe_callD D_q_loss hr (by decide) (by rfl) (pa_cons (pv 1) pa_nil)) pa_nil))) (pg_tup rfl (pgs_cons (pg_name (i := 3) sc_law.nd rfl (Or.inr rfl)) (pgs_cons (pg_name (i := 4) sc_law.nd rfl (Or.inr rfl)) pgs_nil))))
      (pss_cons (ps_set (i := 4) sc_law.nd rfl (Or.inr rfl) (pe_callD D_q_pick hr (by decide) (by rfl) (pa_cons (pv 1) (pa_cons (pe_lst (pa_cons (pv 4) (pa_cons (pv 4) (pa_cons (pe_tup (pa_cons (pe_op op_pow pe_int pe_int) (pa_cons (pe_ix ix_tup (pv 4) pe_int (fun _ _ => rfl)) pa_nil))) pa_nil)))) pa_nil))))
      (pss_cons (ps_set (i := 5) sc_law.nd rfl (Or.inl rfl) (pe_callD D_q_starts hr (by decide) (by rfl) (pa_cons (pv 3) pa_nil)))
      (pss_cons (ps_set (i := 6) sc_law.nd rfl (Or.inr rfl) (pe_lc (own := [("_law_begin_so", 9)]) (g := (gName 9)) (by rfl) sc_law.nd (pi_list (pv 5)) (blkOk_by (own := [("_law_begin_so", 9)]) (N := N_law) (sc := defScope s_law) (by decide +kernel)) (fun _ _ _ _ _ => (pg_name (i := 9) sc_law.nd rfl (Or.inl rfl))) (fun _ _ _ _ _ => pts_nil) (fun _ _ _ _ _ => (pe_callD D_q_wait hr (by decide) (by rfl) (pa_cons (pv 3) (pa_cons (pv 4) (pa_cons (pv 9) pa_nil)))))))
      (pss_cons (ps_setLc (i := 7) (own := [("_law_begin_so", 9)]) (g := (gName 9)) (by rfl) sc_law.nd rfl rfl (sw_true rfl rfl rfl (by decide +kernel)) (pi_list (pv 5)) (blkOk_by (own := [("_law_begin_so", 9)]) (N := N_law) (sc := defScope s_law) (by decide +kernel)) (fun _ _ _ _ _ => (pg_name (i := 9) sc_law.nd rfl (Or.inl rfl))) (fun _ _ _ _ _ => pts_nil) (fun _ _ _ _ _ => (pe_callD D_wait_of hr (by decide) (by rfl) (pa_cons (pv 3) (pa_cons (pv 4) (pa_cons (pv 9) pa_nil))))))
      (pss_cons (ps_if (PW.pt (pw_or (pt_cmpR op_ne (pe_callB (cr_repr hgd hr.units) (by rfl) C.repr (by decide +kernel) (pa_cons (pv 7) pa_nil)) (pe_callB (cr_repr hgd hr.units) (by rfl) C.repr (by decide +kernel) (pa_cons (pv 6) pa_nil)) (nomark _)) (pw_or1 (pt_cmpR op_ne (pe_callB (cr_repr hgd hr.units) (by rfl) C.repr (by decide +kernel) (pa_cons (pe_op op_rep (pe_lst (pa_cons (pe_callD D_worst_wait hr (by decide) (by rfl) (pa_cons (pv 3) (pa_cons (pv 4) pa_nil))) pa_nil)) pe_int) pa_nil)) (pe_callB (cr_repr hgd hr.units) (by rfl) C.repr (by decide +kernel) (pa_cons (pe_op op_rep (pe_lst (pa_cons (pe_callB (cr_max rfl) (by rfl) C.max (by decide +kernel) (pa_cons (pv 6) pa_nil)) pa_nil)) pe_int) pa_nil)) (nomark _))))) (pss_one (ps_ret pe_bl)) pss_nil)
      (pss_cons (ps_set (i := 8) sc_law.nd rfl (Or.inl rfl) (pe_tupleOf (by rfl) C.tuple (pe_lc (own := [("_law_begin_so", 9), ("_law_wait_here", 12)]) (g := (gTup K 2 (gCons (gName 9) (gCons (gName 12) gNil)))) (by rfl) sc_law.nd (pi_zip (by rfl) C.zip (pa_cons (pv 5) (pa_cons (pv 6) pa_nil))) (blkOk_by (own := [("_law_begin_so", 9), ("_law_wait_here", 12)]) (N := N_law) (sc := defScope s_law) (by decide +kernel)) (fun _ _ _ _ _ => (pg_tup rfl (pgs_cons (pg_name (i := 9) sc_law.nd rfl (Or.inl rfl)) (pgs_cons (pg_name (i := 12) sc_law.nd rfl (Or.inl rfl)) pgs_nil)))) (fun _ _ _ _ _ => (pts_one (pt_cmpR op_eq (pv 12) (pe_callB (cr_minK (K := K) rfl rfl) (by rfl) C.min (by decide +kernel) (pa_cons (pv 6) pa_nil)) (nomark _)))) (fun _ _ _ _ _ => (pv 9)))))
      (pss_cons (ps_if (pt_cmpR op_ne (pe_callB (cr_repr hgd hr.units) (by rfl) C.repr (by decide +kernel) (pa_cons (pe_lst (pa_cons (pe_callD D_best_starts hr (by decide) (by rfl) (pa_cons (pv 3) (pa_cons (pv 4) pa_nil))) (pa_cons (pe_callD0 D_best_starts hr (by decide) (by rfl) kb_best_starts_loss_book (pk_cons (pv 4) (pk_cons (pv 3) pk_nil))) pa_nil))) pa_nil)) (pe_callB (cr_repr hgd hr.units) (by rfl) C.repr (by decide +kernel) (pa_cons (pe_lst (pa_cons (pv 8) (pa_cons (pv 8) pa_nil))) pa_nil)) (nomark _)) (pss_one (ps_ret pe_bl)) pss_nil)
      (pss_one (ps_for PassesOwn.never rfl (pi_list (pv 5)) (pg_name (i := 9) sc_law.nd rfl (Or.inl rfl))
      (pss_cons (ps_set (i := 7) sc_law.nd rfl (Or.inl rfl) (pe_lst (pa_cons (pe_callD D_clock_wait hr (by decide) (by rfl) (pa_cons (pv 3) (pa_cons (pv 4) (pa_cons (pv 9) pa_nil)))) (pa_cons (pe_callD0 D_clock_wait hr (by decide) (by rfl) kb_clock_wait_start_loss_book (pk_cons (pv 9) (pk_cons (pv 4) (pk_cons (pv 3) pk_nil)))) pa_nil))))
      (pss_one (ps_if (pt_cmpR op_ne (pe_callB (cr_repr hgd hr.units) (by rfl) C.repr (by decide +kernel) (pa_cons (pv 7) pa_nil)) (pe_callB (cr_repr hgd hr.units) (by rfl) C.repr (by decide +kernel) (pa_cons (pe_op op_rep (pe_lst (pa_cons (pe_callD D_q_clock_wait hr (by decide) (by rfl) (pa_cons (pv 3) (pa_cons (pv 4) (pa_cons (pv 9) pa_nil)))) pa_nil)) pe_int) pa_nil)) (nomark _)) (pss_one (ps_ret pe_bl)) pss_nil))))))))))))))
      (pss_cons (ps_set (i := 3) sc_law.nd rfl (Or.inr rfl) (pe_tup (pa_cons (pe_tupRg rfl (by rfl) C.tuple (prg_1 (by rfl) C.range pe_int)) (pa_cons (pe_tupRg rfl (by rfl) C.tuple (prg_2 (by rfl) C.range pe_int pe_int)) (pa_cons (pe_tup (pa_cons pe_int (pa_cons pe_int (pa_cons pe_int pa_nil)))) pa_nil)))))
      (pss_cons (ps_if (pt_cmpR op_ne (pe_callD D_worst_wait hr (by decide) (by rfl) (pa_cons (pv 3) (pa_cons (pe_tup (pa_cons pe_int (pa_cons pe_int pa_nil))) pa_nil))) pe_int (nomark _)) (pss_one (ps_ret pe_bl)) pss_nil)
      (pss_cons (ps_asg (pe_tup (pa_cons (pe_tup (pa_cons pe_int (pa_cons pe_int (pa_cons pe_int (pa_cons pe_int (pa_cons pe_int (pa_cons pe_int (pa_cons pe_int (pa_cons pe_int (pa_cons pe_int (pa_cons pe_int (pa_cons pe_int (pa_cons pe_int pa_nil))))))))))))) (pa_cons (pe_tup (pa_cons pe_int (pa_cons pe_int (pa_cons pe_int (pa_cons pe_int (pa_cons pe_int (pa_cons pe_int (pa_cons pe_int (pa_cons pe_int (pa_cons pe_int (pa_cons pe_int (pa_cons pe_int (pa_cons pe_int pa_nil))))))))))))) pa_nil))) (pg_tup rfl (pgs_cons (pg_name (i := 10) sc_law.nd rfl (Or.inl rfl)) (pgs_cons (pg_name (i := 11) sc_law.nd rfl (Or.inl rfl)) pgs_nil))))
      (pss_cons (ps_set (i := 7) sc_law.nd rfl (Or.inl rfl) (pe_lst (pa_cons (pe_callD D_worst_wait hr (by decide) (by rfl) (pa_cons (pe_tup (pa_cons (pv 10) pa_nil)) (pa_cons (pe_tup (pa_cons pe_int (pa_cons pe_int pa_nil))) pa_nil))) (pa_cons (pe_callD D_worst_wait hr (by decide) (by rfl) (pa_cons (pe_tup (pa_cons (pv 10) pa_nil)) (pa_cons (pe_tup (pa_cons pe_int (pa_cons pe_int pa_nil))) pa_nil))) (pa_cons (pe_callD D_worst_wait hr (by decide) (by rfl) (pa_cons (pe_tup (pa_cons (pv 11) pa_nil)) (pa_cons (pe_tup (pa_cons pe_int (pa_cons pe_int pa_nil))) pa_nil))) pa_nil)))))
      (pss_cons (ps_set (i := 7) sc_law.nd rfl (Or.inl rfl) (pe_op op_catL (pv 7) (pe_lst (pa_cons (pe_callD D_worst_wait hr (by decide) (by rfl) (pa_cons (pe_tup (pa_cons (pe_tup (pa_cons pe_int (pa_cons pe_int pa_nil))) pa_nil)) (pa_cons (pe_tup (pa_cons pe_int (pa_cons pe_int pa_nil))) pa_nil))) pa_nil))))
      (pss_cons (ps_set (i := 7) sc_law.nd rfl (Or.inl rfl) (pe_op op_catL (pv 7) (pe_lst (pa_cons (pe_callD D_clock_wait hr (by decide) (by rfl) (pa_cons (pe_tup (pa_cons (pv 10) (pa_cons (pe_op op_catA (pe_slice sl_tupA (pv 10) (po_some pe_int) po_none) (pe_slice sl_tupA (pv 10) po_none (po_some pe_int))) pa_nil))) (pa_cons (pe_tup (pa_cons pe_int (pa_cons pe_int pa_nil))) (pa_cons (pe_tup (pa_cons pe_int (pa_cons pe_int pa_nil))) pa_nil)))) pa_nil))))
      (pss_cons (ps_if (pt_not (pt_cmpR (op_eqD hr.units) (pv 7) (pe_lst (pa_cons pe_int (pa_cons pe_int (pa_cons pe_int (pa_cons pe_int (pa_cons pe_non pa_nil)))))) (nomark _))) (pss_one (ps_ret pe_bl)) pss_nil)
      (pss_one (ps_ret (pe_cmpR (op_eqD hr.units) (pe_callD D_best_starts hr (by decide) (by rfl) (pa_cons (pe_tup (pa_cons (pv 11) pa_nil)) (pa_cons (pe_tup (pa_cons pe_int (pa_cons pe_int pa_nil))) pa_nil))) (pe_tup (pa_cons (pe_tup (pa_cons pe_int (pa_cons pe_int pa_nil))) (pa_cons (pe_tup (pa_cons pe_int (pa_cons pe_int pa_nil))) (pa_cons (pe_tup (pa_cons pe_int (pa_cons pe_int pa_nil))) (pa_cons (pe_tup (pa_cons pe_int (pa_cons pe_int pa_nil))) (pa_cons (pe_tup (pa_cons pe_int (pa_cons pe_int pa_nil))) pa_nil)))))) (nomark _))))))))))))), ?_⟩
  have o0 : Ok (fun _ => False) H H := ⟨fun a h => h.elim, fun a o e => ⟨e, id⟩⟩
  refine ⟨.ref a, rfl, fun _ => False, H, a, ns, rfl, o0, .lst hS (dpAll_ofInts ns), hlen, fun d B1 H1 hd0 q1 o1 b1 d1 => ?_⟩
  refine q_for (K := K) o1 (evi_rng1 (n := 3) (by decide) (evd_int (a := 3))) (fun B2 i σ' H' => ∃ B' v2 v3 v4 v5 v6 v7 v8 v9, σ' = [some (.ref a), some (.ref d), v2, v3, v4, v5, v6, v7, v8, v9, none, none, none] ∧ Ok (fun b => False ∨ b = d) B' H' ∧ Ex B2 B' ∧ DSt K (fun b => False ∨ b = d) B' H' d (200 * i))
    (fun B2 H2 q2 o2 b2 => ⟨B2, none, none, none, none, none, none, none, none, rfl, o2, Ex.refl _, (d1.ofEx q2 b2).up (by omega)⟩) (fun B2 i σ' H' ⟨_, _, _, _, _, _, _, _, _, _, oo, be, _⟩ => ⟨_, oo.weak be⟩) ?_ ?_
  · rintro B2 i x σ' H' H'' bb hi ⟨B', v2, v3, v4, v5, v6, v7, v8, v9, rfl, oo, be, de⟩ eh f
    obtain ⟨B3, o3, b3, dx⟩ := f _ B' oo be
    have d3 := de.ofEx eh b3
    show tSeq _ _ _ _ _
    refine q_asgW (K := K) (c := (0 + 0 + 1 + 0 + 130) + (0 + 4 + 0)) o3 d3 (by omega) (evw_tup (fun zs hz => ?_) (ewa_cons (evw_call (P := fun z => ∃ b, z = bD b ∧ GoodB b) rfl (ewa_cons (evw_call (P := IntP fun m => m = 2 ∨ m = 4 ∨ m = 5) rfl (ewa_cons (evw_of (evd_lst (ds := [.int 2, .int 4, .int 5]) (by simp) (eda_cons evd_int (eda_cons evd_int (eda_cons evd_int eda_nil))))) ewa_nil) fun zs hz => ?_) ewa_nil) fun zs hz => ?_) (ewa_cons (evw_call (P := fun z => ∃ l, z = lD l ∧ GoodL l) rfl ewa_nil fun zs hz => ?_) ewa_nil))) fun vt yt B4 H4 x4 o4 b4 d4 hy dvt => ?_
    · obtain ⟨_, _, rfl, _, _, _, rfl, _, rfl⟩ := hz
      simp
    · obtain ⟨_, _, rfl, rfl, rfl⟩ := hz
      refine ⟨rfl, _, by simp, by simp, rfl, fun x hx => ?_⟩
      simp only [List.mem_cons, List.not_mem_nil, or_false] at hx
      rcases hx with rfl | rfl | rfl
      · exact ⟨_, rfl, .inl rfl⟩
      · exact ⟨_, rfl, .inr (.inl rfl)⟩
      · exact ⟨_, rfl, .inr (.inr rfl)⟩
    · obtain ⟨_, _, rfl, ⟨m, rfl, hm⟩, rfl⟩ := hz
      exact ⟨rfl, m, by omega, by omega, rfl, fun b hb => ⟨b, rfl, hb⟩⟩
    · cases hz
      exact ⟨rfl, rfl, fun l hl => ⟨l, rfl, hl⟩⟩
    obtain ⟨_, rfl, _, _, rfl, ⟨b, rfl, G⟩, _, _, rfl, ⟨l0, rfl, L0⟩, rfl⟩ := hy
    obtain ⟨pt, xt, rfl, hst, hdt⟩ := dp_tuple dvt
    obtain ⟨vb, vl0, rfl, dvb, dvl0⟩ := dpAll_inv2 hdt
    refine ⟨pt, _, rfl, ex_t o4.le hst, rfl, _, _, rfl, _, _, rfl, rfl, ?_⟩
    -- the loss, at times great
    refine q_setW (c := 0 + 0 + 1) (P := fun z => ∃ l, z = lD l ∧ GoodL l) o4 d4 (by omega) (evw_call rfl (ewa_cons (evw_of (evd_lst (ds := [lD l0, lD l0, lD (10 ^ 30, l0.1)]) (by simp) (eda_cons (evd_var rfl dvl0) (eda_cons (evd_var rfl dvl0) (eda_cons (evd_tup (ds := [.int (10 ^ 30), .int l0.1]) (by simp) (eda_cons ((evd_Ii ⟨by decide, by decide, by decide⟩ evd_int evd_int).is (congrArg PyData.int (by decide +kernel))) (eda_cons (evd_ixT (ds := [.int l0.1, .int l0.2]) (atI_nat (j := 0) rfl) (evd_var rfl dvl0) evd_int) eda_nil))) eda_nil))))) ewa_nil) fun zs hz => ?_) fun vl yl B5 H5 x5 o5 b5 d5 hy dvl => ?_
    · obtain ⟨_, _, rfl, rfl, rfl⟩ := hz
      refine ⟨rfl, _, by simp, by simp, rfl, fun x hx => ?_⟩
      simp only [List.mem_cons, List.not_mem_nil, or_false] at hx
      rcases hx with rfl | rfl | rfl
      · exact ⟨l0, rfl, L0⟩
      · exact ⟨l0, rfl, L0⟩
      · exact ⟨_, rfl, ⟨show (0 : Int) ≤ 10 ^ 30 by decide, Int.le_refl _, L0.a0, L0.a1⟩⟩
    obtain ⟨l, rfl, L⟩ := hy
    have dvb5 := dpEx b5 dvb
    have hsl := starts_len G
    have hm0 : 0 ≤ l.1 + l.2 := by have := L.a0; have := L.b0; omega
    have hm1 : l.1 + l.2 ≤ 2 * 10 ^ 30 := by have := L.a1; have := L.b1; omega
    refine q_set o5 (evd_call (d := ssD (starts b)) ⟨b, G, rfl, rfl⟩ rfl (eda_cons (evd_var rfl dvb5) eda_nil)) fun vs B6 H6 q6 o6 b6 dvs => ?_
    have dvb6 := dpEx b6 dvb5
    have dvl6 := dpEx b6 dvl
    refine q_set o6 ((evd_lcLm (as := starts b) (toD := sD) (fun t => .int (wF b (l.1 + l.2) t)) (evd_var rfl dvs) (by omega) (fun _ => rfl) fun t v B7 ht b7 dt => evd_call (ds := [bD b, lD l, sD t]) ⟨b, l, t, G, L, mem_starts.mp ht, rfl, rfl⟩ rfl (eda_cons (evd_var rfl (dpEx b7 dvb6)) (eda_cons (evd_var rfl (dpEx b7 dvl6)) (eda_cons (evd_var rfl dt) eda_nil)))).is (e := isD ((starts b).map (wF b (l.1 + l.2)))) (by unfold isD; rw [List.map_map]; rfl)) fun vw B7 H7 q7 o7 b7 dvw => ?_
    have dvb7 := dpEx b7 dvb6
    have dvl7 := dpEx b7 dvl6
    have dvs7 := dpEx b7 dvs
    refine q_set o7 ((evd_lcLm (as := starts b) (toD := sD) (fun t => .int (wF b (l.1 + l.2) t)) (evd_var rfl dvs7) (by omega) (fun _ => rfl) fun t v B8 ht b8 dt => evd_call (ds := [bD b, lD l, sD t]) ⟨b, l, t, G, L, mem_starts.mp ht, rfl, rfl⟩ rfl (eda_cons (evd_var rfl (dpEx b8 dvb7)) (eda_cons (evd_var rfl (dpEx b8 dvl7)) (eda_cons (evd_var rfl dt) eda_nil)))).is (e := isD ((starts b).map (wF b (l.1 + l.2)))) (by unfold isD; rw [List.map_map]; rfl)) fun vo B8 H8 q8 o8 b8 dvo => ?_
    have dvb8 := dpEx b8 dvb7
    have dvl8 := dpEx b8 dvl7
    have dvs8 := dpEx b8 dvs7
    have dvw8 := dpEx b8 dvw
    have hwb : ∀ z ∈ (starts b).map (wF b (l.1 + l.2)), z.natAbs < 10 ^ 40 := fun z hz => by
      obtain ⟨t, ht, rfl⟩ := List.mem_map.mp hz
      have h1 := wF_nonneg (b := b) (s := t) (m := l.1 + l.2)
      have h2 := wF_le G (mem_starts.mp ht) hm0
      omega
    have hshW := sh_ints (n := 72) hwb (by rw [List.length_map]; exact hsl)
    have hshM := sh_int (hwb _ (ww_mem G))
    refine q_not o8 ((etOr (eq_repr ⟨_, .inl rfl⟩ hshW (by decide) (by decide) (evd_var rfl dvo) (evd_var rfl dvw8)) fun _ => eq_repr (x := .list [.int (wwF b (l.1 + l.2)), .int (wwF b (l.1 + l.2))]) ⟨_, .inl rfl⟩ (sh_list (n := 2) (sh_two hshM hshM) (by simp)) (by decide) (by decide) (evd_rep2 (evd_call ⟨b, l, G, L, rfl, rfl⟩ rfl (eda_cons (evd_var rfl dvb8) (eda_cons (evd_var rfl dvl8) eda_nil)))) (evd_rep2 (evd_maxL (ww_mem G) (fun y hy => ww_ge hy) (evd_var rfl dvw8)))).is rfl) fun B9 H9 q9 o9 b9 => ?_
    have dvb9 := dpEx b9 dvb8
    have dvl9 := dpEx b9 dvl8
    have dvs9 := dpEx b9 dvs8
    have dvw9 := dpEx b9 dvw8
    -- the best starts
    obtain ⟨w0, hw1, hw2⟩ := min_of (xs := (starts b).map (wF b (l.1 + l.2))) (by simpa using starts_ne G)
    obtain ⟨s0, hs0, hw0⟩ := List.mem_map.mp hw1
    have hbest : bestF b (l.1 + l.2) = (starts b).filter fun s => decide (wF b (l.1 + l.2) s = w0) := best_of ⟨s0, hs0, hw0⟩ fun s hs => hw2 _ (List.mem_map.mpr ⟨s, hs, rfl⟩)
    refine q_set o9 ((evd_tupleL ((evd_lc (n := ((starts b).map sD).length) (item := fun i => .tuple [((starts b).map sD).getD i .none, (((starts b).map (wF b (l.1 + l.2))).map PyData.int).getD i .none]) (fun i => ((starts b)[i]?).bind fun s => if wF b (l.1 + l.2) s = w0 then some (sD s) else none) (evi_zip (by simp) (evd_var rfl dvs9) (evd_var rfl dvw9)) (by rw [List.length_map]; omega) fun i z BA hi bA dz => ?_).is (e := .list ((bestF b (l.1 + l.2)).map sD)) ?_)).is (e := .tuple ((bestF b (l.1 + l.2)).map sD)) rfl) fun vd BA HA qA oA bA dvd => ?_
    · rw [List.length_map] at hi
      rw [getD_map hi, List.map_map, getD_map hi] at dz
      obtain ⟨p, q, dp, dq, eg⟩ := evg_two (i := 9) (j := 12) (σ := [some (.ref a), some (.ref d), some x, some vb, some vl, some vs, some vw, some vo, v8, none, none, none, none]) dz
      have dq' : Dp K BA q (.int (wF b (l.1 + l.2) (starts b)[i])) := dq
      cases dp_int dq'
      refine ⟨[some (.ref a), some (.ref d), some x, some vb, some vl, some vs, some vw, some vo, v8, some p, none, none, some (.int (wF b (l.1 + l.2) (starts b)[i]))], rfl, eg, ?_, fun d hd => ?_⟩
      · refine (etest (K := K) (evd_eqI (evd_var rfl (.int _)) (evd_minL hw1 hw2 (evd_var rfl (dpEx bA dvw9))))).is ?_
        rw [List.getElem?_eq_getElem hi]
        show _ = (if _ then _ else _ : Option PyData).isSome
        split
        · rename_i h; exact decide_eq_true h
        · rename_i h; exact decide_eq_false h
      · rw [List.getElem?_eq_getElem hi] at hd
        have hd' : (if wF b (l.1 + l.2) (starts b)[i] = w0 then some (sD (starts b)[i]) else none) = some d := hd
        split at hd'
        · cases hd'; exact evd_var rfl dp
        · cases hd'
    · congr 1
      rw [List.length_map, fm_map, hbest]
      generalize starts b = LL
      induction LL with
      | nil => rfl
      | cons a r ih =>
        rw [List.filterMap_cons, List.filter_cons]
        by_cases h : wF b (l.1 + l.2) a = w0
        · rw [if_pos h, if_pos (decide_eq_true h), List.map_cons]; simp only []; rw [ih]
        · rw [if_neg h, if_neg (by simpa using h)]; exact ih
    have dvbA := dpEx bA dvb9
    have dvlA := dpEx bA dvl9
    have dvsA := dpEx bA dvs9
    have hshB : Sh (.tuple ((bestF b (l.1 + l.2)).map sD)) 3 (72 * 89 + 2 * 72 + 3) := sh_tuple (fun z hz => by
      obtain ⟨t, ht, rfl⟩ := List.mem_map.mp hz
      have g := mem_starts.mp (List.mem_filter.mp ht).1
      have h1 := g.c
      have h2 := g.m
      have h3 := G.n3
      have h4 := G.c24 _ (GoodB.clk_mem g.c)
      exact sh_sD t (by omega) (by omega)) (by
      rw [List.length_map]
      exact Nat.le_trans (List.length_filter_le _ _) hsl)
    refine q_not oA (eq_repr (x := .list [.tuple ((bestF b (l.1 + l.2)).map sD), .tuple ((bestF b (l.1 + l.2)).map sD)]) ⟨_, .inl rfl⟩ (sh_list (n := 2) (sh_two hshB hshB) (by simp)) (by decide) (by decide) (evd_lst (by simp) (eda_cons (evd_call ⟨b, l, G, L, rfl, rfl⟩ rfl (eda_cons (evd_var rfl dvbA) (eda_cons (evd_var rfl dvlA) eda_nil))) (eda_cons (evd_callK21 ⟨b, l, G, L, rfl, rfl⟩ (evd_var rfl dvlA) (evd_var rfl dvbA)) eda_nil))) (evd_lst (by simp) (eda_cons (evd_var rfl dvd) (eda_cons (evd_var rfl dvd) eda_nil)))) fun BB HB qB oB bB => ?_
    have dvbB := dpEx bB dvbA
    have dvlB := dpEx bB dvlA
    have dvsB := dpEx bB dvsA
    have qAll := ((((q6.trans q7).trans q8).trans q9).trans qA).trans qB
    have bAll := ((((b6.trans b7).trans b8).trans b9).trans bA).trans bB
    have d6 := d5.ofEx qAll bAll
    refine s_for oB (evi_list (evd_var rfl dvsB)) (fun BC j σ' H' => ∃ B' v7 v9, σ' = [some (.ref a), some (.ref d), some x, some vb, some vl, some vs, some vw, v7, some vd, v9, none, none, none] ∧ Ok (fun b => False ∨ b = d) B' H' ∧ Ex BC B' ∧ DSt K (fun b => False ∨ b = d) B' H' d (200 * (i + 1)))
      (fun BC HC qC oC bC => ⟨BC, _, _, rfl, oC, Ex.refl _, (d6.ofEx qC bC).up (by omega)⟩) (fun BC j σ' H' ⟨_, _, _, _, oo, be, _⟩ => ⟨_, oo.weak be⟩) ?_ ?_
    · rintro BC j xs σC HC HD bC hj ⟨BD, v7', v9', rfl, oD', beD, dD⟩ ehD fD
      obtain ⟨BE, oE, bE, dxs⟩ := fD _ BD oD' beD
      rw [List.length_map] at hj
      rw [getD_map hj] at dxs
      have g : GoodS b (starts b)[j] := mem_starts.mp (List.getElem_mem hj)
      generalize (starts b)[j] = st at *
      have dE := dD.ofEx ehD bE
      have bX := bC.trans (beD.trans bE)
      have dvbE := dpEx bX dvbB
      have dvlE := dpEx bX dvlB
      show tSeq _ _ _ _ _
      refine q_set oE (evd_lst (ds := [Z.oD (cwF b (l.1 + l.2) st), Z.oD (cwF b (l.1 + l.2) st)]) (by simp) (eda_cons (evd_call ⟨b, l, st, G, L, g, rfl, rfl⟩ rfl (eda_cons (evd_var rfl dvbE) (eda_cons (evd_var rfl dvlE) (eda_cons (evd_var rfl dxs) eda_nil)))) (eda_cons (evd_callK321 ⟨b, l, st, G, L, g, rfl, rfl⟩ (evd_var rfl dxs) (evd_var rfl dvlE) (evd_var rfl dvbE)) eda_nil))) fun vq BF HF qF oF bF dvq => ?_
      have hshC : Sh (Z.oD (cwF b (l.1 + l.2) st)) 1 41 := sh_oD fun x hx => by
        have := cw_le G g hm0 hx
        omega
      refine s_when oF (eq_repr (x := .list [Z.oD (cwF b (l.1 + l.2) st), Z.oD (cwF b (l.1 + l.2) st)]) ⟨_, .inl rfl⟩ (sh_list (n := 2) (sh_two hshC hshC) (by simp)) (by decide) (by decide) (evd_var rfl dvq) (evd_rep2 (evd_call ⟨b, l, st, G, L, g, rfl, rfl⟩ rfl (eda_cons (evd_var rfl (dpEx bF dvbE)) (eda_cons (evd_var rfl (dpEx bF dvlE)) (eda_cons (evd_var rfl (dpEx bF dxs)) eda_nil)))))) (fun e => by cases e) fun _ BG HG qG oG bG => ⟨BG, _, _, rfl, oG, beD.trans (bE.trans (bF.trans bG)), dE.ofEx (qF.trans qG) (bF.trans bG)⟩
    · rintro BC σC HC bC ⟨BD, v7', v9', rfl, oD', beD, dD⟩
      exact ⟨BD, _, _, _, _, _, _, _, _, rfl, oD', be.trans (b3.trans (b4.trans (b5.trans (bAll.trans (bC.trans beD))))), dD⟩
  · rintro B2 σ' H2 bb ⟨B3, v2, v3, v4, v5, v6, v7, v8, v9, rfl, o3, be, de⟩
    have L0 : GoodL (0, 0) := ⟨by decide, by decide, by decide, by decide⟩
    have L1 : GoodL (1, 0) := ⟨by decide, by decide, by decide, by decide⟩
    have L9 : GoodL (9, 9) := ⟨by decide, by decide, by decide, by decide⟩
    have tw : ∀ (i j : Int) (σ : L2.St) (B : Hp), EvD K (tTup (tCons (tC (.int i)) (tCons (tC (.int j)) tNil))) σ B (lD (i, j)) := fun i j σ B => evd_tup (ds := [.int i, .int j]) (by simp) (eda_cons evd_int (eda_cons evd_int eda_nil))
    refine q_set (K := K) o3 ((evd_tup (ds := [cD ((List.range (24 : Int).toNat).map fun i => ((i : Nat) : Int)), cD ((List.range ((48 : Int) - 24).toNat).map fun i : Nat => 24 + (i : Int)), cD [99, 99, 98]]) (by simp) (eda_cons (evd_tupRg1 (by decide) evd_int) (eda_cons (evd_tupRg2 (by decide) evd_int evd_int) (eda_cons (evd_tup (ds := [.int 99, .int 99, .int 98]) (by simp) (eda_cons evd_int (eda_cons evd_int (eda_cons evd_int eda_nil)))) eda_nil)))).is (e := bD bkT) rfl) fun v B4 H4 q4 o4 b4 dv => ?_
    refine q_not o4 ((etest (K := K) (evd_neI (evd_call (d := .int 2) ⟨bkT, (0, 0), goodT, L0, rfl, congrArg PyData.int wwT.symm⟩ rfl (eda_cons (evd_var rfl dv) (eda_cons (tw 0 0 _ _) eda_nil))) evd_int)).is rfl) fun B5 H5 q5 o5 b5 => ?_
    refine q_asgD (K := K) o5 (evd_tup (ds := [cD [1, 2, 3, 4, 5, 6, 7, 8, 9, 10, 11, 12], cD [1, 1, 2, 1, 3, 1, 4, 1, 5, 1, 6, 1]]) (by simp) (eda_cons (evd_tup (ds := [.int 1, .int 2, .int 3, .int 4, .int 5, .int 6, .int 7, .int 8, .int 9, .int 10, .int 11, .int 12]) (by simp) (by repeat (first | exact eda_nil | refine eda_cons evd_int ?_))) (eda_cons (evd_tup (ds := [.int 1, .int 1, .int 2, .int 1, .int 3, .int 1, .int 4, .int 1, .int 5, .int 1, .int 6, .int 1]) (by simp) (by repeat (first | exact eda_nil | refine eda_cons evd_int ?_))) eda_nil))) fun vt B6 H6 q6 o6 b6 dvt => ?_
    obtain ⟨pt, xt, rfl, hst, hdt⟩ := dp_tuple dvt
    obtain ⟨vh, vv, rfl, dh, dvv⟩ := dpAll_inv2 hdt
    refine ⟨pt, _, rfl, ex_t o6.le hst, rfl, _, _, rfl, _, _, rfl, rfl, ?_⟩
    have one : ∀ (i : Nat) (v : V) (c : List Int) (σ : L2.St) (B : Hp), σ[i]? = some (some v) → Dp K B v (cD c) → EvD K (tTup (tCons (tVar i) tNil)) σ B (bD [c]) := fun i v c σ B h dv => evd_tup (ds := [cD c]) (by simp) (eda_cons (evd_var h dv) eda_nil)
    refine q_set (K := K) o6 (evd_lst (ds := [.int 1, .int 2, .int 3]) (by simp) (eda_cons (evd_call (ds := [bD bkH, lD (0, 0)]) ⟨bkH, (0, 0), goodH, L0, rfl, congrArg PyData.int wwH0.symm⟩ rfl (eda_cons (one 10 vh _ _ _ rfl dh) (eda_cons (tw 0 0 _ _) eda_nil))) (eda_cons (evd_call (ds := [bD bkH, lD (1, 0)]) ⟨bkH, (1, 0), goodH, L1, rfl, congrArg PyData.int wwH1.symm⟩ rfl (eda_cons (one 10 vh _ _ _ rfl dh) (eda_cons (tw 1 0 _ _) eda_nil))) (eda_cons (evd_call (ds := [bD bkV, lD (0, 0)]) ⟨bkV, (0, 0), goodV, L0, rfl, congrArg PyData.int wwV.symm⟩ rfl (eda_cons (one 11 vv _ _ _ rfl dvv) (eda_cons (tw 0 0 _ _) eda_nil))) eda_nil)))) fun v1 B7 H7 q7 o7 b7 dv1 => ?_
    refine q_set (K := K) o7 ((evd_catL (ds := [.int 1, .int 2, .int 3]) (es := [.int 0]) (by simp) (evd_var rfl dv1) (evd_lst (by simp) (eda_cons (evd_call (ds := [bD bkF, lD (9, 9)]) ⟨bkF, (9, 9), goodF, L9, rfl, congrArg PyData.int wwFive.symm⟩ rfl (eda_cons (evd_tup (ds := [cD [5, 5]]) (by simp) (eda_cons (evd_tup (ds := [.int 5, .int 5]) (by simp) (eda_cons evd_int (eda_cons evd_int eda_nil))) eda_nil)) (eda_cons (tw 9 9 _ _) eda_nil))) eda_nil))).is (e := .list [.int 1, .int 2, .int 3, .int 0]) rfl) fun v2' B8 H8 q8 o8 b8 dv2 => ?_
    have dh8 := dpEx (b7.trans b8) dh
    have dvv8 := dpEx (b7.trans b8) dvv
    refine q_set (K := K) o8 ((evd_catL (ds := [.int 1, .int 2, .int 3, .int 0]) (es := [.none]) (by simp) (evd_var rfl dv2) (evd_lst (by simp) (eda_cons (evd_call (ds := [bD bkC, lD (0, 0), sD (0, 0)]) (d := .none) ⟨bkC, (0, 0), (0, 0), goodC', L0, ⟨by decide +kernel, by decide +kernel⟩, rfl, congrArg Z.oD cwC.symm⟩ rfl (eda_cons (evd_tup (ds := [cD [1, 2, 3, 4, 5, 6, 7, 8, 9, 10, 11, 12], cD [4, 5, 6, 7, 8, 9, 10, 11, 12, 1, 2, 3]]) (by simp) (eda_cons (evd_var rfl dh8) (eda_cons ((evd_catT (by rw [cut_from (m := 3), cut_to (m := 3)]; simp) (evd_slT (evd_var rfl dh8) (edo_some (K := K) (evd_int (a := ((3 : Nat) : Int)))) edo_none) (evd_slT (evd_var rfl dh8) edo_none (edo_some (K := K) (evd_int (a := ((3 : Nat) : Int)))))).is (by rw [cut_from, cut_to]; rfl)) eda_nil))) (eda_cons (tw 0 0 _ _) (eda_cons (tw 0 0 _ _) eda_nil)))) eda_nil))).is (e := .list [.int 1, .int 2, .int 3, .int 0, .none]) rfl) fun v3' B9 H9 q9 o9 b9 dv3 => ?_
    refine q_not o9 ((etNot (etest (K := K) (evd_eqD (f := .list [.int 1, .int 2, .int 3, .int 0, .none]) (g := .list [.int 1, .int 2, .int 3, .int 0, .none]) rfl rfl (evd_var rfl dv3) (evd_lst (by simp) (eda_cons evd_int (eda_cons evd_int (eda_cons evd_int (eda_cons evd_int (eda_cons evd_non eda_nil))))))))).is (by rw [SeqAt.eqv_refl _ rfl]; rfl)) fun BA HA qA oA bA => ?_
    have st2 : ∀ (i j : Int) (σ : L2.St) (B : Hp), EvD K (tTup (tCons (tC (.int i)) (tCons (tC (.int j)) tNil))) σ B (.tuple [.int i, .int j]) := fun i j σ B => evd_tup (ds := [.int i, .int j]) (by simp) (eda_cons evd_int (eda_cons evd_int eda_nil))
    refine s_ret oA ((evd_eqD (f := .tuple ([(0, 2), (0, 4), (0, 6), (0, 8), (0, 10)].map sD)) (g := .tuple ([(0, 2), (0, 4), (0, 6), (0, 8), (0, 10)].map sD)) rfl rfl (evd_call (ds := [bD bkV, lD (0, 0)]) ⟨bkV, (0, 0), goodV, L0, rfl, congrArg (fun z : List Stt => PyData.tuple (z.map sD)) bestV.symm⟩ rfl (eda_cons (one 11 vv _ _ _ rfl (dpEx (b9.trans bA) dvv8)) (eda_cons (tw 0 0 _ _) eda_nil)))
      (evd_tup (ds := [.tuple [.int 0, .int 2], .tuple [.int 0, .int 4], .tuple [.int 0, .int 6], .tuple [.int 0, .int 8], .tuple [.int 0, .int 10]]) (by simp) (eda_cons (st2 0 2 _ _) (eda_cons (st2 0 4 _ _) (eda_cons (st2 0 6 _ _) (eda_cons (st2 0 8 _ _) (eda_cons (st2 0 10 _ _) eda_nil))))))).is (e := .bool true) (by rw [SeqAt.eqv_refl _ rfl])) fun v BC HC qC oC bC dv => dp_bool dv
end
end K8

set_option maxHeartbeats 0
namespace K8
open PySem PySem.Spec PyProof.Rows L2
def d_is_integer : He.DefD := ⟨("is_integer", none), "is_integer", "is_integer", defArgs s_is_integer, defBody s_is_integer, defScope s_is_integer, [], []⟩
def d_is_whole : He.DefD := ⟨("is_whole", none), "is_whole", "is_whole", defArgs s_is_whole, defBody s_is_whole, defScope s_is_whole, [], []⟩
def d_book_fault : He.DefD := ⟨("book_fault", none), "book_fault", "book_fault", defArgs s_book_fault, defBody s_book_fault, defScope s_book_fault, [], []⟩
def d_need_book : He.DefD := ⟨("need_book", none), "need_book", "need_book", defArgs s_need_book, defBody s_need_book, defScope s_need_book, [], []⟩
def d_need_loss : He.DefD := ⟨("need_loss", none), "need_loss", "need_loss", defArgs s_need_loss, defBody s_need_loss, defScope s_need_loss, [], []⟩
def d_is_start : He.DefD := ⟨("is_start", none), "is_start", "is_start", defArgs s_is_start, defBody s_is_start, defScope s_is_start, [], []⟩
def d_need_start : He.DefD := ⟨("need_start", none), "need_start", "need_start", defArgs s_need_start, defBody s_need_start, defScope s_need_start, [], []⟩
def d_all_starts : He.DefD := ⟨("all_starts", none), "all_starts", "all_starts", defArgs s_all_starts, defBody s_all_starts, defScope s_all_starts, [], []⟩
def d_struck : He.DefD := ⟨("struck", none), "struck", "struck", defArgs s_struck, defBody s_struck, defScope s_struck, [], []⟩
def d_common_round : He.DefD := ⟨("common_round", none), "common_round", "common_round", defArgs s_common_round, defBody s_common_round, defScope s_common_round, [], []⟩
def d_rises_of : He.DefD := ⟨("rises_of", none), "rises_of", "rises_of", defArgs s_rises_of, defBody s_rises_of, defScope s_rises_of, [], []⟩
def d_reach_of : He.DefD := ⟨("reach_of", none), "reach_of", "reach_of", defArgs s_reach_of, defBody s_reach_of, defScope s_reach_of, [], []⟩
def d_longest_in : He.DefD := ⟨("longest_in", none), "longest_in", "longest_in", defArgs s_longest_in, defBody s_longest_in, defScope s_longest_in, [], []⟩
def d_wait_in : He.DefD := ⟨("wait_in", none), "wait_in", "wait_in", defArgs s_wait_in, defBody s_wait_in, defScope s_wait_in, [], []⟩
def d_wait_of : He.DefD := ⟨("wait_of", none), "wait_of", "wait_of", defArgs s_wait_of, defBody s_wait_of, defScope s_wait_of, [], []⟩
def d_worst_in : He.DefD := ⟨("worst_in", none), "worst_in", "worst_in", defArgs s_worst_in, defBody s_worst_in, defScope s_worst_in, [], []⟩
def d_worst_wait : He.DefD := ⟨("worst_wait", none), "worst_wait", "worst_wait", defArgs s_worst_wait, defBody s_worst_wait, defScope s_worst_wait, [], []⟩
def d_best_starts : He.DefD := ⟨("best_starts", none), "best_starts", "best_starts", defArgs s_best_starts, defBody s_best_starts, defScope s_best_starts, [], []⟩
def d_clock_wait : He.DefD := ⟨("clock_wait", none), "clock_wait", "clock_wait", defArgs s_clock_wait, defBody s_clock_wait, defScope s_clock_wait, [], []⟩
def d_q_begin : He.DefD := ⟨("_law_begin", none), "_law_begin", "_law_begin", defArgs s_q_begin, defBody s_q_begin, defScope s_q_begin, [], []⟩
def d_q_next : He.DefD := ⟨("_law_next", none), "_law_next", "_law_next", defArgs s_q_next, defBody s_q_next, defScope s_q_next, [], []⟩
def d_q_pick : He.DefD := ⟨("_law_pick", none), "_law_pick", "_law_pick", defArgs s_q_pick, defBody s_q_pick, defScope s_q_pick, [], []⟩
def d_q_clock : He.DefD := ⟨("_law_clock", none), "_law_clock", "_law_clock", defArgs s_q_clock, defBody s_q_clock, defScope s_q_clock, [], []⟩
def d_q_book : He.DefD := ⟨("_law_book", none), "_law_book", "_law_book", defArgs s_q_book, defBody s_q_book, defScope s_q_book, [], []⟩
def d_q_starts : He.DefD := ⟨("_law_starts", none), "_law_starts", "_law_starts", defArgs s_q_starts, defBody s_q_starts, defScope s_q_starts, [], []⟩
def d_q_strokes : He.DefD := ⟨("_law_strokes", none), "_law_strokes", "_law_strokes", defArgs s_q_strokes, defBody s_q_strokes, defScope s_q_strokes, [], []⟩
def d_q_loss : He.DefD := ⟨("_law_loss", none), "_law_loss", "_law_loss", defArgs s_q_loss, defBody s_q_loss, defScope s_q_loss, [], []⟩
def d_q_same : He.DefD := ⟨("_law_same", none), "_law_same", "_law_same", defArgs s_q_same, defBody s_q_same, defScope s_q_same, [], []⟩
def d_q_reach : He.DefD := ⟨("_law_reach", none), "_law_reach", "_law_reach", defArgs s_q_reach, defBody s_q_reach, defScope s_q_reach, [], []⟩
def d_q_wait : He.DefD := ⟨("_law_wait", none), "_law_wait", "_law_wait", defArgs s_q_wait, defBody s_q_wait, defScope s_q_wait, [], []⟩
def d_q_clock_wait : He.DefD := ⟨("_law_clock_wait", none), "_law_clock_wait", "_law_clock_wait", defArgs s_q_clock_wait, defBody s_q_clock_wait, defScope s_q_clock_wait, [], []⟩
def d_law : He.DefD := ⟨("law", none), "law", "law", defArgs s_law, defBody s_law, defScope s_law, [], []⟩
def fn : List He.DefD := [d_is_integer, d_is_whole, d_book_fault, d_need_book, d_need_loss, d_is_start, d_need_start, d_all_starts, d_struck, d_common_round, d_rises_of, d_reach_of, d_longest_in, d_wait_in, d_wait_of, d_worst_in, d_worst_wait, d_best_starts, d_clock_wait, d_q_begin, d_q_next, d_q_pick, d_q_clock, d_q_book, d_q_starts, d_q_strokes, d_q_loss, d_q_same, d_q_reach, d_q_wait, d_q_clock_wait, d_law]
def fa : List He.Fa := [.glo "is_integer", .glo "is_whole", .glo "book_fault", .glo "need_book", .glo "need_loss", .glo "is_start", .glo "need_start", .glo "all_starts", .glo "struck", .glo "common_round", .glo "rises_of", .glo "reach_of", .glo "longest_in", .glo "wait_in", .glo "wait_of", .glo "worst_in", .glo "worst_wait", .glo "best_starts", .glo "clock_wait", .glo "_law_begin", .glo "_law_next", .glo "_law_pick", .glo "_law_clock", .glo "_law_book", .glo "_law_starts", .glo "_law_strokes", .glo "_law_loss", .glo "_law_same", .glo "_law_reach", .glo "_law_wait", .glo "_law_clock_wait", .glo "law", .int "MOST_CLOCKS" 3, .int "MOST_MARKS" 24, .int "MOST_STROKES" 99, .int "MOST_NUMBER" 1000000000000000000000000000000, .free "bool", .free "enumerate", .free "int", .free "isinstance", .free "len", .free "max", .free "min", .free "range", .free "repr", .free "tuple", .free "zip"]
def loose0 : List PySem.Str := ["HearError", "BadBook", "BadLoss", "BadStart", "MOST_CLOCKS", "MOST_MARKS", "MOST_STROKES", "MOST_NUMBER", "is_integer", "is_whole", "book_fault", "need_book", "need_loss", "is_start", "need_start", "all_starts", "struck", "common_round", "rises_of", "reach_of", "longest_in", "wait_in", "wait_of", "worst_in", "worst_wait", "best_starts", "clock_wait", "_law_begin", "_law_next", "_law_pick"]
def loose1 : List PySem.Str := ["_law_clock", "_law_book", "_law_starts", "_law_strokes", "_law_loss", "_law_same", "_law_reach", "_law_wait", "_law_clock_wait"]
def loose : List PySem.Str := loose0 ++ loose1
abbrev R : PySem.W.OpenRow := PySem.W.OpenLaw.row PySem.Challenge.rw_strokesheard_k08_whole_waits
abbrev hk : PySem.W.Hook := He.hookD 4 fa fn
def ob (s : PySem.W.SharedT) : He.AlD := He.obsDG 4 fa fn (HandSHeadRun.getT s)
theorem ob_eq (s : PySem.W.SharedT) : ob s = hk.obs s.abs := He.obsDG_eq (HandSHeadRun.getT_eq s)
theorem run (w : World) : HandSHeadRun.RunEq R (PySem.W.view R.prog [44]) hk ob 6000 loose w := by
  intro os
  kernel_rfl
end K8

namespace K8
open PySem PySem.Spec PyProof.Rows L2 Z M
theorem consts {K : PySem.W.Frag} {h : Heap} {mg : Str → Option Value} (X : K.In h) (G : h.Ns mainGlobals mg) (c : He.SaysD fa fn K) : Cs mg :=
  ⟨He.free_ok X G (c.fact 36 (f := .free "bool") rfl),
   He.free_ok X G (c.fact 37 (f := .free "enumerate") rfl),
   He.free_ok X G (c.fact 38 (f := .free "int") rfl),
   He.free_ok X G (c.fact 39 (f := .free "isinstance") rfl),
   He.free_ok X G (c.fact 40 (f := .free "len") rfl),
   He.free_ok X G (c.fact 41 (f := .free "max") rfl),
   He.free_ok X G (c.fact 42 (f := .free "min") rfl),
   He.free_ok X G (c.fact 43 (f := .free "range") rfl),
   He.free_ok X G (c.fact 44 (f := .free "repr") rfl),
   He.free_ok X G (c.fact 45 (f := .free "tuple") rfl),
   He.free_ok X G (c.fact 46 (f := .free "zip") rfl),
   He.int_ok X G (c.fact 32 (f := .int "MOST_CLOCKS" 3) rfl),
   He.int_ok X G (c.fact 33 (f := .int "MOST_MARKS" 24) rfl),
   He.int_ok X G (c.fact 34 (f := .int "MOST_STROKES" 99) rfl),
   He.int_ok X G (c.fact 35 (f := .int "MOST_NUMBER" 1000000000000000000000000000000) rfl)⟩
theorem st_is_integer {K : PySem.W.Frag} {h : Heap} {mg : Str → Option Value} (X : K.In h) (G : h.Ns mainGlobals mg) (c : He.SaysD fa fn K) : Std K mg "is_integer" s_is_integer ["thing"] := by
  obtain ⟨fd, F⟩ := c.def_ 0 (d := d_is_integer) rfl
  exact ⟨fd, He.glo_ok X G (c.fact 0 (f := .glo "is_integer") rfl), F, F.bindsN fun _ _ _ _ _ _ us hl => match us, hl with | [_], _ => rfl⟩
theorem st_is_whole {K : PySem.W.Frag} {h : Heap} {mg : Str → Option Value} (X : K.In h) (G : h.Ns mainGlobals mg) (c : He.SaysD fa fn K) : Std K mg "is_whole" s_is_whole ["thing", "least", "most"] := by
  obtain ⟨fd, F⟩ := c.def_ 1 (d := d_is_whole) rfl
  exact ⟨fd, He.glo_ok X G (c.fact 1 (f := .glo "is_whole") rfl), F, F.bindsN fun _ _ _ _ _ _ us hl => match us, hl with | [_, _, _], _ => rfl⟩
theorem st_book_fault {K : PySem.W.Frag} {h : Heap} {mg : Str → Option Value} (X : K.In h) (G : h.Ns mainGlobals mg) (c : He.SaysD fa fn K) : Std K mg "book_fault" s_book_fault ["thing"] := by
  obtain ⟨fd, F⟩ := c.def_ 2 (d := d_book_fault) rfl
  exact ⟨fd, He.glo_ok X G (c.fact 2 (f := .glo "book_fault") rfl), F, F.bindsN fun _ _ _ _ _ _ us hl => match us, hl with | [_], _ => rfl⟩
theorem st_need_book {K : PySem.W.Frag} {h : Heap} {mg : Str → Option Value} (X : K.In h) (G : h.Ns mainGlobals mg) (c : He.SaysD fa fn K) : Std K mg "need_book" s_need_book ["thing"] := by
  obtain ⟨fd, F⟩ := c.def_ 3 (d := d_need_book) rfl
  exact ⟨fd, He.glo_ok X G (c.fact 3 (f := .glo "need_book") rfl), F, F.bindsN fun _ _ _ _ _ _ us hl => match us, hl with | [_], _ => rfl⟩
theorem st_need_loss {K : PySem.W.Frag} {h : Heap} {mg : Str → Option Value} (X : K.In h) (G : h.Ns mainGlobals mg) (c : He.SaysD fa fn K) : Std K mg "need_loss" s_need_loss ["thing"] := by
  obtain ⟨fd, F⟩ := c.def_ 4 (d := d_need_loss) rfl
  exact ⟨fd, He.glo_ok X G (c.fact 4 (f := .glo "need_loss") rfl), F, F.bindsN fun _ _ _ _ _ _ us hl => match us, hl with | [_], _ => rfl⟩
theorem st_is_start {K : PySem.W.Frag} {h : Heap} {mg : Str → Option Value} (X : K.In h) (G : h.Ns mainGlobals mg) (c : He.SaysD fa fn K) : Std K mg "is_start" s_is_start ["book", "thing"] := by
  obtain ⟨fd, F⟩ := c.def_ 5 (d := d_is_start) rfl
  exact ⟨fd, He.glo_ok X G (c.fact 5 (f := .glo "is_start") rfl), F, F.bindsN fun _ _ _ _ _ _ us hl => match us, hl with | [_, _], _ => rfl⟩
theorem st_need_start {K : PySem.W.Frag} {h : Heap} {mg : Str → Option Value} (X : K.In h) (G : h.Ns mainGlobals mg) (c : He.SaysD fa fn K) : Std K mg "need_start" s_need_start ["book", "thing"] := by
  obtain ⟨fd, F⟩ := c.def_ 6 (d := d_need_start) rfl
  exact ⟨fd, He.glo_ok X G (c.fact 6 (f := .glo "need_start") rfl), F, F.bindsN fun _ _ _ _ _ _ us hl => match us, hl with | [_, _], _ => rfl⟩
theorem st_all_starts {K : PySem.W.Frag} {h : Heap} {mg : Str → Option Value} (X : K.In h) (G : h.Ns mainGlobals mg) (c : He.SaysD fa fn K) : Std K mg "all_starts" s_all_starts ["book"] := by
  obtain ⟨fd, F⟩ := c.def_ 7 (d := d_all_starts) rfl
  exact ⟨fd, He.glo_ok X G (c.fact 7 (f := .glo "all_starts") rfl), F, F.bindsN fun _ _ _ _ _ _ us hl => match us, hl with | [_], _ => rfl⟩
theorem st_struck {K : PySem.W.Frag} {h : Heap} {mg : Str → Option Value} (X : K.In h) (G : h.Ns mainGlobals mg) (c : He.SaysD fa fn K) : Std K mg "struck" s_struck ["book", "start", "later"] := by
  obtain ⟨fd, F⟩ := c.def_ 8 (d := d_struck) rfl
  exact ⟨fd, He.glo_ok X G (c.fact 8 (f := .glo "struck") rfl), F, F.bindsN fun _ _ _ _ _ _ us hl => match us, hl with | [_, _, _], _ => rfl⟩
theorem st_common_round {K : PySem.W.Frag} {h : Heap} {mg : Str → Option Value} (X : K.In h) (G : h.Ns mainGlobals mg) (c : He.SaysD fa fn K) : Std K mg "common_round" s_common_round ["book", "one", "other"] := by
  obtain ⟨fd, F⟩ := c.def_ 9 (d := d_common_round) rfl
  exact ⟨fd, He.glo_ok X G (c.fact 9 (f := .glo "common_round") rfl), F, F.bindsN fun _ _ _ _ _ _ us hl => match us, hl with | [_, _, _], _ => rfl⟩
theorem st_rises_of {K : PySem.W.Frag} {h : Heap} {mg : Str → Option Value} (X : K.In h) (G : h.Ns mainGlobals mg) (c : He.SaysD fa fn K) : Std K mg "rises_of" s_rises_of ["book", "one", "other"] := by
  obtain ⟨fd, F⟩ := c.def_ 10 (d := d_rises_of) rfl
  exact ⟨fd, He.glo_ok X G (c.fact 10 (f := .glo "rises_of") rfl), F, F.bindsN fun _ _ _ _ _ _ us hl => match us, hl with | [_, _, _], _ => rfl⟩
theorem st_reach_of {K : PySem.W.Frag} {h : Heap} {mg : Str → Option Value} (X : K.In h) (G : h.Ns mainGlobals mg) (c : He.SaysD fa fn K) : Std K mg "reach_of" s_reach_of ["rises", "most"] := by
  obtain ⟨fd, F⟩ := c.def_ 11 (d := d_reach_of) rfl
  exact ⟨fd, He.glo_ok X G (c.fact 11 (f := .glo "reach_of") rfl), F, F.bindsN fun _ _ _ _ _ _ us hl => match us, hl with | [_, _], _ => rfl⟩
theorem st_longest_in {K : PySem.W.Frag} {h : Heap} {mg : Str → Option Value} (X : K.In h) (G : h.Ns mainGlobals mg) (c : He.SaysD fa fn K) : Std K mg "longest_in" s_longest_in ["book", "loss", "one", "other"] := by
  obtain ⟨fd, F⟩ := c.def_ 12 (d := d_longest_in) rfl
  exact ⟨fd, He.glo_ok X G (c.fact 12 (f := .glo "longest_in") rfl), F, F.bindsN fun _ _ _ _ _ _ us hl => match us, hl with | [_, _, _, _], _ => rfl⟩
theorem st_wait_in {K : PySem.W.Frag} {h : Heap} {mg : Str → Option Value} (X : K.In h) (G : h.Ns mainGlobals mg) (c : He.SaysD fa fn K) : Std K mg "wait_in" s_wait_in ["book", "loss", "start"] := by
  obtain ⟨fd, F⟩ := c.def_ 13 (d := d_wait_in) rfl
  exact ⟨fd, He.glo_ok X G (c.fact 13 (f := .glo "wait_in") rfl), F, F.bindsN fun _ _ _ _ _ _ us hl => match us, hl with | [_, _, _], _ => rfl⟩
theorem st_wait_of {K : PySem.W.Frag} {h : Heap} {mg : Str → Option Value} (X : K.In h) (G : h.Ns mainGlobals mg) (c : He.SaysD fa fn K) : Std K mg "wait_of" s_wait_of ["book", "loss", "start"] := by
  obtain ⟨fd, F⟩ := c.def_ 14 (d := d_wait_of) rfl
  exact ⟨fd, He.glo_ok X G (c.fact 14 (f := .glo "wait_of") rfl), F, F.bindsN fun _ _ _ _ _ _ us hl => match us, hl with | [_, _, _], _ => rfl⟩
theorem st_worst_in {K : PySem.W.Frag} {h : Heap} {mg : Str → Option Value} (X : K.In h) (G : h.Ns mainGlobals mg) (c : He.SaysD fa fn K) : Std K mg "worst_in" s_worst_in ["book", "loss"] := by
  obtain ⟨fd, F⟩ := c.def_ 15 (d := d_worst_in) rfl
  exact ⟨fd, He.glo_ok X G (c.fact 15 (f := .glo "worst_in") rfl), F, F.bindsN fun _ _ _ _ _ _ us hl => match us, hl with | [_, _], _ => rfl⟩
theorem st_worst_wait {K : PySem.W.Frag} {h : Heap} {mg : Str → Option Value} (X : K.In h) (G : h.Ns mainGlobals mg) (c : He.SaysD fa fn K) : Std K mg "worst_wait" s_worst_wait ["book", "loss"] := by
  obtain ⟨fd, F⟩ := c.def_ 16 (d := d_worst_wait) rfl
  exact ⟨fd, He.glo_ok X G (c.fact 16 (f := .glo "worst_wait") rfl), F, F.bindsN fun _ _ _ _ _ _ us hl => match us, hl with | [_, _], _ => rfl⟩
theorem st_best_starts {K : PySem.W.Frag} {h : Heap} {mg : Str → Option Value} (X : K.In h) (G : h.Ns mainGlobals mg) (c : He.SaysD fa fn K) : Std K mg "best_starts" s_best_starts ["book", "loss"] := by
  obtain ⟨fd, F⟩ := c.def_ 17 (d := d_best_starts) rfl
  exact ⟨fd, He.glo_ok X G (c.fact 17 (f := .glo "best_starts") rfl), F, F.bindsN fun _ _ _ _ _ _ us hl => match us, hl with | [_, _], _ => rfl⟩
theorem st_clock_wait {K : PySem.W.Frag} {h : Heap} {mg : Str → Option Value} (X : K.In h) (G : h.Ns mainGlobals mg) (c : He.SaysD fa fn K) : Std K mg "clock_wait" s_clock_wait ["book", "loss", "start"] := by
  obtain ⟨fd, F⟩ := c.def_ 18 (d := d_clock_wait) rfl
  exact ⟨fd, He.glo_ok X G (c.fact 18 (f := .glo "clock_wait") rfl), F, F.bindsN fun _ _ _ _ _ _ us hl => match us, hl with | [_, _, _], _ => rfl⟩
theorem st_q_begin {K : PySem.W.Frag} {h : Heap} {mg : Str → Option Value} (X : K.In h) (G : h.Ns mainGlobals mg) (c : He.SaysD fa fn K) : Std K mg "_law_begin" s_q_begin ["_law_script"] := by
  obtain ⟨fd, F⟩ := c.def_ 19 (d := d_q_begin) rfl
  exact ⟨fd, He.glo_ok X G (c.fact 19 (f := .glo "_law_begin") rfl), F, F.bindsN fun _ _ _ _ _ _ us hl => match us, hl with | [_], _ => rfl⟩
theorem st_q_next {K : PySem.W.Frag} {h : Heap} {mg : Str → Option Value} (X : K.In h) (G : h.Ns mainGlobals mg) (c : He.SaysD fa fn K) : Std K mg "_law_next" s_q_next ["_law_draw", "_law_many"] := by
  obtain ⟨fd, F⟩ := c.def_ 20 (d := d_q_next) rfl
  exact ⟨fd, He.glo_ok X G (c.fact 20 (f := .glo "_law_next") rfl), F, F.bindsN fun _ _ _ _ _ _ us hl => match us, hl with | [_, _], _ => rfl⟩
theorem st_q_pick {K : PySem.W.Frag} {h : Heap} {mg : Str → Option Value} (X : K.In h) (G : h.Ns mainGlobals mg) (c : He.SaysD fa fn K) : Std K mg "_law_pick" s_q_pick ["_law_draw", "_law_some"] := by
  obtain ⟨fd, F⟩ := c.def_ 21 (d := d_q_pick) rfl
  exact ⟨fd, He.glo_ok X G (c.fact 21 (f := .glo "_law_pick") rfl), F, F.bindsN fun _ _ _ _ _ _ us hl => match us, hl with | [_, _], _ => rfl⟩
theorem st_q_clock {K : PySem.W.Frag} {h : Heap} {mg : Str → Option Value} (X : K.In h) (G : h.Ns mainGlobals mg) (c : He.SaysD fa fn K) : Std K mg "_law_clock" s_q_clock ["_law_draw", "_law_size"] := by
  obtain ⟨fd, F⟩ := c.def_ 22 (d := d_q_clock) rfl
  exact ⟨fd, He.glo_ok X G (c.fact 22 (f := .glo "_law_clock") rfl), F, F.bindsN fun _ _ _ _ _ _ us hl => match us, hl with | [_, _], _ => rfl⟩
theorem st_q_book {K : PySem.W.Frag} {h : Heap} {mg : Str → Option Value} (X : K.In h) (G : h.Ns mainGlobals mg) (c : He.SaysD fa fn K) : Std K mg "_law_book" s_q_book ["_law_draw", "_law_size"] := by
  obtain ⟨fd, F⟩ := c.def_ 23 (d := d_q_book) rfl
  exact ⟨fd, He.glo_ok X G (c.fact 23 (f := .glo "_law_book") rfl), F, F.bindsN fun _ _ _ _ _ _ us hl => match us, hl with | [_, _], _ => rfl⟩
theorem st_q_starts {K : PySem.W.Frag} {h : Heap} {mg : Str → Option Value} (X : K.In h) (G : h.Ns mainGlobals mg) (c : He.SaysD fa fn K) : Std K mg "_law_starts" s_q_starts ["_law_shelf"] := by
  obtain ⟨fd, F⟩ := c.def_ 24 (d := d_q_starts) rfl
  exact ⟨fd, He.glo_ok X G (c.fact 24 (f := .glo "_law_starts") rfl), F, F.bindsN fun _ _ _ _ _ _ us hl => match us, hl with | [_], _ => rfl⟩
theorem st_q_strokes {K : PySem.W.Frag} {h : Heap} {mg : Str → Option Value} (X : K.In h) (G : h.Ns mainGlobals mg) (c : He.SaysD fa fn K) : Std K mg "_law_strokes" s_q_strokes ["_law_shelf", "_law_begin_so", "_law_later"] := by
  obtain ⟨fd, F⟩ := c.def_ 25 (d := d_q_strokes) rfl
  exact ⟨fd, He.glo_ok X G (c.fact 25 (f := .glo "_law_strokes") rfl), F, F.bindsN fun _ _ _ _ _ _ us hl => match us, hl with | [_, _, _], _ => rfl⟩
theorem st_q_loss {K : PySem.W.Frag} {h : Heap} {mg : Str → Option Value} (X : K.In h) (G : h.Ns mainGlobals mg) (c : He.SaysD fa fn K) : Std K mg "_law_loss" s_q_loss ["_law_draw"] := by
  obtain ⟨fd, F⟩ := c.def_ 26 (d := d_q_loss) rfl
  exact ⟨fd, He.glo_ok X G (c.fact 26 (f := .glo "_law_loss") rfl), F, F.bindsN fun _ _ _ _ _ _ us hl => match us, hl with | [_], _ => rfl⟩
theorem st_q_same {K : PySem.W.Frag} {h : Heap} {mg : Str → Option Value} (X : K.In h) (G : h.Ns mainGlobals mg) (c : He.SaysD fa fn K) : Std K mg "_law_same" s_q_same ["_law_shelf", "_law_one", "_law_other"] := by
  obtain ⟨fd, F⟩ := c.def_ 27 (d := d_q_same) rfl
  exact ⟨fd, He.glo_ok X G (c.fact 27 (f := .glo "_law_same") rfl), F, F.bindsN fun _ _ _ _ _ _ us hl => match us, hl with | [_, _, _], _ => rfl⟩
theorem st_q_reach {K : PySem.W.Frag} {h : Heap} {mg : Str → Option Value} (X : K.In h) (G : h.Ns mainGlobals mg) (c : He.SaysD fa fn K) : Std K mg "_law_reach" s_q_reach ["_law_shelf", "_law_one", "_law_other", "_law_bound"] := by
  obtain ⟨fd, F⟩ := c.def_ 28 (d := d_q_reach) rfl
  exact ⟨fd, He.glo_ok X G (c.fact 28 (f := .glo "_law_reach") rfl), F, F.bindsN fun _ _ _ _ _ _ us hl => match us, hl with | [_, _, _, _], _ => rfl⟩
theorem st_q_wait {K : PySem.W.Frag} {h : Heap} {mg : Str → Option Value} (X : K.In h) (G : h.Ns mainGlobals mg) (c : He.SaysD fa fn K) : Std K mg "_law_wait" s_q_wait ["_law_shelf", "_law_slack", "_law_begin_so"] := by
  obtain ⟨fd, F⟩ := c.def_ 29 (d := d_q_wait) rfl
  exact ⟨fd, He.glo_ok X G (c.fact 29 (f := .glo "_law_wait") rfl), F, F.bindsN fun _ _ _ _ _ _ us hl => match us, hl with | [_, _, _], _ => rfl⟩
theorem st_q_clock_wait {K : PySem.W.Frag} {h : Heap} {mg : Str → Option Value} (X : K.In h) (G : h.Ns mainGlobals mg) (c : He.SaysD fa fn K) : Std K mg "_law_clock_wait" s_q_clock_wait ["_law_shelf", "_law_slack", "_law_begin_so"] := by
  obtain ⟨fd, F⟩ := c.def_ 30 (d := d_q_clock_wait) rfl
  exact ⟨fd, He.glo_ok X G (c.fact 30 (f := .glo "_law_clock_wait") rfl), F, F.bindsN fun _ _ _ _ _ _ us hl => match us, hl with | [_, _, _], _ => rfl⟩
theorem facts {w : World} {K : PySem.W.Frag} {h : Heap} {mg : Str → Option Value} {fa' : Addr} (X : K.In h) (G : h.Ns mainGlobals mg) (hfa : mg ("law" : Str) = some (.ref fa')) (c : He.SaysD fa fn K) :
    ∃ (K : PySem.W.Frag) (fd : FuncData), K.In h ∧ Z.FnP K "law" s_law fa' fd ∧ (∀ (s : Shared) (u : Value), BindsTo s fd ⟨[u], []⟩ [("_law_script", u)]) ∧
      ∀ (base : Heap) (a : Addr) (ns : List Int) (H : Hp) (s : Shared) (cdv : Value), ns.length ≤ 63 → K.In base → base.Ns mainGlobals mg → Only H → SqL K H a (ns.map V.int) → Room 6 (callerA.deeper (envOfC "law" (defScope s_law) s.heap.objs.size fa' cdv)) →
        ∃ t, PSs (cxOf CX0 (PySem.Challenge.rw_strokesheard_k08_whole_waits).prog w K mg base N_law "law" (defScope s_law) fa' cdv callerA [] s H fun _ _ _ => False) (defBody s_law) t ∧ t { nx := fun _ _ => False, rt := fun v _ => v = .bl true } (start N_law [.ref a]) H := by
  obtain ⟨fd, F⟩ := c.def_ 31 (d := d_law) rfl
  have e := hfa.symm.trans (He.glo_ok X G (c.fact 31 (f := .glo "law") rfl))
  cases e
  have b := FunD.bindsA (ps := ["_law_script"]) F fun _ _ _ _ _ _ us hl => match us, hl with | [_], _ => rfl
  refine ⟨K, fd, X, F, fun s v => b s [v] rfl, fun base a ns H s cdv hl _ _ _ hS hr => ?_⟩
  have C := consts X G c
  have D_q_begin := ok_q_begin (P := (PySem.Challenge.rw_strokesheard_k08_whole_waits).prog) (w := w) (base := base) (C := C) (D := st_q_begin X G c)
  have D_q_next := ok_q_next (P := (PySem.Challenge.rw_strokesheard_k08_whole_waits).prog) (w := w) (base := base) (C := C) (D := st_q_next X G c)
  have D_q_pick := ok_q_pick (P := (PySem.Challenge.rw_strokesheard_k08_whole_waits).prog) (w := w) (base := base) (C := C) (D := st_q_pick X G c) (D_q_next := D_q_next)
  have D_q_starts := ok_q_starts (P := (PySem.Challenge.rw_strokesheard_k08_whole_waits).prog) (w := w) (base := base) (C := C) (D := st_q_starts X G c)
  have D_is_integer := ok_is_integer (P := (PySem.Challenge.rw_strokesheard_k08_whole_waits).prog) (w := w) (base := base) (C := C) (D := st_is_integer X G c)
  have D_is_whole := ok_is_whole (P := (PySem.Challenge.rw_strokesheard_k08_whole_waits).prog) (w := w) (base := base) (C := C) (D := st_is_whole X G c) (D_is_integer := D_is_integer)
  have D_book_fault := ok_book_fault (P := (PySem.Challenge.rw_strokesheard_k08_whole_waits).prog) (w := w) (base := base) (C := C) (D := st_book_fault X G c) (D_is_whole := D_is_whole)
  have D_need_book := ok_need_book (P := (PySem.Challenge.rw_strokesheard_k08_whole_waits).prog) (w := w) (base := base) (C := C) (D := st_need_book X G c) (D_book_fault := D_book_fault)
  have D_reach_of := ok_reach_of (P := (PySem.Challenge.rw_strokesheard_k08_whole_waits).prog) (w := w) (base := base) (C := C) (D := st_reach_of X G c)
  have D_common_round := ok_common_round (P := (PySem.Challenge.rw_strokesheard_k08_whole_waits).prog) (w := w) (base := base) (C := C) (D := st_common_round X G c)
  have D_struck := ok_struck (P := (PySem.Challenge.rw_strokesheard_k08_whole_waits).prog) (w := w) (base := base) (C := C) (D := st_struck X G c)
  have D_rises_of := ok_rises_of (P := (PySem.Challenge.rw_strokesheard_k08_whole_waits).prog) (w := w) (base := base) (C := C) (D := st_rises_of X G c) (D_common_round := D_common_round) (D_struck := D_struck)
  have D_longest_in := ok_longest_in (P := (PySem.Challenge.rw_strokesheard_k08_whole_waits).prog) (w := w) (base := base) (C := C) (D := st_longest_in X G c) (D_reach_of := D_reach_of) (D_rises_of := D_rises_of)
  have D_all_starts := ok_all_starts (P := (PySem.Challenge.rw_strokesheard_k08_whole_waits).prog) (w := w) (base := base) (C := C) (D := st_all_starts X G c)
  have D_wait_in := ok_wait_in (P := (PySem.Challenge.rw_strokesheard_k08_whole_waits).prog) (w := w) (base := base) (C := C) (D := st_wait_in X G c) (D_longest_in := D_longest_in) (D_all_starts := D_all_starts)
  have D_worst_in := ok_worst_in (P := (PySem.Challenge.rw_strokesheard_k08_whole_waits).prog) (w := w) (base := base) (C := C) (D := st_worst_in X G c) (D_wait_in := D_wait_in) (D_all_starts := D_all_starts)
  have D_need_loss := ok_need_loss (P := (PySem.Challenge.rw_strokesheard_k08_whole_waits).prog) (w := w) (base := base) (C := C) (D := st_need_loss X G c) (D_is_whole := D_is_whole)
  have D_worst_wait := ok_worst_wait (P := (PySem.Challenge.rw_strokesheard_k08_whole_waits).prog) (w := w) (base := base) (C := C) (D := st_worst_wait X G c) (D_need_book := D_need_book) (D_worst_in := D_worst_in) (D_need_loss := D_need_loss)
  have D_best_starts := ok_best_starts (P := (PySem.Challenge.rw_strokesheard_k08_whole_waits).prog) (w := w) (base := base) (C := C) (D := st_best_starts X G c) (D_need_book := D_need_book) (D_need_loss := D_need_loss) (D_wait_in := D_wait_in) (D_all_starts := D_all_starts)
  have D_q_clock := ok_q_clock (P := (PySem.Challenge.rw_strokesheard_k08_whole_waits).prog) (w := w) (base := base) (C := C) (D := st_q_clock X G c) (D_q_next := D_q_next) (D_q_pick := D_q_pick)
  have D_q_book := ok_q_book (P := (PySem.Challenge.rw_strokesheard_k08_whole_waits).prog) (w := w) (base := base) (C := C) (D := st_q_book X G c) (D_q_clock := D_q_clock) (D_q_next := D_q_next)
  have D_q_loss := ok_q_loss (P := (PySem.Challenge.rw_strokesheard_k08_whole_waits).prog) (w := w) (base := base) (C := C) (D := st_q_loss X G c) (D_q_next := D_q_next) (D_q_pick := D_q_pick)
  have D_q_strokes := ok_q_strokes (P := (PySem.Challenge.rw_strokesheard_k08_whole_waits).prog) (w := w) (base := base) (C := C) (D := st_q_strokes X G c)
  have D_q_same := ok_q_same (P := (PySem.Challenge.rw_strokesheard_k08_whole_waits).prog) (w := w) (base := base) (C := C) (D := st_q_same X G c) (D_q_strokes := D_q_strokes)
  have D_q_reach := ok_q_reach (P := (PySem.Challenge.rw_strokesheard_k08_whole_waits).prog) (w := w) (base := base) (C := C) (D := st_q_reach X G c) (D_q_same := D_q_same) (D_q_strokes := D_q_strokes)
  have D_q_wait := ok_q_wait (P := (PySem.Challenge.rw_strokesheard_k08_whole_waits).prog) (w := w) (base := base) (C := C) (D := st_q_wait X G c) (D_q_reach := D_q_reach) (D_q_starts := D_q_starts)
  have D_is_start := ok_is_start (P := (PySem.Challenge.rw_strokesheard_k08_whole_waits).prog) (w := w) (base := base) (C := C) (D := st_is_start X G c) (D_is_whole := D_is_whole)
  have D_need_start := ok_need_start (P := (PySem.Challenge.rw_strokesheard_k08_whole_waits).prog) (w := w) (base := base) (C := C) (D := st_need_start X G c) (D_is_start := D_is_start)
  have D_wait_of := ok_wait_of (P := (PySem.Challenge.rw_strokesheard_k08_whole_waits).prog) (w := w) (base := base) (C := C) (D := st_wait_of X G c) (D_need_book := D_need_book) (D_need_loss := D_need_loss) (D_wait_in := D_wait_in) (D_need_start := D_need_start)
  have D_clock_wait := ok_clock_wait (P := (PySem.Challenge.rw_strokesheard_k08_whole_waits).prog) (w := w) (base := base) (C := C) (D := st_clock_wait X G c) (D_need_book := D_need_book) (D_need_loss := D_need_loss) (D_need_start := D_need_start) (D_longest_in := D_longest_in) (D_all_starts := D_all_starts)
  have D_q_clock_wait := ok_q_clock_wait (P := (PySem.Challenge.rw_strokesheard_k08_whole_waits).prog) (w := w) (base := base) (C := C) (D := st_q_clock_wait X G c) (D_q_reach := D_q_reach) (D_q_starts := D_q_starts)
  exact ok_law (C := C) (D_q_begin := D_q_begin) (D_q_pick := D_q_pick) (D_q_starts := D_q_starts) (D_worst_wait := D_worst_wait) (D_best_starts := D_best_starts) (D_q_book := D_q_book) (D_q_loss := D_q_loss) (D_q_wait := D_q_wait) (D_wait_of := D_wait_of) (D_clock_wait := D_clock_wait) (D_q_clock_wait := D_q_clock_wait) hr rfl hS hl
end K8
open PySem PySem.W PySem.Calls PyProof.Rows
theorem PySem.Challenge.cw_strokesheard_k08_whole_waits_holds : PySem.Challenge.rw_strokesheard_k08_whole_waits.Holds := by
  w_on; o_law
  refine HandSHeadRun.head_any (r := OpenLaw.row PySem.Challenge.rw_strokesheard_k08_whole_waits) (q := view (OpenLaw.row PySem.Challenge.rw_strokesheard_k08_whole_waits).prog [44]) (H := K8.hk) (ob := K8.ob) (M := 6000) (loose := K8.loose) (d := HandSHeadRun.topDef (OpenLaw.row PySem.Challenge.rw_strokesheard_k08_whole_waits).prog 44) (kwd := []) K8.ob_eq
    (by kernel_rfl) (fun s => by kernel_rfl) K8.run (by kernel_rfl) (by kernel_rfl) (by kernel_rfl) (by rfl) (by first | assumption | decide +kernel) (by decide +kernel) ⟨rfl, rfl, rfl, rfl, rfl, by decide +kernel⟩ ?hw ?hc
  case hw => w_witness2
  case hc =>
    refine Z.law_end (l := PySem.Challenge.rw_strokesheard_k08_whole_waits) (n := 63) (k := 6) (x := "_law_script") (nm := "law") (st := K8.s_law) (N := K8.N_law) rfl (by decide) (by kernel_rfl) ⟨rfl, by decide, by decide⟩ K8.sc_law ?_
    intro w mg fa h Y G hmg0
    obtain ⟨K, KX, c⟩ := Y
    have hmg : mg ("law" : PySem.Str) = some (.ref fa) := by
      have e : (HandSHeadRun.topDef (OpenLaw.row PySem.Challenge.rw_strokesheard_k08_whole_waits).prog 44).name = ("law" : PySem.Str) := by kernel_rfl
      rw [← e]
      exact hmg0
    exact K8.facts KX G hmg c
