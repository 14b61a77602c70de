import PyProof.Rows.All
import Wide.All
import OpenK.AllK
import Wide.FinOn
import HandS.ForMost
import HandS.IsInst
import HandS.TupAny
import HandS.Deep
import HandS.SortInts
import HandS.Conv
import HandS.Style
import HandS.More
import HandS.ForExc
import HandS.ExcIs
import HandS.HotCalls
import KE.DataFind
import KE.KDictSum
import HandS.Dict
import PySem.Challenge.RW_stealyard_k01_plans_checked
set_option Elab.async false
set_option linter.all false
set_option maxRecDepth 100000
set_option maxHeartbeats 2000000
set_option autoImplicit false
/-! Pu: pure data (PyData) held by the heap, expressions and statements as plain functions of it. -/
namespace Pu
open PySem PySem.Spec PyProof.Rows L2

abbrev D := PyData
abbrev Sl := List (Option D)
abbrev MS := Addr → Prop
abbrev St := L2.St
def lim : Nat := 1000000
theorem lim_le : lim ≤ sizeLine := by rw [sizeLine_eq]; decide

mutual
/-- v stands for the datum d, no object of M on the way -/
inductive Rp (M : MS) (H : Hp) : V → D → Prop
  | non : Rp M H .non .none
  | bl (b : Bool) : Rp M H (.bl b) (.bool b)
  | int (i : Int) : Rp M H (.int i) (.int i)
  | str (x : Str) : Rp M H (.str x) (.str x)
  | lst {a : Addr} {xs : List V} {ds : List D} : H a = some (.lst xs) → ¬ M a → RpAll M H xs ds → Rp M H (.ref a) (.list ds)
  | tup {a : Addr} {xs : List V} {ds : List D} : H a = some (.tup xs) → ¬ M a → RpAll M H xs ds → Rp M H (.ref a) (.tuple ds)
inductive RpAll (M : MS) (H : Hp) : List V → List D → Prop
  | nil : RpAll M H [] []
  | cons {v : V} {vs : List V} {d : D} {ds : List D} : Rp M H v d → RpAll M H vs ds → RpAll M H (v :: vs) (d :: ds)
end

mutual
theorem Rp.mono {M M' : MS} {H H' : Hp} (k : ∀ a o, ¬ M a → H a = some o → ¬ M' a ∧ H' a = some o) : ∀ (d : D) (v : V), Rp M H v d → Rp M' H' v d
  | .none, _, h => by cases h; exact .non
  | .bool b, _, h => by cases h; exact .bl b
  | .int i, _, h => by cases h; exact .int i
  | .str x, _, h => by cases h; exact .str x
  | .list ds, _, h => by
    cases h with
    | lst e n r => exact .lst (k _ _ n e).2 (k _ _ n e).1 (RpAll.mono k ds _ r)
  | .tuple ds, _, h => by
    cases h with
    | tup e n r => exact .tup (k _ _ n e).2 (k _ _ n e).1 (RpAll.mono k ds _ r)
  | .dict _, _, h => by cases h
theorem RpAll.mono {M M' : MS} {H H' : Hp} (k : ∀ a o, ¬ M a → H a = some o → ¬ M' a ∧ H' a = some o) : ∀ (ds : List D) (vs : List V), RpAll M H vs ds → RpAll M' H' vs ds
  | [], _, h => by cases h; exact .nil
  | d :: ds, _, h => by
    cases h with
    | cons h1 h2 => exact .cons (Rp.mono k d _ h1) (RpAll.mono k ds _ h2)
end
mutual
theorem Rp.dp {K : PySem.W.Frag} {M : MS} {H : Hp} : ∀ (d : D) (v : V), Rp M H v d → Dp K H v d
  | .none, _, h => by cases h; exact .non
  | .bool b, _, h => by cases h; exact .bl b
  | .int i, _, h => by cases h; exact .int i
  | .str x, _, h => by cases h; exact .str x
  | .list ds, _, h => by
    cases h with
    | lst e n r => exact .lst (SqL.of e) (RpAll.dp ds _ r)
  | .tuple ds, _, h => by
    cases h with
    | tup e n r => exact .tup (SqT.of e) (RpAll.dp ds _ r)
  | .dict _, _, h => by cases h
theorem RpAll.dp {K : PySem.W.Frag} {M : MS} {H : Hp} : ∀ (ds : List D) (vs : List V), RpAll M H vs ds → DpAll K H vs ds
  | [], _, h => by cases h; exact .nil
  | d :: ds, _, h => by
    cases h with
    | cons h1 h2 => exact .cons (Rp.dp d _ h1) (RpAll.dp ds _ h2)
end

theorem Same.new {H : Hp} {p : Addr} {o : HO} (h : H p = none) : Same H (upd H p o) := fun a u e => by
  rw [upd_ne (ne_of_none e h)]
  exact e

section
variable {M : MS} {H H' : Hp} {v x y : V} {vs ws : List V} {d e : D} {ds es : List D}
theorem Rp.same (h : Rp M H v d) (s : Same H H') : Rp M H' v d := h.mono (fun a o n q => ⟨n, s a o q⟩) d v
theorem RpAll.same (h : RpAll M H vs ds) (s : Same H H') : RpAll M H' vs ds := h.mono (fun a o n q => ⟨n, s a o q⟩) ds vs
theorem RpAll.length (h : RpAll M H vs ds) : vs.length = ds.length := by
  induction ds generalizing vs with
  | nil => cases h; rfl
  | cons d ds ih => cases h with | cons h1 h2 => rw [List.length_cons, List.length_cons, ih h2]
theorem RpAll.get (h : RpAll M H vs ds) {i : Nat} (g : ds[i]? = some d) : ∃ v, vs[i]? = some v ∧ Rp M H v d := by
  induction ds generalizing vs i with
  | nil => simp at g
  | cons d0 ds ih =>
    cases h with
    | cons h1 h2 =>
      cases i with
      | zero => simp at g; subst g; exact ⟨_, rfl, h1⟩
      | succ i => obtain ⟨w, e1, e2⟩ := ih h2 (i := i) (by simpa using g); exact ⟨w, by simpa using e1, e2⟩
theorem RpAll.get' (h : RpAll M H vs ds) {i : Nat} (g : vs[i]? = some v) : ∃ d, ds[i]? = some d ∧ Rp M H v d := by
  have hl := h.length
  have hi : i < vs.length := (List.getElem?_eq_some_iff.mp g).1
  have e : ds[i]? = some (ds[i]'(by omega)) := List.getElem?_eq_getElem (by omega)
  obtain ⟨w, e1, e2⟩ := h.get e
  rw [g] at e1; cases e1
  exact ⟨_, e, e2⟩
theorem RpAll.append (h : RpAll M H vs ds) (h' : RpAll M H ws es) : RpAll M H (vs ++ ws) (ds ++ es) := by
  induction ds generalizing vs with
  | nil => cases h; exact h'
  | cons d ds ih => cases h with | cons h1 h2 => exact .cons h1 (ih h2)
theorem RpAll.take (h : RpAll M H vs ds) : ∀ n, RpAll M H (vs.take n) (ds.take n) := by
  induction ds generalizing vs with
  | nil => cases h; intro n; simp; exact .nil
  | cons d ds ih =>
    cases h with
    | cons h1 h2 =>
      intro n
      cases n with
      | zero => exact .nil
      | succ n => exact .cons h1 (ih h2 n)
theorem RpAll.drop (h : RpAll M H vs ds) : ∀ n, RpAll M H (vs.drop n) (ds.drop n) := by
  induction ds generalizing vs with
  | nil => cases h; intro n; simp; exact .nil
  | cons d ds ih =>
    cases h with
    | cons h1 h2 =>
      intro n
      cases n with
      | zero => exact .cons h1 h2
      | succ n => exact ih h2 n
theorem RpAll.flat (h : RpAll M H vs ds) : ∀ k : Nat, RpAll M H (List.replicate k vs).flatten (List.replicate k ds).flatten
  | 0 => .nil
  | k + 1 => by rw [List.replicate_succ, List.replicate_succ, List.flatten_cons, List.flatten_cons]; exact h.append (RpAll.flat h k)
theorem RpAll.snoc (h : RpAll M H vs ds) (h' : Rp M H v d) : RpAll M H (vs ++ [v]) (ds ++ [d]) := h.append (.cons h' .nil)
theorem RpAll.ints {ns : List Int} (h : RpAll M H vs (ns.map .int)) : vs = ns.map .int := by
  induction ns generalizing vs with
  | nil => cases h; rfl
  | cons n ns ih => cases h with | cons h1 h2 => cases h1; rw [ih h2]; rfl
theorem RpAll.of_ints (ns : List Int) : RpAll M H (ns.map .int) (ns.map .int) := by
  induction ns with
  | nil => exact .nil
  | cons n ns ih => exact .cons (.int n) ih
theorem RpAll.bls {ns : List Bool} (h : RpAll M H vs (ns.map .bool)) : vs = ns.map .bl := by
  induction ns generalizing vs with
  | nil => cases h; rfl
  | cons n ns ih => cases h with | cons h1 h2 => cases h1; rw [ih h2]; rfl
end

def Ok (M : MS) (H : Hp) : Prop := ∀ a, M a → H a ≠ none
theorem Ok.none (H : Hp) : Ok (fun _ => False) H := fun _ h => h.elim
theorem Ok.same {M : MS} {H H' : Hp} (o : Ok M H) (s : Same H H') : Ok M H' := fun a m => by
  cases h : H a with
  | none => exact absurd h (o a m)
  | some u => rw [s a u h]; simp
/-- slots as data; none: not told -/
structure SlD (M : MS) (H : Hp) (σ : St) (ds : Sl) : Prop where
  len : σ.length = ds.length
  get : ∀ (i : Nat) (d : D), ds[i]? = some (some d) → ∃ v, σ[i]? = some (some v) ∧ Rp M H v d
theorem SlD.same {M : MS} {H H' : Hp} {σ : St} {ds : Sl} (h : SlD M H σ ds) (s : Same H H') : SlD M H' σ ds := ⟨h.len, fun i d g => by
  obtain ⟨v, e, r⟩ := h.get i d g
  exact ⟨v, e, r.same s⟩⟩
theorem SlD.mono {M M' : MS} {H H' : Hp} {σ : St} {ds : Sl} (k : ∀ a o, ¬ M a → H a = some o → ¬ M' a ∧ H' a = some o) (h : SlD M H σ ds) : SlD M' H' σ ds := ⟨h.len, fun i d g => by
  obtain ⟨v, e, r⟩ := h.get i d g
  exact ⟨v, e, r.mono k d v⟩⟩
theorem SlD.set {M : MS} {H : Hp} {σ : St} {ds : Sl} {v : V} {d : D} (h : SlD M H σ ds) (i : Nat) (r : Rp M H v d) : SlD M H (σ.set i (some v)) (ds.set i (some d)) := ⟨by rw [List.length_set, List.length_set]; exact h.len, fun j e g => by
  by_cases hj : i = j
  · subst hj
    by_cases hi : i < ds.length
    · rw [List.getElem?_set_self hi] at g
      cases g
      exact ⟨v, List.getElem?_set_self (by rw [h.len]; exact hi), r⟩
    · rw [List.getElem?_eq_none (by simpa using hi)] at g; cases g
  · rw [List.getElem?_set_ne hj] at g ⊢
    exact h.get j e g⟩
theorem SlD.unset {M : MS} {H : Hp} {σ : St} {ds : Sl} (h : SlD M H σ ds) (i : Nat) (w : Option V) : SlD M H (σ.set i w) (ds.set i none) := ⟨by rw [List.length_set, List.length_set]; exact h.len, fun j e g => by
  by_cases hj : i = j
  · subst hj
    by_cases hi : i < ds.length
    · rw [List.getElem?_set_self hi] at g; cases g
    · rw [List.getElem?_eq_none (by simpa using hi)] at g; cases g
  · rw [List.getElem?_set_ne hj] at g ⊢
    exact h.get j e g⟩
theorem SlD.start {M : MS} {H : Hp} {vs : List V} {ds : List D} (h : RpAll M H vs ds) (N : List Str) : SlD M H (start N vs) (ds.map some ++ List.replicate (N.length - ds.length) none) := by
  have hl := h.length
  refine ⟨by unfold L2.start; simp [hl], fun i d g => ?_⟩
  have hi : i < ds.length := by
    by_cases hi : i < ds.length
    · exact hi
    · rw [List.getElem?_append_right (by simpa using hi), List.getElem?_replicate] at g
      split at g <;> cases g
  rw [List.getElem?_append_left (by simpa using hi), List.getElem?_map] at g
  cases e : ds[i]? with
  | none => rw [e] at g; cases g
  | some d' =>
    rw [e] at g
    cases g
    obtain ⟨v, e1, e2⟩ := h.get e
    refine ⟨v, ?_, e2⟩
    unfold L2.start
    rw [List.getElem?_append_left (by rw [List.length_map, hl]; exact hi), List.getElem?_map, e1]
    rfl

/-! ### readings that are functions -/
def tP (f : Sl → Option D) : TE := fun σ H Q => ∃ (M : MS) (ds : Sl) (d : D), Ok M H ∧ SlD M H σ ds ∧ f ds = some d ∧ ∀ v H', Same H H' → Rp M H' v d → Q v H'
def tPA (f : Sl → Option (List D)) : TA := fun σ H Q => ∃ (M : MS) (ds : Sl) (l : List D), Ok M H ∧ SlD M H σ ds ∧ f ds = some l ∧ ∀ vs H', Same H H' → RpAll M H' vs l → Q vs H'
def tPT (f : Sl → Option Bool) : TT := fun σ H Q => ∃ (M : MS) (ds : Sl) (b : Bool), Ok M H ∧ SlD M H σ ds ∧ f ds = some b ∧ ∀ H', Same H H' → Q b H'
def tPO (f : Sl → Option (Option Int)) : TO := fun σ H Q => ∃ (M : MS) (ds : Sl) (b : Option Int), Ok M H ∧ SlD M H σ ds ∧ f ds = some b ∧ ∀ H', Same H H' → Q b H'

section
variable {X : Cx} {e : Expr} {t t' : TE}
theorem pe_of (h : PE X e t) (k : ∀ σ H Q, t' σ H Q → t σ H Q) : PE X e t' := ⟨fun pins s σ H Q I q => h.run pins s σ H Q I (k σ H Q q)⟩
theorem pa_of {es : List Expr} {t t' : TA} (h : PA X es t) (k : ∀ σ H Q, t' σ H Q → t σ H Q) : PA X es t' := ⟨fun pos pins s σ H Q I q => h.run pos pins s σ H Q I (k σ H Q q)⟩
theorem pt_of {t t' : TT} (h : PT X e t) (k : ∀ σ H Q, t' σ H Q → t σ H Q) : PT X e t' := ⟨fun pins s σ H Q I q => h.run pins s σ H Q I (k σ H Q q)⟩
theorem pw_of {t t' : TT} (h : PW X e t) (k : ∀ σ H Q, t' σ H Q → t σ H Q) : PW X e t' := ⟨fun wh pins s σ H Q I q => h.run wh pins s σ H Q I (k σ H Q q)⟩
theorem po_of {e : Option Expr} {t t' : TO} (h : PO X e t) (k : ∀ σ H Q, t' σ H Q → t σ H Q) : PO X e t' := ⟨fun pins s σ H Q I q => h.run pins s σ H Q I (k σ H Q q)⟩
theorem ps_of {st : Stmt} {t t' : TS} (h : PS X st t) (k : ∀ D σ H, t' D σ H → t D σ H) : PS X st t' := ⟨fun pins s σ H D I q => h.run pins s σ H D I (k D σ H q)⟩
theorem pss_of {st : List Stmt} {t t' : TS} (h : PSs X st t) (k : ∀ D σ H, t' D σ H → t D σ H) : PSs X st t' := ⟨fun pins s σ H D I q => h.run pins s σ H D I (k D σ H q)⟩
end

/-! ### names and constants -/
def eVar (i : Nat) : Sl → Option D := fun ds => (ds[i]?).join
def eC (d : D) : Sl → Option D := fun _ => some d
section
variable {X : Cx} {e : Expr} {pos : Pos}
theorem pd_name (i : Nat) {x : Str} {pos : Pos} (hN : X.N[i]? = some x := by rfl) (hv : Vis X.env.scope x := by first | exact Or.inl rfl | exact Or.inr (Or.inl rfl) | exact Or.inr (Or.inr rfl)) (hd : (x == ("__debug__" : Str)) = false := by decide)
    (hcd : (x == ("__classdict__" : Str)) = false := by decide) : PE X (.Name x pos) (tP (eVar i)) := pe_of (pe_var hN hv hd hcd) fun σ H Q ⟨M, ds, d, o, s, e, q⟩ => by
  have e' : ds[i]? = some (some d) := by
    unfold eVar at e
    cases h : ds[i]? with
    | none => rw [h] at e; cases e
    | some u => rw [h] at e; cases u with
      | none => cases e
      | some d' => cases e; rfl
  obtain ⟨v, h1, h2⟩ := s.get i d e'
  exact ⟨v, h1, q v H (Same.refl H) h2⟩
theorem pd_c {v : V} {d : D} (h : PE X e (tC v)) (r : ∀ M H, Rp M H v d) : PE X e (tP (eC d)) := pe_of h fun σ H Q ⟨M, ds, d', o, s, e, q⟩ => by
  cases e
  exact q v H (Same.refl H) (r M H)
theorem pd_int {i j pos} : PE X (.Constant (.int i) j pos) (tP (eC (.int i))) := pd_c pe_int fun _ _ => .int i
theorem pd_bl {b j pos} : PE X (.Constant (.bool b) j pos) (tP (eC (.bool b))) := pd_c pe_bl fun _ _ => .bl b
theorem pd_non {j pos} : PE X (.Constant .none j pos) (tP (eC .none)) := pd_c pe_non fun _ _ => .non
theorem pd_str {x j pos} : PE X (.Constant (.str x) j pos) (tP (eC (.str x))) := pd_c pe_str fun _ _ => .str x
end

/-! ### operators -/
def OpS (r : R2) (o : D → D → Option D) : Prop := ∀ (M : MS) (H : Hp) (x y : V) (dx dy d : D) (Q : VK), Ok M H → Rp M H x dx → Rp M H y dy → o dx dy = some d → (∀ v H', Same H H' → Rp M H' v d → Q v H') → r x y H Q
def eOp (o : D → D → Option D) (f g : Sl → Option D) : Sl → Option D := fun ds => (f ds).bind fun x => (g ds).bind fun y => o x y
def UnS (r : V → Hp → VK → Prop) (o : D → Option D) : Prop := ∀ (M : MS) (H : Hp) (x : V) (dx d : D) (Q : VK), Ok M H → Rp M H x dx → o dx = some d → (∀ v H', Same H H' → Rp M H' v d → Q v H') → r x H Q
def eUn (o : D → Option D) (f : Sl → Option D) : Sl → Option D := fun ds => (f ds).bind o
theorem bind_some {α β : Type} {x : Option α} {f : α → Option β} {b : β} (h : x.bind f = some b) : ∃ a, x = some a ∧ f a = some b := by
  cases x with
  | none => cases h
  | some a => exact ⟨a, rfl, h⟩
theorem tOp_of {r : R2} {o : D → D → Option D} {f g : Sl → Option D} (hs : OpS r o) : ∀ σ H Q, tP (eOp o f g) σ H Q → tOp r (tP f) (tP g) σ H Q := fun σ H Q ⟨M, ds, d, ok, s, e, q⟩ => by
  obtain ⟨x, e1, e⟩ := bind_some e
  obtain ⟨y, e2, e3⟩ := bind_some e
  refine ⟨M, ds, x, ok, s, e1, fun v H1 s1 r1 => ⟨M, ds, y, ok.same s1, s.same s1, e2, fun w H2 s2 r2 => ?_⟩⟩
  exact hs M H2 v w x y d Q ((ok.same s1).same s2) (r1.same s2) r2 e3 fun u H3 s3 r3 => q u H3 ((s1.trans s2).trans s3) r3
theorem tUn_of {r : V → Hp → VK → Prop} {o : D → Option D} {f : Sl → Option D} (hs : UnS r o) : ∀ σ H Q, tP (eUn o f) σ H Q → tUn r (tP f) σ H Q := fun σ H Q ⟨M, ds, d, ok, s, e, q⟩ => by
  obtain ⟨x, e1, e3⟩ := bind_some e
  exact ⟨M, ds, x, ok, s, e1, fun v H1 s1 r1 => hs M H1 v x d Q (ok.same s1) r1 e3 fun u H3 s3 r3 => q u H3 (s1.trans s3) r3⟩
section
variable {X : Cx} {a b c : Expr} {f g h : Sl → Option D} {pos : Pos}
theorem pd_op {op : Operator} {r : R2} {o : D → D → Option D} (ho : OpR X (binaryOp op) r) (hs : OpS r o) (ha : PE X a (tP f)) (hb : PE X b (tP g)) : PE X (.BinOp a op b pos) (tP (eOp o f g)) := pe_of (pe_op ho ha hb) (tOp_of hs)
theorem pd_cmp {op : CmpOp} {r : R2} {o : D → D → Option D} (ho : OpR X (compareOp op) r) (hs : OpS r o) (ha : PE X a (tP f)) (hb : PE X b (tP g)) (hm : behindInMarks op b = false) : PE X (.Compare a [op] [b] pos) (tP (eOp o f g)) := pe_of (pe_cmpR ho ha hb hm) (tOp_of hs)
theorem pd_un {op : UnaryOp} {r : V → Hp → VK → Prop} {o : D → Option D} (ho : UnR X (unaryOp op) r) (hs : UnS r o) (ha : PE X a (tP f)) : PE X (.UnaryOp op a pos) (tP (eUn o f)) := pe_of (pe_un ho ha) (tUn_of hs)
/-- a test: the answer must be a truth value -/
def bT (f : Sl → Option D) : Sl → Option Bool := fun ds => (f ds).bind fun d => match d with
  | .bool b => some b
  | _ => none
theorem bT_some {ds : Sl} {k : Bool} (e : bT f ds = some k) : f ds = some (.bool k) := by
  obtain ⟨d, e1, e2⟩ := bind_some e
  rw [e1]
  split at e2
  · cases e2; rfl
  · cases e2
theorem ptd_cmp {op : CmpOp} {r : R2} {o : D → D → Option D} (ho : OpR X (compareOp op) r) (hs : OpS r o) (ha : PE X a (tP f)) (hb : PE X b (tP g)) (hm : behindInMarks op b = false) : PT X (.Compare a [op] [b] pos) (tPT (bT (eOp o f g))) :=
  pt_of (pt_cmpR ho ha hb hm) fun σ H Q ⟨M, ds, k, ok, s, e, q⟩ => tOp_of hs σ H _ ⟨M, ds, .bool k, ok, s, bT_some e, fun v H' s' r => by cases r; exact ⟨k, rfl, q H' s'⟩⟩
theorem ptd_val {e : Expr} (h : PE X e (tP f)) (he : ∀ whole, isTrue e X.env whole = (do let v ← whole; standAt e.pos; holding [v] (truthy v)) := by intro _; rfl) : PT X e (tPT (bT f)) :=
  pt_of (pt_val h he) fun σ H Q ⟨M, ds, k, ok, s, e, q⟩ => ⟨M, ds, .bool k, ok, s, bT_some e, fun v H' s' r => by cases r; exact ⟨k, rfl, q H' s'⟩⟩
/-- a op b op' c -/
def eChain (o o' : D → D → Option D) (f g h : Sl → Option D) : Sl → Option D := fun ds => (f ds).bind fun x => (g ds).bind fun y => (o x y).bind fun k => match k with
  | .bool true => (h ds).bind fun z => o' y z
  | .bool false => some (.bool false)
  | _ => none
theorem chain_of {r r' : R2} {o o' : D → D → Option D} (hs : OpS r o) (hs' : OpS r' o') : ∀ σ H Q, tP (eChain o o' f g h) σ H Q → tChain r r' (tP f) (tP g) (tP h) σ H Q := fun σ H Q ⟨M, ds, d, ok, s, e, q⟩ => by
  obtain ⟨x, e1, e⟩ := bind_some e
  obtain ⟨y, e2, e⟩ := bind_some e
  obtain ⟨k, e3, e⟩ := bind_some e
  refine ⟨M, ds, x, ok, s, e1, fun v H1 s1 r1 => ⟨M, ds, y, ok.same s1, s.same s1, e2, fun w H2 s2 r2 => ?_⟩⟩
  refine hs M H2 v w x y k _ ((ok.same s1).same s2) (r1.same s2) r2 e3 fun u H3 s3 r3 => ?_
  have ss := (s1.trans s2).trans s3
  split at e
  · cases r3
    refine ⟨true, rfl, ?_⟩
    rw [if_pos rfl]
    obtain ⟨z, e4, e5⟩ := bind_some e
    exact ⟨M, ds, z, ok.same ss, s.same ss, e4, fun t H4 s4 r4 => hs' M H4 w t y z d Q ((ok.same ss).same s4) ((r2.same s3).same s4) r4 e5 fun u H5 s5 r5 => q u H5 ((ss.trans s4).trans s5) r5⟩
  · cases r3
    cases e
    refine ⟨false, rfl, ?_⟩
    rw [if_neg Bool.false_ne_true]
    exact q _ H3 ss (.bl false)
  · cases e
end
end Pu

set_option Elab.async false
set_option linter.all false
set_option maxRecDepth 100000
set_option maxHeartbeats 2000000
set_option autoImplicit false
/-! Pu2: the operators' functions. -/
namespace Pu
open PySem PySem.Spec PyProof.Rows L2

theorem new_lst {M : MS} {H : Hp} {p : Addr} {xs : List V} {ds : List D} (ok : Ok M H) (hp : H p = none) (r : RpAll M H xs ds) : Same H (upd H p (.lst xs)) ∧ Rp M (upd H p (.lst xs)) (.ref p) (.list ds) :=
  ⟨Same.new hp, .lst upd_same (fun m => ok p m hp) (r.same (Same.new hp))⟩
theorem new_tup {M : MS} {H : Hp} {p : Addr} {xs : List V} {ds : List D} (ok : Ok M H) (hp : H p = none) (r : RpAll M H xs ds) : Same H (upd H p (.tup xs)) ∧ Rp M (upd H p (.tup xs)) (.ref p) (.tuple ds) :=
  ⟨Same.new hp, .tup upd_same (fun m => ok p m hp) (r.same (Same.new hp))⟩
/-! ### arithmetic -/
def oAdd : D → D → Option D
  | .int a, .int b => some (.int (a + b))
  | .list a, .list b => if a.length + b.length ≤ lim then some (.list (a ++ b)) else none
  | .tuple a, .tuple b => if a.length + b.length ≤ lim then some (.tuple (a ++ b)) else none
  | _, _ => none
def oSub : D → D → Option D
  | .int a, .int b => some (.int (a - b))
  | _, _ => none
def oMul : D → D → Option D
  | .int a, .int b => if (-(2 ^ 64) < a ∧ a < 2 ^ 64) ∨ (-(2 ^ 64) < b ∧ b < 2 ^ 64) then some (.int (a * b)) else none
  | .list a, .int k => if -(2 ^ 63) ≤ k ∧ k < 2 ^ 63 ∧ a.length * k.toNat ≤ lim then some (.list (List.replicate k.toNat a).flatten) else none
  | _, _ => none
def oMod : D → D → Option D
  | .int a, .int b => if b = 0 then none else some (.int (a.fmod b))
  | _, _ => none
def oDiv : D → D → Option D
  | .int a, .int b => if b = 0 ∨ ¬ b.natAbs < 1073741824 then none else some (.int (a.fdiv b))
  | _, _ => none
def oPow : D → D → Option D
  | .int a, .int b => if 0 ≤ b ∧ b ≤ 1000000 ∧ a.natAbs < 2 ^ 64 then some (.int (a ^ b.toNat)) else none
  | _, _ => none
def oNeg : D → Option D
  | .int a => some (.int (-a))
  | _ => none
def rAddD (K : PySem.W.Frag) : R2 := fun x y H Q => rI0 (fun i j => .int (i + j)) x y H Q ∨ rCat x y H Q ∨ rCatA K x y H Q
def rMulD : R2 := fun x y H Q => rI CMul (fun i j => .int (i * j)) x y H Q ∨ rRep x y H Q
section
variable {X : Cx}
theorem or_addD : OpR X (binaryOp .Add) (rAddD X.K) := OpR.or op_add (OpR.or op_cat op_catA)
theorem or_mulD : OpR X (binaryOp .Mult) rMulD := OpR.or op_mul op_rep
end
theorem os_add {K : PySem.W.Frag} : OpS (rAddD K) oAdd := by
  intro M H x y dx dy d Q ok rx ry e q
  unfold oAdd at e
  split at e
  · cases e
    cases rx
    cases ry
    exact .inl ⟨_, _, rfl, rfl, q _ H (Same.refl H) (.int _)⟩
  · split at e
    · rename_i hz
      cases e
      cases rx with
      | lst e1 n1 r1 =>
        cases ry with
        | lst e2 n2 r2 =>
          refine .inr (.inl ⟨_, _, _, _, rfl, rfl, e1, e2, ?_, fun p hp => ?_⟩)
          · rw [r1.length, r2.length]; exact Nat.le_trans hz lim_le
          · have z := new_lst ok hp (r1.append r2)
            exact q _ _ z.1 z.2
    · cases e
  · split at e
    · rename_i hz
      cases e
      cases rx with
      | tup e1 n1 r1 =>
        cases ry with
        | tup e2 n2 r2 =>
          refine .inr (.inr ⟨_, _, _, _, rfl, rfl, SqT.of e1, SqT.of e2, ?_, fun h => ?_, fun _ h => ?_, fun _ _ p hp => ?_⟩)
          · rw [r1.length, r2.length]; exact Nat.le_trans hz lim_le
          · subst h; cases r1; exact q _ H (Same.refl H) (.tup e2 n2 r2)
          · subst h; cases r2; rw [List.append_nil] at q; exact q _ H (Same.refl H) (.tup e1 n1 r1)
          · have z := new_tup ok hp (r1.append r2)
            exact q _ _ z.1 z.2
    · cases e
  · cases e
theorem os_sub : OpS (rI0 fun i j => .int (i - j)) oSub := by
  intro M H x y dx dy d Q ok rx ry e q
  unfold oSub at e
  split at e
  · cases e
    cases rx
    cases ry
    exact ⟨_, _, rfl, rfl, q _ H (Same.refl H) (.int _)⟩
  · cases e
theorem os_mul : OpS rMulD oMul := by
  intro M H x y dx dy d Q ok rx ry e q
  unfold oMul at e
  split at e
  · split at e
    · rename_i hz
      cases e
      cases rx
      cases ry
      exact .inl ⟨_, _, rfl, rfl, hz, q _ H (Same.refl H) (.int _)⟩
    · cases e
  · rename_i k
    split at e
    · rename_i hz
      cases e
      cases ry
      cases rx with
      | lst e1 n1 r1 =>
        refine .inr ⟨_, _, _, rfl, rfl, e1, hz.1, hz.2.1, ?_, fun p hp => ?_⟩
        · rw [r1.length]; exact Nat.le_trans hz.2.2 lim_le
        · have z := new_lst ok hp (r1.flat k.toNat)
          exact q _ _ z.1 z.2
    · cases e
  · cases e
theorem os_mod : OpS (rI (fun _ j => j ≠ 0) fun i j => .int (i.fmod j)) oMod := by
  intro M H x y dx dy d Q ok rx ry e q
  unfold oMod at e
  split at e
  · split at e
    · cases e
    · rename_i hz
      cases e
      cases rx
      cases ry
      exact ⟨_, _, rfl, rfl, hz, q _ H (Same.refl H) (.int _)⟩
  · cases e
theorem os_div : OpS (rI CDivN fun i j => .int (i.fdiv j)) oDiv := by
  intro M H x y dx dy d Q ok rx ry e q
  unfold oDiv at e
  split at e
  · split at e
    · cases e
    · rename_i hz
      cases e
      cases rx
      cases ry
      exact ⟨_, _, rfl, rfl, ⟨fun h => hz (.inl h), Decidable.not_not.mp fun h => hz (.inr h)⟩, q _ H (Same.refl H) (.int _)⟩
  · cases e
theorem os_pow : OpS (rI CPow fun i j => .int (i ^ j.toNat)) oPow := by
  intro M H x y dx dy d Q ok rx ry e q
  unfold oPow at e
  split at e
  · split at e
    · rename_i hz
      cases e
      cases rx
      cases ry
      exact ⟨_, _, rfl, rfl, hz, q _ H (Same.refl H) (.int _)⟩
    · cases e
  · cases e
theorem us_neg : UnS (rU fun i => .int (-i)) oNeg := by
  intro M H x dx d Q ok rx e q
  unfold oNeg at e
  split at e
  · cases e
    cases rx
    exact ⟨_, rfl, q _ H (Same.refl H) (.int _)⟩
  · cases e

/-! ### comparisons -/
def oLt : D → D → Option D
  | .int a, .int b => some (.bool (decide (a < b)))
  | _, _ => none
def oLe : D → D → Option D
  | .int a, .int b => some (.bool (decide (a ≤ b)))
  | _, _ => none
def oGt : D → D → Option D
  | .int a, .int b => some (.bool (decide (b < a)))
  | _, _ => none
def oGe : D → D → Option D
  | .int a, .int b => some (.bool (decide (b ≤ a)))
  | _, _ => none
def oEq : D → D → Option D := fun a b => if SeqAt.shaped a = true ∧ SeqAt.shaped b = true then some (.bool (PyData.eqv a b)) else none
def oNe : D → D → Option D := fun a b => if SeqAt.shaped a = true ∧ SeqAt.shaped b = true then some (.bool (!PyData.eqv a b)) else none
def isNon : D → Bool
  | .none => true
  | _ => false
/-- x is None -/
def oIs : D → D → Option D
  | a, .none => some (.bool (isNon a))
  | _, _ => none
def oIsnt : D → D → Option D
  | a, .none => some (.bool (!isNon a))
  | _, _ => none
def oIn : D → D → Option D
  | a, .list b => if SeqAt.shaped a = true ∧ SeqAt.shaped (.list b) = true then some (.bool (b.any fun z => PyData.eqv z a)) else none
  | _, _ => none
def oNotIn : D → D → Option D
  | a, .list b => if SeqAt.shaped a = true ∧ SeqAt.shaped (.list b) = true then some (.bool (!b.any fun z => PyData.eqv z a)) else none
  | _, _ => none
theorem os_lt : OpS (rI0 fun i j => .bl (decide (i < j))) oLt := by
  intro M H x y dx dy d Q ok rx ry e q
  unfold oLt at e
  split at e
  · cases e; cases rx; cases ry
    exact ⟨_, _, rfl, rfl, q _ H (Same.refl H) (.bl _)⟩
  · cases e
theorem os_le : OpS (rI0 fun i j => .bl (decide (i ≤ j))) oLe := by
  intro M H x y dx dy d Q ok rx ry e q
  unfold oLe at e
  split at e
  · cases e; cases rx; cases ry
    exact ⟨_, _, rfl, rfl, q _ H (Same.refl H) (.bl _)⟩
  · cases e
theorem os_gt : OpS (rI0 fun i j => .bl (decide (j < i))) oGt := by
  intro M H x y dx dy d Q ok rx ry e q
  unfold oGt at e
  split at e
  · cases e; cases rx; cases ry
    exact ⟨_, _, rfl, rfl, q _ H (Same.refl H) (.bl _)⟩
  · cases e
theorem os_ge : OpS (rI0 fun i j => .bl (decide (j ≤ i))) oGe := by
  intro M H x y dx dy d Q ok rx ry e q
  unfold oGe at e
  split at e
  · cases e; cases rx; cases ry
    exact ⟨_, _, rfl, rfl, q _ H (Same.refl H) (.bl _)⟩
  · cases e
theorem os_eq {K : PySem.W.Frag} : OpS (rEqD K) oEq := by
  intro M H x y dx dy d Q ok rx ry e q
  unfold oEq at e
  split at e
  · rename_i hz
    cases e
    exact ⟨dx, dy, rx.dp, ry.dp, hz.1, hz.2, q _ H (Same.refl H) (.bl _)⟩
  · cases e
theorem os_ne {K : PySem.W.Frag} : OpS (rNeD K) oNe := by
  intro M H x y dx dy d Q ok rx ry e q
  unfold oNe at e
  split at e
  · rename_i hz
    cases e
    exact ⟨dx, dy, rx.dp, ry.dp, hz.1, hz.2, q _ H (Same.refl H) (.bl _)⟩
  · cases e
theorem isNon_V {M : MS} {H : Hp} {x : V} {d : D} (r : Rp M H x d) : decide (x = .non) = isNon d := by
  cases r <;> first | rfl | exact decide_eq_false (fun z => nomatch z)
theorem os_is : OpS (fun x y H Q => y = .non ∧ Q (.bl (decide (x = .non))) H) oIs := by
  intro M H x y dx dy d Q ok rx ry e q
  unfold oIs at e
  split at e
  · cases e; cases ry
    refine ⟨rfl, ?_⟩
    rw [isNon_V rx]
    exact q _ H (Same.refl H) (.bl _)
  · cases e
theorem os_isnt : OpS (fun x y H Q => y = .non ∧ Q (.bl (!decide (x = .non))) H) oIsnt := by
  intro M H x y dx dy d Q ok rx ry e q
  unfold oIsnt at e
  split at e
  · cases e; cases ry
    refine ⟨rfl, ?_⟩
    rw [isNon_V rx]
    exact q _ H (Same.refl H) (.bl _)
  · cases e
theorem os_in {K : PySem.W.Frag} : OpS (rInD K) oIn := by
  intro M H x y dx dy d Q ok rx ry e q
  unfold oIn at e
  split at e
  · split at e
    · rename_i hz
      cases e
      exact ⟨_, _, rx.dp, ry.dp, hz.1, hz.2, q _ H (Same.refl H) (.bl _)⟩
    · cases e
  · cases e
theorem os_notIn {K : PySem.W.Frag} : OpS (rNotInD K) oNotIn := by
  intro M H x y dx dy d Q ok rx ry e q
  unfold oNotIn at e
  split at e
  · split at e
    · rename_i hz
      cases e
      exact ⟨_, _, rx.dp, ry.dp, hz.1, hz.2, q _ H (Same.refl H) (.bl _)⟩
    · cases e
  · cases e

/-! ### items and slices -/
def oIx : D → D → Option D
  | .list a, .int i => atI a i
  | .tuple a, .int i => atI a i
  | _, _ => none
theorem RpAll.atI {M : MS} {H : Hp} {vs : List V} {ds : List D} {d : D} {i : Int} (h : RpAll M H vs ds) (e : L2.atI ds i = some d) : ∃ v, L2.atI vs i = some v ∧ Rp M H v d := by
  unfold L2.atI at e ⊢
  obtain ⟨j, e1, e2⟩ := bind_some e
  obtain ⟨v, e3, r⟩ := h.get e2
  refine ⟨v, ?_, r⟩
  rw [h.length, e1]
  exact e3
def rIxD (K : PySem.W.Frag) : R2 := fun x y H Q => rIxL K x y H Q ∨ rIxT K x y H Q
theorem ix_D {X : Cx} : IxR X (rIxD X.K) := ix_list.or ix_tup
theorem os_ix {K : PySem.W.Frag} : OpS (rIxD K) oIx := by
  intro M H x y dx dy d Q ok rx ry e q
  unfold oIx at e
  split at e
  · cases ry
    cases rx with
    | lst e1 n1 r1 =>
      obtain ⟨v, e2, r⟩ := r1.atI e
      exact .inl ⟨_, _, _, v, rfl, rfl, SqL.of e1, e2, q v H (Same.refl H) r⟩
  · cases ry
    cases rx with
    | tup e1 n1 r1 =>
      obtain ⟨v, e2, r⟩ := r1.atI e
      exact .inr ⟨_, _, _, v, rfl, rfl, SqT.of e1, e2, q v H (Same.refl H) r⟩
  · cases e
def cutD (xs : List D) (lo hi : Option Int) : List D := (xs.drop (HT.sIx xs.length 0 lo)).take (HT.sIx xs.length xs.length hi - HT.sIx xs.length 0 lo)
theorem RpAll.cut {M : MS} {H : Hp} {vs : List V} {ds : List D} (h : RpAll M H vs ds) (lo hi : Option Int) : RpAll M H (cutV vs lo hi) (cutD ds lo hi) := by
  unfold cutV cutD
  rw [h.length]
  exact (h.drop _).take _
def oSl (lo hi : Option Int) : D → Option D
  | .list a => some (.list (cutD a lo hi))
  | .tuple a => some (.tuple (cutD a lo hi))
  | _ => none
def rSlD (K : PySem.W.Frag) : V → Option Int → Option Int → Hp → VK → Prop := fun x lo hi H Q => rSlL K x lo hi H Q ∨ rSlA K x lo hi H Q
theorem sl_D {X : Cx} : SlR X (rSlD X.K) := sl_list.or sl_tupA
theorem cut_whole {ds : List D} {lo hi : Option Int} (h : HT.sIx ds.length 0 lo = 0 ∧ HT.sIx ds.length ds.length hi = ds.length) : cutD ds lo hi = ds := by
  unfold cutD
  rw [h.1, h.2]
  simp
def ePart (f : Sl → Option D) : Sl → Option (Option Int) := fun ds => (f ds).bind fun d => match d with
  | .int i => some (some i)
  | _ => none
def eNoPart : Sl → Option (Option Int) := fun _ => some none
def eSl (f : Sl → Option D) (lo hi : Sl → Option (Option Int)) : Sl → Option D := fun ds => (f ds).bind fun x => (lo ds).bind fun l => (hi ds).bind fun h => oSl l h x
section
variable {X : Cx} {a b c : Expr} {f g h : Sl → Option D} {pos p2 : Pos} {lo hi : Option Expr} {l u : Sl → Option (Option Int)}
theorem pd_ix (ha : PE X a (tP f)) (hb : PE X b (tP g)) (hs : PlainIx b := by exact fun _ _ => rfl) : PE X (.Subscript a b pos) (tP (eOp oIx f g)) := pe_of (pe_ix ix_D ha hb hs) (tOp_of os_ix)
theorem po_p (he : PE X a (tP f)) : PO X (some a) (tPO (ePart f)) := po_of (po_some he) fun σ H Q ⟨M, ds, d, ok, s, e, q⟩ => by
  obtain ⟨x, e1, e2⟩ := bind_some e
  split at e2
  · cases e2
    exact ⟨M, ds, _, ok, s, e1, fun v H' s' r => by cases r; exact ⟨_, rfl, q H' s'⟩⟩
  · cases e2
theorem po_n : PO X none (tPO eNoPart) := po_of po_none fun σ H Q ⟨M, ds, d, ok, s, e, q⟩ => by
  cases e
  exact q H (Same.refl H)
theorem pd_sl (ha : PE X a (tP f)) (hl : PO X lo (tPO l)) (hu : PO X hi (tPO u)) : PE X (.Subscript a (.Slice lo hi none p2) pos) (tP (eSl f l u)) := pe_of (pe_slice sl_D ha hl hu) fun σ H Q ⟨M, ds, d, ok, s, e, q⟩ => by
  obtain ⟨x, e1, e⟩ := bind_some e
  obtain ⟨i, e2, e⟩ := bind_some e
  obtain ⟨j, e3, e⟩ := bind_some e
  refine ⟨M, ds, x, ok, s, e1, fun v H1 s1 r1 => ⟨M, ds, i, ok.same s1, s.same s1, e2, fun H2 s2 => ⟨M, ds, j, (ok.same s1).same s2, (s.same s1).same s2, e3, fun H3 s3 => ?_⟩⟩⟩
  have ok3 := ((ok.same s1).same s2).same s3
  have r3 := (r1.same s2).same s3
  have ss := (s1.trans s2).trans s3
  unfold oSl at e
  split at e
  · cases e
    cases r3 with
    | lst e1 n1 r1 =>
      refine .inl ⟨_, _, rfl, SqL.of e1, fun p hp => ?_⟩
      have z := new_lst ok3 hp (r1.cut i j)
      exact q _ _ (ss.trans z.1) z.2
  · cases e
    cases r3 with
    | tup e1 n1 r1 =>
      refine .inr ⟨_, _, rfl, SqT.of e1, fun w => ?_, fun _ p hp => ?_⟩
      · rw [r1.length] at w
        rw [cut_whole w] at q
        exact q _ _ ss (.tup e1 n1 r1)
      · have z := new_tup ok3 hp (r1.cut i j)
        exact q _ _ (ss.trans z.1) z.2
  · cases e
end

/-! ### displays, arguments -/
def esNil : Sl → Option (List D) := fun _ => some []
def esCons (f : Sl → Option D) (g : Sl → Option (List D)) : Sl → Option (List D) := fun ds => (f ds).bind fun x => (g ds).bind fun l => some (x :: l)
def eTup (g : Sl → Option (List D)) : Sl → Option D := fun ds => (g ds).bind fun l => if l.length ≤ lim then some (.tuple l) else none
def eLst (g : Sl → Option (List D)) : Sl → Option D := fun ds => (g ds).bind fun l => if l.length ≤ lim then some (.list l) else none
section
variable {X : Cx} {e : Expr} {es : List Expr} {f : Sl → Option D} {g : Sl → Option (List D)} {pos : Pos}
theorem pda_nil : PA X [] (tPA esNil) := pa_of pa_nil fun σ H Q ⟨M, ds, d, ok, s, e, q⟩ => by
  cases e
  exact q _ H (Same.refl H) .nil
theorem pda_cons (ha : PE X e (tP f)) (hr : PA X es (tPA g)) (hs : starEach (e :: es) X.env = (false, eval e X.env) :: starEach es X.env := by rfl) : PA X (e :: es) (tPA (esCons f g)) := pa_of (pa_cons ha hr hs) fun σ H Q ⟨M, ds, d, ok, s, e, q⟩ => by
  obtain ⟨x, e1, e⟩ := bind_some e
  obtain ⟨l, e2, e⟩ := bind_some e
  cases e
  exact ⟨M, ds, x, ok, s, e1, fun v H1 s1 r1 => ⟨M, ds, l, ok.same s1, s.same s1, e2, fun vs H2 s2 r2 => q _ H2 (s1.trans s2) (.cons (r1.same s2) r2)⟩⟩
theorem pd_tup {k : Nat} (h : PA X es (tPA g)) : PE X (.Tuple es k pos) (tP (eTup g)) := pe_of (pe_tup h) fun σ H Q ⟨M, ds, d, ok, s, e, q⟩ => by
  obtain ⟨l, e1, e⟩ := bind_some e
  split at e
  · rename_i hz
    cases e
    refine ⟨M, ds, l, ok, s, e1, fun vs H1 s1 r1 => ⟨by rw [r1.length]; exact Nat.le_trans hz lim_le, fun p hp => ?_⟩⟩
    have s2 := Same.new (o := .tup vs) hp
    exact q _ _ (s1.trans s2) (.tup upd_same (fun m => ok.same s1 p m hp) (r1.same s2))
  · cases e
theorem pd_lst (h : PA X es (tPA g)) : PE X (.List es pos) (tP (eLst g)) := pe_of (pe_lst h) fun σ H Q ⟨M, ds, d, ok, s, e, q⟩ => by
  obtain ⟨l, e1, e⟩ := bind_some e
  split at e
  · rename_i hz
    cases e
    refine ⟨M, ds, l, ok, s, e1, fun vs H1 s1 r1 => ⟨by rw [r1.length]; exact Nat.le_trans hz lim_le, fun p hp => ?_⟩⟩
    have s2 := Same.new (o := .lst vs) hp
    exact q _ _ (s1.trans s2) (.lst upd_same (fun m => ok.same s1 p m hp) (r1.same s2))
  · cases e
end

/-! ### truth values -/
def bAnd (f g : Sl → Option Bool) : Sl → Option Bool := fun ds => (f ds).bind fun b => if b = true then g ds else some false
def bOr (f g : Sl → Option Bool) : Sl → Option Bool := fun ds => (f ds).bind fun b => if b = true then some true else g ds
def bNot (f : Sl → Option Bool) : Sl → Option Bool := fun ds => (f ds).bind fun b => some (!b)
def eAnd (f g : Sl → Option D) : Sl → Option D := fun ds => (bT f ds).bind fun b => if b = true then g ds else some (.bool false)
def eOr (f g : Sl → Option D) : Sl → Option D := fun ds => (bT f ds).bind fun b => if b = true then some (.bool true) else g ds
def eNot (f : Sl → Option D) : Sl → Option D := fun ds => (bT f ds).bind fun b => some (.bool (!b))
section
variable {X : Cx} {a b : Expr} {rest : List Expr} {f g : Sl → Option D} {p q : Sl → Option Bool} {pos : Pos}
theorem ptd_and1 (ha : PT X a (tPT p)) : PW X (.BoolOp .And [a] pos) (tPT p) := pw_and1 ha
theorem ptd_or1 (ha : PT X a (tPT p)) : PW X (.BoolOp .Or [a] pos) (tPT p) := pw_or1 ha
theorem ptd_and (ha : PT X a (tPT p)) (hb : PW X (.BoolOp .And (b :: rest) pos) (tPT q)) : PW X (.BoolOp .And (a :: b :: rest) pos) (tPT (bAnd p q)) := pw_of (pw_and ha hb) fun σ H Q ⟨M, ds, d, ok, s, e, k⟩ => by
  obtain ⟨x, e1, e⟩ := bind_some e
  refine ⟨M, ds, x, ok, s, e1, fun H1 s1 => ?_⟩
  cases x with
  | true =>
    rw [if_pos rfl] at e ⊢
    exact ⟨M, ds, d, ok.same s1, s.same s1, e, fun H2 s2 => k H2 (s1.trans s2)⟩
  | false =>
    rw [if_neg Bool.false_ne_true] at e ⊢
    cases e
    exact k H1 s1
theorem ptd_or (ha : PT X a (tPT p)) (hb : PW X (.BoolOp .Or (b :: rest) pos) (tPT q)) : PW X (.BoolOp .Or (a :: b :: rest) pos) (tPT (bOr p q)) := pw_of (pw_or ha hb) fun σ H Q ⟨M, ds, d, ok, s, e, k⟩ => by
  obtain ⟨x, e1, e⟩ := bind_some e
  refine ⟨M, ds, x, ok, s, e1, fun H1 s1 => ?_⟩
  cases x with
  | true =>
    rw [if_pos rfl] at e ⊢
    cases e
    exact k H1 s1
  | false =>
    rw [if_neg Bool.false_ne_true] at e ⊢
    exact ⟨M, ds, d, ok.same s1, s.same s1, e, fun H2 s2 => k H2 (s1.trans s2)⟩
theorem ptd_not (ha : PT X a (tPT p)) : PT X (.UnaryOp .Not a pos) (tPT (bNot p)) := pt_of (pt_not ha) fun σ H Q ⟨M, ds, d, ok, s, e, k⟩ => by
  obtain ⟨x, e1, e⟩ := bind_some e
  cases e
  exact ⟨M, ds, x, ok, s, e1, k⟩
theorem pd_one {op : BoolOp} (h : PE X a (tP f)) : PE X (.BoolOp op [a] pos) (tP f) := pe_one h
theorem pd_and (ha : PE X a (tP f)) (hb : PE X (.BoolOp .And (b :: rest) pos) (tP g)) : PE X (.BoolOp .And (a :: b :: rest) pos) (tP (eAnd f g)) := pe_of (pe_and ha hb) fun σ H Q ⟨M, ds, d, ok, s, e, k⟩ => by
  obtain ⟨x, e1, e⟩ := bind_some e
  refine ⟨M, ds, .bool x, ok, s, bT_some e1, fun v H1 s1 r => ?_⟩
  cases r
  refine ⟨x, rfl, ?_⟩
  cases x with
  | true =>
    rw [if_pos rfl] at e ⊢
    exact ⟨M, ds, d, ok.same s1, s.same s1, e, fun v H2 s2 => k v H2 (s1.trans s2)⟩
  | false =>
    rw [if_neg Bool.false_ne_true] at e ⊢
    cases e
    exact k _ H1 s1 (.bl _)
theorem pd_or (ha : PE X a (tP f)) (hb : PE X (.BoolOp .Or (b :: rest) pos) (tP g)) : PE X (.BoolOp .Or (a :: b :: rest) pos) (tP (eOr f g)) := pe_of (pe_or ha hb) fun σ H Q ⟨M, ds, d, ok, s, e, k⟩ => by
  obtain ⟨x, e1, e⟩ := bind_some e
  refine ⟨M, ds, .bool x, ok, s, bT_some e1, fun v H1 s1 r => ?_⟩
  cases r
  refine ⟨x, rfl, ?_⟩
  cases x with
  | true =>
    rw [if_pos rfl] at e ⊢
    cases e
    exact k _ H1 s1 (.bl _)
  | false =>
    rw [if_neg Bool.false_ne_true] at e ⊢
    exact ⟨M, ds, d, ok.same s1, s.same s1, e, fun v H2 s2 => k v H2 (s1.trans s2)⟩
theorem pd_not (ha : PE X a (tP f)) : PE X (.UnaryOp .Not a pos) (tP (eNot f)) := pe_of (pe_not ha) fun σ H Q ⟨M, ds, d, ok, s, e, k⟩ => by
  obtain ⟨x, e1, e⟩ := bind_some e
  cases e
  exact ⟨M, ds, .bool x, ok, s, bT_some e1, fun v H1 s1 r => by cases r; exact ⟨x, rfl, k _ H1 s1 (.bl _)⟩⟩
end

/-! ### calls -/
def CallS (r : List V → Hp → VK → Prop) (o : List D → Option D) : Prop := ∀ (M : MS) (H : Hp) (vs : List V) (l : List D) (d : D) (Q : VK), Ok M H → RpAll M H vs l → o l = some d → (∀ v H', Same H H' → Rp M H' v d → Q v H') → r vs H Q
def eCall (o : List D → Option D) (g : Sl → Option (List D)) : Sl → Option D := fun ds => (g ds).bind o
/-- a def's promise by a function of data; n arguments -/
def spF (n : Nat) (F : List D → Option D) : Sp := fun vs H Q _ => vs.length = n ∧ ∃ (M : MS) (l : List D) (d : D), Ok M H ∧ RpAll M H vs l ∧ F l = some d ∧ ∀ v H', Same H H' → Rp M H' v d → Q v H'
section
variable {X : Cx} {x : Str} {p pos : Pos} {e : Expr} {es : List Expr} {g : Sl → Option (List D)} {id T : String} {r : List V → Hp → VK → Prop} {o : List D → Option D}
theorem tCB_of (hs : CallS r o) : ∀ σ H Q, tP (eCall o g) σ H Q → tCB r (tPA g) σ H Q := fun σ H Q ⟨M, ds, d, ok, s, e, q⟩ => by
  obtain ⟨l, e1, e2⟩ := bind_some e
  exact ⟨M, ds, l, ok, s, e1, fun vs H1 s1 r1 => hs M H1 vs l d Q (ok.same s1) r1 e2 fun v H2 s2 r2 => q v H2 (s1.trans s2) r2⟩
theorem pd_callB (hc : CallR X (.builtin id) r) (hs : CallS r o) (hg : Gl X x) (hm : X.mg x = none) (hv : bootBuiltins x = some (.builtin id)) (ha : PA X (e :: es) (tPA g)) (hn : x ≠ "__name__" := by decide) (hdb : (x == ("__debug__" : Str)) = false := by decide)
    (he : starEach (e :: es) X.env = (false, eval e X.env) :: starEach es X.env := by rfl) (hpl : (backTo pos (starEach es X.env)).any (·.1) = false := by rfl) : PE X (.Call (.Name x p) (e :: es) [] pos) (tP (eCall o g)) := pe_of (pe_callB hc hg hm hv ha hn hdb he hpl) (tCB_of hs)
theorem pd_callTy (hc : CallR X (.type T) r) (hs : CallS r o) (hg : Gl X x) (hm : X.mg x = none) (hv : bootBuiltins x = some (.type T)) (ha : PA X (e :: es) (tPA g)) (hn : x ≠ "__name__" := by decide) (hdb : (x == ("__debug__" : Str)) = false := by decide)
    (he : starEach (e :: es) X.env = (false, eval e X.env) :: starEach es X.env := by rfl) (hpl : (backTo pos (starEach es X.env)).any (·.1) = false := by rfl) : PE X (.Call (.Name x p) (e :: es) [] pos) (tP (eCall o g)) := pe_of (pe_callTy hc hg hm hv ha hn hdb he hpl) (tCB_of hs)
theorem pd_call {CX : CXT} {k n : Nat} {f : Addr} {fd : FuncData} {ps : List Str} {E : XK} (F : FnOk X.prog X.w X.K X.mg X.base CX k f fd ps (spF n o)) (hr : Room k X.A) (hg : Gl X x) (hm : X.mg x = some (.ref f)) (hk : PySem.W.keepIn X.K (.ref f) = true) (hb : Binds X.K fd ps []) (hx : Passes CX X E)
    (ha : PA X (e :: es) (tPA g)) (hl : ∀ ds l, g ds = some l → l.length = n) (hdb : (x == ("__debug__" : Str)) = false := by decide) (he : starEach (e :: es) X.env = (false, eval e X.env) :: starEach es X.env := by rfl) (hpl : (backTo pos (starEach es X.env)).any (·.1) = false := by rfl) :
    PE X (.Call (.Name x p) (e :: es) [] pos) (tP (eCall o g)) := pe_of (pe_call F hr hg hm hk hb .nil hx ha hdb he hpl) fun σ H Q ⟨M, ds, d, ok, s, e, q⟩ => by
  obtain ⟨l, e1, e2⟩ := bind_some e
  refine ⟨M, ds, l, ok, s, e1, fun vs H1 s1 r1 => ?_⟩
  show spF n o (vs ++ []) H1 Q E
  rw [List.append_nil]
  exact ⟨by rw [r1.length]; exact hl ds l e1, M, l, d, ok.same s1, r1, e2, fun v H2 s2 r2 => q v H2 (s1.trans s2) r2⟩
end
theorem es_len0 : ∀ ds l, esNil ds = some l → l.length = 0 := fun _ _ e => by cases e; rfl
theorem es_len {f : Sl → Option D} {g : Sl → Option (List D)} {n : Nat} (h : ∀ ds l, g ds = some l → l.length = n) : ∀ ds l, esCons f g ds = some l → l.length = n + 1 := fun ds l e => by
  obtain ⟨x, _, e⟩ := bind_some e
  obtain ⟨r, e2, e⟩ := bind_some e
  cases e
  rw [List.length_cons, h ds r e2]
end Pu

set_option Elab.async false
set_option linter.all false
set_option maxRecDepth 100000
set_option maxHeartbeats 2000000
set_option autoImplicit false
/-! Pu3: built-ins, isinstance, comprehensions, statements, defs. -/
namespace Pu
open PySem PySem.Spec PyProof.Rows L2

/-! ### built-ins by name -/
def oLen : List D → Option D
  | [.list a] => some (.int a.length)
  | [.tuple a] => some (.int a.length)
  | _ => none
def rLen (K : PySem.W.Frag) : List V → Hp → VK → Prop := fun xs H Q => ∃ p ys, xs = [.ref p] ∧ (SqL K H p ys ∨ SqT K H p ys) ∧ Q (.int ys.length) H
theorem cs_len {K : PySem.W.Frag} : CallS (rLen K) oLen := by
  intro M H vs l d Q ok r e q
  unfold oLen at e
  split at e
  · cases e
    cases r with
    | cons r1 r2 =>
      cases r2
      cases r1 with
      | lst e1 n1 r1 => exact ⟨_, _, rfl, .inl (SqL.of e1), by rw [r1.length]; exact q _ H (Same.refl H) (.int _)⟩
  · cases e
    cases r with
    | cons r1 r2 =>
      cases r2
      cases r1 with
      | tup e1 n1 r1 => exact ⟨_, _, rfl, .inr (SqT.of e1), by rw [r1.length]; exact q _ H (Same.refl H) (.int _)⟩
  · cases e
theorem cr_len {X : Cx} : CallR X (.builtin "len") (rLen X.K) := call_len_seq
def oList : List D → Option D
  | [.list a] => some (.list a)
  | [.tuple a] => some (.list a)
  | _ => none
def rList (K : PySem.W.Frag) : List V → Hp → VK → Prop := fun xs H Q => ∃ p ys, xs = [.ref p] ∧ (SqL K H p ys ∨ SqT K H p ys) ∧ ∀ l, H l = none → Q (.ref l) (upd H l (.lst ys))
theorem cs_list {K : PySem.W.Frag} : CallS (rList K) oList := by
  intro M H vs l d Q ok r e q
  unfold oList at e
  split at e
  · cases e
    cases r with
    | cons r1 r2 =>
      cases r2
      cases r1 with
      | lst e1 n1 r1 => exact ⟨_, _, rfl, .inl (SqL.of e1), fun p hp => q _ _ (new_lst ok hp r1).1 (new_lst ok hp r1).2⟩
  · cases e
    cases r with
    | cons r1 r2 =>
      cases r2
      cases r1 with
      | tup e1 n1 r1 => exact ⟨_, _, rfl, .inr (SqT.of e1), fun p hp => q _ _ (new_lst ok hp r1).1 (new_lst ok hp r1).2⟩
  · cases e
theorem cr_list {X : Cx} : CallR X (.type "list") (rList X.K) := call_list_of
def oTuple : List D → Option D
  | [.list a] => some (.tuple a)
  | [.tuple a] => some (.tuple a)
  | _ => none
def rTuple (K : PySem.W.Frag) : List V → Hp → VK → Prop := fun xs H Q => ∃ p ys, xs = [.ref p] ∧ ((SqL K H p ys ∧ ∀ l, H l = none → Q (.ref l) (upd H l (.tup ys))) ∨ (SqT K H p ys ∧ Q (.ref p) H))
theorem cs_tuple {K : PySem.W.Frag} : CallS (rTuple K) oTuple := by
  intro M H vs l d Q ok r e q
  unfold oTuple at e
  split at e
  · cases e
    cases r with
    | cons r1 r2 =>
      cases r2
      cases r1 with
      | lst e1 n1 r1 => exact ⟨_, _, rfl, .inl ⟨SqL.of e1, fun p hp => q _ _ (new_tup ok hp r1).1 (new_tup ok hp r1).2⟩⟩
  · cases e
    cases r with
    | cons r1 r2 =>
      cases r2
      cases r1 with
      | tup e1 n1 r1 => exact ⟨_, _, rfl, .inr ⟨SqT.of e1, q _ H (Same.refl H) (.tup e1 n1 r1)⟩⟩
  · cases e
theorem cr_tuple {X : Cx} : CallR X (.type "tuple") (rTuple X.K) := call_tuple_of
def oInt : List D → Option D
  | [.int a] => some (.int a)
  | [.bool b] => some (.int (if b then 1 else 0))
  | _ => none
def rInt : List V → Hp → VK → Prop := fun xs H Q => (∃ i, xs = [.int i] ∧ Q (.int i) H) ∨ ∃ k, xs = [.bl k] ∧ Q (.int (if k then 1 else 0)) H
theorem cs_int : CallS rInt oInt := by
  intro M H vs l d Q ok r e q
  unfold oInt at e
  split at e
  · cases e
    cases r with
    | cons r1 r2 => cases r2; cases r1; exact .inl ⟨_, rfl, q _ H (Same.refl H) (.int _)⟩
  · cases e
    cases r with
    | cons r1 r2 => cases r2; cases r1; exact .inr ⟨_, rfl, q _ H (Same.refl H) (.int _)⟩
  · cases e
theorem cr_int {X : Cx} : CallR X (.type "int") rInt := call_int1
def oMax : List D → Option D
  | [.int a, .int b] => some (.int (if b > a then b else a))
  | _ => none
def rMax2 : List V → Hp → VK → Prop := fun xs H Q => ∃ i j, xs = [.int i, .int j] ∧ Q (.int (if j > i then j else i)) H
theorem cs_max : CallS rMax2 oMax := by
  intro M H vs l d Q ok r e q
  unfold oMax at e
  split at e
  · cases e
    cases r with
    | cons r1 r2 =>
      cases r2 with
      | cons r2 r3 => cases r3; cases r1; cases r2; exact ⟨_, _, rfl, q _ H (Same.refl H) (.int _)⟩
  · cases e
theorem cr_max2 {X : Cx} (hc : X.calm = true) : CallR X (.builtin "max") rMax2 := call_max2 hc
def blsOf : List D → Option (List Bool)
  | [] => some []
  | .bool b :: r => (blsOf r).bind fun l => some (b :: l)
  | _ => none
theorem blsOf_map : ∀ {l : List D} {bs : List Bool}, blsOf l = some bs → l = bs.map .bool
  | [], _, e => by cases e; rfl
  | .bool b :: r, bs, e => by
    obtain ⟨l, e1, e2⟩ := bind_some e
    cases e2
    rw [blsOf_map e1]; rfl
  | .none :: _, _, e => by cases e
  | .int _ :: _, _, e => by cases e
  | .str _ :: _, _, e => by cases e
  | .list _ :: _, _, e => by cases e
  | .tuple _ :: _, _, e => by cases e
  | .dict _ :: _, _, e => by cases e
def oAll : List D → Option D
  | [.list a] => (blsOf a).bind fun bs => some (.bool (bs.all id))
  | _ => none
theorem cs_all {K : PySem.W.Frag} : CallS (rAll K) oAll := by
  intro M H vs l d Q ok r e q
  unfold oAll at e
  split at e
  · obtain ⟨bs, e1, e2⟩ := bind_some e
    cases e2
    have e3 := blsOf_map e1
    subst e3
    cases r with
    | cons r1 r2 =>
      cases r2
      cases r1 with
      | lst e1 n1 r1 =>
        have e4 := r1.bls
        subst e4
        exact ⟨_, bs, rfl, SqL.of e1, q _ H (Same.refl H) (.bl _)⟩
  · cases e
def intsOf : List D → Option (List Int)
  | [] => some []
  | .int b :: r => (intsOf r).bind fun l => some (b :: l)
  | _ => none
theorem intsOf_map : ∀ {l : List D} {bs : List Int}, intsOf l = some bs → l = bs.map .int
  | [], _, e => by cases e; rfl
  | .int b :: r, bs, e => by
    obtain ⟨l, e1, e2⟩ := bind_some e
    cases e2
    rw [intsOf_map e1]; rfl
  | .none :: _, _, e => by cases e
  | .bool _ :: _, _, e => by cases e
  | .str _ :: _, _, e => by cases e
  | .list _ :: _, _, e => by cases e
  | .tuple _ :: _, _, e => by cases e
  | .dict _ :: _, _, e => by cases e
theorem intsOf_ints (ns : List Int) : intsOf (ns.map .int) = some ns := by
  induction ns with
  | nil => rfl
  | cons n ns ih => show ((intsOf (ns.map .int)).bind fun l => some (n :: l)) = _; rw [ih]; rfl
theorem blsOf_bls (ns : List Bool) : blsOf (ns.map .bool) = some ns := by
  induction ns with
  | nil => rfl
  | cons n ns ih => show ((blsOf (ns.map .bool)).bind fun l => some (n :: l)) = _; rw [ih]; rfl
/-! sorted of ints -/
def isort (ns : List Int) : List Int := ns.mergeSort (fun a b => decide (a ≤ b))
theorem sorted_one : ∀ {a b : List Int}, a.Perm b → a.Pairwise (· ≤ ·) → b.Pairwise (· ≤ ·) → a = b := by
  intro a b p ha hb
  exact List.Perm.eq_of_pairwise (le := (· ≤ ·)) (fun x y _ _ h1 h2 => Int.le_antisymm h1 h2) ha hb p
theorem isort_perm (ns : List Int) : (isort ns).Perm ns := List.mergeSort_perm ns _
theorem isort_sorted (ns : List Int) : (isort ns).Pairwise (· ≤ ·) := by
  have h := List.pairwise_mergeSort (le := fun (a b : Int) => decide (a ≤ b)) (fun a b c h1 h2 => by simp at *; omega) (fun a b => by simp; omega) ns
  exact h.imp fun h => by simpa using h
theorem isort_eq {a b : List Int} (p : a.Perm b) (h : a.Pairwise (· ≤ ·)) : a = isort b := sorted_one (p.trans (isort_perm b).symm) h (isort_sorted b)
def oSorted : List D → Option D
  | [.list a] => (intsOf a).bind fun ns => some (.list ((isort ns).map .int))
  | _ => none
theorem cs_sorted {K : PySem.W.Frag} : CallS (rSortedI K) oSorted := by
  intro M H vs l d Q ok r e q
  unfold oSorted at e
  split at e
  · obtain ⟨bs, e1, e2⟩ := bind_some e
    cases e2
    have e3 := intsOf_map e1
    subst e3
    cases r with
    | cons r1 r2 =>
      cases r2
      cases r1 with
      | lst e1 n1 r1 =>
        have e4 := r1.ints
        subst e4
        refine ⟨_, bs, rfl, SqL.of e1, ?_⟩
        intro ns' p hq hs hp
        have e5 := isort_eq hq hs
        subst e5
        exact q _ _ (new_lst ok hp (RpAll.of_ints _)).1 (new_lst ok hp (RpAll.of_ints _)).2
  · cases e

/-! ### isinstance -/
def tyD : D → String
  | .none => "NoneType"
  | .bool _ => "bool"
  | .int _ => "int"
  | .str _ => "str"
  | .list _ => "list"
  | .tuple _ => "tuple"
  | .dict _ => "dict"
theorem tyx_of {K : PySem.W.Frag} {M : MS} {H : Hp} {v : V} {d : D} (r : Rp M H v d) : TyX K H v (.type (tyD d)) := by
  cases r with
  | non => exact .base .non
  | bl b => exact .base (.bl b)
  | int i => exact .base (.int i)
  | str x => exact .base (.str x)
  | lst e _ _ => exact .base (.lst e)
  | tup e _ _ => exact .base (.tup e)
def kOf (d : D) : Nat := match d with
  | .none => 0
  | .bool _ => 1
  | .int _ => 2
  | .str _ => 3
  | .list _ => 4
  | .tuple _ => 5
  | .dict _ => 6
/-- isinstance(x, T) for one built-in class T: told by the kind -/
def eIs (T : String) (f : Sl → Option D) : Sl → Option D := fun ds => (f ds).bind fun d => (kitB (tyD d) T).bind fun b => some (.bool b)
/-- isinstance(x, (T1, T2)) -/
def eIs2 (T U : String) (f : Sl → Option D) : Sl → Option D := fun ds => (f ds).bind fun d => (kitB (tyD d) T).bind fun b => (kitB (tyD d) U).bind fun c => some (.bool (b || c))
section
variable {X : Cx} {e c c2 : Expr} {f : Sl → Option D} {p pos p2 : Pos} {k : Nat} {T U : String}
theorem pd_isi (hg : Gl X "isinstance") (hm : X.mg "isinstance" = none) (he : PE X e (tP f)) (hc : PE X c (tC (.ty T)))
    (hs : starEach (e :: [c]) X.env = (false, eval e X.env) :: starEach [c] X.env := by rfl) (hs2 : starEach (c :: []) X.env = (false, eval c X.env) :: starEach [] X.env := by rfl) (hpl : (backTo pos (starEach [c] X.env)).any (·.1) = false := by rfl) :
    PE X (.Call (.Name "isinstance" p) [e, c] [] pos) (tP (eIs T f)) := pe_of (pe_callB call_isi hg hm (by decide +kernel) (pa_cons he (pa_cons hc pa_nil hs2) hs) (by decide) (by decide) hs hpl) fun σ H Q ⟨M, ds, d, ok, s, e, q⟩ => by
  obtain ⟨x, e1, e⟩ := bind_some e
  obtain ⟨b, e2, e⟩ := bind_some e
  cases e
  exact ⟨M, ds, x, ok, s, e1, fun v H1 s1 r1 => ⟨v, .ty T, .type (tyD x), .type T, b, rfl, .ty T, tyx_of r1, kit_ty e2, q _ H1 s1 (.bl b)⟩⟩
theorem pd_isi2 (hg : Gl X "isinstance") (hm : X.mg "isinstance" = none) (he : PE X e (tP f)) (hc : PE X c (tC (.ty T))) (hc2 : PE X c2 (tC (.ty U)))
    (hs : starEach (e :: [.Tuple [c, c2] k p2]) X.env = (false, eval e X.env) :: starEach [.Tuple [c, c2] k p2] X.env := by rfl) (hs2 : starEach (.Tuple [c, c2] k p2 :: []) X.env = (false, eval (.Tuple [c, c2] k p2) X.env) :: starEach [] X.env := by rfl)
    (hs3 : starEach (c :: [c2]) X.env = (false, eval c X.env) :: starEach [c2] X.env := by rfl) (hs4 : starEach (c2 :: []) X.env = (false, eval c2 X.env) :: starEach [] X.env := by rfl)
    (hpl : (backTo pos (starEach [.Tuple [c, c2] k p2] X.env)).any (·.1) = false := by rfl) :
    PE X (.Call (.Name "isinstance" p) [e, .Tuple [c, c2] k p2] [] pos) (tP (eIs2 T U f)) := pe_of (pe_callB call_isiT hg hm (by decide +kernel) (pa_cons he (pa_cons (pe_tup (pa_cons hc (pa_cons hc2 pa_nil hs4) hs3)) pa_nil hs2) hs) (by decide) (by decide) hs hpl) fun σ H Q ⟨M, ds, d, ok, s, e, q⟩ => by
  obtain ⟨x, e1, e⟩ := bind_some e
  obtain ⟨b, e2, e⟩ := bind_some e
  obtain ⟨b', e3, e⟩ := bind_some e
  cases e
  refine ⟨M, ds, x, ok, s, e1, fun v H1 s1 r1 => ⟨by show 2 ≤ sizeLine; rw [sizeLine_eq]; decide, fun tp htp => ?_⟩⟩
  have s2 := Same.new (o := .tup [.ty T, .ty U]) htp
  refine ⟨v, tp, [.ty T, .ty U], .type (tyD x), [.type T, .type U], b || b', rfl, upd_same, .cons (.ty T) (.cons (.ty U) .nil), tyx_of (r1.same s2), ?_, q _ _ (s1.trans s2) (.bl _)⟩
  refine kitAny_cons (kit_ty e2) (fun hb => ?_) (fun hb => by rw [hb]; rfl)
  subst hb
  refine kitAny_cons (kit_ty e3) (fun hb => ?_) (fun hb => by rw [hb]; rfl)
  subst hb
  exact kitAny_nil
end

/-! ### statements -/
inductive Out where
  | nx (ds : Sl)
  | rt (d : D)
  | bk (ds : Sl)
  | ct (ds : Sl)
abbrev S := Sl → Option Out
/-- what must hold of an end -/
def Aft (E : Ends) (M : MS) (H : Hp) : Out → Prop
  | .nx ds => ∀ σ H', Same H H' → SlD M H' σ ds → E.nx σ H'
  | .bk ds => ∀ σ H', Same H H' → SlD M H' σ ds → E.bk σ H'
  | .ct ds => ∀ σ H', Same H H' → SlD M H' σ ds → E.ct σ H'
  | .rt d => ∀ v H', Same H H' → Rp M H' v d → E.rt v H'
theorem Aft.same {E : Ends} {M : MS} {H H' : Hp} {o : Out} (h : Aft E M H o) (s : Same H H') : Aft E M H' o := by
  cases o <;> exact fun a H2 s2 r => h a H2 (s.trans s2) r
def tS (f : S) : TS := fun E σ H => ∃ (M : MS) (ds : Sl) (o : Out), Ok M H ∧ SlD M H σ ds ∧ f ds = some o ∧ Aft E M H o
def sNx : S := fun ds => some (.nx ds)
def sSeq (f g : S) : S := fun ds => (f ds).bind fun o => match o with
  | .nx ds' => g ds'
  | .rt d => some (.rt d)
  | .bk ds' => some (.bk ds')
  | .ct ds' => some (.ct ds')
def sIf (c : Sl → Option Bool) (f g : S) : S := fun ds => (c ds).bind fun b => if b = true then f ds else g ds
def sRet (f : Sl → Option D) : S := fun ds => (f ds).bind fun d => some (.rt d)
def sSet (i : Nat) (f : Sl → Option D) : S := fun ds => (f ds).bind fun d => some (.nx (ds.set i (some d)))
def sDrop (f : Sl → Option D) : S := fun ds => (f ds).bind fun _ => some (.nx ds)
def setAll : List Nat → List D → Sl → Option Sl
  | [], [], ds => some ds
  | i :: is, d :: l, ds => setAll is l (ds.set i (some d))
  | _, _, _ => none
/-- a, b, .. = e -/
def gTupD (is : List Nat) (d : D) (ds : Sl) : Option Sl := match d with
  | .tuple l => setAll is l ds
  | _ => none
def gNameD (i : Nat) (d : D) (ds : Sl) : Option Sl := some (ds.set i (some d))
def sUnp (is : List Nat) (f : Sl → Option D) : S := fun ds => (f ds).bind fun d => (gTupD is d ds).bind fun ds' => some (.nx ds')
def sNever : S := fun _ => none
section
variable {X : Cx} {st : Stmt} {rest : List Stmt} {e c : Expr} {a b : List Stmt} {f g : S} {h : Sl → Option D} {p : Sl → Option Bool} {pos : Pos}
theorem psd_nil : PSs X [] (tS sNx) := pss_of pss_nil fun E σ H ⟨M, ds, o, ok, s, e, q⟩ => by
  cases e
  exact q σ H (Same.refl H) s
theorem psd_cons (h1 : PS X st (tS f)) (h2 : PSs X rest (tS g)) : PSs X (st :: rest) (tS (sSeq f g)) := pss_of (pss_cons h1 h2) fun E σ H ⟨M, ds, o, ok, s, e, q⟩ => by
  obtain ⟨o1, e1, e2⟩ := bind_some e
  refine ⟨M, ds, o1, ok, s, e1, ?_⟩
  cases o1 with
  | nx ds' => exact fun σ' H' s' r => ⟨M, ds', o, ok.same s', r, e2, q.same s'⟩
  | rt d => cases e2; exact q
  | bk d => cases e2; exact q
  | ct d => cases e2; exact q
theorem psd_one (h1 : PS X st (tS f)) : PSs X [st] (tS f) := pss_one h1
theorem psd_pass : PS X (.Pass pos) (tS sNx) := ps_of ps_pass fun E σ H ⟨M, ds, o, ok, s, e, q⟩ => by
  cases e
  exact q σ H (Same.refl H) s
theorem psd_never : PS X st (tS sNever) := ps_of ps_never fun E σ H ⟨M, ds, o, ok, s, e, q⟩ => by cases e
theorem pssd_never : PSs X a (tS sNever) := pss_of pss_never fun E σ H ⟨M, ds, o, ok, s, e, q⟩ => by cases e
theorem psd_if (hc : PT X c (tPT p)) (ha : PSs X a (tS f)) (hb : PSs X b (tS g)) : PS X (.If c a b pos) (tS (sIf p f g)) := ps_of (ps_if hc ha hb) fun E σ H ⟨M, ds, o, ok, s, e, q⟩ => by
  obtain ⟨k, e1, e2⟩ := bind_some e
  refine ⟨M, ds, k, ok, s, e1, fun H1 s1 => ?_⟩
  cases k with
  | true =>
    rw [if_pos rfl] at e2 ⊢
    exact ⟨M, ds, o, ok.same s1, s.same s1, e2, q.same s1⟩
  | false =>
    rw [if_neg Bool.false_ne_true] at e2 ⊢
    exact ⟨M, ds, o, ok.same s1, s.same s1, e2, q.same s1⟩
theorem psd_ret (he : PE X e (tP h)) : PS X (.Return (some e) pos) (tS (sRet h)) := ps_of (ps_ret he) fun E σ H ⟨M, ds, o, ok, s, e, q⟩ => by
  obtain ⟨d, e1, e2⟩ := bind_some e
  cases e2
  exact ⟨M, ds, d, ok, s, e1, fun v H' s' r => q v H' s' r⟩
theorem psd_drop (he : PE X e (tP h)) (hs : swapsWith e none pos.line X.env = pure false := by rfl) : PS X (.Expr e pos) (tS (sDrop h)) := ps_of (ps_expr he hs) fun E σ H ⟨M, ds, o, ok, s, e, q⟩ => by
  obtain ⟨d, e1, e2⟩ := bind_some e
  cases e2
  exact ⟨M, ds, d, ok, s, e1, fun v H' s' r => q σ H' s' (s.same s')⟩
theorem psd_doc {x : Str} {j : Nat} {p1 : Pos} : PS X (.Expr (.Constant (.str x) j p1) pos) (tS sNx) := ps_of ps_doc fun E σ H ⟨M, ds, o, ok, s, e, q⟩ => by
  cases e
  exact q σ H (Same.refl H) s
theorem asg_of {i : Nat} : ∀ E σ H, tS (sSet i h) E σ H → tAsg (tP h) (gName i) E σ H := fun E σ H ⟨M, ds, o, ok, s, e, q⟩ => by
  obtain ⟨d, e1, e2⟩ := bind_some e
  cases e2
  exact ⟨M, ds, d, ok, s, e1, fun v H' s' r => q _ H' s' ((s.same s').set i r)⟩
theorem psd_set {i : Nat} {x : Str} {pos' : Pos} (hN : X.N.Nodup) (hi : X.N[i]? = some x) (hx : Loc X.env.scope x) (he : PE X e (tP h)) (hs : swapsWith e (some (.Name x pos')) pos.line X.env = pure false := by rfl) (hf : X.fn x = true ∨ X.env.scope.names.lookup x = some .local := by first | exact .inl rfl | exact .inr rfl | assumption) :
    PS X (.Assign [.Name x pos'] e pos) (tS (sSet i h)) := ps_of (ps_set hN hi hx he hs hf) asg_of
end
/-- targets -/
def PGD (X : Cx) (tg : Expr) (g : TG) (G : D → Sl → Option Sl) : Prop := PG X tg g ∧ ∀ (M : MS) (H : Hp) (σ : St) (ds ds' : Sl) (v : V) (d : D) (Q : St → Hp → Prop), Ok M H → SlD M H σ ds → Rp M H v d → G d ds = some ds' → (∀ σ' , SlD M H σ' ds' → Q σ' H) → g v σ H Q
def TgsD (g : TGs) (is : List Nat) : Prop := ∀ (M : MS) (H : Hp) (σ : St) (ds ds' : Sl) (vs : List V) (l : List D) (Q : St → Hp → Prop), SlD M H σ ds → RpAll M H vs l → setAll is l ds = some ds' → (∀ σ' , SlD M H σ' ds' → Q σ' H) → g vs σ H Q
theorem tgs_nil : TgsD gNil [] := fun M H σ ds ds' vs l Q s r e q => by
  cases l with
  | nil => cases r; cases e; exact ⟨rfl, q σ s⟩
  | cons => cases e
theorem tgs_cons {i : Nat} {is : List Nat} {u : TGs} (h : TgsD u is) : TgsD (gCons (gName i) u) (i :: is) := fun M H σ ds ds' vs l Q s r e q => by
  cases l with
  | nil => cases e
  | cons d l =>
    cases r with
    | cons r1 r2 => exact ⟨_, _, rfl, h M H _ _ ds' _ l Q (s.set i r1) r2 e q⟩
theorem setAll_len : ∀ {is : List Nat} {l : List D} {ds ds' : Sl}, setAll is l ds = some ds' → l.length = is.length
  | [], [], _, _, _ => rfl
  | i :: is, d :: l, ds, ds', e => by rw [List.length_cons, List.length_cons, setAll_len (is := is) e]
  | [], _ :: _, _, _, e => by cases e
  | _ :: _, [], _, _, e => by cases e
section
variable {X : Cx} {e tg : Expr} {es : List Expr} {h : Sl → Option D} {g : TG} {G : D → Sl → Option Sl} {pos : Pos}
theorem pgd_name {i : Nat} {x : Str} (hN : X.N.Nodup) (hi : X.N[i]? = some x) (hx : Loc X.env.scope x) (hf : X.fn x = true ∨ X.env.scope.names.lookup x = some .local := by first | exact .inl rfl | exact .inr rfl | assumption) : PGD X (.Name x pos) (gName i) (gNameD i) :=
  ⟨pg_name hN hi hx hf, fun M H σ ds ds' v d Q ok s r e q => by cases e; exact q _ (s.set i r)⟩
theorem pgd_tup {k n : Nat} {u : TGs} {is : List Nat} (hc : X.calm = true) (hp : PGs X es u) (hu : TgsD u is) (hl : is.length = n) (hn : (assignEach es X.env).length = n := by rfl) (hst : (assignEach es X.env).findIdx? (·.1) = none := by rfl) : PGD X (.Tuple es k pos) (gTup X.K n u) (gTupD is) :=
  ⟨pg_tup hc hp hn hst, fun M H σ ds ds' v d Q ok s r e q => by
    cases r with
    | tup e1 n1 r1 => exact ⟨_, _, rfl, SqT.of e1, by rw [r1.length, setAll_len e, hl], hu M H σ ds ds' _ _ Q s r1 e q⟩
    | _ => cases e⟩
theorem psd_unp {is : List Nat} (he : PE X e (tP h)) (hg : PGD X tg g (gTupD is)) (hs : swapsWithSole [tg] e pos.line X.env = pure false := by rfl) (hw : swappedStores [tg] e X.env = pure none := by rfl)
    (h1 : (assignEach [tg] X.env).map (·.2) = [assign tg X.env] := by rfl) : PS X (.Assign [tg] e pos) (tS (sUnp is h)) := ps_of (ps_asg he hg.1 hs hw h1) fun E σ H ⟨M, ds, o, ok, s, e, q⟩ => by
  obtain ⟨d, e1, e2⟩ := bind_some e
  obtain ⟨ds', e3, e4⟩ := bind_some e2
  cases e4
  exact ⟨M, ds, d, ok, s, e1, fun v H' s' r => hg.2 M H' σ ds ds' v d _ (ok.same s') (s.same s') r e3 fun σ' r' => q σ' H' s' r'⟩
end

/-! ### loops and comprehensions -/
def itemsD : D → Option (List D)
  | .list l => some l
  | .tuple l => some l
  | _ => none
def eItems (f : Sl → Option D) : Sl → Option (List D) := fun ds => (f ds).bind itemsD
/-- range(n) -/
def rngD (n : Int) : List D := (List.range n.toNat).map fun (i : Nat) => .int i
def eRng (f : Sl → Option D) : Sl → Option (List D) := fun ds => (f ds).bind fun d => match d with
  | .int n => if n ≤ 1000000 ∧ -1000000 ≤ n then some (rngD n) else none
  | _ => none
def loopD (G : D → Sl → Option Sl) (f : S) : List D → S
  | [], ds => some (.nx ds)
  | d :: l, ds => (G d ds).bind fun ds1 => (f ds1).bind fun o => match o with
    | .nx ds2 => loopD G f l ds2
    | .ct ds2 => loopD G f l ds2
    | .bk ds2 => some (.nx ds2)
    | .rt r => some (.rt r)
def sFor (it : Sl → Option (List D)) (G : D → Sl → Option Sl) (f : S) : S := fun ds => (it ds).bind fun l => loopD G f l ds
/-- one turn of a loop -/
theorem loop_turn {E : Ends} {M : MS} {H0 H : Hp} {G : D → Sl → Option Sl} {f : S} {g : TG} {l : List D} {o : Out} {i : Nat} {d : D} {v : V} {σ : St} {ds : Sl} {Pv : Nat → St → Hp → Prop}
    (hP : ∀ j σ H, (∃ ds, SlD M H σ ds ∧ Same H0 H ∧ loopD G f (l.drop j) ds = some o) → Pv j σ H) (hg : ∀ (H : Hp) (σ : St) (ds ds' : Sl) (v : V) (d : D) (Q : St → Hp → Prop), Ok M H → SlD M H σ ds → Rp M H v d → G d ds = some ds' → (∀ σ' , SlD M H σ' ds' → Q σ' H) → g v σ H Q)
    (ok : Ok M H0) (q : Aft E M H0 o) (hd : l[i]? = some d) (s : SlD M H σ ds) (hs : Same H0 H) (e : loopD G f (l.drop i) ds = some o) (r : Rp M H v d) :
    g v σ H fun σ2 H2 => tS f { E with nx := Pv (i + 1), ct := Pv (i + 1), bk := E.nx } σ2 H2 := by
  have hi : i < l.length := (List.getElem?_eq_some_iff.mp hd).1
  have e0 : l.drop i = d :: l.drop (i + 1) := by
    rw [List.drop_eq_getElem_cons hi, (List.getElem?_eq_some_iff.mp hd).2]
  rw [e0] at e
  obtain ⟨ds1, e1, e2⟩ := bind_some e
  obtain ⟨o1, e3, e4⟩ := bind_some e2
  refine hg H σ ds ds1 v d _ (ok.same hs) s r e1 fun σ' s' => ⟨M, ds1, o1, ok.same hs, s', e3, ?_⟩
  cases o1 with
  | nx ds2 => exact fun σ3 H3 s3 r3 => hP _ _ _ ⟨ds2, r3, hs.trans s3, e4⟩
  | ct ds2 => exact fun σ3 H3 s3 r3 => hP _ _ _ ⟨ds2, r3, hs.trans s3, e4⟩
  | bk ds2 => cases e4; exact fun σ3 H3 s3 r3 => q σ3 H3 (hs.trans s3) r3
  | rt d2 => cases e4; exact fun σ3 H3 s3 r3 => q σ3 H3 (hs.trans s3) r3
theorem loop_end {E : Ends} {M : MS} {H0 H : Hp} {G : D → Sl → Option Sl} {f : S} {l : List D} {o : Out} {σ : St} (q : Aft E M H0 o) (n : Nat) (hn : n = l.length) (p : ∃ ds, SlD M H σ ds ∧ Same H0 H ∧ loopD G f (l.drop n) ds = some o) : E.nx σ H := by
  obtain ⟨ds, s, hs, e⟩ := p
  subst hn
  rw [List.drop_length] at e
  cases e
  exact q σ H hs s
def iSeq (K : PySem.W.Frag) (f : Sl → Option D) : TI := fun σ H R => iList K (tP f) σ H R ∨ iTup K (tP f) σ H R
section
variable {X : Cx} {tg iter : Expr} {body : List Stmt} {f : S} {h : Sl → Option D} {g : TG} {G : D → Sl → Option Sl} {pos p : Pos}
theorem pi_seq (he : PE X iter (tP h)) : PI X tg iter (iSeq X.K h) := ⟨fun pins s σ H R I q => q.elim (fun q => (pi_list he).run pins s σ H R I q) fun q => (pi_tup he).run pins s σ H R I q⟩
theorem rpAll_at {M : MS} {H : Hp} {xs : List V} {l : List D} (r : RpAll M H xs l) {i : Nat} {x : V} (h : xs[i]? = some x) : ∃ d, l[i]? = some d ∧ Rp M H x d := r.get' h
theorem psd_for (he : PE X iter (tP h)) (hg : PGD X tg g G) (hb : PSs X body (tS f)) (hc : X.calm = true := by rfl) (hp : PassesOwn (model X.prog X.w) X.A X.env X.xe := by exact PassesOwn.never) (hs : ∀ x, foldedSetIterable iter X.env x = pure x := by intro _; rfl) :
    PS X (.For tg iter body [] pos) (tS (sFor (eItems h) G f)) := ps_of (ps_for hp hc (pi_seq he) hg.1 hb hs) fun E σ H ⟨M, ds, o, ok, s, e, q⟩ => by
  obtain ⟨l, e1, e2⟩ := bind_some e
  obtain ⟨d, e3, e4⟩ := bind_some e1
  unfold itemsD at e4
  split at e4
  · cases e4
    refine .inl ⟨M, ds, _, ok, s, e3, fun v H1 s1 r1 => ?_⟩
    cases r1 with
    | lst a1 n1 r1 =>
      have q1 := q.same s1
      have ok1 := ok.same s1
      refine ⟨_, rfl, ⟨_, SqL.of a1⟩, for_list (fun i σ' H' => ∃ ds', SlD M H' σ' ds' ∧ Same H1 H' ∧ loopD G f (l.drop i) ds' = some o) ⟨ds, s.same s1, Same.refl H1, e2⟩ (fun i σ' H' _ ⟨ds', s', hs, _⟩ => SqL.of (hs _ _ a1)) (fun i x σ' H' hx ⟨ds', s', hs, e'⟩ => ?_) (fun σ' H' p => loop_end q1 _ r1.length p)⟩
      obtain ⟨d, hd, r⟩ := r1.get' hx
      exact loop_turn (E := E) (fun _ _ _ z => z) (hg.2 M) ok1 q1 hd s' hs e' (r.same hs)
  · cases e4
    refine .inr ⟨M, ds, _, ok, s, e3, fun v H1 s1 r1 => ?_⟩
    cases r1 with
    | tup a1 n1 r1 =>
      have q1 := q.same s1
      have ok1 := ok.same s1
      refine ⟨_, rfl, ⟨_, SqT.of a1⟩, for_tup (fun i σ' H' => ∃ ds', SlD M H' σ' ds' ∧ Same H1 H' ∧ loopD G f (l.drop i) ds' = some o) ⟨ds, s.same s1, Same.refl H1, e2⟩ (fun i σ' H' _ ⟨ds', s', hs, _⟩ => SqT.of (hs _ _ a1)) (fun i x σ' H' hx ⟨ds', s', hs, e'⟩ => ?_) (fun σ' H' p => loop_end q1 _ r1.length p)⟩
      obtain ⟨d, hd, r⟩ := r1.get' hx
      exact loop_turn (E := E) (fun _ _ _ z => z) (hg.2 M) ok1 q1 hd s' hs e' (r.same hs)
  · cases e4
theorem rngD_length (n : Int) : (rngD n).length = n.toNat := by unfold rngD; rw [List.length_map, List.length_range]
theorem rngD_get {n : Int} {i : Nat} (h : i < n.toNat) : (rngD n)[i]? = some (.int (i : Int)) := by
  unfold rngD
  rw [List.getElem?_map, List.getElem?_range h]
  rfl
theorem ints1 {M : MS} {H : Hp} {vs : List V} {n : Int} (r : RpAll M H vs [.int n]) : vs = [.int n] := r.ints (ns := [n])
theorem psd_forR {n : Expr} {pos2 : Pos} (hgl : Gl X "range") (hm : X.mg "range" = none) (he : PE X n (tP h)) (hg : PGD X tg g G) (hb : PSs X body (tS f)) (hc : X.calm = true := by rfl) (hp : PassesOwn (model X.prog X.w) X.A X.env X.xe := by exact PassesOwn.never)
    (ha1 : starEach (n :: []) X.env = (false, eval n X.env) :: starEach [] X.env := by rfl) (hr : starEach [n] X.env = [(false, eval n X.env)] := by rfl) (hs : ∀ x, foldedSetIterable (.Call (.Name "range" p) [n] [] pos) X.env x = pure x := by intro _; rfl) :
    PS X (.For tg (.Call (.Name "range" p) [n] [] pos) body [] pos2) (tS (sFor (eRng h) G f)) := ps_of (ps_for hp hc (pi_range1 hgl hm (pa_cons he pa_nil ha1) hr) hg.1 hb hs) fun E σ H ⟨M, ds, o, ok, s, e, q⟩ => by
  obtain ⟨l, e1, e2⟩ := bind_some e
  obtain ⟨d, e3, e4⟩ := bind_some e1
  split at e4
  · split at e4
    · rename_i k hk
      cases e4
      refine ⟨M, ds, _, ok, s, e3, fun v H1 s1 r1 => ?_⟩
      cases r1
      have q1 := q.same s1
      have ok1 := ok.same s1
      refine ⟨_, rfl, by omega, by omega, for_range (lo := 0) (n := k.toNat) (fun i σ' H' => ∃ ds', SlD M H' σ' ds' ∧ Same H1 H' ∧ loopD G f ((rngD k).drop i) ds' = some o) ⟨ds, s.same s1, Same.refl H1, e2⟩ (fun i σ' H' hi ⟨ds', s', hs, e'⟩ => ?_) (fun σ' H' p => loop_end q1 _ (rngD_length k).symm p)⟩
      rw [Int.zero_add]
      exact loop_turn (E := E) (fun _ _ _ z => z) (hg.2 M) ok1 q1 (rngD_get hi) s' hs e' (.int _)
    · cases e4
  · cases e4
end
/-- [e for x in l if c] -/
def lcD (i : Nat) (c : Sl → Option Bool) (e : Sl → Option D) : List D → Sl → Option (List D)
  | [], _ => some []
  | d :: l, ds => (c (ds.set i (some d))).bind fun b => if b = true then (e (ds.set i (some d))).bind fun y => (lcD i c e l ds).bind fun r => some (y :: r) else lcD i c e l ds
def bYes : Sl → Option Bool := fun _ => some true
def eLc (i : Nat) (it : Sl → Option (List D)) (c : Sl → Option Bool) (e : Sl → Option D) : Sl → Option D := fun ds => (it ds).bind fun l => if l.length ≤ lim then (lcD i c e l (ds.set i none)).bind fun r => some (.list r) else none
structure LcI (M : MS) (H1 : Hp) (Dl : Addr) (i : Nat) (c : Sl → Option Bool) (e : Sl → Option D) (ds : Sl) (l : List D) (r : List D) (j : Nat) (H : Hp) : Prop where
  ex : ∃ acc dacc rest, H Dl = some (.lst acc) ∧ RpAll (fun a => M a ∨ a = Dl) H acc dacc ∧ acc.length ≤ j ∧ lcD i c e (l.drop j) (ds.set i none) = some rest ∧ r = dacc ++ rest
  sm : Same H1 H
theorem set_set3 {α : Type} (l : List α) (i : Nat) (a b : α) : (l.set i a).set i b = l.set i b := by simp
theorem lc_turn {M : MS} {H1 H : Hp} {Dl : Addr} {i : Nat} {c : Sl → Option Bool} {e : Sl → Option D} {ds : Sl} {l r : List D} {j : Nat} {σ : St} {d : D} {v : V} (ok : Ok M H1) (hD : H1 Dl = none) (s : SlD M H1 σ ds) (I : LcI M H1 Dl i c e ds l r j H) (hd : l[j]? = some d) (hz : l.length ≤ lim) (rv : Rp M H1 v d) :
    gName i v (wipe σ [i]) H fun σ2 H2 => wipe σ2 [i] = wipe σ [i] ∧ tPT c σ2 H2 fun b H3 =>
      if b = true then tP e σ2 H3 fun y H4 => ∃ acc, H4 Dl = some (.lst acc) ∧ acc.length < sizeLine ∧ LcI M H1 Dl i c e ds l r (j + 1) (upd H4 Dl (.lst (acc ++ [y]))) else LcI M H1 Dl i c e ds l r (j + 1) H3 := by
  obtain ⟨⟨acc, dacc, rest, h1, h2, h3, h4, h5⟩, sm⟩ := I
  have hi : j < l.length := (List.getElem?_eq_some_iff.mp hd).1
  have e0 : l.drop j = d :: l.drop (j + 1) := by
    rw [List.drop_eq_getElem_cons hi, (List.getElem?_eq_some_iff.mp hd).2]
  rw [e0] at h4
  obtain ⟨b, e1, e2⟩ := bind_some h4
  have okD : ∀ {H' : Hp}, Same H H' → Ok (fun a => M a ∨ a = Dl) H' := fun {H'} s' a m => by
    rcases m with m | rfl
    · exact (ok.same (sm.trans s')) a m
    · rw [s' _ _ h1]; simp
  have frame : ∀ a o, ¬ M a → H1 a = some o → ¬ (M a ∨ a = Dl) ∧ H a = some o := fun a o n q => ⟨fun z => z.elim n fun z => (by rw [z, hD] at q; cases q), sm a o q⟩
  have sD : SlD (fun a => M a ∨ a = Dl) H ((wipe σ [i]).set i (some v)) ((ds.set i none).set i (some d)) := by
    have z := ((s.unset i none).mono frame).set i (rv.mono frame d v)
    exact z
  refine ⟨?_, _, _, b, okD (Same.refl H), sD, e1, fun H3 s3 => ?_⟩
  · show ((σ.set i none).set i (some v)).set i none = σ.set i none
    rw [set_set3, set_set3]
  · cases b with
    | false =>
      rw [if_neg Bool.false_ne_true] at e2 ⊢
      exact ⟨⟨acc, dacc, rest, s3 _ _ h1, h2.same s3, by omega, e2, h5⟩, sm.trans s3⟩
    | true =>
      rw [if_pos rfl] at e2 ⊢
      obtain ⟨y, e3, e4⟩ := bind_some e2
      obtain ⟨r', e5, e6⟩ := bind_some e4
      cases e6
      refine ⟨_, _, y, okD s3, sD.same s3, e3, fun w H4 s4 rw_ => ?_⟩
      have s34 := s3.trans s4
      have fr : ∀ a o, ¬ (M a ∨ a = Dl) → H4 a = some o → ¬ (M a ∨ a = Dl) ∧ (upd H4 Dl (.lst (acc ++ [w]))) a = some o := fun a o n q => ⟨n, by rw [upd_ne fun z => n (.inr z)]; exact q⟩
      refine ⟨acc, s34 _ _ h1, Nat.lt_of_lt_of_le (by omega : acc.length < lim) lim_le, ⟨acc ++ [w], dacc ++ [y], r', upd_same, ((h2.same s34).snoc rw_).mono fr _ _, by rw [List.length_append]; simp; omega, e5, by rw [h5, List.append_assoc]; rfl⟩, fun a o q => ?_⟩
      rw [upd_ne (ne_of_none q hD)]
      exact s34 _ _ (sm _ _ q)
theorem lc_fin {M : MS} {H1 H : Hp} {Dl : Addr} {i n : Nat} {c : Sl → Option Bool} {e : Sl → Option D} {ds : Sl} {l r : List D} (hn : n = l.length) (ok : Ok M H1) (hD : H1 Dl = none) (I : LcI M H1 Dl i c e ds l r n H) : Same H1 H ∧ Rp M H (.ref Dl) (.list r) := by
  obtain ⟨⟨acc, dacc, rest, h1, h2, h3, h4, h5⟩, sm⟩ := I
  subst hn
  rw [List.drop_length] at h4
  cases h4
  rw [List.append_nil] at h5
  subst h5
  exact ⟨sm, .lst h1 (fun m => ok Dl m hD) (h2.mono (fun a o n q => ⟨fun z => n (.inl z), q⟩) _ _)⟩
section
variable {X : Cx} {elt tg iter : Expr} {ifs : List Expr} {scope : Scope} {own : List (Str × Nat)} {pos p pos2 : Pos} {i : Nat} {h e : Sl → Option D} {c : Sl → Option Bool}
theorem lc_seq_of {vs : List Nat} (hv : vs = [i]) : ∀ σ H Q, tP (eLc i (eItems h) c e) σ H Q → tLc (iSeq X.K h) (gName i) (tPT c) (tP e) vs σ H Q := fun σ H Q ⟨M, ds, d, ok, s, e0, q⟩ => by
  subst hv
  obtain ⟨l, e1, e2⟩ := bind_some e0
  obtain ⟨d0, e3, e4⟩ := bind_some e1
  split at e2
  · rename_i hz
    obtain ⟨r, e5, e6⟩ := bind_some e2
    cases e6
    unfold itemsD at e4
    split at e4
    · cases e4
      refine .inl ⟨M, ds, _, ok, s, e3, fun v H1 s1 r1 => ?_⟩
      cases r1 with
      | lst a1 n1 r1 =>
        refine ⟨_, rfl, ⟨_, SqL.of a1⟩, fun Dl hD => lc_list (LcI M H1 Dl i c e ds l r) ⟨⟨[], [], r, upd_same, .nil, Nat.zero_le _, e5, rfl⟩, Same.new hD⟩ (fun j H' _ I => SqL.of (I.sm _ _ a1)) (fun j x H' hx I => ?_) (fun H' I => ?_)⟩
        · obtain ⟨d, hd, rx⟩ := r1.get' hx
          exact lc_turn (ok.same s1) hD (s.same s1) I hd hz rx
        · have z := lc_fin r1.length (ok.same s1) hD I
          exact q _ H' (s1.trans z.1) z.2
    · cases e4
      refine .inr ⟨M, ds, _, ok, s, e3, fun v H1 s1 r1 => ?_⟩
      cases r1 with
      | tup a1 n1 r1 =>
        refine ⟨_, rfl, ⟨_, SqT.of a1⟩, fun Dl hD => lc_tup (LcI M H1 Dl i c e ds l r) ⟨⟨[], [], r, upd_same, .nil, Nat.zero_le _, e5, rfl⟩, Same.new hD⟩ (fun j H' _ I => SqT.of (I.sm _ _ a1)) (fun j x H' hx I => ?_) (fun H' I => ?_)⟩
        · obtain ⟨d, hd, rx⟩ := r1.get' hx
          exact lc_turn (ok.same s1) hD (s.same s1) I hd hz rx
        · have z := lc_fin r1.length (ok.same s1) hD I
          exact q _ H' (s1.trans z.1) z.2
    · cases e4
  · cases e2
theorem lc_rng_of {vs : List Nat} (hv : vs = [i]) : ∀ σ H Q, tP (eLc i (eRng h) c e) σ H Q → tLc (iRng1 (tCons (tP h) tNil)) (gName i) (tPT c) (tP e) vs σ H Q := fun σ H Q ⟨M, ds, d, ok, s, e0, q⟩ => by
  subst hv
  obtain ⟨l, e1, e2⟩ := bind_some e0
  obtain ⟨d0, e3, e4⟩ := bind_some e1
  split at e2
  · rename_i hz
    obtain ⟨r, e5, e6⟩ := bind_some e2
    cases e6
    split at e4
    · split at e4
      · rename_i k hk
        cases e4
        refine ⟨M, ds, _, ok, s, e3, fun v H1 s1 r1 => ?_⟩
        cases r1
        refine ⟨_, rfl, by omega, by omega, fun Dl hD => lc_range (lo := 0) (n := k.toNat) (LcI M H1 Dl i c e ds (rngD k) r) ⟨⟨[], [], r, upd_same, .nil, Nat.zero_le _, e5, rfl⟩, Same.new hD⟩ (fun j H' hj I => ?_) (fun H' I => ?_)⟩
        · rw [Int.zero_add]
          exact lc_turn (ok.same s1) hD (s.same s1) I (rngD_get hj) hz (.int _)
        · have z := lc_fin (rngD_length k).symm (ok.same s1) hD I
          exact q _ H' (s1.trans z.1) z.2
      · cases e4
    · cases e4
  · cases e2
theorem ptsd_nil : PTs X [] (tPT bYes) := ⟨fun pins s σ H Q I ⟨M, ds, b, ok, sl, e, q⟩ => pts_nil.run pins s σ H Q I (by cases e; exact q H (Same.refl H))⟩
theorem pd_lc (hc : X.calm = true) (hN : X.N.Nodup) (hi : PE X iter (tP h)) (ok : BlkOk X.N X.env.scope scope own)
    (hg : ∀ (s : Shared) (H : Hp) (C : Addr) (cl : List (Str × Addr)) (fp : List Addr), PG (X.blk s H scope (compEnvC scope cl C X.env) fp) tg (gName i)) (ht : ∀ (s : Shared) (H : Hp) (C : Addr) (cl : List (Str × Addr)) (fp : List Addr), PTs (X.blk s H scope (compEnvC scope cl C X.env) fp) ifs (tPT c))
    (he : ∀ (s : Shared) (H : Hp) (C : Addr) (cl : List (Str × Addr)) (fp : List Addr), PE (X.blk s H scope (compEnvC scope cl C X.env) fp) elt (tP e)) (hv : own.map (·.2) = [i] := by rfl) (hs : ∀ x, foldedSetIterable iter X.env x = pure x := by intro _; rfl) :
    PE X (.ListComp elt [⟨tg, iter, ifs, 0⟩] scope pos) (tP (eLc i (eItems h) c e)) := pe_of (pe_lc hc hN (pi_seq hi) ok hg ht he hs) (lc_seq_of hv)
theorem pd_lcR {n : Expr} (hgl : Gl X "range") (hm : X.mg "range" = none) (hc : X.calm = true) (hN : X.N.Nodup) (hi : PE X n (tP h)) (ok : BlkOk X.N X.env.scope scope own)
    (hg : ∀ (s : Shared) (H : Hp) (C : Addr) (cl : List (Str × Addr)) (fp : List Addr), PG (X.blk s H scope (compEnvC scope cl C X.env) fp) tg (gName i)) (ht : ∀ (s : Shared) (H : Hp) (C : Addr) (cl : List (Str × Addr)) (fp : List Addr), PTs (X.blk s H scope (compEnvC scope cl C X.env) fp) ifs (tPT c))
    (he : ∀ (s : Shared) (H : Hp) (C : Addr) (cl : List (Str × Addr)) (fp : List Addr), PE (X.blk s H scope (compEnvC scope cl C X.env) fp) elt (tP e)) (hv : own.map (·.2) = [i] := by rfl)
    (ha1 : starEach (n :: []) X.env = (false, eval n X.env) :: starEach [] X.env := by rfl) (hr : starEach [n] X.env = [(false, eval n X.env)] := by rfl) (hs : ∀ x, foldedSetIterable (.Call (.Name "range" p) [n] [] pos) X.env x = pure x := by intro _; rfl) :
    PE X (.ListComp elt [⟨tg, .Call (.Name "range" p) [n] [] pos, ifs, 0⟩] scope pos2) (tP (eLc i (eRng h) c e)) := pe_of (pe_lc hc hN (pi_range1 hgl hm (pa_cons hi pa_nil ha1) hr) ok hg ht he hs) (lc_rng_of hv)
/-- y = [..] -/
theorem psd_setLc {j : Nat} {y : Str} {py spos : Pos} (hc : X.calm = true) (hN : X.N.Nodup) (hy : X.N[j]? = some y) (hyl : X.env.scope.names.lookup y = some .local)
    (hsw : swapsWith (.ListComp elt [⟨tg, iter, ifs, 0⟩] scope pos) (some (.Name y py)) spos.line X.env = pure true) (hi : PE X iter (tP h)) (ok : BlkOk X.N X.env.scope scope own)
    (hg : ∀ (s : Shared) (H : Hp) (C : Addr) (cl : List (Str × Addr)) (fp : List Addr), PG (X.blk s H scope (compEnvC scope cl C X.env) fp) tg (gName i)) (ht : ∀ (s : Shared) (H : Hp) (C : Addr) (cl : List (Str × Addr)) (fp : List Addr), PTs (X.blk s H scope (compEnvC scope cl C X.env) fp) ifs (tPT c))
    (he : ∀ (s : Shared) (H : Hp) (C : Addr) (cl : List (Str × Addr)) (fp : List Addr), PE (X.blk s H scope (compEnvC scope cl C X.env) fp) elt (tP e)) (hv : own.map (·.2) = [i] := by rfl) (hs : ∀ x, foldedSetIterable iter X.env x = pure x := by intro _; rfl) :
    PS X (.Assign [.Name y py] (.ListComp elt [⟨tg, iter, ifs, 0⟩] scope pos) spos) (tS (sSet j (eLc i (eItems h) c e))) := ps_of (ps_setLc hc hN hy hyl hsw (pi_seq hi) ok hg ht he hs) fun E σ H q => by
  have z := asg_of E σ H q
  exact lc_seq_of hv σ H _ z
theorem psd_setLcR {j : Nat} {y : Str} {py spos : Pos} {n : Expr} (hgl : Gl X "range") (hm : X.mg "range" = none) (hc : X.calm = true) (hN : X.N.Nodup) (hy : X.N[j]? = some y) (hyl : X.env.scope.names.lookup y = some .local)
    (hsw : swapsWith (.ListComp elt [⟨tg, .Call (.Name "range" p) [n] [] pos, ifs, 0⟩] scope pos2) (some (.Name y py)) spos.line X.env = pure true) (hi : PE X n (tP h)) (ok : BlkOk X.N X.env.scope scope own)
    (hg : ∀ (s : Shared) (H : Hp) (C : Addr) (cl : List (Str × Addr)) (fp : List Addr), PG (X.blk s H scope (compEnvC scope cl C X.env) fp) tg (gName i)) (ht : ∀ (s : Shared) (H : Hp) (C : Addr) (cl : List (Str × Addr)) (fp : List Addr), PTs (X.blk s H scope (compEnvC scope cl C X.env) fp) ifs (tPT c))
    (he : ∀ (s : Shared) (H : Hp) (C : Addr) (cl : List (Str × Addr)) (fp : List Addr), PE (X.blk s H scope (compEnvC scope cl C X.env) fp) elt (tP e)) (hv : own.map (·.2) = [i] := by rfl)
    (ha1 : starEach (n :: []) X.env = (false, eval n X.env) :: starEach [] X.env := by rfl) (hr : starEach [n] X.env = [(false, eval n X.env)] := by rfl) (hs : ∀ x, foldedSetIterable (.Call (.Name "range" p) [n] [] pos) X.env x = pure x := by intro _; rfl) :
    PS X (.Assign [.Name y py] (.ListComp elt [⟨tg, .Call (.Name "range" p) [n] [] pos, ifs, 0⟩] scope pos2) spos) (tS (sSet j (eLc i (eRng h) c e))) := ps_of (ps_setLc hc hN hy hyl hsw (pi_range1 hgl hm (pa_cons hi pa_nil ha1) hr) ok hg ht he hs) fun E σ H q => by
  have z := asg_of E σ H q
  exact lc_rng_of hv σ H _ z
end

/-! ### a def -/
/-- a body's value from its arguments; n names -/
def runF (n : Nat) (f : S) : List D → Option D := fun l => (f (l.map some ++ List.replicate (n - l.length) none)).bind fun o => match o with
  | .rt d => some d
  | .nx _ => some .none
  | _ => none
theorem ok_fun {P : Program} {w : World} {K : PySem.W.Frag} {mg : Str → Option Value} {base : Heap} {x qual : Str} {st : Stmt} {f : Addr} {fd : FuncData} {N ps : List Str} {k n : Nat} {F : S} (hF : Fun K x qual st f fd) (sc : FnScope N ps (defScope st)) (hn : ps.length = n)
    (hb : ∀ (cdv : Value) (A : Around) (outer : List Env) (s : Shared) (H : Hp) (E : XK), Room k (A.deeper (envOfC qual (defScope st) s.heap.objs.size f cdv)) → PSs (cxOf CX0 P w K mg base N qual (defScope st) f cdv A outer s H E).nox (defBody st) (tS F)) :
    FnOk P w K mg base CX0 (k + 1) f fd ps (spF n (runF N.length F)) := by
  refine hF.ok sc (fun vs H Q E h => h.1.trans hn.symm) fun cdv A outer s H vs Q E hr h => ⟨tS F, hb cdv A outer s H E hr, ?_⟩
  obtain ⟨hl, M, l, d, ok, r, e, q⟩ := h
  obtain ⟨o, e1, e2⟩ := bind_some e
  refine ⟨M, _, o, ok, SlD.start r N, e1, ?_⟩
  cases o with
  | rt d' => cases e2; exact q
  | nx ds => cases e2; exact fun σ H' s' _ => q _ H' s' .non
  | bk ds => cases e2
  | ct ds => cases e2
/-- a promise by a lesser function -/
theorem FnOk.le {P : Program} {w : World} {K : PySem.W.Frag} {mg : Str → Option Value} {base : Heap} {CX : CXT} {k n : Nat} {f : Addr} {fd : FuncData} {ps : List Str} {F G : List D → Option D} (h : FnOk P w K mg base CX k f fd ps (spF n F)) (hg : ∀ l d, l.length = n → G l = some d → F l = some d) :
    FnOk P w K mg base CX k f fd ps (spF n G) := h.imp fun vs H Q E ⟨hl, M, l, d, ok, r, e, q⟩ => ⟨hl, M, l, d, ok, r, hg l d (r.length.symm.trans hl) e, q⟩
end Pu

set_option Elab.async false
set_option linter.all false
set_option maxRecDepth 100000
set_option maxHeartbeats 2000000
set_option autoImplicit false
/-! Pu4: chains, identity, the boot's names. -/
namespace Pu
open PySem PySem.Spec PyProof.Rows L2

section
variable {X : Cx} {a b c : Expr} {f g h : Sl → Option D} {pos : Pos}
theorem pd_chain {op op' : CmpOp} {r r' : R2} {o o' : D → D → Option D} (ho : OpR X (compareOp op) r) (hs : OpS r o) (ho' : OpR X (compareOp op') r') (hs' : OpS r' o') (ha : PE X a (tP f)) (hb : PE X b (tP g)) (hc : PE X c (tP h))
    (hm : lastMarks [op, op'] [b, c] = false := by with_unfolding_all rfl) : PE X (.Compare a [op, op'] [b, c] pos) (tP (eChain o o' f g h)) := pe_of (pe_chain ho ho' ha hb hc hm) (chain_of hs hs')
theorem ptd_chain {op op' : CmpOp} {r r' : R2} {o o' : D → D → Option D} (ho : OpR X (compareOp op) r) (hs : OpS r o) (ho' : OpR X (compareOp op') r') (hs' : OpS r' o') (ha : PE X a (tP f)) (hb : PE X b (tP g)) (hc : PE X c (tP h))
    (hm : lastMarks [op, op'] [b, c] = false := by with_unfolding_all rfl) : PT X (.Compare a [op, op'] [b, c] pos) (tPT (bT (eChain o o' f g h))) :=
  pt_of (pt_chain ho ho' ha hb hc hm) fun σ H Q ⟨M, ds, k, ok, s, e, q⟩ => chain_of hs hs' σ H _ ⟨M, ds, .bool k, ok, s, bT_some e, fun v H' s' r => by cases r; exact ⟨k, rfl, q H' s'⟩⟩
end
/-- x is None, x is True -/
def oIsA : D → D → Option D
  | a, .none => some (.bool (isNon a))
  | .bool a, .bool b => some (.bool (decide (a = b)))
  | _, _ => none
def oIsntA : D → D → Option D
  | a, .none => some (.bool (!isNon a))
  | .bool a, .bool b => some (.bool (!decide (a = b)))
  | _, _ => none
def rIsA : R2 := fun x y H Q => (y = .non ∧ Q (.bl (decide (x = .non))) H) ∨ rIsB x y H Q
def rIsntA : R2 := fun x y H Q => (y = .non ∧ Q (.bl (!decide (x = .non))) H) ∨ rNotB x y H Q
theorem op_isA {X : Cx} : OpR X (compareOp .Is) rIsA := op_isN.or op_isBl
theorem op_isntA {X : Cx} : OpR X (compareOp .IsNot) rIsntA := op_notN.or op_notBl
theorem os_isA : OpS rIsA oIsA := by
  intro M H x y dx dy d Q ok rx ry e q
  unfold oIsA at e
  split at e
  · cases e; cases ry
    refine .inl ⟨rfl, ?_⟩
    rw [isNon_V rx]
    exact q _ H (Same.refl H) (.bl _)
  · cases e; cases ry; cases rx
    exact .inr ⟨_, _, rfl, rfl, q _ H (Same.refl H) (.bl _)⟩
  · cases e
theorem os_isntA : OpS rIsntA oIsntA := by
  intro M H x y dx dy d Q ok rx ry e q
  unfold oIsntA at e
  split at e
  · cases e; cases ry
    refine .inl ⟨rfl, ?_⟩
    rw [isNon_V rx]
    exact q _ H (Same.refl H) (.bl _)
  · cases e; cases ry; cases rx
    exact .inr ⟨_, _, rfl, rfl, q _ H (Same.refl H) (.bl _)⟩
  · cases e
/-! in: a list at any depth, a tuple of flat things -/
def flatD : D → Bool
  | .none => true
  | .bool _ => true
  | .int _ => true
  | .str _ => true
  | _ => false
theorem flat_of {M : MS} {H : Hp} {v : V} {d : D} (r : Rp M H v d) (f : flatD d = true) : flatV v = true := by
  cases r <;> first | rfl | (exact Bool.noConfusion f)
theorem eqV_of {M : MS} {H : Hp} {v w : V} {d e : D} (r : Rp M H v d) (q : Rp M H w e) (f : flatD d = true) (g : flatD e = true) : eqV v w = PyData.eqv d e := by
  cases r <;> cases q <;> first | rfl | (exact Bool.noConfusion f) | (exact Bool.noConfusion g) | (simp [eqV, PyData.eqv]; done)
theorem flats_of {M : MS} {H : Hp} : ∀ {vs : List V} {ds : List D}, RpAll M H vs ds → ds.all flatD = true → vs.all flatV = true
  | _, [], r, _ => by cases r; rfl
  | _, d :: ds, r, f => by
    cases r with
    | cons r1 r2 =>
      rw [List.all_cons, Bool.and_eq_true] at f
      rw [List.all_cons, flat_of r1 f.1, flats_of r2 f.2]; rfl
theorem inV_of {M : MS} {H : Hp} {v : V} {d : D} (r : Rp M H v d) (f : flatD d = true) : ∀ {vs : List V} {ds : List D}, RpAll M H vs ds → ds.all flatD = true → inV v vs = ds.any fun z => PyData.eqv z d
  | _, [], q, _ => by cases q; rfl
  | _, e :: ds, q, g => by
    cases q with
    | cons q1 q2 =>
      rw [List.all_cons, Bool.and_eq_true] at g
      have ih := inV_of r f q2 g.2
      unfold inV at ih ⊢
      rw [List.any_cons, List.any_cons, ih, eqV_of q1 r g.1 f]
def oInA : D → D → Option D
  | a, .list b => if SeqAt.shaped a = true ∧ SeqAt.shaped (.list b) = true then some (.bool (b.any fun z => PyData.eqv z a)) else none
  | a, .tuple b => if flatD a = true ∧ b.all flatD = true then some (.bool (b.any fun z => PyData.eqv z a)) else none
  | _, _ => none
def rInA (K : PySem.W.Frag) : R2 := fun x y H Q => rInD K x y H Q ∨ rIn K false x y H Q
theorem op_inA {X : Cx} (hu : X.A.units + 65 < cLine) : OpR X (compareOp .In) (rInA X.K) := (op_inD hu).or op_in_seq
theorem os_inA {K : PySem.W.Frag} : OpS (rInA K) oInA := by
  intro M H x y dx dy d Q ok rx ry e q
  unfold oInA at e
  split at e
  · split at e
    · rename_i hz
      cases e
      exact .inl ⟨_, _, rx.dp, ry.dp, hz.1, hz.2, q _ H (Same.refl H) (.bl _)⟩
    · cases e
  · split at e
    · rename_i hz
      cases e
      cases ry with
      | tup e1 n1 r1 =>
        refine .inr ⟨_, _, rfl, .inr (SqT.of e1), flat_of rx hz.1, flats_of r1 hz.2, ?_⟩
        rw [if_neg Bool.false_ne_true, inV_of rx hz.1 r1 hz.2]
        exact q _ H (Same.refl H) (.bl _)
    · cases e
  · cases e
theorem room65 {k : Nat} {A : Around} (r : Room k A) : A.units + 65 < cLine := by have := r.un; omega

theorem bt_len : bootBuiltins "len" = some (.builtin "len") := by decide +kernel
theorem bt_all : bootBuiltins "all" = some (.builtin "all") := by decide +kernel
theorem bt_max : bootBuiltins "max" = some (.builtin "max") := by decide +kernel
theorem bt_sum : bootBuiltins "sum" = some (.builtin "sum") := by decide +kernel
theorem bt_sorted : bootBuiltins "sorted" = some (.builtin "sorted") := by decide +kernel
theorem bt_isinstance : bootBuiltins "isinstance" = some (.builtin "isinstance") := by decide +kernel
theorem bt_list : bootBuiltins "list" = some (.type "list") := by decide +kernel
theorem bt_tuple : bootBuiltins "tuple" = some (.type "tuple") := by decide +kernel
theorem bt_int : bootBuiltins "int" = some (.type "int") := by decide +kernel
theorem bt_str : bootBuiltins "str" = some (.type "str") := by decide +kernel
theorem bt_bool : bootBuiltins "bool" = some (.type "bool") := by decide +kernel
/-- a def that is never called so -/
theorem ok_void {P : Program} {w : World} {K : PySem.W.Frag} {mg : Str → Option Value} {base : Heap} {CX : CXT} {k n : Nat} {f : Addr} {fd : FuncData} {ps : List Str} : FnOk P w K mg base CX k f fd ps (spF n fun _ => none) :=
  ⟨fun vs H Q E h => (by obtain ⟨_, _, _, _, _, _, e, _⟩ := h; cases e), fun A outer s H args us vs Q E _ _ _ _ h => (by obtain ⟨_, _, _, _, _, _, e, _⟩ := h; cases e)⟩
section
variable {X : Cx} {pos : Pos} {T : String} {x : Str}
theorem pe_ty (hg : Gl X x) (hm : X.mg x = none) (hv : bootBuiltins x = some (.type T)) (hn : x ≠ "__name__" := by decide) (hd : (x == ("__debug__" : Str)) = false := by decide) : PE X (.Name x pos) (tC (.ty T)) := pe_bltn hg hm hv rfl hn hd
end
end Pu

set_option Elab.async false
set_option linter.all false
set_option maxRecDepth 100000
set_option autoImplicit false
/-! Fs: the defs as functions (printed by gen.py) -/
namespace Pu
open PySem PySem.Spec PyProof.Rows L2

def F_put_in : S := (sRet (eOp oAdd (eOp oAdd (eSl (eVar 0) eNoPart (ePart (eVar 1))) (eTup (esCons (eVar 2) esNil))) (eSl (eVar 0) (ePart (eOp oAdd (eVar 1) (eC (.int 1)))) eNoPart)))
def M_put_in : List D → Option D := runF 3 F_put_in

def F_advanced : S := (sSeq (sUnp [2, 3, 4] (eVar 0)) (sSeq (sIf (bT (eOp oNe (eVar 2) (eVar 1))) (sRet (eTup (esCons (eVar 0) (esCons (eC (.bool false)) esNil)))) sNx) (sRet (eTup (esCons (eTup (esCons (eOp oAdd (eVar 2) (eC (.int 1))) (esCons (eVar 3) (esCons (eVar 4) esNil)))) (esCons (eC (.bool true)) esNil))))))
def M_advanced : List D → Option D := runF 5 F_advanced

def F_rested : S := (sRet (eTup (esCons (eTup (esCons (eC (.str "rests")) esNil)) (esCons (eTup (esCons (eC (.str "rests")) (esCons (eVar 0) esNil))) esNil))))
def M_rested : List D → Option D := runF 1 F_rested

def F_own_looked : S := (sSeq (sUnp [2, 3, 4] (eVar 1)) (sSeq (sIf (bT (eOp oLt (eVar 2) (eVar 3))) (sRet (eTup (esCons (eTup (esCons (eC (.str "holds")) (esCons (eOp oIx (eVar 4) (eVar 3)) (esCons (eC (.int 0)) esNil)))) (esCons (eTup (esCons (eC (.str "own")) (esCons (eVar 0) (esCons (eOp oIx (eVar 4) (eVar 3)) esNil)))) esNil)))) sNx) (sSeq (sIf (bT (eOp oEq (eVar 2) (eVar 3))) (sRet (eTup (esCons (eTup (esCons (eC (.str "last")) (esCons (eVar 2) esNil))) (esCons (eC .none) esNil)))) sNx) (sRet (eTup (esCons (eTup (esCons (eC (.str "mends")) (esCons (eOp oAdd (eVar 3) (eC (.int 1))) (esCons (eC .none) esNil)))) (esCons (eC .none) esNil)))))))
def M_own_looked : List D → Option D := runF 5 F_own_looked

def F_own_step : S := (sSeq (sUnp [4, 5, 6] (eVar 1)) (sSeq (sIf (bT (eOp oEq (eOp oIx (eVar 2) (eC (.int 0))) (eC (.str "free")))) (sRet (eTup (esCons (eTup (esCons (eVar 4) (esCons (eOp oSub (eVar 5) (eC (.int 1))) (esCons (eVar 6) esNil)))) (esCons (eTup (esCons (eC (.str "lowered")) esNil)) (esCons (eC .none) esNil))))) sNx) (sSeq (sIf (bT (eOp oEq (eOp oIx (eVar 2) (eC (.int 0))) (eC (.str "lowered")))) (sSeq (sUnp [7, 8] (eCall M_own_looked (esCons (eVar 0) (esCons (eVar 1) esNil)))) (sRet (eTup (esCons (eVar 1) (esCons (eVar 7) (esCons (eVar 8) esNil)))))) sNx) (sSeq (sIf (bT (eOp oEq (eOp oIx (eVar 2) (eC (.int 0))) (eC (.str "last")))) (sSeq (sUnp [1, 9] (eCall M_advanced (esCons (eVar 1) (esCons (eOp oIx (eVar 2) (eC (.int 1))) esNil)))) (sSeq (sIf (bT (eVar 9)) (sSeq (sSet 10 (eOp oIx (eVar 6) (eOp oIx (eVar 2) (eC (.int 1))))) (sRet (eTup (esCons (eVar 1) (esCons (eTup (esCons (eC (.str "mends")) (esCons (eOp oAdd (eOp oIx (eVar 2) (eC (.int 1))) (eC (.int 1))) (esCons (eVar 10) esNil)))) (esCons (eTup (esCons (eC (.str "own")) (esCons (eVar 0) (esCons (eVar 10) esNil)))) esNil)))))) sNx) (sRet (eTup (esCons (eVar 1) (esCons (eTup (esCons (eC (.str "mends")) (esCons (eOp oAdd (eOp oIx (eVar 2) (eC (.int 1))) (eC (.int 1))) (esCons (eC .none) esNil)))) (esCons (eC .none) esNil))))))) sNx) (sSeq (sSet 1 (eTup (esCons (eVar 4) (esCons (eOp oIx (eVar 2) (eC (.int 1))) (esCons (eVar 6) esNil))))) (sSeq (sIf (bT (eOp oIsntA (eOp oIx (eVar 2) (eC (.int 2))) (eC .none))) (sRet (eTup (esCons (eVar 1) (esCons (eTup (esCons (eC (.str "holds")) (esCons (eOp oIx (eVar 2) (eC (.int 2))) (esCons (eC (.int 0)) esNil)))) (esCons (eC .none) esNil))))) sNx) (sSeq (sIf (bT (eOp oEq (eVar 3) (eC (.int 1)))) (sSeq (sUnp [7, 8] (eCall M_rested (esCons (eVar 0) esNil))) (sRet (eTup (esCons (eVar 1) (esCons (eVar 7) (esCons (eVar 8) esNil)))))) sNx) (sRet (eTup (esCons (eVar 1) (esCons (eTup (esCons (eC (.str "looks")) (esCons (eC (.int 1)) esNil))) (esCons (eC .none) esNil))))))))))))
def M_own_step : List D → Option D := runF 11 F_own_step

def F_other_step : S := (sSeq (sUnp [5, 6] (eSl (eVar 3) eNoPart (ePart (eC (.int 2))))) (sSeq (sIf (bT (eOp oEq (eVar 5) (eC (.str "looks")))) (sRet (eTup (esCons (eVar 2) (esCons (eTup (esCons (eC (.str "seen")) (esCons (eVar 6) (esCons (eOp oIx (eVar 2) (eC (.int 0))) esNil)))) (esCons (eC .none) esNil))))) sNx) (sSeq (sIf (bT (eOp oEq (eVar 5) (eC (.str "reads")))) (sRet (eTup (esCons (eVar 2) (esCons (eTup (esCons (eC (.str "tries")) (esCons (eVar 6) (esCons (eOp oIx (eVar 3) (eC (.int 2))) (esCons (eOp oIx (eOp oIx (eVar 2) (eC (.int 2))) (eOp oIx (eVar 3) (eC (.int 2)))) esNil))))) (esCons (eC .none) esNil))))) sNx) (sSeq (sIf (bT (eOp oEq (eVar 5) (eC (.str "tries")))) (sSeq (sUnp [2, 7] (eCall M_advanced (esCons (eVar 2) (esCons (eOp oIx (eVar 3) (eC (.int 2))) esNil)))) (sSeq (sIf (bT (eVar 7)) (sRet (eTup (esCons (eVar 2) (esCons (eTup (esCons (eC (.str "holds")) (esCons (eOp oIx (eVar 3) (eC (.int 3))) (esCons (eC (.int 0)) esNil)))) (esCons (eTup (esCons (eC (.str "taken")) (esCons (eVar 0) (esCons (eVar 1) (esCons (eOp oIx (eVar 3) (eC (.int 3))) esNil))))) esNil))))) sNx) (sRet (eTup (esCons (eVar 2) (esCons (eTup (esCons (eC (.str "looks")) (esCons (eVar 6) esNil))) (esCons (eC .none) esNil))))))) sNx) (sSeq (sIf (bT (eOp oLt (eOp oIx (eVar 3) (eC (.int 2))) (eOp oIx (eVar 2) (eC (.int 1))))) (sRet (eTup (esCons (eVar 2) (esCons (eTup (esCons (eC (.str "reads")) (esCons (eVar 6) (esCons (eOp oIx (eVar 3) (eC (.int 2))) esNil)))) (esCons (eC .none) esNil))))) sNx) (sSeq (sIf (bT (eOp oLt (eOp oAdd (eVar 6) (eC (.int 1))) (eVar 4))) (sRet (eTup (esCons (eVar 2) (esCons (eTup (esCons (eC (.str "looks")) (esCons (eOp oAdd (eVar 6) (eC (.int 1))) esNil))) (esCons (eC .none) esNil))))) sNx) (sSeq (sUnp [8, 9] (eCall M_rested (esCons (eVar 0) esNil))) (sRet (eTup (esCons (eVar 2) (esCons (eVar 8) (esCons (eVar 9) esNil))))))))))))
def M_other_step : List D → Option D := runF 10 F_other_step

def F_task_step : S := (sSeq (sUnp [4, 5, 6] (eVar 1)) (sSeq (sUnp [7, 8, 9] (eVar 2)) (sSeq (sIf (bT (eOp oEq (eVar 7) (eC (.str "wrote")))) (sRet (eTup (esCons (eTup (esCons (eVar 4) (esCons (eOp oAdd (eVar 5) (eC (.int 1))) (esCons (eVar 6) esNil)))) (esCons (eTup (esCons (eC (.str "holds")) (esCons (eVar 8) (esCons (eOp oAdd (eVar 9) (eC (.int 1))) esNil)))) (esCons (eTup (esCons (eC (.str "put")) (esCons (eVar 0) (esCons (eOp oIx (eOp oIx (eVar 3) (eVar 8)) (eVar 9)) esNil)))) esNil))))) sNx) (sSeq (sIf (bT (eOp oLt (eVar 9) (eCall oLen (esCons (eOp oIx (eVar 3) (eVar 8)) esNil)))) (sRet (eTup (esCons (eTup (esCons (eVar 4) (esCons (eVar 5) (esCons (eCall M_put_in (esCons (eVar 6) (esCons (eVar 5) (esCons (eOp oIx (eOp oIx (eVar 3) (eVar 8)) (eVar 9)) esNil)))) esNil)))) (esCons (eTup (esCons (eC (.str "wrote")) (esCons (eVar 8) (esCons (eVar 9) esNil)))) (esCons (eC .none) esNil))))) sNx) (sRet (eTup (esCons (eVar 1) (esCons (eTup (esCons (eC (.str "free")) esNil)) (esCons (eTup (esCons (eC (.str "done")) (esCons (eVar 0) (esCons (eVar 8) esNil)))) esNil)))))))))
def M_task_step : List D → Option D := runF 10 F_task_step

def F_stepped : S := (sSeq (sUnp [3, 4] (eVar 1)) (sSeq (sIf (bNot (bT (eChain oLe oLt (eC (.int 0)) (eVar 2) (eCall oLen (esCons (eVar 4) esNil))))) sNever sNx) (sSeq (sSet 5 (eOp oIx (eVar 4) (eVar 2))) (sSeq (sSet 6 (eVar 2)) (sSeq (sIf (bT (eOp oEq (eOp oIx (eVar 5) (eC (.int 0))) (eC (.str "rests")))) sNever sNx) (sSeq (sIf (bT (eOp oInA (eOp oIx (eVar 5) (eC (.int 0))) (eTup (esCons (eC (.str "free")) (esCons (eC (.str "lowered")) (esCons (eC (.str "last")) (esCons (eC (.str "mends")) esNil))))))) (sUnp [7, 8, 9] (eCall M_own_step (esCons (eVar 2) (esCons (eOp oIx (eVar 3) (eVar 2)) (esCons (eVar 5) (esCons (eCall oLen (esCons (eVar 3) esNil)) esNil)))))) (sIf (bT (eOp oInA (eOp oIx (eVar 5) (eC (.int 0))) (eTup (esCons (eC (.str "holds")) (esCons (eC (.str "wrote")) esNil))))) (sUnp [7, 8, 9] (eCall M_task_step (esCons (eVar 2) (esCons (eOp oIx (eVar 3) (eVar 2)) (esCons (eVar 5) (esCons (eOp oIx (eVar 0) (eC (.int 0))) esNil)))))) (sSeq (sSet 6 (eOp oMod (eOp oAdd (eVar 2) (eOp oIx (eVar 5) (eC (.int 1)))) (eCall oLen (esCons (eVar 3) esNil)))) (sUnp [7, 8, 9] (eCall M_other_step (esCons (eVar 2) (esCons (eVar 6) (esCons (eOp oIx (eVar 3) (eVar 6)) (esCons (eVar 5) (esCons (eCall oLen (esCons (eVar 3) esNil)) esNil)))))))))) (sRet (eTup (esCons (eTup (esCons (eCall M_put_in (esCons (eVar 3) (esCons (eVar 6) (esCons (eVar 7) esNil)))) (esCons (eCall M_put_in (esCons (eVar 4) (esCons (eVar 2) (esCons (eVar 8) esNil)))) esNil))) (esCons (eVar 9) esNil))))))))))
def M_stepped : List D → Option D := runF 10 F_stepped

def F_l_weaving_by : S := (sSeq (sSet 2 (eLst esNil)) (sSeq (sFor (eItems (eVar 0)) (gNameD 3) (sIf (bT (eOp oEq (eOp oMod (eVar 3) (eC (.int 7))) (eC (.int 6)))) (sSet 2 (eOp oAdd (eVar 2) (eLc 4 (eRng (eVar 1)) bYes (eOp oMod (eOp oAdd (eVar 4) (eOp oDiv (eVar 3) (eC (.int 7)))) (eVar 1))))) (sIf (bT (eOp oEq (eOp oMod (eVar 3) (eC (.int 7))) (eC (.int 5)))) (sSet 2 (eOp oAdd (eVar 2) (eOp oMul (eLst (esCons (eOp oMod (eOp oDiv (eVar 3) (eC (.int 7))) (eVar 1)) esNil)) (eOp oAdd (eC (.int 1)) (eOp oMod (eOp oDiv (eOp oDiv (eVar 3) (eC (.int 7))) (eVar 1)) (eC (.int 30))))))) (sSet 2 (eOp oAdd (eVar 2) (eOp oMul (eLst (esCons (eOp oMod (eOp oDiv (eVar 3) (eC (.int 7))) (eVar 1)) esNil)) (eOp oAdd (eC (.int 1)) (eOp oMod (eVar 3) (eC (.int 7)))))))))) (sRet (eVar 2))))
def M_l_weaving_by : List D → Option D := runF 5 F_l_weaving_by

def F_l_alike (rec : List D → Option D) : S := (sSeq (sIf (bT (eIs2 "tuple" "list" (eVar 1))) (sSeq (sIf (bOr (bNot (bT (eIs2 "tuple" "list" (eVar 0)))) (bT (eOp oNe (eIs "tuple" (eVar 0)) (eIs "tuple" (eVar 1))))) (sRet (eC (.bool false))) sNx) (sSeq (sIf (bT (eOp oNe (eCall oLen (esCons (eVar 0) esNil)) (eCall oLen (esCons (eVar 1) esNil)))) (sRet (eC (.bool false))) sNx) (sRet (eCall oAll (esCons (eLc 2 (eRng (eCall oLen (esCons (eVar 1) esNil))) bYes (eCall rec (esCons (eOp oIx (eVar 0) (eVar 2)) (esCons (eOp oIx (eVar 1) (eVar 2)) esNil)))) esNil))))) sNx) (sSeq (sIf (bT (eIs "str" (eVar 1))) (sRet (eAnd (eIs "str" (eVar 0)) (eOp oEq (eVar 0) (eVar 1)))) sNx) (sSeq (sIf (bT (eOp oIsA (eVar 1) (eC .none))) (sRet (eOp oIsA (eVar 0) (eC .none))) sNx) (sRet (eAnd (eIs "int" (eVar 0)) (eAnd (eNot (eIs "bool" (eVar 0))) (eOp oEq (eVar 0) (eVar 1))))))))
def M_l_alike : Nat → List D → Option D
  | 0 => fun _ => none
  | n + 1 => runF 3 (F_l_alike (M_l_alike n))

def F_l_due_own : S := (sSeq (sUnp [4, 5, 6] (eVar 0)) (sSeq (sIf (bT (eOp oEq (eOp oIx (eVar 1) (eC (.int 0))) (eC (.str "free")))) (sRet (eTup (esCons (eTup (esCons (eVar 4) (esCons (eOp oSub (eVar 5) (eC (.int 1))) (esCons (eVar 6) esNil)))) (esCons (eTup (esCons (eC (.str "lowered")) esNil)) (esCons (eC .none) esNil))))) sNx) (sSeq (sIf (bAnd (bT (eOp oEq (eOp oIx (eVar 1) (eC (.int 0))) (eC (.str "lowered")))) (bT (eOp oLt (eVar 4) (eVar 5)))) (sRet (eTup (esCons (eVar 0) (esCons (eTup (esCons (eC (.str "holds")) (esCons (eOp oIx (eVar 6) (eVar 5)) (esCons (eC (.int 0)) esNil)))) (esCons (eTup (esCons (eC (.str "own")) (esCons (eVar 2) (esCons (eOp oIx (eVar 6) (eVar 5)) esNil)))) esNil))))) sNx) (sSeq (sIf (bT (eOp oEq (eOp oIx (eVar 1) (eC (.int 0))) (eC (.str "lowered")))) (sRet (eTup (esCons (eVar 0) (esCons (eOp oIx (eLst (esCons (eTup (esCons (eC (.str "mends")) (esCons (eOp oAdd (eVar 5) (eC (.int 1))) (esCons (eC .none) esNil)))) (esCons (eTup (esCons (eC (.str "last")) (esCons (eVar 4) esNil))) esNil))) (eCall oInt (esCons (eOp oEq (eVar 4) (eVar 5)) esNil))) (esCons (eC .none) esNil))))) sNx) (sSeq (sIf (bAnd (bT (eOp oEq (eOp oIx (eVar 1) (eC (.int 0))) (eC (.str "last")))) (bT (eOp oEq (eVar 4) (eOp oIx (eVar 1) (eC (.int 1)))))) (sSeq (sSet 7 (eOp oIx (eVar 6) (eVar 4))) (sRet (eTup (esCons (eTup (esCons (eOp oAdd (eVar 4) (eC (.int 1))) (esCons (eVar 5) (esCons (eVar 6) esNil)))) (esCons (eTup (esCons (eC (.str "mends")) (esCons (eOp oAdd (eVar 4) (eC (.int 1))) (esCons (eVar 7) esNil)))) (esCons (eTup (esCons (eC (.str "own")) (esCons (eVar 2) (esCons (eVar 7) esNil)))) esNil)))))) sNx) (sSeq (sIf (bT (eOp oEq (eOp oIx (eVar 1) (eC (.int 0))) (eC (.str "last")))) (sRet (eTup (esCons (eVar 0) (esCons (eTup (esCons (eC (.str "mends")) (esCons (eOp oAdd (eOp oIx (eVar 1) (eC (.int 1))) (eC (.int 1))) (esCons (eC .none) esNil)))) (esCons (eC .none) esNil))))) sNx) (sSeq (sSet 0 (eTup (esCons (eVar 4) (esCons (eOp oIx (eVar 1) (eC (.int 1))) (esCons (eVar 6) esNil))))) (sSeq (sIf (bT (eOp oIsntA (eOp oIx (eVar 1) (eC (.int 2))) (eC .none))) (sRet (eTup (esCons (eVar 0) (esCons (eTup (esCons (eC (.str "holds")) (esCons (eOp oIx (eVar 1) (eC (.int 2))) (esCons (eC (.int 0)) esNil)))) (esCons (eC .none) esNil))))) sNx) (sSeq (sIf (bT (eOp oEq (eVar 3) (eC (.int 1)))) (sRet (eTup (esCons (eVar 0) (esCons (eTup (esCons (eC (.str "rests")) esNil)) (esCons (eTup (esCons (eC (.str "rests")) (esCons (eVar 2) esNil))) esNil))))) sNx) (sRet (eTup (esCons (eVar 0) (esCons (eTup (esCons (eC (.str "looks")) (esCons (eC (.int 1)) esNil))) (esCons (eC .none) esNil))))))))))))))
def M_l_due_own : List D → Option D := runF 8 F_l_due_own

def F_l_due_other : S := (sSeq (sUnp [5, 6, 7] (eVar 0)) (sSeq (sIf (bT (eOp oEq (eOp oIx (eVar 1) (eC (.int 0))) (eC (.str "looks")))) (sRet (eTup (esCons (eVar 0) (esCons (eTup (esCons (eC (.str "seen")) (esCons (eOp oIx (eVar 1) (eC (.int 1))) (esCons (eVar 5) esNil)))) (esCons (eC .none) esNil))))) sNx) (sSeq (sIf (bT (eOp oEq (eOp oIx (eVar 1) (eC (.int 0))) (eC (.str "reads")))) (sRet (eTup (esCons (eVar 0) (esCons (eTup (esCons (eC (.str "tries")) (esCons (eOp oIx (eVar 1) (eC (.int 1))) (esCons (eOp oIx (eVar 1) (eC (.int 2))) (esCons (eOp oIx (eVar 7) (eOp oIx (eVar 1) (eC (.int 2)))) esNil))))) (esCons (eC .none) esNil))))) sNx) (sSeq (sIf (bAnd (bT (eOp oEq (eOp oIx (eVar 1) (eC (.int 0))) (eC (.str "tries")))) (bT (eOp oEq (eVar 5) (eOp oIx (eVar 1) (eC (.int 2)))))) (sRet (eTup (esCons (eTup (esCons (eOp oAdd (eVar 5) (eC (.int 1))) (esCons (eVar 6) (esCons (eVar 7) esNil)))) (esCons (eTup (esCons (eC (.str "holds")) (esCons (eOp oIx (eVar 1) (eC (.int 3))) (esCons (eC (.int 0)) esNil)))) (esCons (eTup (esCons (eC (.str "taken")) (esCons (eVar 2) (esCons (eVar 3) (esCons (eOp oIx (eVar 1) (eC (.int 3))) esNil))))) esNil))))) sNx) (sSeq (sIf (bT (eOp oEq (eOp oIx (eVar 1) (eC (.int 0))) (eC (.str "tries")))) (sRet (eTup (esCons (eVar 0) (esCons (eTup (esCons (eC (.str "looks")) (esCons (eOp oIx (eVar 1) (eC (.int 1))) esNil))) (esCons (eC .none) esNil))))) sNx) (sSeq (sIf (bT (eOp oLt (eOp oIx (eVar 1) (eC (.int 2))) (eVar 6))) (sRet (eTup (esCons (eVar 0) (esCons (eTup (esCons (eC (.str "reads")) (esCons (eOp oIx (eVar 1) (eC (.int 1))) (esCons (eOp oIx (eVar 1) (eC (.int 2))) esNil)))) (esCons (eC .none) esNil))))) sNx) (sSeq (sIf (bT (eOp oEq (eOp oAdd (eOp oIx (eVar 1) (eC (.int 1))) (eC (.int 1))) (eVar 4))) (sRet (eTup (esCons (eVar 0) (esCons (eTup (esCons (eC (.str "rests")) esNil)) (esCons (eTup (esCons (eC (.str "rests")) (esCons (eVar 2) esNil))) esNil))))) sNx) (sRet (eTup (esCons (eVar 0) (esCons (eTup (esCons (eC (.str "looks")) (esCons (eOp oAdd (eOp oIx (eVar 1) (eC (.int 1))) (eC (.int 1))) esNil))) (esCons (eC .none) esNil))))))))))))
def M_l_due_other : List D → Option D := runF 8 F_l_due_other

def F_l_due_task : S := (sSeq (sUnp [4, 5, 6] (eVar 1)) (sSeq (sIf (bT (eOp oEq (eOp oIx (eVar 2) (eC (.int 0))) (eC (.str "wrote")))) (sRet (eTup (esCons (eTup (esCons (eVar 4) (esCons (eOp oAdd (eVar 5) (eC (.int 1))) (esCons (eVar 6) esNil)))) (esCons (eTup (esCons (eC (.str "holds")) (esCons (eOp oIx (eVar 2) (eC (.int 1))) (esCons (eOp oAdd (eOp oIx (eVar 2) (eC (.int 2))) (eC (.int 1))) esNil)))) (esCons (eTup (esCons (eC (.str "put")) (esCons (eVar 3) (esCons (eOp oIx (eVar 0) (eOp oIx (eVar 2) (eC (.int 2)))) esNil)))) esNil))))) sNx) (sSeq (sIf (bT (eOp oEq (eOp oIx (eVar 2) (eC (.int 2))) (eCall oLen (esCons (eVar 0) esNil)))) (sRet (eTup (esCons (eVar 1) (esCons (eTup (esCons (eC (.str "free")) esNil)) (esCons (eTup (esCons (eC (.str "done")) (esCons (eVar 3) (esCons (eOp oIx (eVar 2) (eC (.int 1))) esNil)))) esNil))))) sNx) (sSeq (sSet 6 (eOp oAdd (eOp oAdd (eSl (eVar 6) eNoPart (ePart (eVar 5))) (eTup (esCons (eOp oIx (eVar 0) (eOp oIx (eVar 2) (eC (.int 2)))) esNil))) (eSl (eVar 6) (ePart (eOp oAdd (eVar 5) (eC (.int 1)))) eNoPart))) (sRet (eTup (esCons (eTup (esCons (eVar 4) (esCons (eVar 5) (esCons (eVar 6) esNil)))) (esCons (eTup (esCons (eC (.str "wrote")) (esCons (eOp oIx (eVar 2) (eC (.int 1))) (esCons (eOp oIx (eVar 2) (eC (.int 2))) esNil)))) (esCons (eC .none) esNil)))))))))
def M_l_due_task : List D → Option D := runF 7 F_l_due_task

def F_l_due : S := (sSeq (sSet 3 (eOp oIx (eOp oIx (eVar 1) (eC (.int 1))) (eVar 2))) (sSeq (sSet 4 (eCall oLen (esCons (eOp oIx (eVar 1) (eC (.int 0))) esNil))) (sSeq (sIf (bT (eOp oInA (eOp oIx (eVar 3) (eC (.int 0))) (eLst (esCons (eC (.str "looks")) (esCons (eC (.str "seen")) (esCons (eC (.str "reads")) (esCons (eC (.str "tries")) esNil))))))) (sSeq (sSet 5 (eOp oMod (eOp oAdd (eVar 2) (eOp oIx (eVar 3) (eC (.int 1)))) (eVar 4))) (sRet (eOp oAdd (eTup (esCons (eVar 5) esNil)) (eCall M_l_due_other (esCons (eOp oIx (eOp oIx (eVar 1) (eC (.int 0))) (eVar 5)) (esCons (eVar 3) (esCons (eVar 2) (esCons (eVar 5) (esCons (eVar 4) esNil))))))))) sNx) (sSeq (sIf (bT (eOp oInA (eOp oIx (eVar 3) (eC (.int 0))) (eLst (esCons (eC (.str "holds")) (esCons (eC (.str "wrote")) esNil))))) (sRet (eOp oAdd (eTup (esCons (eVar 2) esNil)) (eCall M_l_due_task (esCons (eOp oIx (eOp oIx (eVar 0) (eC (.int 0))) (eOp oIx (eVar 3) (eC (.int 1)))) (esCons (eOp oIx (eOp oIx (eVar 1) (eC (.int 0))) (eVar 2)) (esCons (eVar 3) (esCons (eVar 2) esNil))))))) sNx) (sRet (eOp oAdd (eTup (esCons (eVar 2) esNil)) (eCall M_l_due_own (esCons (eOp oIx (eOp oIx (eVar 1) (eC (.int 0))) (eVar 2)) (esCons (eVar 3) (esCons (eVar 2) (esCons (eVar 4) esNil)))))))))))
def M_l_due : List D → Option D := runF 6 F_l_due

def F_started : S := (sSeq (sSet 1 (eCall oTuple (esCons (eLc 2 (eItems (eOp oIx (eVar 0) (eC (.int 1)))) bYes (eTup (esCons (eC (.int 0)) (esCons (eCall oLen (esCons (eVar 2) esNil)) (esCons (eCall oTuple (esCons (eVar 2) esNil)) esNil))))) esNil))) (sRet (eTup (esCons (eVar 1) (esCons (eCall oTuple (esCons (eLc 2 (eItems (eVar 1)) bYes (eTup (esCons (eC (.str "free")) esNil))) esNil)) esNil)))))
def M_started : List D → Option D := runF 3 F_started

def F_is_over : S := (sRet (eCall oAll (esCons (eLc 1 (eItems (eOp oIx (eVar 0) (eC (.int 1)))) bYes (eOp oEq (eOp oIx (eVar 1) (eC (.int 0))) (eC (.str "rests")))) esNil)))
def M_is_over : List D → Option D := runF 2 F_is_over

end Pu

set_option Elab.async false
set_option linter.all false
set_option maxRecDepth 100000
set_option maxHeartbeats 2000000
set_option autoImplicit false
/-! Ha: helps for readings by hand: slots, rows of one's own, loops. -/
namespace Pu
open PySem PySem.Spec PyProof.Rows L2

section
variable {M : MS} {H : Hp} {σ : St} {ds : Sl} {v : V} {d : D} {o : Option V}
theorem SlD.nil : SlD M H [] [] := ⟨rfl, fun i d g => by simp at g⟩
theorem SlD.no (o : Option V) (h : SlD M H σ ds) : SlD M H (o :: σ) (none :: ds) := ⟨by rw [List.length_cons, List.length_cons, h.len], fun i d g => by
  cases i with
  | zero => simp at g
  | succ i => simpa using h.get i d (by simpa using g)⟩
theorem SlD.yes (r : Rp M H v d) (h : SlD M H σ ds) : SlD M H (some v :: σ) (some d :: ds) := ⟨by rw [List.length_cons, List.length_cons, h.len], fun i d' g => by
  cases i with
  | zero => simp at g; subst g; exact ⟨v, by simp, r⟩
  | succ i => simpa using h.get i d' (by simpa using g)⟩
/-- a function's reading, met -/
theorem tp_ok {f : Sl → Option D} {Q : VK} (ok : Ok M H) (s : SlD M H σ ds) (e : f ds = some d) (q : ∀ v H', Same H H' → Rp M H' v d → Q v H') : tP f σ H Q := ⟨M, ds, d, ok, s, e, q⟩
/-- .. of a whole number -/
theorem tp_int {f : Sl → Option D} {Q : VK} {i : Int} (ok : Ok M H) (s : SlD M H σ ds) (e : f ds = some (.int i)) (q : ∀ H', Same H H' → Q (.int i) H') : tP f σ H Q := ⟨M, ds, _, ok, s, e, fun v H' s' r => by cases r; exact q H' s'⟩
theorem tpt_ok {f : Sl → Option Bool} {b : Bool} {Q : Bool → Hp → Prop} (ok : Ok M H) (s : SlD M H σ ds) (e : f ds = some b) (q : ∀ H', Same H H' → Q b H') : tPT f σ H Q := ⟨M, ds, b, ok, s, e, q⟩
end
theorem if_true_of {c : Bool} {A B : Prop} (hc : c = true) (h : A) : if c = true then A else B := by
  rw [if_pos hc]
  exact h
theorem if_false_of {c : Bool} {A B : Prop} (hc : c = false) (h : B) : if c = true then A else B := by
  rw [hc, if_neg Bool.false_ne_true]
  exact h
abbrev M0 : MS := fun _ => False
mutual
def nolist : D → Bool
  | .list _ => false
  | .tuple l => nolists l
  | .dict _ => false
  | .none => true
  | .bool _ => true
  | .int _ => true
  | .str _ => true
def nolists : List D → Bool
  | [] => true
  | d :: l => nolist d && nolists l
end
mutual
theorem Rp.nolist {M M' : MS} {H : Hp} (k : ∀ a, M' a → ∀ xs, H a ≠ some (.tup xs)) : ∀ (d : D) (v : V), nolist d = true → Rp M H v d → Rp M' H v d
  | .none, _, _, h => by cases h; exact .non
  | .bool b, _, _, h => by cases h; exact .bl b
  | .int i, _, _, h => by cases h; exact .int i
  | .str x, _, _, h => by cases h; exact .str x
  | .list ds, _, n, h => by cases n
  | .tuple ds, _, n, h => by
    cases h with
    | tup e m r => exact .tup e (fun z => k _ z _ e) (RpAll.nolist k ds _ n r)
  | .dict _, _, _, h => by cases h
theorem RpAll.nolist {M M' : MS} {H : Hp} (k : ∀ a, M' a → ∀ xs, H a ≠ some (.tup xs)) : ∀ (ds : List D) (vs : List V), nolists ds = true → RpAll M H vs ds → RpAll M' H vs ds
  | [], _, _, h => by cases h; exact .nil
  | d :: ds, _, n, h => by
    cases h with
    | cons h1 h2 =>
      have n' : (Pu.nolist d && nolists ds) = true := n
      rw [Bool.and_eq_true] at n'
      exact .cons (Rp.nolist k d _ n'.1 h1) (RpAll.nolist k ds _ n'.2 h2)
end

/-! ### one reading at a time -/
section
variable {t u : TS} {te ta tb : TE} {tr : TA} {g : TG} {D : Ends} {σ : St} {H : Hp} {Q : VK} {c : TT}
theorem z_seq (h : t { D with nx := u D } σ H) : tSeq t u D σ H := h
theorem z_asg (h : te σ H fun x H1 => g x σ H1 D.nx) : tAsg te g D σ H := h
theorem z_name {i : Nat} {v : V} {R : St → Hp → Prop} (h : R (σ.set i (some v)) H) : gName i v σ H R := h
theorem z_tup (h : tr σ H fun xs H1 => xs.length ≤ sizeLine ∧ ∀ p, H1 p = none → Q (.ref p) (upd H1 p (.tup xs))) : tTup tr σ H Q := h
theorem z_cons {R : List V → Hp → Prop} (h : te σ H fun x H1 => tr σ H1 fun xs H2 => R (x :: xs) H2) : tCons te tr σ H R := h
theorem z_ret (h : te σ H D.rt) : tRet te D σ H := h
theorem z_drop (h : te σ H fun _ H1 => D.nx σ H1) : tDrop te D σ H := h
theorem z_if (h : c σ H fun b H1 => if b = true then t D σ H1 else u D σ H1) : tIfS c t u D σ H := h
theorem z_op {r : R2} (h : ta σ H fun x H1 => tb σ H1 fun y H2 => r x y H2 Q) : tOp r ta tb σ H Q := h
end
/-! ### the script's cells -/
/-- any whole number, at a place from 0 on -/
def spCellZ (K : PySem.W.Frag) : Sp := fun vs H Q _ => ∃ (a : Addr) (ns : List Int) (k : Int), vs = [.ref a, .int k] ∧ SqL K H a (ns.map V.int) ∧ 0 ≤ k ∧ ∀ (c : Int) (H' : Hp), Same H H' → Q (.int c) H'

/-! ### a list of lists of one's own: at l the list of the rows at as, whose contents are rs (as values) -/
structure Rows (H : Hp) (l : Addr) (as : List Addr) (rs : List (List V)) : Prop where
  top : H l = some (.lst (as.map V.ref))
  nd : (l :: as).Nodup
  len : as.length = rs.length
  row : ∀ (i : Nat) (a : Addr), as[i]? = some a → ∃ r, rs[i]? = some r ∧ H a = some (.lst r)
theorem Rows.same {H H' : Hp} {l : Addr} {as : List Addr} {rs : List (List V)} (R : Rows H l as rs) (k : ∀ a o, (a = l ∨ a ∈ as) → H a = some o → H' a = some o) : Rows H' l as rs :=
  ⟨k _ _ (.inl rfl) R.top, R.nd, R.len, fun i a h => by
    obtain ⟨r, h1, h2⟩ := R.row i a h
    exact ⟨r, h1, k _ _ (.inr (List.mem_of_getElem? h)) h2⟩⟩
theorem Rows.at {H : Hp} {l : Addr} {as : List Addr} {rs : List (List V)} (R : Rows H l as rs) {i : Nat} (hi : i < rs.length) : ∃ a r, as[i]? = some a ∧ rs[i]? = some r ∧ H a = some (.lst r) ∧ a ≠ l := by
  have h : as[i]? = some (as[i]'(by rw [R.len]; exact hi)) := List.getElem?_eq_getElem _
  obtain ⟨r, h1, h2⟩ := R.row i _ h
  refine ⟨_, r, h, h1, h2, fun e => ?_⟩
  have := (List.nodup_cons.mp R.nd).1
  exact this (by rw [← e]; exact List.mem_of_getElem? h)
/-- a row changes -/
theorem Rows.set {H : Hp} {l a : Addr} {as : List Addr} {rs : List (List V)} {i : Nat} {r : List V} (R : Rows H l as rs) (h : as[i]? = some a) : Rows (upd H a (.lst r)) l as (rs.set i r) := by
  have ha := List.mem_of_getElem? h
  have hl : l ≠ a := fun e => (List.nodup_cons.mp R.nd).1 (e ▸ ha)
  refine ⟨by rw [upd_ne hl]; exact R.top, R.nd, by rw [List.length_set]; exact R.len, fun j b hb => ?_⟩
  by_cases hj : i = j
  · subst hj
    rw [h] at hb; cases hb
    obtain ⟨r0, h1, _⟩ := R.row i a h
    exact ⟨r, List.getElem?_set_self (List.getElem?_eq_some_iff.mp h1).1 |>.trans rfl, upd_same⟩
  · have hab : b ≠ a := fun e => hj (nd_ix (List.nodup_cons.mp R.nd).2 h (e ▸ hb))
    obtain ⟨r0, h1, h2⟩ := R.row j b hb
    exact ⟨r0, by rw [List.getElem?_set_ne hj]; exact h1, by rw [upd_ne hab]; exact h2⟩
/-- rows of data, with nothing of M -/
theorem Rows.rp {M : MS} {H : Hp} {l : Addr} {as : List Addr} {rs : List (List V)} {dss : List (List D)} (R : Rows H l as rs) (hl : ¬ M l) (ha : ∀ a ∈ as, ¬ M a) (hd : dss.length = rs.length) (hr : ∀ (i : Nat) (r : List V) (ds : List D), rs[i]? = some r → dss[i]? = some ds → RpAll M H r ds) :
    Rp M H (.ref l) (.list (dss.map .list)) := by
  refine .lst R.top hl ?_
  have key : ∀ (as : List Addr) (rs : List (List V)) (dss : List (List D)), as.length = rs.length → dss.length = rs.length → (∀ a ∈ as, ¬ M a) → (∀ (i : Nat) (a : Addr), as[i]? = some a → ∃ r, rs[i]? = some r ∧ H a = some (.lst r)) →
      (∀ (i : Nat) (r : List V) (ds : List D), rs[i]? = some r → dss[i]? = some ds → RpAll M H r ds) → RpAll M H (as.map V.ref) (dss.map .list) := by
    intro as
    induction as with
    | nil =>
      intro rs dss h1 h2 _ _ _
      have : dss = [] := List.length_eq_zero_iff.mp (by rw [h2, ← h1]; rfl)
      subst this
      exact .nil
    | cons a as ih =>
      intro rs dss h1 h2 h3 h4 h5
      cases rs with
      | nil => cases h1
      | cons r rs =>
        cases dss with
        | nil => cases h2
        | cons ds dss =>
          obtain ⟨r', e1, e2⟩ := h4 0 a rfl
          have e1' : r = r' := by simpa using e1
          subst e1'
          refine .cons (.lst e2 (h3 a List.mem_cons_self) (h5 0 r ds rfl rfl)) (ih rs dss (by simpa using h1) (by simpa using h2) (fun b hb => h3 b (List.mem_cons_of_mem _ hb)) (fun i b hb => ?_) fun i r' ds' h6 h7 => ?_)
          · obtain ⟨q, q1, q2⟩ := h4 (i + 1) b (by simpa using hb)
            exact ⟨q, by simpa using q1, q2⟩
          · exact h5 (i + 1) r' ds' (by simpa using h6) (by simpa using h7)
  exact key as rs dss R.len hd ha R.row hr

theorem Rows.nil {H : Hp} {l : Addr} (h : H l = some (.lst [])) : Rows H l [] [] := ⟨h, by simp, rfl, fun i a h => by simp at h⟩
theorem Rows.push {H : Hp} {l p : Addr} {as : List Addr} {rs : List (List V)} {r : List V} (R : Rows H l as rs) (hp : H p = none) : Rows (upd (upd H p (.lst r)) l (.lst (as.map V.ref ++ [.ref p]))) l (as ++ [p]) (rs ++ [r]) := by
  have hlp : p ≠ l := fun e => by rw [e, R.top] at hp; cases hp
  have hap : ∀ a ∈ as, a ≠ p := fun a ha e => by
    obtain ⟨i, hi⟩ := List.mem_iff_getElem?.mp ha
    obtain ⟨r, _, h2⟩ := R.row i a hi
    rw [e, hp] at h2; cases h2
  have hal : ∀ a ∈ as, a ≠ l := fun a ha e => (List.nodup_cons.mp R.nd).1 (e ▸ ha)
  refine ⟨by rw [upd_same, List.map_append]; rfl, ?_, by rw [List.length_append, List.length_append, R.len]; rfl, fun i a h => ?_⟩
  · have h1 := List.nodup_cons.mp R.nd
    refine List.nodup_cons.mpr ⟨fun m => ?_, ?_⟩
    · rcases List.mem_append.mp m with m | m
      · exact h1.1 m
      · exact hlp (List.mem_singleton.mp m).symm
    · refine List.nodup_append.mpr ⟨h1.2, by simp, fun a ha b hb => ?_⟩
      rw [List.mem_singleton.mp hb]
      exact hap a ha
  · by_cases hi : i < as.length
    · rw [List.getElem?_append_left hi] at h
      have ha := List.mem_of_getElem? h
      obtain ⟨r', h1, h2⟩ := R.row i a h
      refine ⟨r', ?_, by rw [upd_ne (hal a ha), upd_ne (hap a ha)]; exact h2⟩
      rw [List.getElem?_append_left (by rw [← R.len]; exact hi)]
      exact h1
    · have e : i = as.length := by
        have := (List.getElem?_eq_some_iff.mp h).1
        rw [List.length_append] at this
        simp at this
        omega
      subst e
      rw [List.getElem?_append_right (Nat.le_refl _)] at h
      simp at h
      subst h
      refine ⟨r, ?_, by rw [upd_ne hlp]; exact upd_same⟩
      rw [R.len, List.getElem?_append_right (Nat.le_refl _)]
      simp
/-- rows that were not there in H0 -/
def New (H0 : Hp) (l : Addr) (as : List Addr) : Prop := H0 l = none ∧ ∀ a ∈ as, H0 a = none
theorem New.push {H0 H : Hp} {l p : Addr} {as : List Addr} (n : New H0 l as) (s : Same H0 H) (hp : H p = none) : New H0 l (as ++ [p]) := ⟨n.1, fun a ha => by
  rcases List.mem_append.mp ha with h | h
  · exact n.2 a h
  · rw [List.mem_singleton.mp h]; exact s.free hp⟩
theorem Same.mut {H H' : Hp} {p : Addr} {o : HO} (e : Same H H') (h : H p = none) : Same H (upd H' p o) := fun a u ha => by
  rw [upd_ne (ne_of_none ha h)]
  exact e a u ha
/-- [[] for x in range(n)] -/
theorem lc_empties {i : Nat} {σ : St} {H1 : Hp} {Dl : Addr} {n : Nat} {Qd : Hp → Prop} (hD : H1 Dl = none) (hn : n ≤ 100000)
    (k : ∀ H as, Rows H Dl as (List.replicate n []) → Same H1 H → New H1 Dl as → Qd H) :
    ∃ W : Nat → Nat → Hp → Prop, (∃ m, W 0 m (upd H1 Dl (.lst []))) ∧ ∀ j m H, W j m H →
      ((Itr 0 n).stop j H ∧ Qd H) ∨ ((Itr 0 n).go j H ∧ ∃ Nx : Hp → Prop, (∀ H', Nx H' → ∃ m', m' < m ∧ W (j + 1) m' H') ∧ ∀ x H', (Itr 0 n).yld j H x H' → gName i x (wipe σ [i]) H' fun σ2 H2 => wipe σ2 [i] = wipe σ [i] ∧ tYes σ2 H2 fun b H3 =>
        if b = true then tLst tNil σ2 H3 fun y H4 => ∃ acc, H4 Dl = some (.lst acc) ∧ acc.length < sizeLine ∧ Nx (upd H4 Dl (.lst (acc ++ [y]))) else Nx H3) := by
  refine lc_range (te := tLst tNil) (tt := tYes) (lo := 0) (n := n) (fun j H => ∃ as, Rows H Dl as (List.replicate j []) ∧ Same H1 H ∧ New H1 Dl as) ⟨[], Rows.nil upd_same, Same.new hD, hD, fun a h => by simp at h⟩ (fun j H hj hP => ?_) (fun H ⟨as, R, s, nw⟩ => k H as R s nw)
  obtain ⟨as, R, s, nw⟩ := hP
  refine ⟨?_, ?_⟩
  · show ((σ.set i none).set i _).set i none = σ.set i none
    rw [set_set3, set_set3]
  · dsimp only [tYes]
    rw [if_pos rfl]
    refine ⟨Nat.zero_le _, fun p hp => ⟨as.map V.ref, ?_, ?_, as ++ [p], ?_, ?_, nw.push s hp⟩⟩
    · rw [upd_ne (ne_of_none R.top hp)]; exact R.top
    · rw [List.length_map, R.len, List.length_replicate, sizeLine_eq]; omega
    · have z := R.push (r := []) hp
      rw [List.replicate_succ']
      exact z
    · exact Pu.Same.mut (L2.Same.trans s (Pu.Same.new hp)) hD

end Pu

set_option Elab.async false
set_option linter.all false
set_option maxRecDepth 100000
set_option maxHeartbeats 2000000
set_option autoImplicit false
/-! Plan: plans as plain lists; what the law's builder keeps. -/
namespace Pu
open PySem

abbrev LL := List (List Nat)
/-- behind i tasks, of n, for m workers -/
structure PlanAt (i n m : Nat) (b s : LL) : Prop where
  bl : b.length = n
  sl : s.length = m
  inb : ∀ (p : Nat) (l : List Nat) (c : Nat), b[p]? = some l → c ∈ l → p < c ∧ c < i
  ins : ∀ (p : Nat) (l : List Nat) (c : Nat), s[p]? = some l → c ∈ l → c < i
  nd : (b.flatten ++ s.flatten).Nodup
structure PlanOk (most : Nat) (b s : LL) : Prop where
  size : b.length ≤ most
  m1 : 1 ≤ s.length
  m2 : s.length ≤ 12
  inb : ∀ (p : Nat) (l : List Nat) (c : Nat), b[p]? = some l → c ∈ l → p < c ∧ c < b.length
  ins : ∀ (p : Nat) (l : List Nat) (c : Nat), s[p]? = some l → c ∈ l → c < b.length
  nd : (b.flatten ++ s.flatten).Nodup
theorem mem_flat {l : LL} {c : Nat} (h : c ∈ l.flatten) : ∃ (p : Nat) (r : List Nat), l[p]? = some r ∧ c ∈ r := by
  obtain ⟨r, h1, h2⟩ := List.mem_flatten.mp h
  obtain ⟨p, hp⟩ := List.mem_iff_getElem?.mp h1
  exact ⟨p, r, hp, h2⟩
theorem PlanAt.start (n m : Nat) : PlanAt 0 n m (List.replicate n []) (List.replicate m []) := by
  refine ⟨by simp, by simp, fun p l c h hc => ?_, fun p l c h hc => ?_, by simp⟩
  · rw [List.getElem?_replicate] at h
    split at h <;> cases h
    cases hc
  · rw [List.getElem?_replicate] at h
    split at h <;> cases h
    cases hc
theorem PlanAt.lt {i n m : Nat} {b s : LL} (P : PlanAt i n m b s) : ∀ c ∈ b.flatten ++ s.flatten, c < i := fun c hc => by
  rcases List.mem_append.mp hc with h | h
  · obtain ⟨p, r, h1, h2⟩ := mem_flat h
    exact (P.inb p r c h1 h2).2
  · obtain ⟨p, r, h1, h2⟩ := mem_flat h
    exact P.ins p r c h1 h2
theorem flat_set {l : LL} {j : Nat} {r r' : List Nat} {x : Nat} (h : l[j]? = some r) (hr : r'.Perm (x :: r)) : (l.set j r').flatten.Perm (x :: l.flatten) := by
  induction l generalizing j with
  | nil => simp at h
  | cons a l ih =>
    cases j with
    | zero =>
      simp at h
      subst h
      show (r' ++ l.flatten).Perm (x :: (a ++ l.flatten))
      exact hr.append_right l.flatten
    | succ j =>
      have z := ih (j := j) (by simpa using h)
      show (a ++ (l.set j r').flatten).Perm (x :: (a ++ l.flatten))
      exact (z.append_left a).trans List.perm_middle
theorem PlanAt.put {i n m : Nat} {b s b' s' : LL} (P : PlanAt i n m b s) (hb : b'.length = b.length) (hs : s'.length = s.length) (hp : (b'.flatten ++ s'.flatten).Perm (i :: (b.flatten ++ s.flatten)))
    (h1 : ∀ (p : Nat) (l : List Nat) (c : Nat), b'[p]? = some l → c ∈ l → (p < c ∧ c < i) ∨ (p < i ∧ c = i)) (h2 : ∀ (p : Nat) (l : List Nat) (c : Nat), s'[p]? = some l → c ∈ l → c < i + 1) : PlanAt (i + 1) n m b' s' :=
  ⟨hb.trans P.bl, hs.trans P.sl, fun p l c h hc => by rcases h1 p l c h hc with q | q <;> omega, fun p l c h hc => h2 p l c h hc,
    hp.nodup_iff.mpr (List.nodup_cons.mpr ⟨fun h => absurd (P.lt i h) (Nat.lt_irrefl _), P.nd⟩)⟩
theorem PlanAt.brood {i n m j : Nat} {b s : LL} {r r' : List Nat} (P : PlanAt i n m b s) (hj : b[j]? = some r) (hi : j < i) (hr : r'.Perm (i :: r)) : PlanAt (i + 1) n m (b.set j r') s := by
  refine P.put (by simp) rfl (List.Perm.append_right s.flatten (flat_set hj hr)) (fun p l c h hc => ?_) fun p l c h hc => Nat.lt_succ_of_lt (P.ins p l c h hc)
  rw [List.getElem?_set] at h
  split at h
  · rename_i e
    split at h
    · cases h
      rcases List.mem_cons.mp (hr.mem_iff.mp hc) with q | q
      · exact .inr ⟨e ▸ hi, q⟩
      · exact .inl (by subst e; exact P.inb _ r c hj q)
    · cases h
  · exact .inl (P.inb p l c h hc)
theorem PlanAt.row {i n m j : Nat} {b s : LL} {r r' : List Nat} (P : PlanAt i n m b s) (hj : s[j]? = some r) (hr : r'.Perm (i :: r)) : PlanAt (i + 1) n m b (s.set j r') := by
  refine P.put rfl (by simp) ((List.Perm.append_left b.flatten (flat_set hj hr)).trans List.perm_middle) (fun p l c h hc => .inl (P.inb p l c h hc)) fun p l c h hc => ?_
  rw [List.getElem?_set] at h
  split at h
  · split at h
    · cases h
      rcases List.mem_cons.mp (hr.mem_iff.mp hc) with q | q
      · omega
      · exact Nat.lt_succ_of_lt (P.ins j r c hj q)
    · cases h
  · exact Nat.lt_succ_of_lt (P.ins p l c h hc)
theorem PlanAt.none {i n m : Nat} {b s : LL} (P : PlanAt i n m b s) : PlanAt (i + 1) n m b s :=
  ⟨P.bl, P.sl, fun p l c h hc => by have := P.inb p l c h hc; omega, fun p l c h hc => Nat.lt_succ_of_lt (P.ins p l c h hc), P.nd⟩
theorem PlanAt.ok {n m most : Nat} {b s : LL} (P : PlanAt n n m b s) (h1 : n ≤ most) (h2 : 1 ≤ m) (h3 : m ≤ 12) : PlanOk most b s :=
  ⟨by rw [P.bl]; exact h1, by rw [P.sl]; exact h2, by rw [P.sl]; exact h3, fun p l c h hc => by rw [P.bl]; exact P.inb p l c h hc, fun p l c h hc => by rw [P.bl]; exact P.ins p l c h hc, P.nd⟩
/-! as data -/
def encN (l : List Nat) : List D := l.map fun (n : Nat) => .int (n : Int)
def encL (l : List Nat) : D := .list (encN l)
def encLL (l : LL) : D := .list (l.map encL)
def encP (b s : LL) : D := .tuple [encLL b, encLL s]
def vN (l : List Nat) : List L2.V := l.map fun (n : Nat) => .int (n : Int)
theorem rpN {M : MS} {H : L2.Hp} : ∀ l : List Nat, RpAll M H (vN l) (encN l)
  | [] => .nil
  | n :: l => .cons (.int n) (rpN l)

/-! the builder's promise -/
def spPlanZ (K : PySem.W.Frag) : L2.Sp := fun vs H Q _ => ∃ (a : Addr) (ns : List Int) (first : Int) (most : Nat), vs = [.ref a, .int first, .int (most : Int)] ∧ L2.SqL K H a (ns.map L2.V.int) ∧ 0 ≤ first ∧ most ≤ 200 ∧
  ∀ (b s : LL) (v : L2.V) (H' : L2.Hp), PlanOk most b s → L2.Same H H' → (∀ M : MS, Ok M H → Rp M H' v (encP b s)) → Q v H'
theorem rows_rp {M : MS} {H : L2.Hp} {l : Addr} {as : List Addr} {b : LL} (R : Rows H l as (b.map vN)) (hl : ¬ M l) (ha : ∀ a ∈ as, ¬ M a) : Rp M H (.ref l) (encLL b) := by
  have z := R.rp (dss := b.map encN) hl ha (by simp) (fun i r ds h1 h2 => by
    rw [List.getElem?_map] at h1 h2
    cases e : b[i]? with
    | none => rw [e] at h1; cases h1
    | some x => rw [e] at h1 h2; cases h1; cases h2; exact rpN x)
  rw [List.map_map] at z
  exact z
theorem New.not {M : MS} {H : L2.Hp} {l : Addr} {as : List Addr} (n : New H l as) (ok : Ok M H) : ¬ M l ∧ ∀ a ∈ as, ¬ M a := ⟨fun m => ok l m n.1, fun a ha m => ok a m (n.2 a ha)⟩

/-! the builder's numbers -/
theorem fmod_rng {a b : Int} (h : 0 < b) : 0 ≤ a.fmod b ∧ a.fmod b < b := by
  rw [Int.fmod_eq_emod_of_nonneg a (Int.le_of_lt h)]
  exact ⟨Int.emod_nonneg a (by omega), Int.emod_lt_of_pos a h⟩
theorem eVar_get {ds : Sl} {i : Nat} {d : D} (h : ds[i]? = some (some d)) : eVar i ds = some d := by unfold eVar; rw [h]; rfl
theorem eOp_ev {o : D → D → Option D} {f g : Sl → Option D} {ds : Sl} {x y : D} (hf : f ds = some x) (hg : g ds = some y) : eOp o f g ds = o x y := by unfold eOp; rw [hf, hg]; rfl
theorem mod_ev {f g : Sl → Option D} {ds : Sl} {x y : Int} (hf : f ds = some (.int x)) (hg : g ds = some (.int y)) (hy : 0 < y) : eOp oMod f g ds = some (.int (x.fmod y)) := by
  rw [eOp_ev hf hg]
  show (if y = 0 then none else some (PyData.int (x.fmod y))) = _
  rw [if_neg (by omega)]
theorem div_ev {f g : Sl → Option D} {ds : Sl} {x y : Int} (hf : f ds = some (.int x)) (hg : g ds = some (.int y)) (hy : 0 < y) (hy2 : y < 1073741824) : eOp oDiv f g ds = some (.int (x.fdiv y)) := by
  rw [eOp_ev hf hg]
  show (if y = 0 ∨ ¬ y.natAbs < 1073741824 then none else some (PyData.int (x.fdiv y))) = _
  rw [if_neg (by omega)]
theorem add_ev {f g : Sl → Option D} {ds : Sl} {x y : Int} (hf : f ds = some (.int x)) (hg : g ds = some (.int y)) : eOp oAdd f g ds = some (.int (x + y)) := by
  rw [eOp_ev hf hg]; rfl
theorem sub_ev {f g : Sl → Option D} {ds : Sl} {x y : Int} (hf : f ds = some (.int x)) (hg : g ds = some (.int y)) : eOp oSub f g ds = some (.int (x - y)) := by
  rw [eOp_ev hf hg]; rfl
theorem mul_ev {f g : Sl → Option D} {ds : Sl} {x y : Int} (hf : f ds = some (.int x)) (hg : g ds = some (.int y)) (h : (-(2 ^ 64) < x ∧ x < 2 ^ 64) ∨ (-(2 ^ 64) < y ∧ y < 2 ^ 64)) : eOp oMul f g ds = some (.int (x * y)) := by
  rw [eOp_ev hf hg]
  show (if (-(2 ^ 64) < x ∧ x < 2 ^ 64) ∨ (-(2 ^ 64) < y ∧ y < 2 ^ 64) then some (PyData.int (x * y)) else none) = _
  rw [if_pos h]
theorem lt_ev {f g : Sl → Option D} {ds : Sl} {x y : Int} (hf : f ds = some (.int x)) (hg : g ds = some (.int y)) : bT (eOp oLt f g) ds = some (decide (x < y)) := by
  unfold bT; rw [eOp_ev hf hg]; rfl
theorem gt_ev {f g : Sl → Option D} {ds : Sl} {x y : Int} (hf : f ds = some (.int x)) (hg : g ds = some (.int y)) : bT (eOp oGt f g) ds = some (decide (y < x)) := by
  unfold bT; rw [eOp_ev hf hg]; rfl
theorem sh_int (x : Int) : SeqAt.shaped (.int x) = true := rfl
theorem eqv_int (x y : Int) : PyData.eqv (.int x) (.int y) = (x == y) := by simp [PyData.eqv]
theorem oEq_int (x y : Int) : oEq (.int x) (.int y) = some (.bool (x == y)) := by
  unfold oEq
  rw [if_pos ⟨sh_int x, sh_int y⟩, eqv_int]
theorem oNe_int (x y : Int) : oNe (.int x) (.int y) = some (.bool (!(x == y))) := by
  unfold oNe
  rw [if_pos ⟨sh_int x, sh_int y⟩, eqv_int]
theorem eq_ev {f g : Sl → Option D} {ds : Sl} {x y : Int} (hf : f ds = some (.int x)) (hg : g ds = some (.int y)) : bT (eOp oEq f g) ds = some (x == y) := by
  unfold bT; rw [eOp_ev hf hg, oEq_int]; rfl
theorem ne_ev {f g : Sl → Option D} {ds : Sl} {x y : Int} (hf : f ds = some (.int x)) (hg : g ds = some (.int y)) : bT (eOp oNe f g) ds = some (!(x == y)) := by
  unfold bT; rw [eOp_ev hf hg, oNe_int]; rfl
theorem and_ev {f g : Sl → Option Bool} {ds : Sl} {x y : Bool} (hf : f ds = some x) (hg : g ds = some y) : bAnd f g ds = some (x && y) := by
  unfold bAnd; rw [hf]
  show (if x = true then g ds else some false) = _
  rw [hg]
  cases x <;> rfl
theorem atI_3 {α : Type} (a b c : α) (r : Int) (h0 : 0 ≤ r) (h1 : r < 3) : ∃ x, L2.atI [a, b, c] r = some x ∧ (x = a ∨ x = b ∨ x = c) := by
  have h : r = 0 ∨ r = 1 ∨ r = 2 := by omega
  rcases h with rfl | rfl | rfl
  · exact ⟨a, rfl, .inl rfl⟩
  · exact ⟨b, rfl, .inr (.inl rfl)⟩
  · exact ⟨c, rfl, .inr (.inr rfl)⟩
theorem atI_2 {α : Type} (a b : α) (r : Int) (h0 : 0 ≤ r) (h1 : r < 2) : ∃ x, L2.atI [a, b] r = some x ∧ (x = a ∨ x = b) := by
  have h : r = 0 ∨ r = 1 := by omega
  rcases h with rfl | rfl
  · exact ⟨a, rfl, .inl rfl⟩
  · exact ⟨b, rfl, .inr rfl⟩
/-- 1 + cell % [4, 4, 12][cell // 48 % 3] -/
theorem many_ev {ds : Sl} {f : Sl → Option D} {c : Int} (h : f ds = some (.int c)) : ∃ m : Nat, 1 ≤ m ∧ m ≤ 12 ∧
    eOp oAdd (eC (.int 1)) (eOp oMod f (eOp oIx (eLst (esCons (eC (.int 4)) (esCons (eC (.int 4)) (esCons (eC (.int 12)) esNil)))) (eOp oMod (eOp oDiv f (eC (.int 48))) (eC (.int 3))))) ds = some (.int (m : Int)) := by
  have e1 : eOp oMod (eOp oDiv f (eC (.int 48))) (eC (.int 3)) ds = some (.int ((c.fdiv 48).fmod 3)) := mod_ev (div_ev h rfl (by decide) (by decide)) rfl (by decide)
  have r1 := fmod_rng (a := c.fdiv 48) (b := 3) (by decide)
  have e2 : eLst (esCons (eC (.int 4)) (esCons (eC (.int 4)) (esCons (eC (.int 12)) esNil))) ds = some (.list [.int 4, .int 4, .int 12]) := rfl
  obtain ⟨x, e3, hx⟩ := atI_3 (PyData.int 4) (.int 4) (.int 12) _ r1.1 r1.2
  have e4 : eOp oIx (eLst (esCons (eC (.int 4)) (esCons (eC (.int 4)) (esCons (eC (.int 12)) esNil)))) (eOp oMod (eOp oDiv f (eC (.int 48))) (eC (.int 3))) ds = some x := by
    rw [eOp_ev e2 e1]; exact e3
  obtain ⟨y, hy, h0, h12⟩ : ∃ y : Int, x = .int y ∧ 0 < y ∧ y ≤ 12 := by
    rcases hx with rfl | rfl | rfl
    · exact ⟨4, rfl, by decide, by decide⟩
    · exact ⟨4, rfl, by decide, by decide⟩
    · exact ⟨12, rfl, by decide, by decide⟩
  subst hy
  have r2 := fmod_rng (a := c) h0
  refine ⟨(1 + c.fmod y).toNat, by omega, by omega, ?_⟩
  rw [add_ev rfl (mod_ev h e4 h0)]
  congr 2
  omega
/-- cell // 144 % (most + 1) -/
theorem size_ev {ds : Sl} {f g : Sl → Option D} {c : Int} {most : Nat} (h : f ds = some (.int c)) (hm : g ds = some (.int (most : Int))) : ∃ n : Nat, n ≤ most ∧ eOp oMod (eOp oDiv f (eC (.int 144))) (eOp oAdd g (eC (.int 1))) ds = some (.int (n : Int)) := by
  have r := fmod_rng (a := c.fdiv 144) (b := (most : Int) + 1) (by omega)
  refine ⟨((c.fdiv 144).fmod ((most : Int) + 1)).toNat, by omega, ?_⟩
  rw [mod_ev (div_ev h rfl (by decide) (by decide)) (add_ev hm rfl) (by omega)]
  congr 2
  omega
/-- way // 25 % [1, many][cell // 4000 % 2] -/
theorem deal_ev {ds : Sl} {f g k : Sl → Option D} {c w : Int} {m : Nat} (h : f ds = some (.int w)) (hm : g ds = some (.int (m : Int))) (hc : k ds = some (.int c)) (m1 : 1 ≤ m) :
    ∃ j : Nat, j < m ∧ eOp oMod (eOp oDiv f (eC (.int 25))) (eOp oIx (eLst (esCons (eC (.int 1)) (esCons g esNil))) (eOp oMod (eOp oDiv k (eC (.int 4000))) (eC (.int 2)))) ds = some (.int (j : Int)) := by
  have e1 : eOp oMod (eOp oDiv k (eC (.int 4000))) (eC (.int 2)) ds = some (.int ((c.fdiv 4000).fmod 2)) := mod_ev (div_ev hc rfl (by decide) (by decide)) rfl (by decide)
  have r1 := fmod_rng (a := c.fdiv 4000) (b := 2) (by decide)
  have e2 : eLst (esCons (eC (.int 1)) (esCons g esNil)) ds = some (.list [.int 1, .int (m : Int)]) := by
    unfold eLst esCons
    rw [hm]
    rfl
  obtain ⟨x, e3, hx⟩ := atI_2 (PyData.int 1) (.int (m : Int)) _ r1.1 r1.2
  have e4 : eOp oIx (eLst (esCons (eC (.int 1)) (esCons g esNil))) (eOp oMod (eOp oDiv k (eC (.int 4000))) (eC (.int 2))) ds = some x := by
    rw [eOp_ev e2 e1]; exact e3
  obtain ⟨y, hy, h0, h12⟩ : ∃ y : Int, x = .int y ∧ 0 < y ∧ y ≤ m := by
    rcases hx with rfl | rfl
    · exact ⟨1, rfl, by decide, by omega⟩
    · exact ⟨m, rfl, by omega, by omega⟩
  subst hy
  have r2 := fmod_rng (a := w.fdiv 25) h0
  refine ⟨((w.fdiv 25).fmod y).toNat, by omega, ?_⟩
  rw [mod_ev (div_ev h rfl (by decide) (by decide)) e4 h0]
  congr 2
  omega
/-- way // 5 % task -/
theorem under_ev {ds : Sl} {f g : Sl → Option D} {w : Int} {i : Nat} (h : f ds = some (.int w)) (hi : g ds = some (.int (i : Int))) (h0 : 0 < i) : ∃ j : Nat, j < i ∧ eOp oMod (eOp oDiv f (eC (.int 5))) g ds = some (.int (j : Int)) := by
  have r := fmod_rng (a := w.fdiv 5) (b := (i : Int)) (by omega)
  refine ⟨((w.fdiv 5).fmod (i : Int)).toNat, by omega, ?_⟩
  rw [mod_ev (div_ev h rfl (by decide) (by decide)) hi (by omega)]
  congr 2
  omega
theorem map_set_vN (b : LL) (j : Nat) (r : List Nat) : (b.map vN).set j (vN r) = (b.set j r).map vN := by rw [List.map_set]
theorem vN_snoc (r : List Nat) (i : Nat) : vN r ++ [.int (i : Int)] = vN (r ++ [i]) := by unfold vN; rw [List.map_append]; rfl

section
open L2
theorem vN_rp {M : MS} {H : Hp} {xs : List V} {l : List Nat} (r : RpAll M H xs (encN l)) : xs = vN l := by
  have e : encN l = (l.map fun (n : Nat) => (n : Int)).map .int := by unfold encN; rw [List.map_map]; rfl
  rw [e] at r
  rw [r.ints, List.map_map]; rfl
/-- [list(x) for x in rows], each told as new -/
theorem lc_copy {K : PySem.W.Frag} {M : MS} {σ : St} {ds : Sl} {f : Sl → Option D} {b : LL} {H : Hp} {Q : VK} {i : Nat} (ok : Ok M H) (s : SlD M H σ ds) (e : f ds = some (encLL b)) (hi : i < σ.length) (hz : b.length ≤ 100000)
    (q : ∀ H' Dl as, Rows H' Dl as (b.map vN) → Same H H' → New H Dl as → Q (.ref Dl) H') : tLc (iSeq K f) (gName i) tYes (tCB (rList K) (tCons (tVar i) tNil)) [i] σ H Q := by
  refine .inl (tp_ok ok s e fun v H1 s1 r1 => ?_)
  cases r1 with
  | lst a1 n1 r1 =>
    rename_i a xs
    have hlen : xs.length = b.length := by rw [r1.length, List.length_map]
    refine ⟨a, rfl, ⟨_, SqL.of a1⟩, fun Dl hD => lc_list (te := tCB (rList K) (tCons (tVar i) tNil)) (tt := tYes) (fun j H' => ∃ as, Rows H' Dl as ((b.take j).map vN) ∧ Same H1 H' ∧ New H1 Dl as) ⟨[], Rows.nil upd_same, Pu.Same.new hD, hD, fun a h => by simp at h⟩ (fun j H' _ ⟨_, _, s', _⟩ => SqL.of (s' _ _ a1)) (fun j x H' hx hP => ?_) (fun H' hP => ?_)⟩
    · obtain ⟨as, R, s', nw⟩ := hP
      refine ⟨?_, ?_⟩
      · show ((σ.set i none).set i _).set i none = σ.set i none
        rw [set_set3, set_set3]
      · dsimp only [tYes]
        rw [if_pos rfl]
        obtain ⟨d, hd, rx⟩ := r1.get' hx
        rw [List.getElem?_map] at hd
        cases hb : b[j]? with
        | none => rw [hb] at hd; cases hd
        | some l =>
          rw [hb] at hd
          cases hd
          cases rx with
          | lst e2 n2 r2 =>
            rename_i p ws
            have ew := vN_rp r2
            subst ew
            refine ⟨.ref p, ?_, p, vN l, rfl, .inl (SqL.of (s' _ _ e2)), fun p2 hp2 => ⟨as.map V.ref, ?_, ?_, as ++ [p2], ?_, ?_, nw.push s' hp2⟩⟩
            · exact List.getElem?_set_self (by rw [wipe_length]; exact hi)
            · rw [upd_ne (ne_of_none R.top hp2)]; exact R.top
            · have := (List.getElem?_eq_some_iff.mp hb).1
              rw [List.length_map, R.len, List.length_map, List.length_take, sizeLine_eq]; omega
            · have z := R.push (r := vN l) hp2
              have e3 : (b.take (j + 1)).map vN = (b.take j).map vN ++ [vN l] := by
                rw [List.take_add_one, hb, List.map_append]; rfl
              rw [e3]
              exact z
            · exact Pu.Same.mut (L2.Same.trans s' (Pu.Same.new hp2)) hD
    · obtain ⟨as, R, s', nw⟩ := hP
      rw [hlen, List.take_length] at R
      exact q H' Dl as R (L2.Same.trans s1 s') ⟨s1.free nw.1, fun x hx => s1.free (nw.2 x hx)⟩
end
end Pu

set_option Elab.async false
set_option linter.all false
set_option maxRecDepth 100000
set_option maxHeartbeats 2000000
set_option autoImplicit false
/-! St: states, yards, events as plain data; what the pure defs give of them. -/
namespace Pu
open PySem

/-! ### a function's value, step by step -/
theorem lcD_map {i : Nat} {c : Sl → Option Bool} {e : Sl → Option D} {g : D → D} : ∀ {l : List D} {ds : Sl}, (∀ d ∈ l, c (ds.set i (some d)) = some true ∧ e (ds.set i (some d)) = some (g d)) → lcD i c e l ds = some (l.map g)
  | [], _, _ => rfl
  | d :: l, ds, h => by
    have h1 := h d List.mem_cons_self
    have h2 := lcD_map (l := l) (ds := ds) fun x hx => h x (List.mem_cons_of_mem _ hx)
    unfold lcD
    simp only [h1.1, h1.2, h2, Option.bind_some, if_true, List.map_cons]
theorem lc_map {i : Nat} {it : Sl → Option (List D)} {c : Sl → Option Bool} {e : Sl → Option D} {g : D → D} {l : List D} {ds : Sl} (h0 : it ds = some l) (hl : l.length ≤ lim) (h : ∀ d ∈ l, c ((ds.set i none).set i (some d)) = some true ∧ e ((ds.set i none).set i (some d)) = some (g d)) : eLc i it c e ds = some (.list (l.map g)) := by
  unfold eLc
  simp only [h0, Option.bind_some, if_pos hl, lcD_map h]
theorem kb1 : L2.kitB "tuple" "tuple" = some true := by decide +kernel
theorem kb2 : L2.kitB "tuple" "list" = some false := by decide +kernel
theorem kb3 : L2.kitB "list" "tuple" = some false := by decide +kernel
theorem kb4 : L2.kitB "list" "list" = some true := by decide +kernel
theorem kb5 : L2.kitB "str" "tuple" = some false := by decide +kernel
theorem kb6 : L2.kitB "str" "list" = some false := by decide +kernel
theorem kb7 : L2.kitB "str" "str" = some true := by decide +kernel
theorem kb8 : L2.kitB "int" "tuple" = some false := by decide +kernel
theorem kb9 : L2.kitB "int" "list" = some false := by decide +kernel
theorem kb10 : L2.kitB "int" "str" = some false := by decide +kernel
theorem kb11 : L2.kitB "int" "int" = some true := by decide +kernel
theorem kb12 : L2.kitB "int" "bool" = some false := by decide +kernel
theorem kb13 : L2.kitB "NoneType" "tuple" = some false := by decide +kernel
theorem kb14 : L2.kitB "NoneType" "list" = some false := by decide +kernel
theorem kb15 : L2.kitB "NoneType" "str" = some false := by decide +kernel
/-- data that a law compares -/
def good : Nat → D → Prop
  | 0, _ => False
  | n + 1, .tuple l => l.length ≤ 1000000 ∧ ∀ x ∈ l, good n x
  | n + 1, .list l => l.length ≤ 1000000 ∧ ∀ x ∈ l, good n x
  | _ + 1, .int _ => True
  | _ + 1, .str x => SeqAt.shaped (.str x) = true
  | _ + 1, .none => True
  | _ + 1, _ => False
theorem eqv_str (x : Str) : PyData.eqv (.str x) (.str x) = true := by simp [PyData.eqv]
theorem oAll_true (n : Nat) : oAll [.list (List.replicate n (.bool true))] = some (.bool true) := by
  have e : List.replicate n (PyData.bool true) = (List.replicate n true).map .bool := by rw [List.map_replicate]
  show ((blsOf (List.replicate n (.bool true))).bind fun bs => some (PyData.bool (bs.all id))) = _
  rw [e, blsOf_bls]
  show some (PyData.bool ((List.replicate n true).all id)) = _
  congr 2
  simp
/-- a body's end -/
def endD : Out → Option D
  | .rt d => some d
  | .nx _ => some .none
  | _ => none
theorem alike_succ (n : Nat) (d e : D) : M_l_alike (n + 1) [d, e] = (F_l_alike (M_l_alike n) [some d, some e, none]).bind endD := by
  show ((F_l_alike (M_l_alike n)) [some d, some e, none]).bind _ = _
  congr 1
theorem alike_seq {rec : List D → Option D} {l : List D} (hl : l.length ≤ 1000000) (h : ∀ x ∈ l, rec [x, x] = some (.bool true)) (d : D) (hd : d = .tuple l ∨ d = .list l) :
    eCall oAll (esCons (eLc 2 (eRng (eCall oLen (esCons (eVar 1) esNil))) bYes (eCall rec (esCons (eOp oIx (eVar 0) (eVar 2)) (esCons (eOp oIx (eVar 1) (eVar 2)) esNil)))) esNil) [some d, some d, none] = some (.bool true) := by
  have hlen : eCall oLen (esCons (eVar 1) esNil) [some d, some d, none] = some (.int (l.length : Int)) := by rcases hd with rfl | rfl <;> rfl
  have hit : eRng (eCall oLen (esCons (eVar 1) esNil)) [some d, some d, none] = some (rngD (l.length : Int)) := by
    unfold eRng
    rw [hlen]
    show (if (l.length : Int) ≤ 1000000 ∧ -1000000 ≤ (l.length : Int) then some (rngD (l.length : Int)) else none) = _
    rw [if_pos (by omega)]
  have hlc : eLc 2 (eRng (eCall oLen (esCons (eVar 1) esNil))) bYes (eCall rec (esCons (eOp oIx (eVar 0) (eVar 2)) (esCons (eOp oIx (eVar 1) (eVar 2)) esNil))) [some d, some d, none] = some (.list ((rngD (l.length : Int)).map fun _ => .bool true)) := by
    refine lc_map hit (by rw [rngD_length]; unfold lim; omega) fun x hx => ⟨rfl, ?_⟩
    unfold rngD at hx
    obtain ⟨k, hk, rfl⟩ := List.mem_map.mp hx
    have hk' : k < l.length := by simpa using hk
    have hx : L2.atI l (k : Int) = some l[k] := L2.atI_nat (List.getElem?_eq_getElem hk')
    have e1 : oIx d (.int (k : Int)) = some l[k] := by rcases hd with rfl | rfl <;> exact hx
    show ((oIx d (.int (k : Int))).bind fun x => ((oIx d (.int (k : Int))).bind fun y => some [y]).bind fun r => some (x :: r)).bind rec = _
    rw [e1]
    exact h _ (List.getElem_mem hk')
  show (((eLc 2 (eRng (eCall oLen (esCons (eVar 1) esNil))) bYes (eCall rec (esCons (eOp oIx (eVar 0) (eVar 2)) (esCons (eOp oIx (eVar 1) (eVar 2)) esNil))) [some d, some d, none]).bind fun x => some [x])).bind oAll = _
  rw [hlc]
  show oAll [.list ((rngD (l.length : Int)).map fun _ => .bool true)] = _
  rw [List.map_const', rngD_length]
  exact oAll_true _
theorem alike_ok : ∀ (n : Nat) (d : D), good n d → M_l_alike n [d, d] = some (.bool true)
  | 0, _, h => h.elim
  | n + 1, d, h => by
    have seq : ∀ (l : List D), (d = .tuple l ∨ d = .list l) → (l.length ≤ 1000000 ∧ ∀ x ∈ l, good n x) → M_l_alike (n + 1) [d, d] = some (.bool true) := fun l hd hg => by
      have z := alike_seq (rec := M_l_alike n) hg.1 (fun x hx => alike_ok n x (hg.2 x hx)) d hd
      rw [alike_succ]
      have hI : bT (eIs2 "tuple" "list" (eVar 1)) [some d, some d, none] = some true := by
        rcases hd with rfl | rfl
        · simp [bT, eIs2, eVar, tyD, kb1, kb2]
        · simp [bT, eIs2, eVar, tyD, kb3, kb4]
      have hI0 : bT (eIs2 "tuple" "list" (eVar 0)) [some d, some d, none] = some true := by
        rcases hd with rfl | rfl
        · simp [bT, eIs2, eVar, tyD, kb1, kb2]
        · simp [bT, eIs2, eVar, tyD, kb3, kb4]
      have hK : bT (eOp oNe (eIs "tuple" (eVar 0)) (eIs "tuple" (eVar 1))) [some d, some d, none] = some false := by
        rcases hd with rfl | rfl
        · have e : eIs "tuple" (eVar 0) [some (.tuple l), some (.tuple l), none] = some (.bool true) := by simp [eIs, eVar, tyD, kb1]
          have e' : eIs "tuple" (eVar 1) [some (.tuple l), some (.tuple l), none] = some (.bool true) := by simp [eIs, eVar, tyD, kb1]
          unfold bT
          rw [eOp_ev e e']; rfl
        · have e : eIs "tuple" (eVar 0) [some (.list l), some (.list l), none] = some (.bool false) := by simp [eIs, eVar, tyD, kb3]
          have e' : eIs "tuple" (eVar 1) [some (.list l), some (.list l), none] = some (.bool false) := by simp [eIs, eVar, tyD, kb3]
          unfold bT
          rw [eOp_ev e e']; rfl
      have hlen0 : eCall oLen (esCons (eVar 0) esNil) [some d, some d, none] = some (.int (l.length : Int)) := by rcases hd with rfl | rfl <;> rfl
      have hlen : eCall oLen (esCons (eVar 1) esNil) [some d, some d, none] = some (.int (l.length : Int)) := by rcases hd with rfl | rfl <;> rfl
      have hL : bT (eOp oNe (eCall oLen (esCons (eVar 0) esNil)) (eCall oLen (esCons (eVar 1) esNil))) [some d, some d, none] = some false := by
        rw [ne_ev hlen0 hlen]; simp
      simp only [F_l_alike, sSeq, sIf, bOr, bNot, hI, hI0, hK, hL, sNx, sRet, endD, z, Option.bind_some, if_true, Bool.not_true, Bool.false_eq_true, if_false]
    match d, h with
    | .tuple l, h => exact seq l (.inl rfl) h
    | .list l, h => exact seq l (.inr rfl) h
    | .int i, _ =>
      rw [alike_succ]
      simp [F_l_alike, sSeq, sIf, bT, eIs2, eIs, eVar, tyD, kb8, kb9, kb10, kb11, kb12, sNx, sRet, endD, eAnd, eNot, eOp, oEq_int, oIsA, eC, isNon]
    | .str x, hs =>
      rw [alike_succ]
      have hs : SeqAt.shaped (.str x) = true := hs
      simp [F_l_alike, sSeq, sIf, bT, eIs2, eIs, eVar, tyD, kb5, kb6, kb7, sNx, sRet, endD, eAnd, eNot, eOp, oEq, hs, eqv_str, eC]
    | .none, _ =>
      rw [alike_succ]
      simp [F_l_alike, sSeq, sIf, bT, eIs2, eIs, eVar, tyD, kb13, kb14, kb15, sNx, sRet, endD, eAnd, eNot, eOp, oIsA, eC, isNon]
    | .bool _, h => exact h.elim
    | .dict _, h => exact h.elim
end Pu

set_option Elab.async false
set_option linter.all false
set_option maxRecDepth 100000
set_option maxHeartbeats 4000000
set_option autoImplicit false
/-! Ev: the states, the yards, the events; a step as a plain function; what the pure defs give. -/
namespace Pu
open PySem

inductive W where
  | free | lowered | last (h : Int) | mends (t : Int) (task : Option Nat) | looks (k : Int) | seen (k h : Int) | reads (k h : Int) | tries (k h : Int) (t : Nat) | holds (t n : Nat) | wrote (t n : Nat) | rests
  deriving DecidableEq
structure Row where
  head : Int
  tail : Int
  places : List Nat
structure Yard where
  rows : List Row
  states : List W
inductive Evt where
  | own (w t : Nat) | taken (w o t : Nat) | put (w t : Nat) | done (w t : Nat) | rests (w : Nat)
  deriving DecidableEq
def encT : Option Nat → D
  | none => .none
  | some t => .int (t : Int)
def encS : W → D
  | .free => .tuple [.str "free"]
  | .lowered => .tuple [.str "lowered"]
  | .last h => .tuple [.str "last", .int h]
  | .mends t x => .tuple [.str "mends", .int t, encT x]
  | .looks k => .tuple [.str "looks", .int k]
  | .seen k h => .tuple [.str "seen", .int k, .int h]
  | .reads k h => .tuple [.str "reads", .int k, .int h]
  | .tries k h t => .tuple [.str "tries", .int k, .int h, .int (t : Int)]
  | .holds t n => .tuple [.str "holds", .int (t : Int), .int (n : Int)]
  | .wrote t n => .tuple [.str "wrote", .int (t : Int), .int (n : Int)]
  | .rests => .tuple [.str "rests"]
def encR (r : Row) : D := .tuple [.int r.head, .int r.tail, .tuple (encN r.places)]
def encY (y : Yard) : D := .tuple [.tuple (y.rows.map encR), .tuple (y.states.map encS)]
def encE : Evt → D
  | .own w t => .tuple [.str "own", .int (w : Int), .int (t : Int)]
  | .taken w o t => .tuple [.str "taken", .int (w : Int), .int (o : Int), .int (t : Int)]
  | .put w t => .tuple [.str "put", .int (w : Int), .int (t : Int)]
  | .done w t => .tuple [.str "done", .int (w : Int), .int (t : Int)]
  | .rests w => .tuple [.str "rests", .int (w : Int)]
def encO : Option Evt → D
  | none => .none
  | some e => encE e

theorem sh_free : SeqAt.shaped (.str "free") = true := by decide +kernel
theorem sh_lowered : SeqAt.shaped (.str "lowered") = true := by decide +kernel
theorem sh_last : SeqAt.shaped (.str "last") = true := by decide +kernel
theorem sh_mends : SeqAt.shaped (.str "mends") = true := by decide +kernel
theorem sh_looks : SeqAt.shaped (.str "looks") = true := by decide +kernel
theorem sh_seen : SeqAt.shaped (.str "seen") = true := by decide +kernel
theorem sh_reads : SeqAt.shaped (.str "reads") = true := by decide +kernel
theorem sh_tries : SeqAt.shaped (.str "tries") = true := by decide +kernel
theorem sh_holds : SeqAt.shaped (.str "holds") = true := by decide +kernel
theorem sh_wrote : SeqAt.shaped (.str "wrote") = true := by decide +kernel
theorem sh_rests : SeqAt.shaped (.str "rests") = true := by decide +kernel
theorem sh_own : SeqAt.shaped (.str "own") = true := by decide +kernel
theorem sh_taken : SeqAt.shaped (.str "taken") = true := by decide +kernel
theorem sh_put : SeqAt.shaped (.str "put") = true := by decide +kernel
theorem sh_done : SeqAt.shaped (.str "done") = true := by decide +kernel
theorem eqv_strs (a b : Str) : PyData.eqv (.str a) (.str b) = decide (a = b) := by
  simp [PyData.eqv]
  by_cases h : a = b <;> simp [h]
theorem oEq_str {a b : Str} (ha : SeqAt.shaped (.str a) = true) (hb : SeqAt.shaped (.str b) = true) : oEq (.str a) (.str b) = some (.bool (decide (a = b))) := by
  unfold oEq
  rw [if_pos ⟨ha, hb⟩, eqv_strs]
theorem oIx0 {d : D} {l : List D} : oIx (.tuple (d :: l)) (.int 0) = some d := by
  show L2.atI (d :: l) ((0 : Nat) : Int) = some d
  exact L2.atI_nat rfl
theorem oIx1 {d e : D} {l : List D} : oIx (.tuple (e :: d :: l)) (.int 1) = some d := by
  show L2.atI (e :: d :: l) ((1 : Nat) : Int) = some d
  exact L2.atI_nat rfl
theorem oIx2 {d e f : D} {l : List D} : oIx (.tuple (e :: f :: d :: l)) (.int 2) = some d := by
  show L2.atI (e :: f :: d :: l) ((2 : Nat) : Int) = some d
  exact L2.atI_nat rfl
theorem oIx3 {d e f g : D} {l : List D} : oIx (.tuple (e :: f :: g :: d :: l)) (.int 3) = some d := by
  show L2.atI (e :: f :: g :: d :: l) ((3 : Nat) : Int) = some d
  exact L2.atI_nat rfl
/-! places by a whole number from 0 on -/
def at? {α : Type} (l : List α) (i : Int) : Option α := if 0 ≤ i then l[i.toNat]? else none
theorem at?_some {α : Type} {l : List α} {i : Int} {x : α} (h : at? l i = some x) : 0 ≤ i ∧ l[i.toNat]? = some x := by
  unfold at? at h
  split at h
  · exact ⟨by assumption, h⟩
  · cases h
theorem at?_nat {α : Type} {l : List α} {i : Nat} : at? l (i : Int) = l[i]? := by
  unfold at?
  rw [if_pos (by omega), Int.toNat_natCast]
theorem ix_at {l : List D} {i : Int} {x : D} (h : at? l i = some x) : oIx (.tuple l) (.int i) = some x := by
  obtain ⟨h0, h1⟩ := at?_some h
  have e : i = ((i.toNat : Nat) : Int) := by omega
  show L2.atI l i = some x
  rw [e]
  exact L2.atI_nat h1
theorem ixL_at {l : List D} {i : Int} {x : D} (h : at? l i = some x) : oIx (.list l) (.int i) = some x := by
  obtain ⟨h0, h1⟩ := at?_some h
  have e : i = ((i.toNat : Nat) : Int) := by omega
  show L2.atI l i = some x
  rw [e]
  exact L2.atI_nat h1
theorem at?_map {α β : Type} {f : α → β} {l : List α} {i : Int} {x : α} (h : at? l i = some x) : at? (l.map f) i = some (f x) := by
  obtain ⟨h0, h1⟩ := at?_some h
  unfold at?
  rw [if_pos h0, List.getElem?_map, h1]; rfl
theorem ix_places {l : List Nat} {i : Int} {t : Nat} (h : at? l i = some t) : oIx (.tuple (encN l)) (.int i) = some (.int (t : Int)) := ix_at (at?_map h)
theorem put_in_ev (l : List D) (k : Nat) (x : D) (h : l.length + 1 ≤ lim) : M_put_in [.tuple l, .int (k : Int), x] = some (.tuple (l.take k ++ [x] ++ l.drop (k + 1))) := by
  have hu : M_put_in [.tuple l, .int (k : Int), x] = (F_put_in [some (.tuple l), some (.int (k : Int)), some x]).bind endD := rfl
  rw [hu]
  have e1 : cutD l none (some (k : Int)) = l.take k := by
    unfold cutD
    rw [HT.sIx_none, HT.sIx_nat, List.drop_zero, Nat.sub_zero]
    rcases Nat.le_total k l.length with q | q
    · rw [Nat.min_eq_left q]
    · rw [Nat.min_eq_right q, List.take_of_length_le (Nat.le_refl _), List.take_of_length_le q]
  have e2 : cutD l (some ((k : Int) + 1)) none = l.drop (k + 1) := by
    unfold cutD
    have e : ((k : Int) + 1) = ((k + 1 : Nat) : Int) := by omega
    rw [HT.sIx_none, e, HT.sIx_nat]
    rcases Nat.le_total (k + 1) l.length with q | q
    · rw [Nat.min_eq_left q, List.take_of_length_le (by rw [List.length_drop]; exact Nat.le_refl _)]
    · rw [Nat.min_eq_right q, List.drop_of_length_le (Nat.le_refl _), List.drop_of_length_le q, List.take_nil]
  have h1 : (l.take k).length + 1 ≤ lim := by rw [List.length_take]; omega
  have h2 : (l.take k ++ [x]).length + (l.drop (k + 1)).length ≤ lim := by rw [List.length_append, List.length_take, List.length_drop]; simp; omega
  have l1 : 1 ≤ lim := by decide
  simp only [List.length_append, List.length_singleton] at h2
  simp [F_put_in, sRet, eOp, eSl, eVar, eC, eNoPart, ePart, oSl, oAdd, eTup, esCons, esNil, e1, e2, endD, l1]
  rw [if_pos (by simpa using h1)]
  simp [oAdd]
  rw [if_pos (by simpa using h2)]
  rfl
def ownLooked (w : Nat) (r : Row) : Option (W × Option Evt) :=
  if r.head < r.tail then (at? r.places r.tail).map fun t => (.holds t 0, some (.own w t))
  else if r.head = r.tail then some (.last r.head, none) else some (.mends (r.tail + 1) none, none)
def ownStep (w : Nat) (r : Row) (s : W) (many : Nat) : Option (Row × W × Option Evt) := match s with
  | .free => some (⟨r.head, r.tail - 1, r.places⟩, .lowered, none)
  | .lowered => (ownLooked w r).map fun p => (r, p.1, p.2)
  | .last h => if r.head = h then (at? r.places h).map fun t => (⟨r.head + 1, r.tail, r.places⟩, .mends (h + 1) (some t), some (.own w t)) else some (r, .mends (h + 1) none, none)
  | .mends t x => match x with
    | some c => some (⟨r.head, t, r.places⟩, .holds c 0, none)
    | none => if many = 1 then some (⟨r.head, t, r.places⟩, .rests, some (.rests w)) else some (⟨r.head, t, r.places⟩, .looks 1, none)
  | _ => none
def otherStep (w o : Nat) (r : Row) (s : W) (many : Nat) : Option (Row × W × Option Evt) := match s with
  | .looks k => some (r, .seen k r.head, none)
  | .seen k h => if h < r.tail then some (r, .reads k h, none) else if k + 1 < (many : Int) then some (r, .looks (k + 1), none) else some (r, .rests, some (.rests w))
  | .reads k h => (at? r.places h).map fun t => (r, .tries k h t, none)
  | .tries k h t => if r.head = h then some (⟨r.head + 1, r.tail, r.places⟩, .holds t 0, some (.taken w o t)) else some (r, .looks k, none)
  | _ => none
def putIn (l : List Nat) (k : Nat) (x : Nat) : List Nat := l.take k ++ [x] ++ l.drop (k + 1)
def taskStep (b : LL) (w : Nat) (r : Row) (s : W) : Option (Row × W × Option Evt) := match s with
  | .wrote t n => (b[t]?).bind fun l => (l[n]?).map fun c => (⟨r.head, r.tail + 1, r.places⟩, .holds t (n + 1), some (.put w c))
  | .holds t n => (b[t]?).bind fun l => if n < l.length then (l[n]?).bind fun c => if 0 ≤ r.tail then some (⟨r.head, r.tail, putIn r.places r.tail.toNat c⟩, .wrote t n, none) else none else some (r, .free, some (.done w t))
  | _ => none
/-- the answer of a step at a row -/
def ans3 (p : Row × W × Option Evt) : D := .tuple [encR p.1, encS p.2.1, encO p.2.2]
theorem l2 : 2 ≤ lim := by decide
theorem l3 : 3 ≤ lim := by decide
theorem l4 : 4 ≤ lim := by decide
theorem l1 : 1 ≤ lim := by decide
theorem own_looked_ev {w : Nat} {r : Row} {p : W × Option Evt} (h : ownLooked w r = some p) : M_own_looked [.int (w : Int), encR r] = some (.tuple [encS p.1, encO p.2]) := by
  unfold ownLooked at h
  have hu : M_own_looked [.int (w : Int), encR r] = (F_own_looked [some (.int (w : Int)), some (encR r), none, none, none]).bind endD := rfl
  rw [hu]
  by_cases h1 : r.head < r.tail
  · rw [if_pos h1] at h
    cases ha : at? r.places r.tail with
    | none => rw [ha] at h; cases h
    | some t =>
      rw [ha] at h
      cases h
      have hi := ix_places ha
      simp [F_own_looked, sSeq, sIf, sUnp, gTupD, setAll, encR, bT, eOp, eVar, oLt, h1, hi, sRet, eTup, esCons, esNil, eC, l1, l2, l3, encS, encO, encE, endD]
  · rw [if_neg h1] at h
    by_cases h2 : r.head = r.tail
    · rw [if_pos h2] at h
      cases h
      simp [F_own_looked, sSeq, sIf, sUnp, gTupD, setAll, encR, bT, eOp, eVar, oLt, h1, h2, oEq_int, sNx, sRet, eTup, esCons, esNil, eC, l1, l2, l3, encS, encO, encE, endD]
    · rw [if_neg h2] at h
      cases h
      simp [F_own_looked, sSeq, sIf, sUnp, gTupD, setAll, encR, bT, eOp, eVar, oLt, h1, h2, oEq_int, sNx, sRet, eTup, esCons, esNil, eC, l1, l2, l3, encS, encO, encE, encT, oAdd, endD]
theorem advanced_ev (r : Row) (h : Int) : M_advanced [encR r, .int h] = some (.tuple [encR (if r.head = h then ⟨r.head + 1, r.tail, r.places⟩ else r), .bool (decide (r.head = h))]) := by
  have hu : M_advanced [encR r, .int h] = (F_advanced [some (encR r), some (.int h), none, none, none]).bind endD := rfl
  rw [hu]
  by_cases h1 : r.head = h
  · simp [F_advanced, sSeq, sIf, sUnp, gTupD, setAll, encR, bT, eOp, eVar, oNe_int, h1, sNx, sRet, eTup, esCons, esNil, eC, l2, l3, oAdd, endD]
  · simp [F_advanced, sSeq, sIf, sUnp, gTupD, setAll, encR, bT, eOp, eVar, oNe_int, h1, sNx, sRet, eTup, esCons, esNil, eC, l2, l3, oAdd, endD]
theorem rested_ev (w : Nat) : M_rested [.int (w : Int)] = some (.tuple [encS .rests, encE (.rests w)]) := by
  have hu : M_rested [.int (w : Int)] = (F_rested [some (.int (w : Int))]).bind endD := rfl
  rw [hu]
  simp [F_rested, sRet, eTup, esCons, esNil, eC, eVar, l1, l2, encS, encE, endD]
theorem word_ev {a b : Str} {l : List D} {f : Sl → Option D} {ds : Sl} (hf : f ds = some (.tuple (.str a :: l))) (ha : SeqAt.shaped (.str a) = true) (hb : SeqAt.shaped (.str b) = true) : bT (eOp oEq (eOp oIx f (eC (.int 0))) (eC (.str b))) ds = some (decide (a = b)) := by
  unfold bT
  rw [eOp_ev (eOp_ev hf rfl |>.trans oIx0) rfl, oEq_str ha hb]
  rfl
theorem own_step_ev {w many : Nat} {r : Row} {s : W} {p : Row × W × Option Evt} (h : ownStep w r s many = some p) : M_own_step [.int (w : Int), encR r, encS s, .int (many : Int)] = some (ans3 p) := by
  have hu : M_own_step [.int (w : Int), encR r, encS s, .int (many : Int)] = (F_own_step [some (.int (w : Int)), some (encR r), some (encS s), some (.int (many : Int)), none, none, none, none, none, none, none]).bind endD := rfl
  rw [hu]
  cases s with
  | free =>
    cases h
    simp (config := {decide := true}) [F_own_step, sSeq, sIf, sUnp, gTupD, setAll, encR, encS, encO, encE, encT, bT, eOp, eVar, eC, oIx0, oIx1, oIx2, oIx3, oEq_str, sh_free, sh_lowered, sh_last, sh_mends, sh_looks, sh_seen, sh_reads, sh_tries, sh_holds, sh_wrote, sh_rests, sNx, sSet, sRet, eTup, esCons, esNil, l1, l2, l3, l4, eCall, ans3, endD, oAdd, oSub, oLt, oEq_int, oIsntA, isNon, bAnd, bOr, bNot]
  | lowered =>
    cases ha : ownLooked w r with
    | none => dsimp only [ownStep] at h; rw [ha] at h; cases h
    | some q =>
      dsimp only [ownStep] at h; rw [ha] at h; cases h
      have z := own_looked_ev ha
      simp only [encR] at z
      simp (config := {decide := true}) [F_own_step, z, sSeq, sIf, sUnp, gTupD, setAll, encR, encS, encO, encE, encT, bT, eOp, eVar, eC, oIx0, oIx1, oIx2, oIx3, oEq_str, sh_free, sh_lowered, sh_last, sh_mends, sh_looks, sh_seen, sh_reads, sh_tries, sh_holds, sh_wrote, sh_rests, sNx, sSet, sRet, eTup, esCons, esNil, l1, l2, l3, l4, eCall, ans3, endD, oAdd, oSub, oLt, oEq_int, oIsntA, isNon, bAnd, bOr, bNot]
  | last h0 =>
    have z := advanced_ev r h0
    by_cases h1 : r.head = h0
    · cases ha : at? r.places h0 with
      | none => dsimp only [ownStep] at h; rw [if_pos h1, ha] at h; cases h
      | some t =>
        dsimp only [ownStep] at h; rw [if_pos h1, ha] at h; cases h
        have hi := ix_places ha
        rw [if_pos h1] at z
        simp only [encR] at z
        subst h1
        simp (config := {decide := true}) [F_own_step, z, hi, sSeq, sIf, sUnp, gTupD, setAll, encR, encS, encO, encE, encT, bT, eOp, eVar, eC, oIx0, oIx1, oIx2, oIx3, oEq_str, sh_free, sh_lowered, sh_last, sh_mends, sh_looks, sh_seen, sh_reads, sh_tries, sh_holds, sh_wrote, sh_rests, sNx, sSet, sRet, eTup, esCons, esNil, l1, l2, l3, l4, eCall, ans3, endD, oAdd, oSub, oLt, oEq_int, oIsntA, isNon, bAnd, bOr, bNot]
    · dsimp only [ownStep] at h; rw [if_neg h1] at h; cases h
      rw [if_neg h1] at z
      simp only [encR] at z
      simp (config := {decide := true}) [F_own_step, z, h1, sSeq, sIf, sUnp, gTupD, setAll, encR, encS, encO, encE, encT, bT, eOp, eVar, eC, oIx0, oIx1, oIx2, oIx3, oEq_str, sh_free, sh_lowered, sh_last, sh_mends, sh_looks, sh_seen, sh_reads, sh_tries, sh_holds, sh_wrote, sh_rests, sNx, sSet, sRet, eTup, esCons, esNil, l1, l2, l3, l4, eCall, ans3, endD, oAdd, oSub, oLt, oEq_int, oIsntA, isNon, bAnd, bOr, bNot]
  | mends t x =>
    cases x with
    | some c =>
      cases h
      simp (config := {decide := true}) [F_own_step, sSeq, sIf, sUnp, gTupD, setAll, encR, encS, encO, encE, encT, bT, eOp, eVar, eC, oIx0, oIx1, oIx2, oIx3, oEq_str, sh_free, sh_lowered, sh_last, sh_mends, sh_looks, sh_seen, sh_reads, sh_tries, sh_holds, sh_wrote, sh_rests, sNx, sSet, sRet, eTup, esCons, esNil, l1, l2, l3, l4, eCall, ans3, endD, oAdd, oSub, oLt, oEq_int, oIsntA, isNon, bAnd, bOr, bNot]
    | none =>
      have z := rested_ev w
      simp only [encS, encE] at z
      by_cases h1 : many = 1
      · dsimp only [ownStep] at h; rw [if_pos h1] at h; cases h
        subst h1
        simp (config := {decide := true}) [F_own_step, z, sSeq, sIf, sUnp, gTupD, setAll, encR, encS, encO, encE, encT, bT, eOp, eVar, eC, oIx0, oIx1, oIx2, oIx3, oEq_str, sh_free, sh_lowered, sh_last, sh_mends, sh_looks, sh_seen, sh_reads, sh_tries, sh_holds, sh_wrote, sh_rests, sNx, sSet, sRet, eTup, esCons, esNil, l1, l2, l3, l4, eCall, ans3, endD, oAdd, oSub, oLt, oEq_int, oIsntA, isNon, bAnd, bOr, bNot]
      · dsimp only [ownStep] at h; rw [if_neg h1] at h; cases h
        have h1' : ¬ ((many : Int) = 1) := by omega
        simp (config := {decide := true}) [F_own_step, z, h1', sSeq, sIf, sUnp, gTupD, setAll, encR, encS, encO, encE, encT, bT, eOp, eVar, eC, oIx0, oIx1, oIx2, oIx3, oEq_str, sh_free, sh_lowered, sh_last, sh_mends, sh_looks, sh_seen, sh_reads, sh_tries, sh_holds, sh_wrote, sh_rests, sNx, sSet, sRet, eTup, esCons, esNil, l1, l2, l3, l4, eCall, ans3, endD, oAdd, oSub, oLt, oEq_int, oIsntA, isNon, bAnd, bOr, bNot]
  | _ => cases h
theorem other_step_ev {w o many : Nat} {r : Row} {s : W} {p : Row × W × Option Evt} (h : otherStep w o r s many = some p) : M_other_step [.int (w : Int), .int (o : Int), encR r, encS s, .int (many : Int)] = some (ans3 p) := by
  have hu : M_other_step [.int (w : Int), .int (o : Int), encR r, encS s, .int (many : Int)] = (F_other_step [some (.int (w : Int)), some (.int (o : Int)), some (encR r), some (encS s), some (.int (many : Int)), none, none, none, none, none]).bind endD := rfl
  rw [hu]
  have cut2 : ∀ (a b : D) (l : List D), eSl (eVar 3) eNoPart (ePart (eC (.int 2))) [some (.int (w : Int)), some (.int (o : Int)), some (encR r), some (.tuple (a :: b :: l)), some (.int (many : Int)), none, none, none, none, none] = some (.tuple [a, b]) := fun a b l => by
    have e : cutD (a :: b :: l) none (some 2) = [a, b] := by
      unfold cutD
      rw [HT.sIx_none, show (2 : Int) = ((2 : Nat) : Int) from rfl, HT.sIx_nat]
      simp
    simp [eSl, eVar, eNoPart, ePart, eC, oSl, e]
  cases s with
  | looks k =>
    cases h
    have c := cut2 (.str "looks") (.int k) []
    simp only [encR] at c
    simp (config := {decide := true}) [F_other_step, c, sSeq, sIf, sUnp, gTupD, setAll, encR, encS, encO, encE, encT, bT, eOp, eVar, eC, oIx0, oIx1, oIx2, oIx3, oEq_str, sh_free, sh_lowered, sh_last, sh_mends, sh_looks, sh_seen, sh_reads, sh_tries, sh_holds, sh_wrote, sh_rests, sNx, sSet, sRet, eTup, esCons, esNil, l1, l2, l3, l4, eCall, ans3, endD, oAdd, oSub, oLt, oEq_int, oIsntA, isNon, bAnd, bOr, bNot]
  | seen k h0 =>
    have c := cut2 (.str "seen") (.int k) [.int h0]
    simp only [encR] at c
    dsimp only [otherStep] at h
    by_cases h1 : h0 < r.tail
    · rw [if_pos h1] at h; cases h
      simp (config := {decide := true}) [F_other_step, c, h1, sSeq, sIf, sUnp, gTupD, setAll, encR, encS, encO, encE, encT, bT, eOp, eVar, eC, oIx0, oIx1, oIx2, oIx3, oEq_str, sh_free, sh_lowered, sh_last, sh_mends, sh_looks, sh_seen, sh_reads, sh_tries, sh_holds, sh_wrote, sh_rests, sNx, sSet, sRet, eTup, esCons, esNil, l1, l2, l3, l4, eCall, ans3, endD, oAdd, oSub, oLt, oEq_int, oIsntA, isNon, bAnd, bOr, bNot]
    · rw [if_neg h1] at h
      by_cases h2 : k + 1 < (many : Int)
      · rw [if_pos h2] at h; cases h
        simp (config := {decide := true}) [F_other_step, c, h1, h2, sSeq, sIf, sUnp, gTupD, setAll, encR, encS, encO, encE, encT, bT, eOp, eVar, eC, oIx0, oIx1, oIx2, oIx3, oEq_str, sh_free, sh_lowered, sh_last, sh_mends, sh_looks, sh_seen, sh_reads, sh_tries, sh_holds, sh_wrote, sh_rests, sNx, sSet, sRet, eTup, esCons, esNil, l1, l2, l3, l4, eCall, ans3, endD, oAdd, oSub, oLt, oEq_int, oIsntA, isNon, bAnd, bOr, bNot]
      · rw [if_neg h2] at h; cases h
        have z := rested_ev w
        simp only [encS, encE] at z
        simp (config := {decide := true}) [F_other_step, c, h1, h2, z, sSeq, sIf, sUnp, gTupD, setAll, encR, encS, encO, encE, encT, bT, eOp, eVar, eC, oIx0, oIx1, oIx2, oIx3, oEq_str, sh_free, sh_lowered, sh_last, sh_mends, sh_looks, sh_seen, sh_reads, sh_tries, sh_holds, sh_wrote, sh_rests, sNx, sSet, sRet, eTup, esCons, esNil, l1, l2, l3, l4, eCall, ans3, endD, oAdd, oSub, oLt, oEq_int, oIsntA, isNon, bAnd, bOr, bNot]
  | reads k h0 =>
    have c := cut2 (.str "reads") (.int k) [.int h0]
    simp only [encR] at c
    dsimp only [otherStep] at h
    cases ha : at? r.places h0 with
    | none => rw [ha] at h; cases h
    | some t =>
      rw [ha] at h; cases h
      have hi := ix_places ha
      simp (config := {decide := true}) [F_other_step, c, hi, sSeq, sIf, sUnp, gTupD, setAll, encR, encS, encO, encE, encT, bT, eOp, eVar, eC, oIx0, oIx1, oIx2, oIx3, oEq_str, sh_free, sh_lowered, sh_last, sh_mends, sh_looks, sh_seen, sh_reads, sh_tries, sh_holds, sh_wrote, sh_rests, sNx, sSet, sRet, eTup, esCons, esNil, l1, l2, l3, l4, eCall, ans3, endD, oAdd, oSub, oLt, oEq_int, oIsntA, isNon, bAnd, bOr, bNot]
  | tries k h0 t0 =>
    have c := cut2 (.str "tries") (.int k) [.int h0, .int (t0 : Int)]
    simp only [encR] at c
    dsimp only [otherStep] at h
    have z := advanced_ev r h0
    by_cases h1 : r.head = h0
    · rw [if_pos h1] at h; cases h
      rw [if_pos h1] at z
      simp only [encR] at z
      subst h1
      simp (config := {decide := true}) [F_other_step, c, z, sSeq, sIf, sUnp, gTupD, setAll, encR, encS, encO, encE, encT, bT, eOp, eVar, eC, oIx0, oIx1, oIx2, oIx3, oEq_str, sh_free, sh_lowered, sh_last, sh_mends, sh_looks, sh_seen, sh_reads, sh_tries, sh_holds, sh_wrote, sh_rests, sNx, sSet, sRet, eTup, esCons, esNil, l1, l2, l3, l4, eCall, ans3, endD, oAdd, oSub, oLt, oEq_int, oIsntA, isNon, bAnd, bOr, bNot]
    · rw [if_neg h1] at h; cases h
      rw [if_neg h1] at z
      simp only [encR] at z
      simp (config := {decide := true}) [F_other_step, c, z, h1, sSeq, sIf, sUnp, gTupD, setAll, encR, encS, encO, encE, encT, bT, eOp, eVar, eC, oIx0, oIx1, oIx2, oIx3, oEq_str, sh_free, sh_lowered, sh_last, sh_mends, sh_looks, sh_seen, sh_reads, sh_tries, sh_holds, sh_wrote, sh_rests, sNx, sSet, sRet, eTup, esCons, esNil, l1, l2, l3, l4, eCall, ans3, endD, oAdd, oSub, oLt, oEq_int, oIsntA, isNon, bAnd, bOr, bNot]
  | _ => cases h
theorem brood_ev {b : LL} {t : Nat} {l : List Nat} (h : b[t]? = some l) : oIx (encLL b) (.int (t : Int)) = some (encL l) := by
  refine ixL_at ?_
  rw [at?_nat, List.getElem?_map, h]; rfl
theorem child_ev {l : List Nat} {n c : Nat} (h : l[n]? = some c) : oIx (encL l) (.int (n : Int)) = some (.int (c : Int)) := by
  refine ixL_at ?_
  unfold encN
  rw [at?_nat, List.getElem?_map, h]; rfl
theorem task_step_ev {b : LL} {w : Nat} {r : Row} {s : W} {p : Row × W × Option Evt} (h : taskStep b w r s = some p) (hz : r.places.length + 1 ≤ lim) : M_task_step [.int (w : Int), encR r, encS s, encLL b] = some (ans3 p) := by
  have hu : M_task_step [.int (w : Int), encR r, encS s, encLL b] = (F_task_step [some (.int (w : Int)), some (encR r), some (encS s), some (encLL b), none, none, none, none, none, none]).bind endD := rfl
  rw [hu]
  cases s with
  | wrote t n =>
    dsimp only [taskStep] at h
    cases hb : b[t]? with
    | none => rw [hb] at h; cases h
    | some l =>
      rw [hb] at h
      cases hc : l[n]? with
      | none =>
        have h' : (l[n]?).map _ = some p := h
        rw [hc] at h'; cases h'
      | some c =>
        have h' : (l[n]?).map _ = some p := h
        rw [hc] at h'; cases h'
        have e1 := brood_ev hb
        have e2 := child_ev hc
        simp (config := {decide := true}) [F_task_step, e1, e2, sSeq, sIf, sUnp, gTupD, setAll, encR, encS, encO, encE, encT, bT, eOp, eVar, eC, oIx0, oIx1, oIx2, oIx3, oEq_str, sh_free, sh_lowered, sh_last, sh_mends, sh_looks, sh_seen, sh_reads, sh_tries, sh_holds, sh_wrote, sh_rests, sNx, sSet, sRet, eTup, esCons, esNil, l1, l2, l3, l4, eCall, ans3, endD, oAdd, oSub, oLt, oEq_int, oIsntA, isNon, bAnd, bOr, bNot]
  | holds t n =>
    dsimp only [taskStep] at h
    cases hb : b[t]? with
    | none => rw [hb] at h; cases h
    | some l =>
      rw [hb] at h
      have h' : (if n < l.length then _ else _) = some p := h
      have e1 := brood_ev hb
      have e3 : oLen [encL l] = some (.int (l.length : Int)) := by
        show some (PyData.int ((encN l).length : Int)) = _
        unfold encN; rw [List.length_map]
      by_cases hn : n < l.length
      · rw [if_pos hn] at h'
        cases hc : l[n]? with
        | none => rw [hc] at h'; cases h'
        | some c =>
          rw [hc] at h'
          have h2 : (if 0 ≤ r.tail then _ else _) = some p := h'
          by_cases ht : 0 ≤ r.tail
          · rw [if_pos ht] at h2; cases h2
            have e2 := child_ev hc
            have hn' : (n : Int) < (l.length : Int) := by omega
            have e4 := put_in_ev (encN r.places) r.tail.toNat (.int (c : Int)) (by unfold encN; rw [List.length_map]; exact hz)
            rw [show ((r.tail.toNat : Nat) : Int) = r.tail by omega] at e4
            have e5 : encN (putIn r.places r.tail.toNat c) = (encN r.places).take r.tail.toNat ++ [.int (c : Int)] ++ (encN r.places).drop (r.tail.toNat + 1) := by
              unfold putIn encN
              rw [List.map_append, List.map_append, List.map_take, List.map_drop]; rfl
            rw [← e5] at e4
            simp (config := {decide := true}) [F_task_step, e1, e2, e3, e4, hn', sSeq, sIf, sUnp, gTupD, setAll, encR, encS, encO, encE, encT, bT, eOp, eVar, eC, oIx0, oIx1, oIx2, oIx3, oEq_str, sh_free, sh_lowered, sh_last, sh_mends, sh_looks, sh_seen, sh_reads, sh_tries, sh_holds, sh_wrote, sh_rests, sNx, sSet, sRet, eTup, esCons, esNil, l1, l2, l3, l4, eCall, ans3, endD, oAdd, oSub, oLt, oEq_int, oIsntA, isNon, bAnd, bOr, bNot]
          · rw [if_neg ht] at h2; cases h2
      · rw [if_neg hn] at h'; cases h'
        have hn' : ¬ ((n : Int) < (l.length : Int)) := by omega
        simp (config := {decide := true}) [F_task_step, e1, e3, hn', sSeq, sIf, sUnp, gTupD, setAll, encR, encS, encO, encE, encT, bT, eOp, eVar, eC, oIx0, oIx1, oIx2, oIx3, oEq_str, sh_free, sh_lowered, sh_last, sh_mends, sh_looks, sh_seen, sh_reads, sh_tries, sh_holds, sh_wrote, sh_rests, sNx, sSet, sRet, eTup, esCons, esNil, l1, l2, l3, l4, eCall, ans3, endD, oAdd, oSub, oLt, oEq_int, oIsntA, isNon, bAnd, bOr, bNot]
  | _ => cases h
def isOwn : W → Bool
  | .free => true
  | .lowered => true
  | .last _ => true
  | .mends _ _ => true
  | _ => false
def isTask : W → Bool
  | .holds _ _ => true
  | .wrote _ _ => true
  | _ => false
def kOfW : W → Int
  | .looks k => k
  | .seen k _ => k
  | .reads k _ => k
  | .tries k _ _ => k
  | _ => 0
def otherOf (w : Nat) (k : Int) (many : Nat) : Nat := (((w : Int) + k).fmod (many : Int)).toNat
/-- a step of worker w -/
def stepY (b : LL) (y : Yard) (w : Nat) : Option (Yard × Option Evt) := (y.states[w]?).bind fun s =>
  if s = .rests then none
  else if isOwn s = true then (y.rows[w]?).bind fun r => (ownStep w r s y.rows.length).bind fun p => some (⟨y.rows.set w p.1, y.states.set w p.2.1⟩, p.2.2)
  else if isTask s = true then (y.rows[w]?).bind fun r => (taskStep b w r s).bind fun p => some (⟨y.rows.set w p.1, y.states.set w p.2.1⟩, p.2.2)
  else (y.rows[otherOf w (kOfW s) y.rows.length]?).bind fun r => (otherStep w (otherOf w (kOfW s) y.rows.length) r s y.rows.length).bind fun p => some (⟨y.rows.set (otherOf w (kOfW s) y.rows.length) p.1, y.states.set w p.2.1⟩, p.2.2)
theorem set_take_drop {α : Type} {l : List α} {k : Nat} (x : α) (h : k < l.length) : l.take k ++ [x] ++ l.drop (k + 1) = l.set k x := by
  rw [List.set_eq_take_append_cons_drop, if_pos h, List.append_assoc]; rfl
theorem put_rows {l : List Row} {k : Nat} (x : Row) (h : k < l.length) (hz : l.length + 1 ≤ lim) : M_put_in [.tuple (l.map encR), .int (k : Int), encR x] = some (.tuple ((l.set k x).map encR)) := by
  rw [put_in_ev _ _ _ (by rw [List.length_map]; exact hz), set_take_drop _ (by rw [List.length_map]; exact h), List.map_set]
theorem put_states {l : List W} {k : Nat} (x : W) (h : k < l.length) (hz : l.length + 1 ≤ lim) : M_put_in [.tuple (l.map encS), .int (k : Int), encS x] = some (.tuple ((l.set k x).map encS)) := by
  rw [put_in_ev _ _ _ (by rw [List.length_map]; exact hz), set_take_drop _ (by rw [List.length_map]; exact h), List.map_set]
theorem nth_row {l : List Row} {k : Nat} {x : Row} (h : l[k]? = some x) : oIx (.tuple (l.map encR)) (.int (k : Int)) = some (encR x) := by
  refine ix_at ?_
  rw [at?_nat, List.getElem?_map, h]; rfl
theorem nth_state {l : List W} {k : Nat} {x : W} (h : l[k]? = some x) : oIx (.tuple (l.map encS)) (.int (k : Int)) = some (encS x) := by
  refine ix_at ?_
  rw [at?_nat, List.getElem?_map, h]; rfl
theorem otherOf_lt {w : Nat} {k : Int} {many : Nat} (h : 0 < many) : otherOf w k many < many ∧ ((otherOf w k many : Nat) : Int) = ((w : Int) + k).fmod (many : Int) := by
  have r := fmod_rng (a := (w : Int) + k) (b := (many : Int)) (by omega)
  unfold otherOf
  omega
def wordW : W → Str
  | .free => "free"
  | .lowered => "lowered"
  | .last _ => "last"
  | .mends _ _ => "mends"
  | .looks _ => "looks"
  | .seen _ _ => "seen"
  | .reads _ _ => "reads"
  | .tries _ _ _ => "tries"
  | .holds _ _ => "holds"
  | .wrote _ _ => "wrote"
  | .rests => "rests"
theorem word_of (s : W) : ∃ l, encS s = .tuple (.str (wordW s) :: l) := by cases s <;> exact ⟨_, rfl⟩
theorem ix_word (s : W) : oIx (encS s) (.int 0) = some (.str (wordW s)) := by
  obtain ⟨l, e⟩ := word_of s
  rw [e, oIx0]
theorem sh_word (s : W) : SeqAt.shaped (.str (wordW s)) = true := by cases s <;> first | exact sh_free | exact sh_lowered | exact sh_last | exact sh_mends | exact sh_looks | exact sh_seen | exact sh_reads | exact sh_tries | exact sh_holds | exact sh_wrote | exact sh_rests
theorem eq_word (s : W) (x : Str) (hx : SeqAt.shaped (.str x) = true) : oEq (.str (wordW s)) (.str x) = some (.bool (decide (wordW s = x))) := oEq_str (sh_word s) hx
theorem rests_word (s : W) : decide (wordW s = "rests") = decide (s = .rests) := by cases s <;> simp (config := {decide := true}) [wordW]
theorem in_own (s : W) : oInA (.str (wordW s)) (.tuple [.str "free", .str "lowered", .str "last", .str "mends"]) = some (.bool (isOwn s)) := by
  cases s <;> simp (config := {decide := true}) [wordW, oInA, flatD, eqv_strs, isOwn]
theorem in_task (s : W) : oInA (.str (wordW s)) (.tuple [.str "holds", .str "wrote"]) = some (.bool (isTask s)) := by
  cases s <;> simp (config := {decide := true}) [wordW, oInA, flatD, eqv_strs, isTask]
theorem ix_k (s : W) (h1 : isOwn s = false) (h2 : isTask s = false) (h3 : s ≠ .rests) : oIx (encS s) (.int 1) = some (.int (kOfW s)) := by
  cases s <;> first | (exact oIx1) | (exact Bool.noConfusion h1) | (exact Bool.noConfusion h2) | (exact absurd rfl h3)
theorem stepped_ev {b st : LL} {y : Yard} {w : Nat} {q : Yard × Option Evt} (h : stepY b y w = some q) (hl : y.states.length = y.rows.length) (hz : y.rows.length + 1 ≤ lim) (hp : ∀ r ∈ y.rows, r.places.length + 1 ≤ lim) :
    M_stepped [encP b st, encY y, .int (w : Int)] = some (.tuple [encY q.1, encO q.2]) := by
  have hu : M_stepped [encP b st, encY y, .int (w : Int)] = (F_stepped [some (encP b st), some (encY y), some (.int (w : Int)), none, none, none, none, none, none, none]).bind endD := rfl
  rw [hu]
  unfold stepY at h
  cases hs : y.states[w]? with
  | none => rw [hs] at h; cases h
  | some s =>
    rw [hs] at h
    have h' : (if s = .rests then none else _) = some q := h
    by_cases h0 : s = .rests
    · rw [if_pos h0] at h'; cases h'
    rw [if_neg h0] at h'
    have hw : w < y.states.length := (List.getElem?_eq_some_iff.mp hs).1
    have hw' : (w : Int) < (y.states.length : Int) := by omega
    have hwr : w < y.rows.length := by omega
    obtain ⟨r, hr⟩ : ∃ r, y.rows[w]? = some r := ⟨_, List.getElem?_eq_getElem hwr⟩
    have e1 := nth_state hs
    have e2 := nth_row hr
    have e3 := ix_word s
    have e4 := eq_word s "rests" sh_rests
    rw [rests_word, decide_eq_false h0] at e4
    have e5 := in_own s
    have e6 := in_task s
    have w0 : (0 : Int) ≤ (w : Int) := by omega
    have lenS : oLen [.tuple (y.states.map encS)] = some (.int (y.states.length : Int)) := by
      show some (PyData.int ((y.states.map encS).length : Int)) = _
      rw [List.length_map]
    have lenR : oLen [.tuple (y.rows.map encR)] = some (.int (y.rows.length : Int)) := by
      show some (PyData.int ((y.rows.map encR).length : Int)) = _
      rw [List.length_map]
    have e7 : oIx (encP b st) (.int 0) = some (encLL b) := oIx0
    by_cases h1 : isOwn s = true
    · rw [if_pos h1, hr] at h'
      cases hq : ownStep w r s y.rows.length with
      | none =>
        have h2 : (ownStep w r s y.rows.length).bind _ = some q := h'
        rw [hq] at h2; cases h2
      | some p =>
        have h2 : (ownStep w r s y.rows.length).bind _ = some q := h'
        rw [hq] at h2; cases h2
        have z := own_step_ev hq
        have z1 := put_rows p.1 hwr hz
        have z2 := put_states p.2.1 hw (by omega)
        rw [h1] at e5
        simp only [ans3] at z
        simp (config := {decide := true}) [F_stepped, encY, e1, e2, e3, e4, e5, lenS, lenR, w0, hw', z, z1, z2, sSeq, sIf, sUnp, gTupD, setAll, bT, eOp, eVar, eC, oIx0, oIx1, sNx, sSet, sRet, eTup, esCons, esNil, l1, l2, l3, l4, eCall, endD, oAdd, oLt, bAnd, bOr, bNot, eChain, oLe, oMod]
    · rw [if_neg h1] at h'
      have h1f : isOwn s = false := by simpa using h1
      rw [h1f] at e5
      by_cases h3 : isTask s = true
      · rw [if_pos h3, hr] at h'
        have h2 : (taskStep b w r s).bind _ = some q := h'
        cases hq : taskStep b w r s with
        | none => rw [hq] at h2; cases h2
        | some p =>
          rw [hq] at h2; cases h2
          have z := task_step_ev hq (hp r (List.mem_of_getElem? hr))
          have z1 := put_rows p.1 hwr hz
          have z2 := put_states p.2.1 hw (by omega)
          rw [h3] at e6
          simp only [ans3] at z
          simp (config := {decide := true}) [F_stepped, encY, e1, e2, e3, e4, e5, e6, e7, lenS, lenR, w0, hw', z, z1, z2, sSeq, sIf, sUnp, gTupD, setAll, bT, eOp, eVar, eC, oIx0, oIx1, sNx, sSet, sRet, eTup, esCons, esNil, l1, l2, l3, l4, eCall, endD, oAdd, oLt, bAnd, bOr, bNot, eChain, oLe, oMod]
      · rw [if_neg h3] at h'
        have h3f : isTask s = false := by simpa using h3
        rw [h3f] at e6
        have many0 : 0 < y.rows.length := by omega
        have m0 : ¬ ((y.rows.length : Int) = 0) := by omega
        have m0' : ¬ y.rows = [] := fun e => by rw [e] at many0; cases many0
        obtain ⟨o1, o2⟩ := otherOf_lt (w := w) (k := kOfW s) many0
        obtain ⟨ro, hro⟩ : ∃ r, y.rows[otherOf w (kOfW s) y.rows.length]? = some r := ⟨_, List.getElem?_eq_getElem o1⟩
        rw [hro] at h'
        have h2 : (otherStep w (otherOf w (kOfW s) y.rows.length) ro s y.rows.length).bind _ = some q := h'
        cases hq : otherStep w (otherOf w (kOfW s) y.rows.length) ro s y.rows.length with
        | none => rw [hq] at h2; cases h2
        | some p =>
          rw [hq] at h2; cases h2
          have z := other_step_ev hq
          have z1 := put_rows p.1 o1 hz
          have z2 := put_states p.2.1 hw (by omega)
          have e8 := ix_k s h1f h3f h0
          have e9 := nth_row hro
          simp only [ans3] at z
          rw [o2] at z z1 e9
          simp (config := {decide := true}) [F_stepped, encY, e1, e3, e4, e5, e6, e8, e9, lenS, lenR, w0, hw', m0, m0', z, z1, z2, sSeq, sIf, sUnp, gTupD, setAll, bT, eOp, eVar, eC, oIx0, oIx1, sNx, sSet, sRet, eTup, esCons, esNil, l1, l2, l3, l4, eCall, endD, oAdd, oLt, bAnd, bOr, bNot, eChain, oLe, oMod]
end Pu

set_option Elab.async false
set_option linter.all false
set_option maxRecDepth 100000
set_option maxHeartbeats 4000000
set_option autoImplicit false
/-! Ev2: the yard at first, is_over, weavings. -/
namespace Pu
open PySem

def yard0 (s : LL) : Yard := ⟨s.map fun r => ⟨0, (r.length : Int), r⟩, s.map fun _ => .free⟩
def overY (y : Yard) : Bool := y.states.all fun s => decide (s = .rests)
theorem lc_enc {α : Type} {i : Nat} {it : Sl → Option (List D)} {c : Sl → Option Bool} {e : Sl → Option D} {enc : α → D} {g : α → D} {l : List α} {ds : Sl} (h0 : it ds = some (l.map enc)) (hl : l.length ≤ lim)
    (h : ∀ x ∈ l, c ((ds.set i none).set i (some (enc x))) = some true ∧ e ((ds.set i none).set i (some (enc x))) = some (g x)) : eLc i it c e ds = some (.list (l.map g)) := by
  have key : ∀ (l : List α), (∀ x ∈ l, c ((ds.set i none).set i (some (enc x))) = some true ∧ e ((ds.set i none).set i (some (enc x))) = some (g x)) → lcD i c e (l.map enc) (ds.set i none) = some (l.map g) := by
    intro l
    induction l with
    | nil => intro _; rfl
    | cons x l ih =>
      intro h
      have h1 := h x List.mem_cons_self
      have h2 := ih fun y hy => h y (List.mem_cons_of_mem _ hy)
      rw [List.map_cons]
      unfold lcD
      simp only [h1.1, h1.2, h2, Option.bind_some, if_true, List.map_cons]
  unfold eLc
  simp only [h0, Option.bind_some, List.length_map, if_pos hl, key l h]
theorem started_ev (b s : LL) (hz : s.length ≤ lim) : M_started [encP b s] = some (encY (yard0 s)) := by
  have hu : M_started [encP b s] = (F_started [some (encP b s), none, none]).bind endD := rfl
  rw [hu]
  have e1 : eItems (eOp oIx (eVar 0) (eC (.int 1))) [some (encP b s), none, none] = some (s.map encL) := by
    have e : eOp oIx (eVar 0) (eC (.int 1)) [some (encP b s), none, none] = some (encLL s) := by rw [eOp_ev (eVar_get rfl) rfl]; exact oIx1
    unfold eItems; rw [e]; rfl
  have e2 : eLc 2 (eItems (eOp oIx (eVar 0) (eC (.int 1)))) bYes (eTup (esCons (eC (.int 0)) (esCons (eCall oLen (esCons (eVar 2) esNil)) (esCons (eCall oTuple (esCons (eVar 2) esNil)) esNil)))) [some (encP b s), none, none]
      = some (.list (s.map fun r => encR ⟨0, (r.length : Int), r⟩)) := by
    refine lc_enc e1 hz fun r _ => ⟨rfl, ?_⟩
    have hl : (encN r).length = r.length := by unfold encN; rw [List.length_map]
    show (if 3 ≤ lim then some (PyData.tuple [.int 0, .int ((encN r).length : Int), .tuple (encN r)]) else none) = _
    rw [if_pos l3, hl]; rfl
  have e3 : eLc 2 (eItems (eVar 1)) bYes (eTup (esCons (eC (.str "free")) esNil)) [some (encP b s), some (.tuple (s.map fun r => encR ⟨0, (r.length : Int), r⟩)), none] = some (.list (s.map fun _ => encS .free)) := by
    refine lc_enc (enc := fun r => encR ⟨0, (r.length : Int), r⟩) rfl hz fun r _ => ⟨rfl, ?_⟩
    show (if 1 ≤ lim then some (PyData.tuple [.str "free"]) else none) = _
    rw [if_pos l1]; rfl
  simp [F_started, sSeq, sSet, sRet, eCall, e2, esCons, esNil, oTuple, eTup, eVar, e3, l2, endD, encY, yard0]
theorem is_over_ev (y : Yard) (hz : y.states.length ≤ lim) : M_is_over [encY y] = some (.bool (overY y)) := by
  have hu : M_is_over [encY y] = (F_is_over [some (encY y), none]).bind endD := rfl
  rw [hu]
  have e1 : eItems (eOp oIx (eVar 0) (eC (.int 1))) [some (encY y), none] = some (y.states.map encS) := by
    have e : eOp oIx (eVar 0) (eC (.int 1)) [some (encY y), none] = some (.tuple (y.states.map encS)) := by rw [eOp_ev (eVar_get rfl) rfl]; exact oIx1
    unfold eItems; rw [e]; rfl
  have e2 : eLc 1 (eItems (eOp oIx (eVar 0) (eC (.int 1)))) bYes (eOp oEq (eOp oIx (eVar 1) (eC (.int 0))) (eC (.str "rests"))) [some (encY y), none] = some (.list (y.states.map fun s => .bool (decide (s = .rests)))) := by
    refine lc_enc e1 hz fun s _ => ⟨rfl, ?_⟩
    rw [eOp_ev (eOp_ev (eVar_get rfl) rfl |>.trans (ix_word s)) rfl, eq_word s "rests" sh_rests, rests_word]
  have e3 : oAll [.list (y.states.map fun s => .bool (decide (s = .rests)))] = some (.bool (overY y)) := by
    have e : (y.states.map fun s => PyData.bool (decide (s = .rests))) = (y.states.map fun s => decide (s = .rests)).map .bool := by rw [List.map_map]; rfl
    show ((blsOf (y.states.map fun s => PyData.bool (decide (s = .rests)))).bind fun bs => some (PyData.bool (bs.all id))) = _
    rw [e, blsOf_bls]
    show some (PyData.bool ((y.states.map fun s => decide (s = .rests)).all id)) = _
    rw [List.all_map]; rfl
  simp [F_is_over, sRet, eCall, e2, esCons, esNil, e3, endD]
/-! a yard is data that a law may compare -/
theorem good_mono : ∀ {n m : Nat} {d : D}, good n d → n ≤ m → good m d
  | 0, _, _, h, _ => h.elim
  | n + 1, 0, _, _, h => absurd h (by omega)
  | n + 1, m + 1, .tuple l, h, k => ⟨h.1, fun x hx => good_mono (h.2 x hx) (by omega)⟩
  | n + 1, m + 1, .list l, h, k => ⟨h.1, fun x hx => good_mono (h.2 x hx) (by omega)⟩
  | _ + 1, _ + 1, .int _, _, _ => trivial
  | _ + 1, _ + 1, .str _, h, _ => h
  | _ + 1, _ + 1, .none, _, _ => trivial
  | _ + 1, _ + 1, .bool _, h, _ => h.elim
  | _ + 1, _ + 1, .dict _, h, _ => h.elim
theorem good_N (l : List Nat) (h : l.length ≤ 1000000) : good 2 (.tuple (encN l)) := ⟨by unfold encN; rw [List.length_map]; exact h, fun x hx => by
  unfold encN at hx
  obtain ⟨n, _, rfl⟩ := List.mem_map.mp hx
  trivial⟩
theorem good_t {n : Nat} {l : List D} (hl : l.length ≤ 1000000) (h : ∀ x ∈ l, good n x) : good (n + 1) (.tuple l) := ⟨hl, h⟩
theorem all_cons {n : Nat} {a : D} {l : List D} (h : good n a) (k : ∀ x ∈ l, good n x) : ∀ x ∈ a :: l, good n x := fun x hx => by
  rcases List.mem_cons.mp hx with rfl | hx
  · exact h
  · exact k x hx
theorem all_nil {n : Nat} : ∀ x ∈ ([] : List D), good n x := fun x hx => by cases hx
theorem good_R (r : Row) (h : r.places.length ≤ 1000000) : good 3 (encR r) := good_t (by simp) (all_cons trivial (all_cons trivial (all_cons (good_N _ h) all_nil)))
theorem good_S (s : W) : good 3 (encS s) := by
  cases s with
  | free => exact good_t (by simp) (all_cons sh_free all_nil)
  | lowered => exact good_t (by simp) (all_cons sh_lowered all_nil)
  | last h => exact good_t (by simp) (all_cons sh_last (all_cons trivial all_nil))
  | mends t x => exact good_t (by simp) (all_cons sh_mends (all_cons trivial (all_cons (by cases x <;> trivial) all_nil)))
  | looks k => exact good_t (by simp) (all_cons sh_looks (all_cons trivial all_nil))
  | seen k h => exact good_t (by simp) (all_cons sh_seen (all_cons trivial (all_cons trivial all_nil)))
  | reads k h => exact good_t (by simp) (all_cons sh_reads (all_cons trivial (all_cons trivial all_nil)))
  | tries k h t => exact good_t (by simp) (all_cons sh_tries (all_cons trivial (all_cons trivial (all_cons trivial all_nil))))
  | holds t n => exact good_t (by simp) (all_cons sh_holds (all_cons trivial (all_cons trivial all_nil)))
  | wrote t n => exact good_t (by simp) (all_cons sh_wrote (all_cons trivial (all_cons trivial all_nil)))
  | rests => exact good_t (by simp) (all_cons sh_rests all_nil)
theorem good_E (e : Evt) : good 3 (encE e) := by
  cases e with
  | own w t => exact good_t (by simp) (all_cons sh_own (all_cons trivial (all_cons trivial all_nil)))
  | taken w o t => exact good_t (by simp) (all_cons sh_taken (all_cons trivial (all_cons trivial (all_cons trivial all_nil))))
  | put w t => exact good_t (by simp) (all_cons sh_put (all_cons trivial (all_cons trivial all_nil)))
  | done w t => exact good_t (by simp) (all_cons sh_done (all_cons trivial (all_cons trivial all_nil)))
  | rests w => exact good_t (by simp) (all_cons sh_rests (all_cons trivial all_nil))
theorem good_O (o : Option Evt) : good 3 (encO o) := by
  cases o with
  | none => trivial
  | some e => exact good_E e
structure Small (y : Yard) : Prop where
  rows : y.rows.length ≤ 1000
  states : y.states.length ≤ 1000
  places : ∀ r ∈ y.rows, r.places.length ≤ 900000
theorem good_map {α : Type} {n : Nat} {f : α → D} {l : List α} (h : ∀ x ∈ l, good n (f x)) : ∀ x ∈ l.map f, good n x := fun x hx => by
  obtain ⟨y, hy, rfl⟩ := List.mem_map.mp hx
  exact h y hy
theorem good_Y (y : Yard) (h : Small y) : good 5 (encY y) := good_t (by simp)
  (all_cons (good_t (by rw [List.length_map]; have := h.rows; omega) (good_map fun r hr => good_R r (by have := h.places r hr; omega)))
    (all_cons (good_t (by rw [List.length_map]; have := h.states; omega) (good_map fun s _ => good_S s)) all_nil))

def spLawZ (K : PySem.W.Frag) : L2.Sp := fun vs H Q _ => ∃ (a : Addr) (ns : List Int), vs = [.ref a] ∧ L2.SqL K H a (ns.map L2.V.int) ∧ ns.length ≤ 63 ∧ ∀ H', Q (.bl true) H'

theorem canLay_N : ∀ l : List Nat, PyData.canLayAll0 (encN l) = true
  | [] => rfl
  | n :: l => by
    show (PyData.canLay0 (.int (n : Int)) && PyData.canLayAll0 (encN l)) = true
    rw [canLay_N l]; rfl
theorem canLay_L : ∀ b : LL, PyData.canLayAll0 (b.map encL) = true
  | [] => rfl
  | l :: b => by
    show (PyData.canLayAll0 (encN l) && PyData.canLayAll0 (b.map encL)) = true
    rw [canLay_N l, canLay_L b]; rfl
theorem depth_N : ∀ l : List Nat, PyData.depthAll (encN l) = 0
  | [] => by simp [encN, PyData.depthAll]
  | n :: l => by
    have h := depth_N l
    unfold encN at h ⊢
    rw [List.map_cons]
    simp [PyData.depthAll, PyData.depth, h]
theorem depth_L : ∀ b : LL, PyData.depthAll (b.map encL) ≤ 1
  | [] => by simp [PyData.depthAll]
  | l :: b => by
    have h := depth_L b
    have h2 := depth_N l
    rw [List.map_cons]
    simp only [PyData.depthAll, encL, PyData.depth, h2]
    omega
theorem sh_P (b s : LL) : SeqAt.shaped (encP b s) = true := by
  unfold SeqAt.shaped
  rw [Bool.and_eq_true]
  refine ⟨?_, decide_eq_true ?_⟩
  · show (PyData.canLayAll0 (b.map encL) && (PyData.canLayAll0 (s.map encL) && true)) = true
    rw [canLay_L, canLay_L]; rfl
  · have h1 := depth_L b
    have h2 := depth_L s
    simp only [encP, encLL, PyData.depth, PyData.depthAll]
    omega
theorem nolist_N : ∀ l : List Nat, nolists (encN l) = true
  | [] => rfl
  | n :: l => by
    show (nolist (.int (n : Int)) && nolists (encN l)) = true
    rw [nolist_N l]; rfl
theorem nolists_map {α : Type} {f : α → D} (h : ∀ x, nolist (f x) = true) : ∀ l : List α, nolists (l.map f) = true
  | [] => rfl
  | x :: l => by
    show (nolist (f x) && nolists (l.map f)) = true
    rw [h x, nolists_map h l]; rfl
theorem nolist_R (r : Row) : nolist (encR r) = true := by
  show (true && (true && (nolists (encN r.places) && true))) = true
  rw [nolist_N]; rfl
theorem nolist_S (s : W) : nolist (encS s) = true := by
  cases s with
  | mends t x => cases x <;> rfl
  | _ => rfl
theorem nolist_Y (y : Yard) : nolist (encY y) = true := by
  show (nolists (y.rows.map encR) && (nolists (y.states.map encS) && true)) = true
  rw [nolists_map nolist_R, nolists_map nolist_S]; rfl
end Pu

set_option Elab.async false
set_option linter.all false
set_option maxRecDepth 100000
set_option maxHeartbeats 4000000
set_option autoImplicit false
/-! Conc: the steps as transitions; the invariant that holds in every weaving. -/
namespace Pu
open PySem

def Yard.R (y : Yard) (w : Nat) : Row := (y.rows[w]?).getD ⟨0, 0, []⟩
def Yard.S (y : Yard) (w : Nat) : W := (y.states[w]?).getD .rests
theorem Yard.R_get {y : Yard} {w : Nat} (h : w < y.rows.length) : y.rows[w]? = some (y.R w) := by
  unfold Yard.R
  rw [List.getElem?_eq_getElem h]; rfl
theorem Yard.S_get {y : Yard} {w : Nat} (h : w < y.states.length) : y.states[w]? = some (y.S w) := by
  unfold Yard.S
  rw [List.getElem?_eq_getElem h]; rfl
theorem Yard.R_of {y : Yard} {w : Nat} {r : Row} (h : y.rows[w]? = some r) : y.R w = r := by unfold Yard.R; rw [h]; rfl
theorem Yard.S_of {y : Yard} {w : Nat} {s : W} (h : y.states[w]? = some s) : y.S w = s := by unfold Yard.S; rw [h]; rfl
theorem R_set (y : Yard) (x v : Nat) (r : Row) (ss : List W) (h : x < y.rows.length) : (Yard.mk (y.rows.set x r) ss).R v = if v = x then r else y.R v := by
  unfold Yard.R
  rw [List.getElem?_set]
  by_cases e : x = v
  · subst e; simp [h]
  · have e' : ¬ v = x := fun z => e z.symm
    simp [e, e']
theorem S_set (y : Yard) (x v : Nat) (s : W) (rs : List Row) (h : x < y.states.length) : (Yard.mk rs (y.states.set x s)).S v = if v = x then s else y.S v := by
  unfold Yard.S
  rw [List.getElem?_set]
  by_cases e : x = v
  · subst e; simp [h]
  · have e' : ¬ v = x := fun z => e z.symm
    simp [e, e']

/-- the transitions of worker w: the row x, that row and the state ahead, behind, the event -/
inductive Tr (b : LL) (m w : Nat) : Nat → Row → W → Row → W → Option Evt → Prop
  | free (r : Row) : Tr b m w w r .free ⟨r.head, r.tail - 1, r.places⟩ .lowered none
  | look1 (r : Row) (t : Nat) : r.head < r.tail → at? r.places r.tail = some t → Tr b m w w r .lowered r (.holds t 0) (some (.own w t))
  | look2 (r : Row) : r.head = r.tail → Tr b m w w r .lowered r (.last r.head) none
  | look3 (r : Row) : r.tail < r.head → Tr b m w w r .lowered r (.mends (r.tail + 1) none) none
  | last1 (r : Row) (h : Int) (t : Nat) : r.head = h → at? r.places h = some t → Tr b m w w r (.last h) ⟨r.head + 1, r.tail, r.places⟩ (.mends (h + 1) (some t)) (some (.own w t))
  | last2 (r : Row) (h : Int) : r.head ≠ h → Tr b m w w r (.last h) r (.mends (h + 1) none) none
  | mend1 (r : Row) (t : Int) (c : Nat) : Tr b m w w r (.mends t (some c)) ⟨r.head, t, r.places⟩ (.holds c 0) none
  | mend2 (r : Row) (t : Int) : m = 1 → Tr b m w w r (.mends t none) ⟨r.head, t, r.places⟩ .rests (some (.rests w))
  | mend3 (r : Row) (t : Int) : m ≠ 1 → Tr b m w w r (.mends t none) ⟨r.head, t, r.places⟩ (.looks 1) none
  | looks (r : Row) (k : Int) : Tr b m w (otherOf w k m) r (.looks k) r (.seen k r.head) none
  | seen1 (r : Row) (k h : Int) : h < r.tail → Tr b m w (otherOf w k m) r (.seen k h) r (.reads k h) none
  | seen2 (r : Row) (k h : Int) : ¬ h < r.tail → k + 1 < (m : Int) → Tr b m w (otherOf w k m) r (.seen k h) r (.looks (k + 1)) none
  | seen3 (r : Row) (k h : Int) : ¬ h < r.tail → ¬ k + 1 < (m : Int) → Tr b m w (otherOf w k m) r (.seen k h) r .rests (some (.rests w))
  | reads (r : Row) (k h : Int) (t : Nat) : at? r.places h = some t → Tr b m w (otherOf w k m) r (.reads k h) r (.tries k h t) none
  | tries1 (r : Row) (k h : Int) (t : Nat) : r.head = h → Tr b m w (otherOf w k m) r (.tries k h t) ⟨r.head + 1, r.tail, r.places⟩ (.holds t 0) (some (.taken w (otherOf w k m) t))
  | tries2 (r : Row) (k h : Int) (t : Nat) : r.head ≠ h → Tr b m w (otherOf w k m) r (.tries k h t) r (.looks k) none
  | holds1 (r : Row) (t n : Nat) (l : List Nat) (c : Nat) : b[t]? = some l → l[n]? = some c → 0 ≤ r.tail → Tr b m w w r (.holds t n) ⟨r.head, r.tail, putIn r.places r.tail.toNat c⟩ (.wrote t n) none
  | holds2 (r : Row) (t n : Nat) (l : List Nat) : b[t]? = some l → ¬ n < l.length → Tr b m w w r (.holds t n) r .free (some (.done w t))
  | wrote (r : Row) (t n : Nat) (l : List Nat) (c : Nat) : b[t]? = some l → l[n]? = some c → Tr b m w w r (.wrote t n) ⟨r.head, r.tail + 1, r.places⟩ (.holds t (n + 1)) (some (.put w c))

theorem own_tr {b : LL} {m w : Nat} {r : Row} {s : W} {p : Row × W × Option Evt} (h : ownStep w r s m = some p) : Tr b m w w r s p.1 p.2.1 p.2.2 := by
  cases s with
  | free => cases h; exact .free r
  | lowered =>
    dsimp only [ownStep, ownLooked] at h
    by_cases h1 : r.head < r.tail
    · rw [if_pos h1] at h
      cases ha : at? r.places r.tail with
      | none => rw [ha] at h; cases h
      | some t => rw [ha] at h; cases h; exact .look1 r t h1 ha
    · rw [if_neg h1] at h
      by_cases h2 : r.head = r.tail
      · rw [if_pos h2] at h; cases h; exact .look2 r h2
      · rw [if_neg h2] at h; cases h; exact .look3 r (by omega)
  | last h0 =>
    dsimp only [ownStep] at h
    by_cases h1 : r.head = h0
    · rw [if_pos h1] at h
      cases ha : at? r.places h0 with
      | none => rw [ha] at h; cases h
      | some t => rw [ha] at h; cases h; exact .last1 r h0 t h1 ha
    · rw [if_neg h1] at h; cases h; exact .last2 r h0 h1
  | mends t x =>
    cases x with
    | some c => cases h; exact .mend1 r t c
    | none =>
      dsimp only [ownStep] at h
      by_cases h1 : m = 1
      · rw [if_pos h1] at h; cases h; exact .mend2 r t h1
      · rw [if_neg h1] at h; cases h; exact .mend3 r t h1
  | _ => cases h
theorem other_tr {b : LL} {m w : Nat} {r : Row} {s : W} {p : Row × W × Option Evt} (h : otherStep w (otherOf w (kOfW s) m) r s m = some p) : Tr b m w (otherOf w (kOfW s) m) r s p.1 p.2.1 p.2.2 := by
  cases s with
  | looks k => cases h; exact .looks r k
  | seen k h0 =>
    dsimp only [otherStep] at h
    by_cases h1 : h0 < r.tail
    · rw [if_pos h1] at h; cases h; exact .seen1 r k h0 h1
    · rw [if_neg h1] at h
      by_cases h2 : k + 1 < (m : Int)
      · rw [if_pos h2] at h; cases h; exact .seen2 r k h0 h1 h2
      · rw [if_neg h2] at h; cases h; exact .seen3 r k h0 h1 h2
  | reads k h0 =>
    dsimp only [otherStep] at h
    cases ha : at? r.places h0 with
    | none => rw [ha] at h; cases h
    | some t => rw [ha] at h; cases h; exact .reads r k h0 t ha
  | tries k h0 t =>
    dsimp only [otherStep] at h
    by_cases h1 : r.head = h0
    · rw [if_pos h1] at h; cases h; exact .tries1 r k h0 t h1
    · rw [if_neg h1] at h; cases h; exact .tries2 r k h0 t h1
  | _ => cases h
theorem task_tr {b : LL} {m w : Nat} {r : Row} {s : W} {p : Row × W × Option Evt} (h : taskStep b w r s = some p) : Tr b m w w r s p.1 p.2.1 p.2.2 := by
  cases s with
  | holds t n =>
    dsimp only [taskStep] at h
    cases hb : b[t]? with
    | none => rw [hb] at h; cases h
    | some l =>
      rw [hb, Option.bind_some] at h
      by_cases hn : n < l.length
      · rw [if_pos hn] at h
        cases hc : l[n]? with
        | none => rw [hc] at h; cases h
        | some c =>
          rw [hc, Option.bind_some] at h
          by_cases ht : 0 ≤ r.tail
          · rw [if_pos ht] at h; cases h; exact .holds1 r t n l c hb hc ht
          · rw [if_neg ht] at h; cases h
      · rw [if_neg hn] at h; cases h; exact .holds2 r t n l hb hn
  | wrote t n =>
    dsimp only [taskStep] at h
    cases hb : b[t]? with
    | none => rw [hb] at h; cases h
    | some l =>
      rw [hb, Option.bind_some] at h
      cases hc : l[n]? with
      | none => rw [hc] at h; cases h
      | some c => rw [hc] at h; cases h; exact .wrote r t n l c hb hc
  | _ => cases h
theorem stepY_tr {b : LL} {y : Yard} {w : Nat} {q : Yard × Option Evt} (h : stepY b y w = some q) (hl : y.states.length = y.rows.length) :
    w < y.rows.length ∧ y.S w ≠ .rests ∧ ∃ x r' s', x < y.rows.length ∧ q.1 = ⟨y.rows.set x r', y.states.set w s'⟩ ∧ Tr b y.rows.length w x (y.R x) (y.S w) r' s' q.2 := by
  unfold stepY at h
  obtain ⟨s, hs, h⟩ := bind_some h
  have hw : w < y.states.length := (List.getElem?_eq_some_iff.mp hs).1
  have eS : y.S w = s := Yard.S_of hs
  by_cases h0 : s = .rests
  · rw [if_pos h0] at h; cases h
  rw [if_neg h0] at h
  refine ⟨by omega, by rw [eS]; exact h0, ?_⟩
  by_cases h1 : isOwn s = true
  · rw [if_pos h1] at h
    obtain ⟨r, hr, h⟩ := bind_some h
    obtain ⟨p, hp, h⟩ := bind_some h
    cases h
    refine ⟨w, p.1, p.2.1, by omega, rfl, ?_⟩
    rw [eS, Yard.R_of hr]
    exact own_tr hp
  · rw [if_neg h1] at h
    by_cases h2 : isTask s = true
    · rw [if_pos h2] at h
      obtain ⟨r, hr, h⟩ := bind_some h
      obtain ⟨p, hp, h⟩ := bind_some h
      cases h
      refine ⟨w, p.1, p.2.1, by omega, rfl, ?_⟩
      rw [eS, Yard.R_of hr]
      exact task_tr hp
    · rw [if_neg h2] at h
      obtain ⟨r, hr, h⟩ := bind_some h
      obtain ⟨p, hp, h⟩ := bind_some h
      cases h
      refine ⟨_, p.1, p.2.1, (List.getElem?_eq_some_iff.mp hr).1, rfl, ?_⟩
      rw [eS, Yard.R_of hr]
      exact other_tr hp

/-! ### the invariant -/
/-- where the standing tasks of a row end -/
def tl (r : Row) : W → Int
  | .free => r.tail
  | .lowered => r.tail + 1
  | .last _ => r.tail + 1
  | .mends t _ => t
  | .looks _ => r.tail
  | .seen _ _ => r.tail
  | .reads _ _ => r.tail
  | .tries _ _ _ => r.tail
  | .holds _ _ => r.tail
  | .wrote _ _ => r.tail
  | .rests => r.tail
def StI (b : LL) (r : Row) : W → Prop
  | .free => 0 ≤ r.tail
  | .lowered => True
  | .last h => h = r.tail ∧ h ≤ r.head
  | .mends t x => t = r.head ∧ ∀ c, x = some c → c < b.length
  | .looks _ => r.head = r.tail
  | .seen _ _ => r.head = r.tail
  | .reads _ _ => r.head = r.tail
  | .tries _ _ t => r.head = r.tail ∧ t < b.length
  | .rests => r.head = r.tail
  | .holds t n => ∃ l, b[t]? = some l ∧ n ≤ l.length
  | .wrote t n => ∃ l c, b[t]? = some l ∧ l[n]? = some c ∧ at? r.places r.tail = some c
/-- of a worker's own row -/
structure RowI (b : LL) (r : Row) (s : W) : Prop where
  h0 : 0 ≤ r.head
  ht : r.head ≤ tl r s
  hl : tl r s ≤ (r.places.length : Int)
  tt : r.tail ≤ tl r s ∧ tl r s ≤ r.tail + 1
  pl : ∀ t ∈ r.places, t < b.length
  st : StI b r s
/-- of one that looks at another's row r, whose worker's state is s -/
def ThI (m : Nat) (r : Row) (s : W) : W → Prop
  | .looks k => 1 ≤ k ∧ k < (m : Int)
  | .seen k h => 1 ≤ k ∧ k < (m : Int) ∧ 0 ≤ h ∧ h ≤ r.head
  | .reads k h => 1 ≤ k ∧ k < (m : Int) ∧ 0 ≤ h ∧ h ≤ r.head ∧ h < (r.places.length : Int) ∧ (r.head = h → h < tl r s)
  | .tries k h t => 1 ≤ k ∧ k < (m : Int) ∧ 0 ≤ h ∧ h ≤ r.head ∧ (r.head = h → h < tl r s ∧ at? r.places h = some t)
  | _ => True
structure CI (b : LL) (y : Yard) : Prop where
  len : y.states.length = y.rows.length
  m1 : 1 ≤ y.rows.length
  own : ∀ w, w < y.rows.length → RowI b (y.R w) (y.S w)
  th : ∀ w, w < y.rows.length → ThI y.rows.length (y.R (otherOf w (kOfW (y.S w)) y.rows.length)) (y.S (otherOf w (kOfW (y.S w)) y.rows.length)) (y.S w)
theorem at?_in {α : Type} {l : List α} {i : Int} (h0 : 0 ≤ i) (h1 : i < (l.length : Int)) : ∃ x, at? l i = some x := by
  unfold at?
  rw [if_pos h0]
  exact ⟨_, List.getElem?_eq_getElem (by omega)⟩
theorem at?_mem {α : Type} {l : List α} {i : Int} {x : α} (h : at? l i = some x) : x ∈ l ∧ i < (l.length : Int) ∧ 0 ≤ i := by
  obtain ⟨h0, h1⟩ := at?_some h
  have := (List.getElem?_eq_some_iff.mp h1).1
  exact ⟨List.mem_of_getElem? h1, by omega, h0⟩
/-- a worker that doesn't rest has a step -/
theorem CI.can {b : LL} {y : Yard} (I : CI b y) {w : Nat} (hw : w < y.rows.length) (hr : y.S w ≠ .rests) : ∃ q, stepY b y w = some q := by
  refine Option.isSome_iff_exists.mp ?_
  have hs : y.states[w]? = some (y.S w) := Yard.S_get (by rw [I.len]; exact hw)
  have hrow : y.rows[w]? = some (y.R w) := Yard.R_get hw
  have R := I.own w hw
  have Th := I.th w hw
  unfold stepY
  rw [hs, Option.bind_some, if_neg hr]
  obtain ⟨o1, _⟩ := otherOf_lt (w := w) (k := kOfW (y.S w)) (many := y.rows.length) (by omega)
  have hro : y.rows[otherOf w (kOfW (y.S w)) y.rows.length]? = some (y.R (otherOf w (kOfW (y.S w)) y.rows.length)) := Yard.R_get o1
  rw [hrow, hro, Option.bind_some, Option.bind_some, Option.bind_some]
  generalize y.R (otherOf w (kOfW (y.S w)) y.rows.length) = ro at Th ⊢
  generalize y.S (otherOf w (kOfW (y.S w)) y.rows.length) = so at Th
  generalize y.R w = r at R ⊢
  cases hS : y.S w with
  | free => simp [isOwn, ownStep]
  | lowered =>
    rw [hS] at R
    by_cases h1 : r.head < r.tail
    · obtain ⟨t, ht⟩ := at?_in (l := r.places) (i := r.tail) (by have := R.h0; omega) (by have := R.hl; dsimp only [tl] at this; omega)
      simp [isOwn, ownStep, ownLooked, h1, ht]
    · by_cases h2 : r.head = r.tail
      · simp [isOwn, ownStep, ownLooked, h1, h2]
      · simp [isOwn, ownStep, ownLooked, h1, h2]
  | last h =>
    rw [hS] at R
    by_cases h1 : r.head = h
    · obtain ⟨t, ht⟩ := at?_in (l := r.places) (i := h) (by have := R.h0; omega) (by have := R.hl; have := R.st; dsimp only [tl, StI] at *; omega)
      simp [isOwn, ownStep, h1, ht]
    · simp [isOwn, ownStep, h1]
  | mends t x =>
    cases x with
    | some c => simp [isOwn, ownStep]
    | none =>
      by_cases h1 : y.rows.length = 1
      · simp [isOwn, ownStep, h1]
      · simp [isOwn, ownStep, h1]
  | looks k => simp [isOwn, isTask, otherStep]
  | seen k h =>
    by_cases h1 : h < ro.tail
    · simp [isOwn, isTask, otherStep, h1]
    · by_cases h2 : k + 1 < (y.rows.length : Int)
      · simp [isOwn, isTask, otherStep, h1, h2]
      · simp [isOwn, isTask, otherStep, h1, h2]
  | reads k h =>
    rw [hS] at Th
    obtain ⟨_, _, a1, _, a2, _⟩ := Th
    obtain ⟨t, ht⟩ := at?_in (l := ro.places) (i := h) a1 a2
    simp [isOwn, isTask, otherStep, ht]
  | tries k h t =>
    by_cases h1 : ro.head = h
    · simp [isOwn, isTask, otherStep, h1]
    · simp [isOwn, isTask, otherStep, h1]
  | holds t n =>
    rw [hS] at R
    obtain ⟨l, hl, hn⟩ := R.st
    by_cases h1 : n < l.length
    · have h2 : l[n]? = some l[n] := List.getElem?_eq_getElem h1
      have h3 : 0 ≤ r.tail := by have := R.h0; have := R.ht; dsimp only [tl] at this; omega
      simp [isOwn, isTask, taskStep, hl, h1, h2, h3]
    · simp [isOwn, isTask, taskStep, hl, h1]
  | wrote t n =>
    rw [hS] at R
    obtain ⟨l, c, hl, hc, _⟩ := R.st
    simp [isOwn, isTask, taskStep, hl, hc]
  | rests => exact absurd hS hr
end Pu

set_option Elab.async false
set_option linter.all false
set_option maxRecDepth 100000
set_option maxHeartbeats 4000000
set_option autoImplicit false
/-! Conc2: every step keeps the invariant. -/
namespace Pu
open PySem

def isK : W → Bool
  | .looks _ => true
  | .seen _ _ => true
  | .reads _ _ => true
  | .tries _ _ _ => true
  | _ => false
/-- how a row and its worker's state may go on, for one that looks at it -/
structure Evo (r : Row) (s : W) (r' : Row) (s' : W) : Prop where
  hd : r.head ≤ r'.head
  pl : r.places.length ≤ r'.places.length
  eq : r'.head = r.head → r.head < tl r s → r.head < tl r' s' ∧ ∀ t, at? r.places r.head = some t → at? r'.places r.head = some t
theorem Evo.refl (r : Row) (s : W) : Evo r s r s := ⟨Int.le_refl _, Nat.le_refl _, fun _ h => ⟨h, fun _ z => z⟩⟩
theorem ThI.evo {m : Nat} {r r' : Row} {s s' u : W} (e : Evo r s r' s') (h : ThI m r s u) : ThI m r' s' u := by
  cases u with
  | looks k => exact h
  | seen k h0 =>
    obtain ⟨a, b, c, d⟩ := h
    exact ⟨a, b, c, Int.le_trans d e.hd⟩
  | reads k h0 =>
    obtain ⟨a, b, c, d, f, g⟩ := h
    refine ⟨a, b, c, Int.le_trans d e.hd, by have := e.pl; omega, fun q => ?_⟩
    have h1 : r.head = h0 := by have := e.hd; omega
    have := e.eq (by omega) (by have := g h1; omega)
    omega
  | tries k h0 t =>
    obtain ⟨a, b, c, d, g⟩ := h
    refine ⟨a, b, c, Int.le_trans d e.hd, fun q => ?_⟩
    have h1 : r.head = h0 := by have := e.hd; omega
    obtain ⟨g1, g2⟩ := g h1
    subst h1
    obtain ⟨z1, z2⟩ := e.eq q g1
    exact ⟨z1, z2 t g2⟩
  | _ => trivial
theorem putIn_len {l : List Nat} {k c : Nat} (h : k ≤ l.length) : l.length ≤ (putIn l k c).length ∧ k < (putIn l k c).length := by
  unfold putIn
  rw [List.length_append, List.length_append, List.length_take, List.length_drop]
  simp
  omega
theorem putIn_get {l : List Nat} {k c : Nat} (h : k ≤ l.length) : (putIn l k c)[k]? = some c := by
  unfold putIn
  rw [List.append_assoc, List.getElem?_append_right (by rw [List.length_take]; omega), List.length_take, Nat.min_eq_left h, Nat.sub_self]
  rfl
theorem putIn_other {l : List Nat} {k c j : Nat} (h : j < k) (hk : k ≤ l.length) : (putIn l k c)[j]? = l[j]? := by
  unfold putIn
  rw [List.append_assoc, List.getElem?_append_left (by rw [List.length_take]; omega), List.getElem?_take_of_lt h]
theorem putIn_mem {l : List Nat} {k c x : Nat} (h : x ∈ putIn l k c) : x ∈ l ∨ x = c := by
  unfold putIn at h
  rcases List.mem_append.mp h with h | h
  · rcases List.mem_append.mp h with h | h
    · exact .inl (List.mem_of_mem_take h)
    · exact .inr (List.mem_singleton.mp h)
  · exact .inl (List.mem_of_mem_drop h)
/-- a step at one's own row -/
theorem tr_A {b : LL} {m w x : Nat} {r r' : Row} {s s' : W} {e : Option Evt} (tr : Tr b m w x r s r' s' e) (R : RowI b r s) (hk : isK s = false) (hm : 1 ≤ m) (hb : ∀ (t : Nat) (l : List Nat) (c : Nat), b[t]? = some l → c ∈ l → c < b.length) :
    x = w ∧ RowI b r' s' ∧ Evo r s r' s' ∧ ∀ ro so, ThI m ro so s' := by
  have lim0 : ∀ t : Nat, t < b.length → ∃ l, b[t]? = some l := fun t ht => ⟨_, List.getElem?_eq_getElem ht⟩
  cases tr with
  | free =>
    obtain ⟨h0, ht, hl, tt, pl, st⟩ := R
    dsimp only [tl, StI] at *
    refine ⟨rfl, ⟨h0, by dsimp only [tl]; omega, by dsimp only [tl]; omega, by dsimp only [tl]; omega, pl, trivial⟩, ⟨Int.le_refl _, Nat.le_refl _, fun _ h => ⟨by dsimp only [tl, StI] at *; omega, fun _ z => z⟩⟩, fun _ _ => trivial⟩
  | look1 _ t h1 h2 =>
    obtain ⟨h0, ht, hl, tt, pl, st⟩ := R
    dsimp only [tl, StI] at *
    obtain ⟨a1, a2, a3⟩ := at?_mem h2
    obtain ⟨l, hl'⟩ := lim0 t (pl t a1)
    exact ⟨rfl, ⟨h0, by dsimp only [tl]; omega, by dsimp only [tl]; omega, by dsimp only [tl]; omega, pl, l, hl', Nat.zero_le _⟩, ⟨Int.le_refl _, Nat.le_refl _, fun _ h => ⟨by dsimp only [tl, StI] at *; omega, fun _ z => z⟩⟩, fun _ _ => trivial⟩
  | look2 _ h1 =>
    obtain ⟨h0, ht, hl, tt, pl, st⟩ := R
    dsimp only [tl, StI] at *
    exact ⟨rfl, ⟨h0, by dsimp only [tl]; omega, by dsimp only [tl]; omega, by dsimp only [tl]; omega, pl, h1, Int.le_refl _⟩, ⟨Int.le_refl _, Nat.le_refl _, fun _ h => ⟨by dsimp only [tl, StI] at *; omega, fun _ z => z⟩⟩, fun _ _ => trivial⟩
  | look3 _ h1 =>
    obtain ⟨h0, ht, hl, tt, pl, st⟩ := R
    dsimp only [tl, StI] at *
    exact ⟨rfl, ⟨h0, by dsimp only [tl]; omega, by dsimp only [tl]; omega, by dsimp only [tl]; omega, pl, by omega, fun c hc => by cases hc⟩, ⟨Int.le_refl _, Nat.le_refl _, fun _ h => ⟨by dsimp only [tl, StI] at *; omega, fun _ z => z⟩⟩, fun _ _ => trivial⟩
  | last1 _ h t h1 h2 =>
    obtain ⟨h0, ht, hl, tt, pl, st⟩ := R
    dsimp only [tl, StI] at *
    obtain ⟨a1, a2, a3⟩ := at?_mem h2
    exact ⟨rfl, ⟨by dsimp only; omega, by dsimp only [tl]; omega, by dsimp only [tl]; omega, by dsimp only [tl]; omega, pl, by dsimp only [StI]; omega, fun c hc => by cases hc; exact pl t a1⟩, ⟨by dsimp only; omega, Nat.le_refl _, fun q h => by dsimp only at q; omega⟩, fun _ _ => trivial⟩
  | last2 _ h h1 =>
    obtain ⟨h0, ht, hl, tt, pl, st⟩ := R
    dsimp only [tl, StI] at *
    exact ⟨rfl, ⟨h0, by dsimp only [tl]; omega, by dsimp only [tl]; omega, by dsimp only [tl]; omega, pl, by omega, fun c hc => by cases hc⟩, ⟨Int.le_refl _, Nat.le_refl _, fun _ h => ⟨by dsimp only [tl, StI] at *; omega, fun _ z => z⟩⟩, fun _ _ => trivial⟩
  | mend1 _ t c =>
    obtain ⟨h0, ht, hl, tt, pl, st⟩ := R
    dsimp only [tl, StI] at *
    obtain ⟨l, hl'⟩ := lim0 c (st.2 c rfl)
    exact ⟨rfl, ⟨h0, by dsimp only [tl]; omega, by dsimp only [tl]; omega, by dsimp only [tl]; omega, pl, l, hl', Nat.zero_le _⟩, ⟨Int.le_refl _, Nat.le_refl _, fun _ h => ⟨by dsimp only [tl, StI] at *; omega, fun _ z => z⟩⟩, fun _ _ => trivial⟩
  | mend2 _ t h1 =>
    obtain ⟨h0, ht, hl, tt, pl, st⟩ := R
    dsimp only [tl, StI] at *
    exact ⟨rfl, ⟨h0, by dsimp only [tl]; omega, by dsimp only [tl]; omega, by dsimp only [tl]; omega, pl, by dsimp only [StI]; omega⟩, ⟨Int.le_refl _, Nat.le_refl _, fun _ h => ⟨by dsimp only [tl, StI] at *; omega, fun _ z => z⟩⟩, fun _ _ => trivial⟩
  | mend3 _ t h1 =>
    obtain ⟨h0, ht, hl, tt, pl, st⟩ := R
    dsimp only [tl, StI] at *
    exact ⟨rfl, ⟨h0, by dsimp only [tl]; omega, by dsimp only [tl]; omega, by dsimp only [tl]; omega, pl, by dsimp only [StI]; omega⟩, ⟨Int.le_refl _, Nat.le_refl _, fun _ h => ⟨by dsimp only [tl, StI] at *; omega, fun _ z => z⟩⟩, fun _ _ => ⟨Int.le_refl _, by omega⟩⟩
  | holds1 _ t n l c hl1 hc h1 =>
    obtain ⟨h0, ht, hl, tt, pl, st⟩ := R
    dsimp only [tl, StI] at *
    have hk : r.tail.toNat ≤ r.places.length := by omega
    obtain ⟨p1, p2⟩ := putIn_len (l := r.places) (c := c) hk
    have hcb := hb t l c hl1 (List.mem_of_getElem? hc)
    refine ⟨rfl, ⟨h0, by dsimp only [tl]; omega, by dsimp only [tl]; omega, by dsimp only [tl]; omega, fun z hz => ?_, l, c, hl1, hc, ?_⟩, ⟨Int.le_refl _, p1, fun _ h => ⟨by dsimp only [tl, StI] at *; omega, fun z hz => ?_⟩⟩, fun _ _ => trivial⟩
    · rcases putIn_mem hz with q | q
      · exact pl z q
      · rw [q]; exact hcb
    · unfold at?
      rw [if_pos h1]
      exact putIn_get hk
    · obtain ⟨q0, q1⟩ := at?_some hz
      unfold at?
      rw [if_pos q0]
      rw [putIn_other (by dsimp only [tl] at h; omega) hk]
      exact q1
  | holds2 _ t n l hl1 h1 =>
    obtain ⟨h0, ht, hl, tt, pl, st⟩ := R
    dsimp only [tl, StI] at *
    exact ⟨rfl, ⟨h0, by dsimp only [tl]; omega, by dsimp only [tl]; omega, by dsimp only [tl]; omega, pl, by dsimp only [StI]; omega⟩, ⟨Int.le_refl _, Nat.le_refl _, fun _ h => ⟨by dsimp only [tl, StI] at *; omega, fun _ z => z⟩⟩, fun _ _ => trivial⟩
  | wrote _ t n l c hl1 hc =>
    obtain ⟨h0, ht, hl, tt, pl, l', c', e1, e2, e3⟩ := R
    dsimp only [tl, StI] at *
    rw [hl1] at e1; cases e1
    obtain ⟨a1, a2, a3⟩ := at?_mem e3
    have hn := (List.getElem?_eq_some_iff.mp hc).1
    exact ⟨rfl, ⟨h0, by dsimp only [tl]; omega, by dsimp only [tl]; omega, by dsimp only [tl]; omega, pl, l, hl1, hn⟩, ⟨Int.le_refl _, Nat.le_refl _, fun _ h => ⟨by dsimp only [tl, StI] at *; omega, fun _ z => z⟩⟩, fun _ _ => trivial⟩
  | _ => cases hk
/-- a step at another one's row -/
theorem tr_B {b : LL} {m w x : Nat} {r r' rw_ : Row} {s s' so : W} {e : Option Evt} (tr : Tr b m w x r s r' s' e) (hk : isK s = true) (Rw : RowI b rw_ s) (Ro : RowI b r so) (Th : ThI m r so s) :
    x = otherOf w (kOfW s) m ∧ RowI b rw_ s' ∧ Evo rw_ s rw_ s' ∧ RowI b r' so ∧ Evo r so r' so ∧ ∀ ro' so', (kOfW s' = kOfW s → ro' = r' ∧ so' = so) → ThI m ro' so' s' := by
  cases tr with
  | looks k =>
    obtain ⟨h0, ht, hl, tt, pl, st⟩ := Rw
    obtain ⟨k1, k2⟩ := Th
    refine ⟨rfl, ⟨h0, ht, hl, tt, pl, st⟩, ⟨Int.le_refl _, Nat.le_refl _, fun _ h => ⟨h, fun _ z => z⟩⟩, Ro, Evo.refl _ _, fun ro' so' h => ?_⟩
    obtain ⟨rfl, rfl⟩ := h rfl
    exact ⟨k1, k2, Ro.h0, Int.le_refl _⟩
  | seen1 _ k h h1 =>
    obtain ⟨h0, ht, hl, tt, pl, st⟩ := Rw
    obtain ⟨k1, k2, k3, k4⟩ := Th
    refine ⟨rfl, ⟨h0, ht, hl, tt, pl, st⟩, ⟨Int.le_refl _, Nat.le_refl _, fun _ h => ⟨h, fun _ z => z⟩⟩, Ro, Evo.refl _ _, fun ro' so' h => ?_⟩
    obtain ⟨rfl, rfl⟩ := h rfl
    have q1 := Ro.tt
    have q2 := Ro.hl
    exact ⟨k1, k2, k3, k4, by omega, fun _ => by omega⟩
  | seen2 _ k h h1 h2 =>
    obtain ⟨h0, ht, hl, tt, pl, st⟩ := Rw
    obtain ⟨k1, k2, k3, k4⟩ := Th
    refine ⟨rfl, ⟨h0, ht, hl, tt, pl, st⟩, ⟨Int.le_refl _, Nat.le_refl _, fun _ h => ⟨h, fun _ z => z⟩⟩, Ro, Evo.refl _ _, fun ro' so' h => ?_⟩
    exact ⟨by omega, h2⟩
  | seen3 _ k h h1 h2 =>
    obtain ⟨h0, ht, hl, tt, pl, st⟩ := Rw
    exact ⟨rfl, ⟨h0, ht, hl, tt, pl, st⟩, ⟨Int.le_refl _, Nat.le_refl _, fun _ h => ⟨h, fun _ z => z⟩⟩, Ro, Evo.refl _ _, fun ro' so' h => trivial⟩
  | reads _ k h t h1 =>
    obtain ⟨h0, ht, hl, tt, pl, st⟩ := Rw
    obtain ⟨k1, k2, k3, k4, k5, k6⟩ := Th
    obtain ⟨a1, a2, a3⟩ := at?_mem h1
    refine ⟨rfl, ⟨h0, ht, hl, tt, pl, st, Ro.pl t a1⟩, ⟨Int.le_refl _, Nat.le_refl _, fun _ h => ⟨h, fun _ z => z⟩⟩, Ro, Evo.refl _ _, fun ro' so' h => ?_⟩
    obtain ⟨rfl, rfl⟩ := h rfl
    exact ⟨k1, k2, k3, k4, fun q => ⟨k6 q, h1⟩⟩
  | tries1 _ k h t h1 =>
    obtain ⟨h0, ht, hl, tt, pl, st, tb⟩ := Rw
    obtain ⟨k1, k2, k3, k4, k5⟩ := Th
    obtain ⟨k6, k7⟩ := k5 h1
    obtain ⟨l, hl'⟩ : ∃ l, b[t]? = some l := ⟨_, List.getElem?_eq_getElem tb⟩
    obtain ⟨o0, ot, ol, ott, opl, ost⟩ := Ro
    refine ⟨rfl, ⟨h0, ht, hl, tt, pl, l, hl', Nat.zero_le _⟩, ⟨Int.le_refl _, Nat.le_refl _, fun _ h => ⟨h, fun _ z => z⟩⟩, ⟨by dsimp only; omega, ?_, ?_, ?_, opl, ?_⟩, ⟨by dsimp only; omega, Nat.le_refl _, fun q => by dsimp only at q; omega⟩, fun ro' so' h => trivial⟩
    · have : tl ⟨r.head + 1, r.tail, r.places⟩ so = tl r so := by cases so <;> rfl
      rw [this]; dsimp only; omega
    · have : tl ⟨r.head + 1, r.tail, r.places⟩ so = tl r so := by cases so <;> rfl
      rw [this]; exact ol
    · have : tl ⟨r.head + 1, r.tail, r.places⟩ so = tl r so := by cases so <;> rfl
      rw [this]; exact ott
    · cases so with
      | free => exact ost
      | lowered => trivial
      | last h' => dsimp only [tl, StI] at ost k6 ⊢; omega
      | mends t' x' => dsimp only [tl, StI] at ost k6 ⊢; omega
      | looks => dsimp only [tl, StI] at ost k6 ⊢; omega
      | seen => dsimp only [tl, StI] at ost k6 ⊢; omega
      | reads => dsimp only [tl, StI] at ost k6 ⊢; omega
      | tries => dsimp only [tl, StI] at ost k6 ⊢; omega
      | rests => dsimp only [tl, StI] at ost k6 ⊢; omega
      | holds => exact ost
      | wrote => exact ost
  | tries2 _ k h t h1 =>
    obtain ⟨h0, ht, hl, tt, pl, st, tb⟩ := Rw
    obtain ⟨k1, k2, k3, k4, k5⟩ := Th
    exact ⟨rfl, ⟨h0, ht, hl, tt, pl, st⟩, ⟨Int.le_refl _, Nat.le_refl _, fun _ h => ⟨h, fun _ z => z⟩⟩, Ro, Evo.refl _ _, fun ro' so' h => ⟨k1, k2⟩⟩
  | _ => cases hk
theorem otherOf_val {w m : Nat} {k : Int} (hw : w < m) (h1 : 1 ≤ k) (h2 : k < (m : Int)) : ((otherOf w k m : Nat) : Int) = if (w : Int) + k < (m : Int) then (w : Int) + k else (w : Int) + k - m := by
  rw [(otherOf_lt (w := w) (k := k) (many := m) (by omega)).2, Int.fmod_eq_emod_of_nonneg _ (by omega)]
  by_cases h : (w : Int) + k < (m : Int)
  · rw [if_pos h, Int.emod_eq_of_lt (by omega) h]
  · rw [if_neg h]
    have e : (w : Int) + k = ((w : Int) + k - m) + m := by omega
    rw [e, Int.add_emod_right, Int.emod_eq_of_lt (by omega) (by omega)]
    omega
theorem otherOf_ne {w m : Nat} {k : Int} (hw : w < m) (h1 : 1 ≤ k) (h2 : k < (m : Int)) : otherOf w k m ≠ w := fun e => by
  have v := otherOf_val hw h1 h2
  rw [e] at v
  split at v <;> omega
theorem ThI.k {m : Nat} {r : Row} {s u : W} (h : ThI m r s u) (hk : isK u = true) : 1 ≤ kOfW u ∧ kOfW u < (m : Int) := by
  cases u with
  | looks k => exact h
  | seen k h0 => exact ⟨h.1, h.2.1⟩
  | reads k h0 => exact ⟨h.1, h.2.1⟩
  | tries k h0 t => exact ⟨h.1, h.2.1⟩
  | _ => cases hk
theorem ThI.not {m : Nat} {r r' : Row} {s s' u : W} (hk : isK u = false) : ThI m r s u := by
  cases u with
  | looks k => cases hk
  | seen k h0 => cases hk
  | reads k h0 => cases hk
  | tries k h0 t => cases hk
  | _ => trivial
/-- what a step does, with all that the invariant tells -/
structure Stp (b : LL) (y : Yard) (w : Nat) (y' : Yard) (e : Option Evt) : Prop where
  hw : w < y.rows.length
  ns : y.S w ≠ .rests
  m' : y'.rows.length = y.rows.length
  ex : ∃ x r' s', x < y.rows.length ∧ y' = ⟨y.rows.set x r', y.states.set w s'⟩ ∧ Tr b y.rows.length w x (y.R x) (y.S w) r' s' e ∧ (isK (y.S w) = false → x = w) ∧ (isK (y.S w) = true → x = otherOf w (kOfW (y.S w)) y.rows.length ∧ x ≠ w)
theorem CI.step {b : LL} {y : Yard} (I : CI b y) {w : Nat} {q : Yard × Option Evt} (h : stepY b y w = some q) (hb : ∀ (t : Nat) (l : List Nat) (c : Nat), b[t]? = some l → c ∈ l → c < b.length) : CI b q.1 ∧ Stp b y w q.1 q.2 := by
  obtain ⟨hw, hs, x, r', s', hx, eq, tr⟩ := stepY_tr h I.len
  have hws : w < y.states.length := by rw [I.len]; exact hw
  obtain ⟨y', e⟩ := q
  dsimp only at eq tr ⊢
  subst eq
  have hlen : (y.rows.set x r').length = y.rows.length := by simp
  have hR : ∀ v, (Yard.mk (y.rows.set x r') (y.states.set w s')).R v = if v = x then r' else y.R v := fun v => R_set y x v r' _ hx
  have hS : ∀ v, (Yard.mk (y.rows.set x r') (y.states.set w s')).S v = if v = w then s' else y.S v := fun v => S_set y w v s' _ hws
  by_cases hk : isK (y.S w) = false
  · have Rx : RowI b (y.R x) (y.S w) := by
      have hxw : x = w := by
        cases hs : y.S w <;> rw [hs] at tr hk <;> first | (cases hk; done) | (cases tr <;> rfl)
      rw [hxw]; exact I.own w hw
    obtain ⟨rfl, A1, A2, A3⟩ := tr_A tr Rx hk I.m1 hb
    refine ⟨⟨by simp [I.len], by simpa using I.m1, fun v hv => ?_, fun v hv => ?_⟩, hw, hs, hlen, _, r', s', hx, rfl, tr, fun _ => rfl, fun h => by rw [hk] at h; cases h⟩
    · rw [hR, hS]
      rw [hlen] at hv
      by_cases e : v = x
      · rw [if_pos e, if_pos e]; exact A1
      · rw [if_neg e, if_neg e]; exact I.own v hv
    · rw [hlen] at hv ⊢
      rw [hS v]
      by_cases e : v = x
      · rw [if_pos e]; exact A3 _ _
      · rw [if_neg e, hR, hS]
        have T := I.th v hv
        by_cases e2 : otherOf v (kOfW (y.S v)) y.rows.length = x
        · rw [if_pos e2, if_pos e2]
          rw [e2] at T
          exact T.evo A2
        · rw [if_neg e2, if_neg e2]; exact T
  · have hk' : isK (y.S w) = true := by simpa using hk
    have T0 := I.th w hw
    have hxo : x = otherOf w (kOfW (y.S w)) y.rows.length := by
      cases hs : y.S w <;> rw [hs] at tr hk' <;> first | (cases hk'; done) | (cases tr <;> rfl)
    have kk := T0.k hk'
    have hne : x ≠ w := by rw [hxo]; exact otherOf_ne hw kk.1 kk.2
    rw [← hxo] at T0
    obtain ⟨_, B1, B2, B3, B4, B5⟩ := tr_B tr hk' (I.own w hw) (I.own x hx) T0
    refine ⟨⟨by simp [I.len], by simpa using I.m1, fun v hv => ?_, fun v hv => ?_⟩, hw, hs, hlen, _, r', s', hx, rfl, tr, fun h => (by rw [hk'] at h; cases h), fun _ => ⟨hxo, hne⟩⟩
    · rw [hR, hS]
      rw [hlen] at hv
      by_cases e : v = x
      · rw [if_pos e, if_neg (fun z => hne (by rw [← e, z])), e]; exact B3
      · rw [if_neg e]
        by_cases e2 : v = w
        · rw [if_pos e2, e2]; exact B1
        · rw [if_neg e2]; exact I.own v hv
    · rw [hlen] at hv ⊢
      rw [hS v]
      by_cases e : v = w
      · rw [if_pos e]
        refine B5 _ _ fun q => ?_
        rw [hR, hS, q, e, ← hxo, if_pos rfl, if_neg hne]
        exact ⟨rfl, rfl⟩
      · rw [if_neg e, hR, hS]
        have T := I.th v hv
        by_cases e2 : otherOf v (kOfW (y.S v)) y.rows.length = x
        · rw [if_pos e2, if_neg (by rw [e2]; exact hne)]
          rw [e2] at T ⊢
          exact T.evo B4
        · rw [if_neg e2]
          by_cases e3 : otherOf v (kOfW (y.S v)) y.rows.length = w
          · rw [if_pos e3]
            rw [e3] at T ⊢
            exact T.evo B2
          · rw [if_neg e3]; exact T
theorem CI.start (b s : LL) (P : PlanOk 200 b s) : CI b (yard0 s) := by
  have hr : ∀ w, w < s.length → (yard0 s).R w = ⟨0, ((s[w]?).getD []).length, (s[w]?).getD []⟩ ∧ (yard0 s).S w = .free := fun w hw => by
    unfold Yard.R Yard.S yard0
    dsimp only
    rw [List.getElem?_map, List.getElem?_map, List.getElem?_eq_getElem hw]
    exact ⟨rfl, rfl⟩
  have hl : (yard0 s).rows.length = s.length := by unfold yard0; simp
  refine ⟨by unfold yard0; simp, by rw [hl]; exact P.m1, fun w hw => ?_, fun w hw => ?_⟩
  · rw [hl] at hw
    rw [(hr w hw).1, (hr w hw).2]
    refine ⟨Int.le_refl _, by dsimp only [tl]; omega, by dsimp only [tl]; omega, by dsimp only [tl]; omega, fun t ht => ?_, by dsimp only [StI]; omega⟩
    rw [List.getElem?_eq_getElem hw] at ht
    exact P.ins w s[w] t (List.getElem?_eq_getElem hw) ht
  · rw [hl] at hw
    rw [(hr w hw).2]
    trivial
end Pu

set_option Elab.async false
set_option linter.all false
set_option maxRecDepth 100000
set_option maxHeartbeats 4000000
set_option autoImplicit false
/-! Due: the laws' own account of a step gives the same. -/
namespace Pu
open PySem

theorem ix2a {a b : D} : oIx (.list [a, b]) (.int 0) = some a := by
  show L2.atI [a, b] ((0 : Nat) : Int) = some a
  exact L2.atI_nat rfl
theorem ix2b {a b : D} : oIx (.list [a, b]) (.int 1) = some b := by
  show L2.atI [a, b] ((1 : Nat) : Int) = some b
  exact L2.atI_nat rfl
theorem due_own_ev {w many : Nat} {r : Row} {s : W} {p : Row × W × Option Evt} (h : ownStep w r s many = some p) : M_l_due_own [encR r, encS s, .int (w : Int), .int (many : Int)] = some (ans3 p) := by
  have hu : M_l_due_own [encR r, encS s, .int (w : Int), .int (many : Int)] = (F_l_due_own [some (encR r), some (encS s), some (.int (w : Int)), some (.int (many : Int)), none, none, none, none]).bind endD := rfl
  rw [hu]
  cases s with
  | free =>
    cases h
    simp (config := {decide := true}) [F_l_due_own, sSeq, sIf, sUnp, gTupD, setAll, encR, encS, encO, encE, encT, bT, eOp, eVar, eC, oIx0, oIx1, oIx2, oIx3, oEq_str, sh_free, sh_lowered, sh_last, sh_mends, sh_looks, sh_seen, sh_reads, sh_tries, sh_holds, sh_wrote, sh_rests, sNx, sSet, sRet, eTup, eLst, esCons, esNil, l1, l2, l3, l4, eCall, ans3, endD, oAdd, oSub, oLt, oEq_int, oIsntA, isNon, bAnd, bOr, bNot, oInt, ix2a, ix2b]
  | lowered =>
    dsimp only [ownStep, ownLooked] at h
    by_cases h1 : r.head < r.tail
    · rw [if_pos h1] at h
      cases ha : at? r.places r.tail with
      | none => rw [ha] at h; cases h
      | some t =>
        rw [ha] at h; cases h
        have hi := ix_places ha
        simp (config := {decide := true}) [F_l_due_own, h1, hi, sSeq, sIf, sUnp, gTupD, setAll, encR, encS, encO, encE, encT, bT, eOp, eVar, eC, oIx0, oIx1, oIx2, oIx3, oEq_str, sh_free, sh_lowered, sh_last, sh_mends, sh_looks, sh_seen, sh_reads, sh_tries, sh_holds, sh_wrote, sh_rests, sNx, sSet, sRet, eTup, eLst, esCons, esNil, l1, l2, l3, l4, eCall, ans3, endD, oAdd, oSub, oLt, oEq_int, oIsntA, isNon, bAnd, bOr, bNot, oInt, ix2a, ix2b]
    · rw [if_neg h1] at h
      by_cases h2 : r.head = r.tail
      · rw [if_pos h2] at h; cases h
        simp (config := {decide := true}) [F_l_due_own, h1, h2, sSeq, sIf, sUnp, gTupD, setAll, encR, encS, encO, encE, encT, bT, eOp, eVar, eC, oIx0, oIx1, oIx2, oIx3, oEq_str, sh_free, sh_lowered, sh_last, sh_mends, sh_looks, sh_seen, sh_reads, sh_tries, sh_holds, sh_wrote, sh_rests, sNx, sSet, sRet, eTup, eLst, esCons, esNil, l1, l2, l3, l4, eCall, ans3, endD, oAdd, oSub, oLt, oEq_int, oIsntA, isNon, bAnd, bOr, bNot, oInt, ix2a, ix2b]
      · rw [if_neg h2] at h; cases h
        simp (config := {decide := true}) [F_l_due_own, h1, h2, sSeq, sIf, sUnp, gTupD, setAll, encR, encS, encO, encE, encT, bT, eOp, eVar, eC, oIx0, oIx1, oIx2, oIx3, oEq_str, sh_free, sh_lowered, sh_last, sh_mends, sh_looks, sh_seen, sh_reads, sh_tries, sh_holds, sh_wrote, sh_rests, sNx, sSet, sRet, eTup, eLst, esCons, esNil, l1, l2, l3, l4, eCall, ans3, endD, oAdd, oSub, oLt, oEq_int, oIsntA, isNon, bAnd, bOr, bNot, oInt, ix2a, ix2b]
  | last h0 =>
    dsimp only [ownStep] at h
    by_cases h1 : r.head = h0
    · cases ha : at? r.places h0 with
      | none => rw [if_pos h1, ha] at h; cases h
      | some t =>
        rw [if_pos h1, ha] at h; cases h
        have hi := ix_places ha
        subst h1
        simp (config := {decide := true}) [F_l_due_own, hi, sSeq, sIf, sUnp, gTupD, setAll, encR, encS, encO, encE, encT, bT, eOp, eVar, eC, oIx0, oIx1, oIx2, oIx3, oEq_str, sh_free, sh_lowered, sh_last, sh_mends, sh_looks, sh_seen, sh_reads, sh_tries, sh_holds, sh_wrote, sh_rests, sNx, sSet, sRet, eTup, eLst, esCons, esNil, l1, l2, l3, l4, eCall, ans3, endD, oAdd, oSub, oLt, oEq_int, oIsntA, isNon, bAnd, bOr, bNot, oInt, ix2a, ix2b]
    · rw [if_neg h1] at h; cases h
      simp (config := {decide := true}) [F_l_due_own, h1, sSeq, sIf, sUnp, gTupD, setAll, encR, encS, encO, encE, encT, bT, eOp, eVar, eC, oIx0, oIx1, oIx2, oIx3, oEq_str, sh_free, sh_lowered, sh_last, sh_mends, sh_looks, sh_seen, sh_reads, sh_tries, sh_holds, sh_wrote, sh_rests, sNx, sSet, sRet, eTup, eLst, esCons, esNil, l1, l2, l3, l4, eCall, ans3, endD, oAdd, oSub, oLt, oEq_int, oIsntA, isNon, bAnd, bOr, bNot, oInt, ix2a, ix2b]
  | mends t x =>
    cases x with
    | some c =>
      cases h
      simp (config := {decide := true}) [F_l_due_own, sSeq, sIf, sUnp, gTupD, setAll, encR, encS, encO, encE, encT, bT, eOp, eVar, eC, oIx0, oIx1, oIx2, oIx3, oEq_str, sh_free, sh_lowered, sh_last, sh_mends, sh_looks, sh_seen, sh_reads, sh_tries, sh_holds, sh_wrote, sh_rests, sNx, sSet, sRet, eTup, eLst, esCons, esNil, l1, l2, l3, l4, eCall, ans3, endD, oAdd, oSub, oLt, oEq_int, oIsntA, isNon, bAnd, bOr, bNot, oInt, ix2a, ix2b]
    | none =>
      dsimp only [ownStep] at h
      by_cases h1 : many = 1
      · rw [if_pos h1] at h; cases h
        subst h1
        simp (config := {decide := true}) [F_l_due_own, sSeq, sIf, sUnp, gTupD, setAll, encR, encS, encO, encE, encT, bT, eOp, eVar, eC, oIx0, oIx1, oIx2, oIx3, oEq_str, sh_free, sh_lowered, sh_last, sh_mends, sh_looks, sh_seen, sh_reads, sh_tries, sh_holds, sh_wrote, sh_rests, sNx, sSet, sRet, eTup, eLst, esCons, esNil, l1, l2, l3, l4, eCall, ans3, endD, oAdd, oSub, oLt, oEq_int, oIsntA, isNon, bAnd, bOr, bNot, oInt, ix2a, ix2b]
      · rw [if_neg h1] at h; cases h
        have h1' : ¬ ((many : Int) = 1) := by omega
        simp (config := {decide := true}) [F_l_due_own, h1', sSeq, sIf, sUnp, gTupD, setAll, encR, encS, encO, encE, encT, bT, eOp, eVar, eC, oIx0, oIx1, oIx2, oIx3, oEq_str, sh_free, sh_lowered, sh_last, sh_mends, sh_looks, sh_seen, sh_reads, sh_tries, sh_holds, sh_wrote, sh_rests, sNx, sSet, sRet, eTup, eLst, esCons, esNil, l1, l2, l3, l4, eCall, ans3, endD, oAdd, oSub, oLt, oEq_int, oIsntA, isNon, bAnd, bOr, bNot, oInt, ix2a, ix2b]
  | _ => cases h
theorem due_other_ev {w o many : Nat} {r : Row} {s : W} {p : Row × W × Option Evt} (h : otherStep w o r s many = some p) (hk : kOfW s < (many : Int)) : M_l_due_other [encR r, encS s, .int (w : Int), .int (o : Int), .int (many : Int)] = some (ans3 p) := by
  have hu : M_l_due_other [encR r, encS s, .int (w : Int), .int (o : Int), .int (many : Int)] = (F_l_due_other [some (encR r), some (encS s), some (.int (w : Int)), some (.int (o : Int)), some (.int (many : Int)), none, none, none]).bind endD := rfl
  rw [hu]
  cases s with
  | looks k =>
    cases h
    simp (config := {decide := true}) [F_l_due_other, sSeq, sIf, sUnp, gTupD, setAll, encR, encS, encO, encE, encT, bT, eOp, eVar, eC, oIx0, oIx1, oIx2, oIx3, oEq_str, sh_free, sh_lowered, sh_last, sh_mends, sh_looks, sh_seen, sh_reads, sh_tries, sh_holds, sh_wrote, sh_rests, sNx, sSet, sRet, eTup, eLst, esCons, esNil, l1, l2, l3, l4, eCall, ans3, endD, oAdd, oSub, oLt, oEq_int, oIsntA, isNon, bAnd, bOr, bNot, oInt, ix2a, ix2b]
  | seen k h0 =>
    dsimp only [otherStep] at h
    by_cases h1 : h0 < r.tail
    · rw [if_pos h1] at h; cases h
      simp (config := {decide := true}) [F_l_due_other, h1, sSeq, sIf, sUnp, gTupD, setAll, encR, encS, encO, encE, encT, bT, eOp, eVar, eC, oIx0, oIx1, oIx2, oIx3, oEq_str, sh_free, sh_lowered, sh_last, sh_mends, sh_looks, sh_seen, sh_reads, sh_tries, sh_holds, sh_wrote, sh_rests, sNx, sSet, sRet, eTup, eLst, esCons, esNil, l1, l2, l3, l4, eCall, ans3, endD, oAdd, oSub, oLt, oEq_int, oIsntA, isNon, bAnd, bOr, bNot, oInt, ix2a, ix2b]
    · rw [if_neg h1] at h
      by_cases h2 : k + 1 < (many : Int)
      · rw [if_pos h2] at h; cases h
        have h3 : ¬ k + 1 = (many : Int) := by omega
        simp (config := {decide := true}) [F_l_due_other, h1, h3, sSeq, sIf, sUnp, gTupD, setAll, encR, encS, encO, encE, encT, bT, eOp, eVar, eC, oIx0, oIx1, oIx2, oIx3, oEq_str, sh_free, sh_lowered, sh_last, sh_mends, sh_looks, sh_seen, sh_reads, sh_tries, sh_holds, sh_wrote, sh_rests, sNx, sSet, sRet, eTup, eLst, esCons, esNil, l1, l2, l3, l4, eCall, ans3, endD, oAdd, oSub, oLt, oEq_int, oIsntA, isNon, bAnd, bOr, bNot, oInt, ix2a, ix2b]
      · rw [if_neg h2] at h; cases h
        have h3 : k + 1 = (many : Int) := by dsimp only [kOfW] at hk; omega
        simp (config := {decide := true}) [F_l_due_other, h1, h3, sSeq, sIf, sUnp, gTupD, setAll, encR, encS, encO, encE, encT, bT, eOp, eVar, eC, oIx0, oIx1, oIx2, oIx3, oEq_str, sh_free, sh_lowered, sh_last, sh_mends, sh_looks, sh_seen, sh_reads, sh_tries, sh_holds, sh_wrote, sh_rests, sNx, sSet, sRet, eTup, eLst, esCons, esNil, l1, l2, l3, l4, eCall, ans3, endD, oAdd, oSub, oLt, oEq_int, oIsntA, isNon, bAnd, bOr, bNot, oInt, ix2a, ix2b]
  | reads k h0 =>
    dsimp only [otherStep] at h
    cases ha : at? r.places h0 with
    | none => rw [ha] at h; cases h
    | some t =>
      rw [ha] at h; cases h
      have hi := ix_places ha
      simp (config := {decide := true}) [F_l_due_other, hi, sSeq, sIf, sUnp, gTupD, setAll, encR, encS, encO, encE, encT, bT, eOp, eVar, eC, oIx0, oIx1, oIx2, oIx3, oEq_str, sh_free, sh_lowered, sh_last, sh_mends, sh_looks, sh_seen, sh_reads, sh_tries, sh_holds, sh_wrote, sh_rests, sNx, sSet, sRet, eTup, eLst, esCons, esNil, l1, l2, l3, l4, eCall, ans3, endD, oAdd, oSub, oLt, oEq_int, oIsntA, isNon, bAnd, bOr, bNot, oInt, ix2a, ix2b]
  | tries k h0 t0 =>
    dsimp only [otherStep] at h
    by_cases h1 : r.head = h0
    · rw [if_pos h1] at h; cases h
      subst h1
      simp (config := {decide := true}) [F_l_due_other, sSeq, sIf, sUnp, gTupD, setAll, encR, encS, encO, encE, encT, bT, eOp, eVar, eC, oIx0, oIx1, oIx2, oIx3, oEq_str, sh_free, sh_lowered, sh_last, sh_mends, sh_looks, sh_seen, sh_reads, sh_tries, sh_holds, sh_wrote, sh_rests, sNx, sSet, sRet, eTup, eLst, esCons, esNil, l1, l2, l3, l4, eCall, ans3, endD, oAdd, oSub, oLt, oEq_int, oIsntA, isNon, bAnd, bOr, bNot, oInt, ix2a, ix2b]
    · rw [if_neg h1] at h; cases h
      simp (config := {decide := true}) [F_l_due_other, h1, sSeq, sIf, sUnp, gTupD, setAll, encR, encS, encO, encE, encT, bT, eOp, eVar, eC, oIx0, oIx1, oIx2, oIx3, oEq_str, sh_free, sh_lowered, sh_last, sh_mends, sh_looks, sh_seen, sh_reads, sh_tries, sh_holds, sh_wrote, sh_rests, sNx, sSet, sRet, eTup, eLst, esCons, esNil, l1, l2, l3, l4, eCall, ans3, endD, oAdd, oSub, oLt, oEq_int, oIsntA, isNon, bAnd, bOr, bNot, oInt, ix2a, ix2b]
  | _ => cases h
/-- x[:k] + (e,) + x[k + 1:] -/
theorem cut_ev {ds : Sl} {f g h : Sl → Option D} {l : List D} {k : Nat} {x : D} (hf : f ds = some (.tuple l)) (hg : g ds = some (.int (k : Int))) (hh : h ds = some x) (hz : l.length + 1 ≤ lim) :
    eOp oAdd (eOp oAdd (eSl f eNoPart (ePart g)) (eTup (esCons h esNil))) (eSl f (ePart (eOp oAdd g (eC (.int 1)))) eNoPart) ds = some (.tuple (l.take k ++ [x] ++ l.drop (k + 1))) := by
  have z := put_in_ev l k x hz
  have hu : M_put_in [.tuple l, .int (k : Int), x] = (F_put_in [some (.tuple l), some (.int (k : Int)), some x]).bind endD := rfl
  rw [hu] at z
  have e : ∀ d, eOp oAdd (eOp oAdd (eSl f eNoPart (ePart g)) (eTup (esCons h esNil))) (eSl f (ePart (eOp oAdd g (eC (.int 1)))) eNoPart) ds = d ↔ eOp oAdd (eOp oAdd (eSl (eVar 0) eNoPart (ePart (eVar 1))) (eTup (esCons (eVar 2) esNil))) (eSl (eVar 0) (ePart (eOp oAdd (eVar 1) (eC (.int 1)))) eNoPart) [some (.tuple l), some (.int (k : Int)), some x] = d := fun d => by
    simp [eOp, eSl, eNoPart, ePart, eTup, esCons, esNil, hf, hg, hh, eVar, eC]
  rw [e]
  unfold F_put_in sRet at z
  cases q : eOp oAdd (eOp oAdd (eSl (eVar 0) eNoPart (ePart (eVar 1))) (eTup (esCons (eVar 2) esNil))) (eSl (eVar 0) (ePart (eOp oAdd (eVar 1) (eC (.int 1)))) eNoPart) [some (.tuple l), some (.int (k : Int)), some x] with
  | none => rw [q] at z; cases z
  | some d => rw [q] at z; cases z; rfl
theorem due_task_ev {b : LL} {w t : Nat} {r : Row} {s : W} {l : List Nat} {p : Row × W × Option Evt} (h : taskStep b w r s = some p) (hb : b[t]? = some l) (hs : (∃ n, s = .holds t n ∧ n ≤ l.length) ∨ ∃ n, s = .wrote t n) (hz : r.places.length + 1 ≤ lim) : M_l_due_task [encL l, encR r, encS s, .int (w : Int)] = some (ans3 p) := by
  have hu : M_l_due_task [encL l, encR r, encS s, .int (w : Int)] = (F_l_due_task [some (encL l), some (encR r), some (encS s), some (.int (w : Int)), none, none, none]).bind endD := rfl
  rw [hu]
  rcases hs with ⟨n, rfl, hn0⟩ | ⟨n, rfl⟩
  · dsimp only [taskStep] at h
    rw [hb, Option.bind_some] at h
    have e3 : oLen [encL l] = some (.int (l.length : Int)) := by
      show some (PyData.int ((encN l).length : Int)) = _
      unfold encN; rw [List.length_map]
    by_cases hn : n < l.length
    · rw [if_pos hn] at h
      cases hc : l[n]? with
      | none => rw [hc] at h; cases h
      | some c =>
        rw [hc, Option.bind_some] at h
        by_cases ht : 0 ≤ r.tail
        · rw [if_pos ht] at h; cases h
          have e2 := child_ev hc
          have hn' : ¬ (n : Int) = (l.length : Int) := by omega
          have e4 := cut_ev (f := eVar 6) (g := eVar 5) (h := eOp oIx (eVar 0) (eOp oIx (eVar 2) (eC (.int 2)))) (l := encN r.places) (k := r.tail.toNat) (x := .int (c : Int))
            (ds := [some (encL l), some (encR r), some (encS (.holds t n)), some (.int (w : Int)), some (.int r.head), some (.int r.tail), some (.tuple (encN r.places))]) rfl (by rw [show ((r.tail.toNat : Nat) : Int) = r.tail by omega]; rfl)
            (by rw [eOp_ev (eVar_get rfl) (eOp_ev (eVar_get rfl) rfl |>.trans oIx2)]; exact e2) (by unfold encN; rw [List.length_map]; exact hz)
          have e5 : encN (putIn r.places r.tail.toNat c) = (encN r.places).take r.tail.toNat ++ [.int (c : Int)] ++ (encN r.places).drop (r.tail.toNat + 1) := by
            unfold putIn encN
            rw [List.map_append, List.map_append, List.map_take, List.map_drop]; rfl
          rw [← e5] at e4
          have e6 : ∀ ds', eOp oAdd (eOp oAdd (eSl (eVar 6) eNoPart (ePart (eVar 5))) (eTup (esCons (eOp oIx (eVar 0) (eOp oIx (eVar 2) (eC (.int 2)))) esNil))) (eSl (eVar 6) (ePart (eOp oAdd (eVar 5) (eC (.int 1)))) eNoPart) [some (encL l), some (encR r), some (encS (.holds t n)), some (.int (w : Int)), some (.int r.head), some (.int r.tail), some (.tuple (encN r.places))] = some (.tuple (encN (putIn r.places r.tail.toNat c))) → sSet 6 (eOp oAdd (eOp oAdd (eSl (eVar 6) eNoPart (ePart (eVar 5))) (eTup (esCons (eOp oIx (eVar 0) (eOp oIx (eVar 2) (eC (.int 2)))) esNil))) (eSl (eVar 6) (ePart (eOp oAdd (eVar 5) (eC (.int 1)))) eNoPart)) [some (encL l), some (encR r), some (encS (.holds t n)), some (.int (w : Int)), some (.int r.head), some (.int r.tail), some (.tuple (encN r.places))] = ds' → some (Out.nx [some (encL l), some (encR r), some (encS (.holds t n)), some (.int (w : Int)), some (.int r.head), some (.int r.tail), some (.tuple (encN (putIn r.places r.tail.toNat c)))]) = ds' := fun ds' e q => by
            unfold sSet at q
            rw [e] at q
            exact q
          have e7 := e6 _ e4 rfl
          have e8 : sSeq (sUnp [4, 5, 6] (eVar 1)) (fun ds => some (.nx ds)) [some (encL l), some (encR r), some (encS (.holds t n)), some (.int (w : Int)), none, none, none] = some (.nx [some (encL l), some (encR r), some (encS (.holds t n)), some (.int (w : Int)), some (.int r.head), some (.int r.tail), some (.tuple (encN r.places))]) := by
            simp [sSeq, sUnp, eVar, encR, gTupD, setAll]
          simp only [encS, encR] at e7
          generalize hgen : sSet 6 (eOp oAdd (eOp oAdd (eSl (eVar 6) eNoPart (ePart (eVar 5))) (eTup (esCons (eOp oIx (eVar 0) (eOp oIx (eVar 2) (eC (.int 2)))) esNil))) (eSl (eVar 6) (ePart (eOp oAdd (eVar 5) (eC (.int 1)))) eNoPart)) = F6 at e7
          unfold F_l_due_task
          rw [hgen]
          simp (config := {decide := true}) [sSeq, sIf, sUnp, gTupD, setAll, encR, encS, encO, bT, eOp, eVar, eC, oIx0, oIx1, oIx2, oEq_str, sh_holds, sh_wrote, sNx, sRet, eTup, esCons, esNil, l2, l3, eCall, ans3, endD, oEq_int, e3, hn', ← e7]
        · rw [if_neg ht] at h; cases h
    · rw [if_neg hn] at h; cases h
      have hn' : n = l.length := by omega
      subst hn'
      simp (config := {decide := true}) [F_l_due_task, e3, sSeq, sIf, sUnp, gTupD, setAll, encR, encS, encO, encE, encT, bT, eOp, eVar, eC, oIx0, oIx1, oIx2, oIx3, oEq_str, sh_free, sh_lowered, sh_last, sh_mends, sh_looks, sh_seen, sh_reads, sh_tries, sh_holds, sh_wrote, sh_rests, sNx, sSet, sRet, eTup, eLst, esCons, esNil, l1, l2, l3, l4, eCall, ans3, endD, oAdd, oSub, oLt, oEq_int, oIsntA, isNon, bAnd, bOr, bNot, oInt, ix2a, ix2b]
  · dsimp only [taskStep] at h
    rw [hb, Option.bind_some] at h
    cases hc : l[n]? with
    | none => rw [hc] at h; cases h
    | some c =>
      rw [hc] at h; cases h
      have e2 := child_ev hc
      simp (config := {decide := true}) [F_l_due_task, e2, sSeq, sIf, sUnp, gTupD, setAll, encR, encS, encO, encE, encT, bT, eOp, eVar, eC, oIx0, oIx1, oIx2, oIx3, oEq_str, sh_free, sh_lowered, sh_last, sh_mends, sh_looks, sh_seen, sh_reads, sh_tries, sh_holds, sh_wrote, sh_rests, sNx, sSet, sRet, eTup, eLst, esCons, esNil, l1, l2, l3, l4, eCall, ans3, endD, oAdd, oSub, oLt, oEq_int, oIsntA, isNon, bAnd, bOr, bNot, oInt, ix2a, ix2b]
end Pu

set_option Elab.async false
set_option linter.all false
set_option maxRecDepth 100000
set_option maxHeartbeats 4000000
set_option autoImplicit false
/-! Wv: weavings by numbers; what is due of a step, whole; one turn of the laws that look at each step. -/
namespace Pu
open PySem

section
variable {f g : S} {e : Sl → Option D} {c : Sl → Option Bool} {ds ds' : Sl} {d : D} {i : Nat} {l : List D} {is : List Nat}
theorem q_seq (h : f ds = some (.nx ds')) : sSeq f g ds = g ds' := by unfold sSeq; rw [h]; rfl
theorem q_seqR (h : f ds = some (.rt d)) : sSeq f g ds = some (.rt d) := by unfold sSeq; rw [h]; rfl
theorem q_set (h : e ds = some d) : sSet i e ds = some (.nx (ds.set i (some d))) := by unfold sSet; rw [h]; rfl
theorem q_seqS (h : e ds = some d) : sSeq (sSet i e) g ds = g (ds.set i (some d)) := q_seq (q_set h)
theorem q_ift (h : c ds = some true) : sIf c f g ds = f ds := by unfold sIf; rw [h]; rfl
theorem q_iff (h : c ds = some false) : sIf c f g ds = g ds := by unfold sIf; rw [h]; rfl
theorem q_ret (h : e ds = some d) : sRet e ds = some (.rt d) := by unfold sRet; rw [h]; rfl
theorem q_unp (h : e ds = some (.tuple l)) (k : setAll is l ds = some ds') : sUnp is e ds = some (.nx ds') := by
  unfold sUnp; rw [h]
  show ((setAll is l ds).bind _) = _
  rw [k]; rfl
theorem q_for {it : Sl → Option (List D)} {G : D → Sl → Option Sl} (h : it ds = some l) : sFor it G f ds = loopD G f l ds := by unfold sFor; rw [h]; rfl
theorem q_call {o : List D → Option D} {gs : Sl → Option (List D)} (h : gs ds = some l) : eCall o gs ds = o l := by unfold eCall; rw [h]; rfl
theorem q_cons {gs : Sl → Option (List D)} (h : e ds = some d) (k : gs ds = some l) : esCons e gs ds = some (d :: l) := by unfold esCons; rw [h, k]; rfl
theorem q_nil : esNil ds = some [] := rfl
theorem q_tup {gs : Sl → Option (List D)} (h : gs ds = some l) (k : l.length ≤ 1000) : eTup gs ds = some (.tuple l) := by
  unfold eTup; rw [h]
  show (if l.length ≤ lim then _ else _) = _
  rw [if_pos (by unfold lim; omega)]
theorem q_lst {gs : Sl → Option (List D)} (h : gs ds = some l) (k : l.length ≤ 1000) : eLst gs ds = some (.list l) := by
  unfold eLst; rw [h]
  show (if l.length ≤ lim then _ else _) = _
  rw [if_pos (by unfold lim; omega)]
end

/-! ### a weaving by numbers -/
def F_wTurn : S := (sIf (bT (eOp oEq (eOp oMod (eVar 3) (eC (.int 7))) (eC (.int 6)))) (sSet 2 (eOp oAdd (eVar 2) (eLc 4 (eRng (eVar 1)) bYes (eOp oMod (eOp oAdd (eVar 4) (eOp oDiv (eVar 3) (eC (.int 7)))) (eVar 1))))) (sIf (bT (eOp oEq (eOp oMod (eVar 3) (eC (.int 7))) (eC (.int 5)))) (sSet 2 (eOp oAdd (eVar 2) (eOp oMul (eLst (esCons (eOp oMod (eOp oDiv (eVar 3) (eC (.int 7))) (eVar 1)) esNil)) (eOp oAdd (eC (.int 1)) (eOp oMod (eOp oDiv (eOp oDiv (eVar 3) (eC (.int 7))) (eVar 1)) (eC (.int 30))))))) (sSet 2 (eOp oAdd (eVar 2) (eOp oMul (eLst (esCons (eOp oMod (eOp oDiv (eVar 3) (eC (.int 7))) (eVar 1)) esNil)) (eOp oAdd (eC (.int 1)) (eOp oMod (eVar 3) (eC (.int 7)))))))))
theorem encN_app (a b : List Nat) : encN (a ++ b) = encN a ++ encN b := by unfold encN; rw [List.map_append]
theorem encN_len (a : List Nat) : (encN a).length = a.length := by unfold encN; rw [List.length_map]
theorem oAdd_N {a b : List Nat} (h : a.length + b.length ≤ lim) : oAdd (.list (encN a)) (.list (encN b)) = some (.list (encN (a ++ b))) := by
  show (if (encN a).length + (encN b).length ≤ lim then _ else _) = _
  rw [encN_len, encN_len, if_pos h, encN_app]
theorem encN_rep (n x : Nat) : encN (List.replicate n x) = List.replicate n (.int (x : Int)) := by unfold encN; rw [List.map_replicate]
theorem oMul_1 {x n : Nat} (h : n ≤ 1000) : oMul (.list [.int (x : Int)]) (.int (n : Int)) = some (.list (encN (List.replicate n x))) := by
  have hc : -(2 ^ 63) ≤ (n : Int) ∧ (n : Int) < 2 ^ 63 ∧ [PyData.int (x : Int)].length * (n : Int).toNat ≤ lim := ⟨by omega, by omega, by rw [Int.toNat_natCast, List.length_singleton]; unfold lim; omega⟩
  unfold oMul
  dsimp only
  rw [if_pos hc, Int.toNat_natCast, encN_rep]
  congr 2
  clear hc
  induction n with
  | zero => rfl
  | succ n ih => rw [List.replicate_succ, List.flatten_cons, ih (by omega), List.replicate_succ]; rfl
theorem wturn_ev (A : D) (m : Nat) (ws : List Nat) (c : Int) (m1 : 1 ≤ m) (m2 : m ≤ 12) (hz : ws.length + 30 ≤ lim) : ∃ us : List Nat, us.length ≤ 30 ∧ (∀ u ∈ us, u < m) ∧
    F_wTurn [some A, some (.int (m : Int)), some (.list (encN ws)), some (.int c), none] = some (.nx [some A, some (.int (m : Int)), some (.list (encN (ws ++ us))), some (.int c), none]) := by
  have e1 : eOp oMod (eVar 3) (eC (.int 7)) [some A, some (.int (m : Int)), some (.list (encN ws)), some (.int c), none] = some (.int (c.fmod 7)) := mod_ev rfl rfl (by decide)
  have e2 : eOp oDiv (eVar 3) (eC (.int 7)) [some A, some (.int (m : Int)), some (.list (encN ws)), some (.int c), none] = some (.int (c.fdiv 7)) := div_ev rfl rfl (by decide) (by decide)
  have r := fmod_rng (a := c) (b := 7) (by decide)
  have rx := fmod_rng (a := c.fdiv 7) (b := (m : Int)) (by omega)
  have e3 : eOp oMod (eOp oDiv (eVar 3) (eC (.int 7))) (eVar 1) [some A, some (.int (m : Int)), some (.list (encN ws)), some (.int c), none] = some (.int ((((c.fdiv 7).fmod (m : Int)).toNat : Nat) : Int)) := by
    rw [mod_ev e2 rfl (by omega)]
    congr 2; omega
  have e4 : eLst (esCons (eOp oMod (eOp oDiv (eVar 3) (eC (.int 7))) (eVar 1)) esNil) [some A, some (.int (m : Int)), some (.list (encN ws)), some (.int c), none] = some (.list [.int ((((c.fdiv 7).fmod (m : Int)).toNat : Nat) : Int)]) := q_lst (q_cons e3 rfl) (by simp)
  unfold F_wTurn
  by_cases h6 : c.fmod 7 = 6
  · refine ⟨(List.range m).map fun (k : Nat) => (((k : Int) + c.fdiv 7).fmod (m : Int)).toNat, by simp; omega, fun u hu => ?_, ?_⟩
    · obtain ⟨k, _, rfl⟩ := List.mem_map.mp hu
      have r2 := fmod_rng (a := (k : Int) + c.fdiv 7) (b := (m : Int)) (by omega)
      omega
    · rw [q_ift (by rw [eq_ev e1 rfl, h6]; rfl)]
      have hit : eRng (eVar 1) [some A, some (.int (m : Int)), some (.list (encN ws)), some (.int c), none] = some ((List.range m).map fun (k : Nat) => PyData.int (k : Int)) := by
        show (if (m : Int) ≤ 1000000 ∧ -1000000 ≤ (m : Int) then some (rngD (m : Int)) else none) = _
        rw [if_pos (by omega)]
        unfold rngD; rw [Int.toNat_natCast]
      have e5 : eLc 4 (eRng (eVar 1)) bYes (eOp oMod (eOp oAdd (eVar 4) (eOp oDiv (eVar 3) (eC (.int 7)))) (eVar 1)) [some A, some (.int (m : Int)), some (.list (encN ws)), some (.int c), none] = some (.list (encN ((List.range m).map fun (k : Nat) => (((k : Int) + c.fdiv 7).fmod (m : Int)).toNat))) := by
        have z := lc_enc (i := 4) (c := bYes) (e := eOp oMod (eOp oAdd (eVar 4) (eOp oDiv (eVar 3) (eC (.int 7)))) (eVar 1)) (enc := fun (k : Nat) => PyData.int (k : Int)) (g := fun k => PyData.int (((((k : Int) + c.fdiv 7).fmod (m : Int)).toNat : Nat) : Int)) (l := List.range m) (ds := [some A, some (.int (m : Int)), some (.list (encN ws)), some (.int c), none]) hit (by rw [List.length_range]; unfold lim; omega) (fun k _ => ⟨rfl, by
          have r2 := fmod_rng (a := (k : Int) + c.fdiv 7) (b := (m : Int)) (by omega)
          rw [mod_ev (x := (k : Int) + c.fdiv 7) (y := (m : Int)) (add_ev rfl (div_ev rfl rfl (by decide) (by decide))) rfl (by omega)]
          congr 2; omega⟩)
        rw [z]
        unfold encN; rw [List.map_map]; rfl
      rw [q_set (d := .list (encN (ws ++ (List.range m).map fun (k : Nat) => (((k : Int) + c.fdiv 7).fmod (m : Int)).toNat))) (by rw [eOp_ev (eVar_get rfl) e5, oAdd_N (by simp; unfold lim at *; omega)])]
      rfl
  · rw [q_iff (by rw [eq_ev e1 rfl]; simp [h6])]
    by_cases h5 : c.fmod 7 = 5
    · have r3 := fmod_rng (a := (c.fdiv 7).fdiv (m : Int)) (b := 30) (by decide)
      refine ⟨List.replicate (1 + (((c.fdiv 7).fdiv (m : Int)).fmod 30).toNat) ((c.fdiv 7).fmod (m : Int)).toNat, by simp; omega, fun u hu => ?_, ?_⟩
      · rw [(List.mem_replicate.mp hu).2]; omega
      · rw [q_ift (by rw [eq_ev e1 rfl, h5]; rfl)]
        have e6 : eOp oAdd (eC (.int 1)) (eOp oMod (eOp oDiv (eOp oDiv (eVar 3) (eC (.int 7))) (eVar 1)) (eC (.int 30))) [some A, some (.int (m : Int)), some (.list (encN ws)), some (.int c), none] = some (.int ((1 + (((c.fdiv 7).fdiv (m : Int)).fmod 30).toNat : Nat) : Int)) := by
          rw [add_ev (x := 1) rfl (mod_ev (y := 30) (div_ev e2 rfl (by omega) (by omega)) rfl (by decide))]
          congr 2; omega
        rw [q_set (by rw [eOp_ev (eVar_get rfl) (eOp_ev e4 e6 |>.trans (oMul_1 (by omega))), oAdd_N (by simp; unfold lim at *; omega)])]
        rfl
    · refine ⟨List.replicate (1 + (c.fmod 7).toNat) ((c.fdiv 7).fmod (m : Int)).toNat, by simp; omega, fun u hu => ?_, ?_⟩
      · rw [(List.mem_replicate.mp hu).2]; omega
      · rw [q_iff (by rw [eq_ev e1 rfl]; simp [h5])]
        have e6 : eOp oAdd (eC (.int 1)) (eOp oMod (eVar 3) (eC (.int 7))) [some A, some (.int (m : Int)), some (.list (encN ws)), some (.int c), none] = some (.int ((1 + (c.fmod 7).toNat : Nat) : Int)) := by
          rw [add_ev (x := 1) rfl e1]
          congr 2; omega
        rw [q_set (by rw [eOp_ev (eVar_get rfl) (eOp_ev e4 e6 |>.trans (oMul_1 (by omega))), oAdd_N (by simp; unfold lim at *; omega)])]
        rfl
theorem wloop_ev (A : D) (m : Nat) (m1 : 1 ≤ m) (m2 : m ≤ 12) : ∀ (cs : List Int) (ws : List Nat) (x : Option D), ws.length + 30 * cs.length ≤ lim → ∃ (us : List Nat) (x' : Option D), us.length ≤ 30 * cs.length ∧ (∀ u ∈ us, u < m) ∧
    loopD (gNameD 3) F_wTurn (cs.map .int) [some A, some (.int (m : Int)), some (.list (encN ws)), x, none] = some (.nx [some A, some (.int (m : Int)), some (.list (encN (ws ++ us))), x', none])
  | [], ws, x, _ => ⟨[], x, by simp, fun u hu => by (cases hu), by rw [List.append_nil]; rfl⟩
  | c :: cs, ws, x, hz => by
    obtain ⟨us, h1, h2, h3⟩ := wturn_ev A m ws c m1 m2 (by rw [List.length_cons] at hz; omega)
    obtain ⟨vs, x', h4, h5, h6⟩ := wloop_ev A m m1 m2 cs (ws ++ us) (some (.int c)) (by rw [List.length_cons] at hz; rw [List.length_append]; omega)
    refine ⟨us ++ vs, x', by rw [List.length_append, List.length_cons]; omega, fun u hu => ?_, ?_⟩
    · rcases List.mem_append.mp hu with h | h
      · exact h2 u h
      · exact h5 u h
    · rw [List.append_assoc] at h6
      rw [← h6, List.map_cons]
      show ((F_wTurn [some A, some (.int (m : Int)), some (.list (encN ws)), some (.int c), none]).bind _) = _
      rw [h3]; rfl
theorem weaving_ev (cs : List Int) (m : Nat) (m1 : 1 ≤ m) (m2 : m ≤ 12) (hc : cs.length ≤ 1000) : ∃ ws : List Nat, ws.length ≤ 30 * cs.length ∧ (∀ w ∈ ws, w < m) ∧ M_l_weaving_by [.list (cs.map .int), .int (m : Int)] = some (.list (encN ws)) := by
  obtain ⟨us, x', h1, h2, h3⟩ := wloop_ev (.list (cs.map .int)) m m1 m2 cs [] none (by unfold lim; simp; omega)
  refine ⟨us, h1, h2, ?_⟩
  have hu : M_l_weaving_by [.list (cs.map .int), .int (m : Int)] = (F_l_weaving_by [some (.list (cs.map .int)), some (.int (m : Int)), none, none, none]).bind endD := rfl
  rw [hu]
  unfold F_l_weaving_by
  rw [q_seqS (d := .list (encN [])) rfl]
  have h4 := (q_for (f := F_wTurn) (G := gNameD 3) (it := eItems (eVar 0)) (ds := [some (.list (cs.map .int)), some (.int (m : Int)), some (.list (encN [])), none, none]) (l := cs.map .int) rfl).trans h3
  unfold F_wTurn at h4
  have h5 : ∀ g, sSeq (sFor (eItems (eVar 0)) (gNameD 3) _) g ([some (.list (cs.map .int)), some (.int (m : Int)), none, none, none].set 2 (some (PyData.list (encN [])))) = _ := fun g => q_seq (g := g) h4
  rw [h5]
  rfl

/-! ### what is due of a step -/
theorem in_ownL (s : W) : oInA (.str (wordW s)) (.list [.str "free", .str "lowered", .str "last", .str "mends"]) = some (.bool (isOwn s)) := by
  have hs : SeqAt.shaped (.list [.str "free", .str "lowered", .str "last", .str "mends"]) = true := by decide +kernel
  show (if SeqAt.shaped (.str (wordW s)) = true ∧ SeqAt.shaped (.list [.str "free", .str "lowered", .str "last", .str "mends"]) = true then _ else _) = _
  rw [if_pos ⟨sh_word s, hs⟩]
  cases s <;> simp (config := {decide := true}) [wordW, eqv_strs, isOwn]
theorem in_taskL (s : W) : oInA (.str (wordW s)) (.list [.str "holds", .str "wrote"]) = some (.bool (isTask s)) := by
  have hs : SeqAt.shaped (.list [.str "holds", .str "wrote"]) = true := by decide +kernel
  show (if SeqAt.shaped (.str (wordW s)) = true ∧ SeqAt.shaped (.list [.str "holds", .str "wrote"]) = true then _ else _) = _
  rw [if_pos ⟨sh_word s, hs⟩]
  cases s <;> simp (config := {decide := true}) [wordW, eqv_strs, isTask]
theorem in_otherL (s : W) : oInA (.str (wordW s)) (.list [.str "looks", .str "seen", .str "reads", .str "tries"]) = some (.bool (isK s)) := by
  have hs : SeqAt.shaped (.list [.str "looks", .str "seen", .str "reads", .str "tries"]) = true := by decide +kernel
  show (if SeqAt.shaped (.str (wordW s)) = true ∧ SeqAt.shaped (.list [.str "looks", .str "seen", .str "reads", .str "tries"]) = true then _ else _) = _
  rw [if_pos ⟨sh_word s, hs⟩]
  cases s <;> simp (config := {decide := true}) [wordW, eqv_strs, isK]
theorem kinds (s : W) (h : s ≠ .rests) : (isOwn s = true ∧ isTask s = false ∧ isK s = false) ∨ (isOwn s = false ∧ isTask s = true ∧ isK s = false) ∨ (isOwn s = false ∧ isTask s = false ∧ isK s = true) := by
  cases s <;> simp [isOwn, isTask, isK] at h ⊢
theorem ix1_K (s : W) (h : isK s = true) : oIx (encS s) (.int 1) = some (.int (kOfW s)) := by
  cases s <;> first | (exact oIx1) | (exact Bool.noConfusion h)
/-- the whole of what is due, and where -/
theorem due_ev {b st : LL} {y : Yard} {w : Nat} {q : Yard × Option Evt} (h : stepY b y w = some q) (I : CI b y) (hz : ∀ r ∈ y.rows, r.places.length + 1 ≤ lim) :
    ∃ x r' s', x < y.rows.length ∧ w < y.states.length ∧ q.1 = ⟨y.rows.set x r', y.states.set w s'⟩ ∧ M_l_due [encP b st, encY y, .int (w : Int)] = some (.tuple [.int (x : Int), encR r', encS s', encO q.2]) := by
  have hu : M_l_due [encP b st, encY y, .int (w : Int)] = (F_l_due [some (encP b st), some (encY y), some (.int (w : Int)), none, none, none]).bind endD := rfl
  rw [hu]
  have hl := I.len
  unfold stepY at h
  obtain ⟨s, hs, h⟩ := bind_some h
  have hw : w < y.states.length := (List.getElem?_eq_some_iff.mp hs).1
  have eS : y.S w = s := Yard.S_of hs
  by_cases h0 : s = .rests
  · rw [if_pos h0] at h; cases h
  rw [if_neg h0] at h
  have lenR : oLen [.tuple (y.rows.map encR)] = some (.int (y.rows.length : Int)) := by
    show some (PyData.int ((y.rows.map encR).length : Int)) = _
    rw [List.length_map]
  unfold F_l_due
  have e1 : eOp oIx (eOp oIx (eVar 1) (eC (.int 1))) (eVar 2) [some (encP b st), some (encY y), some (.int (w : Int)), none, none, none] = some (encS s) := by
    rw [eOp_ev (eOp_ev (eVar_get rfl) rfl |>.trans oIx1) (eVar_get rfl), nth_state hs]
  rw [q_seqS e1]
  dsimp only [List.set]
  have e2 : eCall oLen (esCons (eOp oIx (eVar 1) (eC (.int 0))) esNil) [some (encP b st), some (encY y), some (.int (w : Int)), some (encS s), none, none] = some (.int (y.rows.length : Int)) := by
    rw [q_call (q_cons (eOp_ev (eVar_get rfl) rfl |>.trans oIx0) rfl), lenR]
  rw [q_seqS e2]
  dsimp only [List.set]
  have ew : ∀ x y', eOp oIx (eVar 3) (eC (.int 0)) [some (encP b st), some (encY y), some (.int (w : Int)), some (encS s), x, y'] = some (.str (wordW s)) := fun x y' => by
    rw [eOp_ev (eVar_get rfl) rfl, ix_word]
  have i1 : bT (eOp oInA (eOp oIx (eVar 3) (eC (.int 0))) (eLst (esCons (eC (.str "looks")) (esCons (eC (.str "seen")) (esCons (eC (.str "reads")) (esCons (eC (.str "tries")) esNil)))))) [some (encP b st), some (encY y), some (.int (w : Int)), some (encS s), some (.int (y.rows.length : Int)), none] = some (isK s) := by
    unfold bT
    rw [eOp_ev (ew _ _) (q_lst (l := [.str "looks", .str "seen", .str "reads", .str "tries"]) rfl (by simp)), in_otherL]; rfl
  have i2 : bT (eOp oInA (eOp oIx (eVar 3) (eC (.int 0))) (eLst (esCons (eC (.str "holds")) (esCons (eC (.str "wrote")) esNil)))) [some (encP b st), some (encY y), some (.int (w : Int)), some (encS s), some (.int (y.rows.length : Int)), none] = some (isTask s) := by
    unfold bT
    rw [eOp_ev (ew _ _) (q_lst (l := [.str "holds", .str "wrote"]) rfl (by simp)), in_taskL]; rfl
  have cat : ∀ (x : Int) (p : Row × W × Option Evt), oAdd (.tuple [.int x]) (ans3 p) = some (.tuple [.int x, encR p.1, encS p.2.1, encO p.2.2]) := fun x p => rfl
  rcases kinds s h0 with ⟨k1, k2, k3⟩ | ⟨k1, k2, k3⟩ | ⟨k1, k2, k3⟩
  · rw [if_pos k1] at h
    obtain ⟨r, hr, h⟩ := bind_some h
    obtain ⟨p, hp, h⟩ := bind_some h
    cases h
    refine ⟨w, p.1, p.2.1, by omega, hw, rfl, ?_⟩
    have z := due_own_ev hp
    have e3 : eOp oIx (eOp oIx (eVar 1) (eC (.int 0))) (eVar 2) [some (encP b st), some (encY y), some (.int (w : Int)), some (encS s), some (.int (y.rows.length : Int)), none] = some (encR r) := by
      rw [eOp_ev (eOp_ev (eVar_get rfl) rfl |>.trans oIx0) (eVar_get rfl), nth_row hr]
    rw [q_seq (q_iff (i1.trans (by rw [k3])) |>.trans rfl), q_seq (q_iff (i2.trans (by rw [k2])) |>.trans rfl)]
    rw [q_ret (d := .tuple [.int (w : Int), encR p.1, encS p.2.1, encO p.2.2]) (by
      rw [eOp_ev (x := .tuple [.int (w : Int)]) (q_tup (q_cons (eVar_get rfl) rfl) (by simp)) (q_call (q_cons e3 (q_cons (eVar_get rfl) (q_cons (eVar_get rfl) (q_cons (eVar_get rfl) rfl)))) |>.trans z), cat])]
    rfl
  · rw [if_neg (by rw [k1]; decide), if_pos k2] at h
    obtain ⟨r, hr, h⟩ := bind_some h
    obtain ⟨p, hp, h⟩ := bind_some h
    cases h
    refine ⟨w, p.1, p.2.1, by omega, hw, rfl, ?_⟩
    have R := I.own w (by omega)
    rw [eS, Yard.R_of hr] at R
    obtain ⟨t, l, hb, hk, ht1⟩ : ∃ t l, b[t]? = some l ∧ ((∃ n, s = .holds t n ∧ n ≤ l.length) ∨ ∃ n, s = .wrote t n) ∧ oIx (encS s) (.int 1) = some (.int (t : Int)) := by
      cases s with
      | holds t n => obtain ⟨l, e, k⟩ := R.st; exact ⟨t, l, e, .inl ⟨n, rfl, k⟩, oIx1⟩
      | wrote t n => obtain ⟨l, c, e, k, _⟩ := R.st; exact ⟨t, l, e, .inr ⟨n, rfl⟩, oIx1⟩
      | _ => cases k2
    have z := due_task_ev hp hb hk (hz r (List.mem_of_getElem? hr))
    have e3 : eOp oIx (eOp oIx (eVar 1) (eC (.int 0))) (eVar 2) [some (encP b st), some (encY y), some (.int (w : Int)), some (encS s), some (.int (y.rows.length : Int)), none] = some (encR r) := by
      rw [eOp_ev (eOp_ev (eVar_get rfl) rfl |>.trans oIx0) (eVar_get rfl), nth_row hr]
    have e4 : eOp oIx (eOp oIx (eVar 0) (eC (.int 0))) (eOp oIx (eVar 3) (eC (.int 1))) [some (encP b st), some (encY y), some (.int (w : Int)), some (encS s), some (.int (y.rows.length : Int)), none] = some (encL l) := by
      rw [eOp_ev (eOp_ev (eVar_get rfl) rfl |>.trans oIx0) (eOp_ev (eVar_get rfl) rfl |>.trans ht1), brood_ev hb]
    rw [q_seq (q_iff (i1.trans (by rw [k3])) |>.trans rfl), q_seqR (q_ift (i2.trans (by rw [k2])) |>.trans (q_ret (d := .tuple [.int (w : Int), encR p.1, encS p.2.1, encO p.2.2]) (by
      rw [eOp_ev (x := .tuple [.int (w : Int)]) (q_tup (q_cons (eVar_get rfl) rfl) (by simp)) (q_call (q_cons e4 (q_cons e3 (q_cons (eVar_get rfl) (q_cons (eVar_get rfl) rfl)))) |>.trans z), cat])))]
    rfl
  · rw [if_neg (by rw [k1]; decide), if_neg (by rw [k2]; decide)] at h
    obtain ⟨r, hr, h⟩ := bind_some h
    obtain ⟨p, hp, h⟩ := bind_some h
    cases h
    have T := I.th w (by omega)
    rw [eS] at T
    have kk := T.k k3
    obtain ⟨o1, o2⟩ := otherOf_lt (w := w) (k := kOfW s) (many := y.rows.length) (by omega)
    refine ⟨_, p.1, p.2.1, o1, hw, rfl, ?_⟩
    have z := due_other_ev hp kk.2
    have e5 : eOp oMod (eOp oAdd (eVar 2) (eOp oIx (eVar 3) (eC (.int 1)))) (eVar 4) [some (encP b st), some (encY y), some (.int (w : Int)), some (encS s), some (.int (y.rows.length : Int)), none] = some (.int ((otherOf w (kOfW s) y.rows.length : Nat) : Int)) := by
      rw [mod_ev (x := (w : Int) + kOfW s) (y := (y.rows.length : Int)) (add_ev rfl (eOp_ev (eVar_get rfl) rfl |>.trans (ix1_K s k3))) rfl (by omega), o2]
    have e3 : eOp oIx (eOp oIx (eVar 1) (eC (.int 0))) (eVar 5) [some (encP b st), some (encY y), some (.int (w : Int)), some (encS s), some (.int (y.rows.length : Int)), some (.int ((otherOf w (kOfW s) y.rows.length : Nat) : Int))] = some (encR r) := by
      rw [eOp_ev (eOp_ev (eVar_get rfl) rfl |>.trans oIx0) (eVar_get rfl), nth_row hr]
    rw [q_seqR (q_ift (i1.trans (by rw [k3])) |>.trans ((q_seqS e5).trans (q_ret (d := .tuple [.int ((otherOf w (kOfW s) y.rows.length : Nat) : Int), encR p.1, encS p.2.1, encO p.2.2]) (by
      dsimp only [List.set]
      rw [eOp_ev (x := .tuple [.int ((otherOf w (kOfW s) y.rows.length : Nat) : Int)]) (q_tup (q_cons (eVar_get rfl) rfl) (by simp)) (q_call (q_cons e3 (q_cons (eVar_get rfl) (q_cons (eVar_get rfl) (q_cons (eVar_get rfl) (q_cons (eVar_get rfl) rfl))))) |>.trans z), cat]))))]
    rfl
end Pu

set_option Elab.async false
set_option linter.all false
set_option maxRecDepth 100000
set_option maxHeartbeats 4000000
set_option autoImplicit false
/-! K4: one turn of the laws that look at each step. -/
namespace Pu
open PySem

/-- bounds of a yard -/
structure Bd (n : Nat) (y : Yard) : Prop where
  rows : y.rows.length ≤ 12
  places : ∀ r ∈ y.rows, r.places.length ≤ n
theorem Bd.start {b s : LL} (P : PlanOk 200 b s) : Bd 200 (yard0 s) := ⟨by unfold yard0; rw [List.length_map]; exact P.m2, fun r hr => by
  unfold yard0 at hr
  obtain ⟨l, hl, rfl⟩ := List.mem_map.mp hr
  have h2 : l.Nodup := ((List.nodup_append.mp P.nd).2.1).sublist (List.sublist_flatten_of_mem hl)
  obtain ⟨p, hp⟩ := List.mem_iff_getElem?.mp hl
  have h3 := List.Nodup.length_le_of_subset h2 (l₂ := List.range b.length) (fun x hx => List.mem_range.mpr (P.ins p l x hp hx))
  rw [List.length_range] at h3
  have := P.size
  show l.length ≤ 200
  omega⟩
theorem putIn_le {l : List Nat} {k c : Nat} : (putIn l k c).length ≤ l.length + 1 := by
  unfold putIn
  rw [List.length_append, List.length_append, List.length_take, List.length_drop, List.length_singleton]
  omega
theorem Tr.places {b : LL} {m w x : Nat} {r r' : Row} {s s' : W} {e : Option Evt} (t : Tr b m w x r s r' s' e) : r'.places.length ≤ r.places.length + 1 := by
  cases t with
  | holds1 _ t n l c h1 h2 h3 => exact putIn_le
  | _ => exact Nat.le_succ _
theorem Bd.step {n : Nat} {b : LL} {y y' : Yard} {w : Nat} {e : Option Evt} (B : Bd n y) (S : Stp b y w y' e) : Bd (n + 1) y' := by
  obtain ⟨x, r', s', hx, rfl, tr, _, _⟩ := S.ex
  refine ⟨by rw [S.m']; exact B.rows, fun r hr => ?_⟩
  rcases List.mem_or_eq_of_mem_set hr with h | h
  · have := B.places r h; omega
  · have h1 := tr.places
    have h2 := B.places (y.R x) (List.mem_of_getElem? (Yard.R_get hx))
    rw [h]; omega
theorem Bd.small {n : Nat} {y : Yard} (B : Bd n y) (hl : y.states.length = y.rows.length) (hn : n ≤ 900000) : Small y := ⟨by have := B.rows; omega, by have := B.rows; omega, fun r hr => by have := B.places r hr; omega⟩
theorem Bd.mono {n m : Nat} {y : Yard} (B : Bd n y) (h : n ≤ m) : Bd m y := ⟨B.rows, fun r hr => Nat.le_trans (B.places r hr) h⟩
theorem inb_lt {b : LL} (h : ∀ (p : Nat) (l : List Nat) (c : Nat), b[p]? = some l → c ∈ l → p < c ∧ c < b.length) : ∀ (t : Nat) (l : List Nat) (c : Nat), b[t]? = some l → c ∈ l → c < b.length := fun t l c h1 h2 => (h t l c h1 h2).2

def F_k4 (L : Sl → Option D) : S := (sSeq (sSet 6 (eOp oIx (eOp oIx (eVar 4) (eC (.int 1))) (eVar 5))) (sIf (bT (eOp oNe (eOp oIx (eVar 6) (eC (.int 0))) (eC (.str "rests")))) (sSeq (sSet 7 (eCall M_stepped (esCons (eVar 2) (esCons (eVar 4) (esCons (eVar 5) esNil))))) (sSeq (sIf (bT (eOp oInA (eOp oIx (eVar 6) (eC (.int 0))) L)) (sSeq (sUnp [8, 3, 9, 10] (eCall M_l_due (esCons (eVar 1) (esCons (eVar 4) (esCons (eVar 5) esNil))))) (sSeq (sSet 11 (eOp oAdd (eOp oAdd (eSl (eOp oIx (eVar 4) (eC (.int 0))) eNoPart (ePart (eVar 8))) (eTup (esCons (eVar 3) esNil))) (eSl (eOp oIx (eVar 4) (eC (.int 0))) (ePart (eOp oAdd (eVar 8) (eC (.int 1)))) eNoPart))) (sSeq (sSet 12 (eOp oAdd (eOp oAdd (eSl (eOp oIx (eVar 4) (eC (.int 1))) eNoPart (ePart (eVar 5))) (eTup (esCons (eVar 9) esNil))) (eSl (eOp oIx (eVar 4) (eC (.int 1))) (ePart (eOp oAdd (eVar 5) (eC (.int 1)))) eNoPart))) (sIf (bOr (bNot (bT (eCall (M_l_alike 7) (esCons (eVar 7) (esCons (eTup (esCons (eTup (esCons (eVar 11) (esCons (eVar 12) esNil))) (esCons (eVar 10) esNil))) esNil))))) (bT (eOp oNe (eVar 2) (eVar 1)))) (sRet (eC (.bool false))) sNx)))) sNx) (sSet 4 (eOp oIx (eVar 7) (eC (.int 0)))))) sNx))
theorem oNe_P (b s : LL) : oNe (encP b s) (encP b s) = some (.bool false) := by
  have shp : SeqAt.shaped (encP b s) = true := sh_P b s
  unfold oNe
  rw [if_pos ⟨shp, shp⟩, SeqAt.eqv_refl _ (SeqAt.canLay_of_shaped shp)]; rfl
theorem k4_turn {b s : LL} {y : Yard} {w n : Nat} {L : Sl → Option D} {ls : List D} (hL : ∀ ds, L ds = some (.list ls)) (hw' : ∀ st : W, ∃ k, oInA (.str (wordW st)) (.list ls) = some (.bool k)) (hb : ∀ (p : Nat) (l : List Nat) (c : Nat), b[p]? = some l → c ∈ l → p < c ∧ c < b.length)
    (I : CI b y) (B : Bd n y) (hn : n ≤ 800000) (hw : w < y.rows.length) (a3 a6 a7 a8 a9 a10 a11 a12 : Option D) :
    ∃ y' b3 b6 b7 b8 b9 b10 b11 b12, CI b y' ∧ Bd (n + 1) y' ∧ y'.rows.length = y.rows.length ∧
      F_k4 L [none, some (encP b s), some (encP b s), a3, some (encY y), some (.int (w : Int)), a6, a7, a8, a9, a10, a11, a12] = some (.nx [none, some (encP b s), some (encP b s), b3, some (encY y'), some (.int (w : Int)), b6, b7, b8, b9, b10, b11, b12]) := by
  have hl := I.len
  have hs : y.states[w]? = some (y.S w) := Yard.S_get (by omega)
  have B12 := B.rows
  unfold F_k4
  have e1 : eOp oIx (eOp oIx (eVar 4) (eC (.int 1))) (eVar 5) [none, some (encP b s), some (encP b s), a3, some (encY y), some (.int (w : Int)), a6, a7, a8, a9, a10, a11, a12] = some (encS (y.S w)) := by
    rw [eOp_ev (eOp_ev (eVar_get rfl) rfl |>.trans oIx1) (eVar_get rfl), nth_state hs]
  rw [q_seqS e1]
  dsimp only [List.set]
  have ew : ∀ x7 x8, eOp oIx (eVar 6) (eC (.int 0)) [none, some (encP b s), some (encP b s), a3, some (encY y), some (.int (w : Int)), some (encS (y.S w)), x7, x8, a9, a10, a11, a12] = some (.str (wordW (y.S w))) := fun x7 x8 => by
    rw [eOp_ev (eVar_get rfl) rfl, ix_word]
  have e2 : bT (eOp oNe (eOp oIx (eVar 6) (eC (.int 0))) (eC (.str "rests"))) [none, some (encP b s), some (encP b s), a3, some (encY y), some (.int (w : Int)), some (encS (y.S w)), a7, a8, a9, a10, a11, a12] = some (!decide (y.S w = .rests)) := by
    unfold bT
    rw [eOp_ev (ew _ _) rfl]
    show (oNe (.str (wordW (y.S w))) (.str "rests")).bind _ = _
    unfold oNe
    rw [if_pos ⟨sh_word _, sh_rests⟩, eqv_strs, rests_word]; rfl
  by_cases h0 : y.S w = .rests
  · rw [q_iff (e2.trans (by rw [decide_eq_true h0]; rfl))]
    exact ⟨y, a3, some (encS (y.S w)), a7, a8, a9, a10, a11, a12, I, B.mono (by omega), rfl, rfl⟩
  · rw [q_ift (e2.trans (by rw [decide_eq_false h0]; rfl))]
    obtain ⟨q, hq⟩ := I.can hw h0
    obtain ⟨I', S'⟩ := I.step hq (inb_lt hb)
    have B' := B.step S'
    have z := stepped_ev (st := s) hq hl (by unfold lim; omega) (fun r hr => by have := B.places r hr; unfold lim; omega)
    rw [q_seqS (d := .tuple [encY q.1, encO q.2]) (q_call (q_cons (eVar_get rfl) (q_cons (eVar_get rfl) (q_cons (eVar_get rfl) rfl))) |>.trans z)]
    dsimp only [List.set]
    obtain ⟨k, hk⟩ := hw' (y.S w)
    have e3 : bT (eOp oInA (eOp oIx (eVar 6) (eC (.int 0))) L) [none, some (encP b s), some (encP b s), a3, some (encY y), some (.int (w : Int)), some (encS (y.S w)), some (.tuple [encY q.1, encO q.2]), a8, a9, a10, a11, a12] = some k := by
      unfold bT
      rw [eOp_ev (ew _ _) (hL _), hk]; rfl
    cases k with
    | false =>
      rw [q_seq (q_iff e3 |>.trans rfl), q_set (d := encY q.1) (eOp_ev (eVar_get rfl) rfl |>.trans oIx0)]
      exact ⟨q.1, _, _, _, _, _, _, _, _, I', B', S'.m', rfl⟩
    | true =>
      obtain ⟨x, r', s', hx, hws, eq, zd⟩ := due_ev (st := s) hq I (fun r hr => by have := B.places r hr; unfold lim; omega)
      have f1 : eOp oAdd (eOp oAdd (eSl (eOp oIx (eVar 4) (eC (.int 0))) eNoPart (ePart (eVar 8))) (eTup (esCons (eVar 3) esNil))) (eSl (eOp oIx (eVar 4) (eC (.int 0))) (ePart (eOp oAdd (eVar 8) (eC (.int 1)))) eNoPart) [none, some (encP b s), some (encP b s), some (encR r'), some (encY y), some (.int (w : Int)), some (encS (y.S w)), some (.tuple [encY q.1, encO q.2]), some (.int (x : Int)), some (encS s'), some (encO q.2), a11, a12] = some (.tuple ((y.rows.set x r').map encR)) := by
        rw [cut_ev (l := y.rows.map encR) (k := x) (x := encR r') (eOp_ev (eVar_get rfl) rfl |>.trans oIx0) (eVar_get rfl) (eVar_get rfl) (by rw [List.length_map]; unfold lim; omega), set_take_drop _ (by rw [List.length_map]; exact hx), List.map_set]
      have f2 : eOp oAdd (eOp oAdd (eSl (eOp oIx (eVar 4) (eC (.int 1))) eNoPart (ePart (eVar 5))) (eTup (esCons (eVar 9) esNil))) (eSl (eOp oIx (eVar 4) (eC (.int 1))) (ePart (eOp oAdd (eVar 5) (eC (.int 1)))) eNoPart) [none, some (encP b s), some (encP b s), some (encR r'), some (encY y), some (.int (w : Int)), some (encS (y.S w)), some (.tuple [encY q.1, encO q.2]), some (.int (x : Int)), some (encS s'), some (encO q.2), some (.tuple ((y.rows.set x r').map encR)), a12] = some (.tuple ((y.states.set w s').map encS)) := by
        rw [cut_ev (l := y.states.map encS) (k := w) (x := encS s') (eOp_ev (eVar_get rfl) rfl |>.trans oIx1) (eVar_get rfl) (eVar_get rfl) (by rw [List.length_map]; unfold lim; omega), set_take_drop _ (by rw [List.length_map]; exact hws), List.map_set]
      have gd : good 6 (.tuple [encY q.1, encO q.2]) := good_t (by simp) (all_cons (good_Y _ (B'.small I'.len (by omega))) (all_cons (good_mono (good_O _) (by omega)) all_nil))
      have al := alike_ok 7 _ (good_mono gd (by omega))
      have e4 : encY q.1 = .tuple [.tuple ((y.rows.set x r').map encR), .tuple ((y.states.set w s').map encS)] := by rw [eq]; rfl
      have f3 : bOr (bNot (bT (eCall (M_l_alike 7) (esCons (eVar 7) (esCons (eTup (esCons (eTup (esCons (eVar 11) (esCons (eVar 12) esNil))) (esCons (eVar 10) esNil))) esNil))))) (bT (eOp oNe (eVar 2) (eVar 1))) [none, some (encP b s), some (encP b s), some (encR r'), some (encY y), some (.int (w : Int)), some (encS (y.S w)), some (.tuple [encY q.1, encO q.2]), some (.int (x : Int)), some (encS s'), some (encO q.2), some (.tuple ((y.rows.set x r').map encR)), some (.tuple ((y.states.set w s').map encS))] = some false := by
        have g1 : eCall (M_l_alike 7) (esCons (eVar 7) (esCons (eTup (esCons (eTup (esCons (eVar 11) (esCons (eVar 12) esNil))) (esCons (eVar 10) esNil))) esNil)) [none, some (encP b s), some (encP b s), some (encR r'), some (encY y), some (.int (w : Int)), some (encS (y.S w)), some (.tuple [encY q.1, encO q.2]), some (.int (x : Int)), some (encS s'), some (encO q.2), some (.tuple ((y.rows.set x r').map encR)), some (.tuple ((y.states.set w s').map encS))] = some (.bool true) := by
          rw [q_call (l := [.tuple [encY q.1, encO q.2], .tuple [encY q.1, encO q.2]]) (q_cons (eVar_get rfl) (q_cons (q_tup (q_cons (by rw [e4]; exact q_tup (q_cons (eVar_get rfl) (q_cons (eVar_get rfl) rfl)) (by simp)) (q_cons (eVar_get rfl) rfl)) (by simp)) rfl)), al]
        have g2 : bT (eOp oNe (eVar 2) (eVar 1)) [none, some (encP b s), some (encP b s), some (encR r'), some (encY y), some (.int (w : Int)), some (encS (y.S w)), some (.tuple [encY q.1, encO q.2]), some (.int (x : Int)), some (encS s'), some (encO q.2), some (.tuple ((y.rows.set x r').map encR)), some (.tuple ((y.states.set w s').map encS))] = some false := by
          unfold bT
          rw [eOp_ev (eVar_get rfl) (eVar_get rfl), oNe_P]; rfl
        have g3 : ∀ {f : Sl → Option D} {ds : Sl}, f ds = some (.bool true) → bT f ds = some true := fun e => by unfold bT; rw [e]; rfl
        unfold bOr bNot
        rw [g3 g1, g2]; rfl
      have u1 : sUnp [8, 3, 9, 10] (eCall M_l_due (esCons (eVar 1) (esCons (eVar 4) (esCons (eVar 5) esNil)))) [none, some (encP b s), some (encP b s), a3, some (encY y), some (.int (w : Int)), some (encS (y.S w)), some (.tuple [encY q.1, encO q.2]), a8, a9, a10, a11, a12] = some (.nx [none, some (encP b s), some (encP b s), some (encR r'), some (encY y), some (.int (w : Int)), some (encS (y.S w)), some (.tuple [encY q.1, encO q.2]), some (.int (x : Int)), some (encS s'), some (encO q.2), a11, a12]) :=
        q_unp (q_call (q_cons (eVar_get rfl) (q_cons (eVar_get rfl) (q_cons (eVar_get rfl) rfl))) |>.trans zd) rfl
      have u2 := (q_iff (f := sRet (eC (.bool false))) (g := sNx) f3).trans (rfl : sNx _ = _)
      have u3 := (q_seqS (i := 12) f2).trans u2
      have u4 := (q_seqS (i := 11) f1).trans u3
      have u5 := (q_seq u1).trans u4
      have u6 := (q_ift (g := sNx) e3).trans u5
      rw [q_seq u6, q_set (d := encY q.1) (eOp_ev (eVar_get rfl) rfl |>.trans oIx0)]
      exact ⟨q.1, _, _, _, _, _, _, _, _, I', B', S'.m', rfl⟩
end Pu

set_option Elab.async false
set_option linter.all false
set_option maxRecDepth 100000
set_option maxHeartbeats 2000000
set_option autoImplicit false
/-! Pu5: bodies with lists of their own that change: slots O hold such lists, as data. -/
namespace Pu
open PySem PySem.Spec PyProof.Rows L2

abbrev ZS := Addr → HO → Prop
abbrev ML (Mc L : MS) : MS := fun a => Mc a ∨ L a
structure SlO (O : List Nat) (Z : ZS) (Mc L : MS) (H : Hp) (σ : St) (ds : Sl) : Prop where
  len : σ.length = ds.length
  get : ∀ (i : Nat) (d : D), O.contains i = false → ds[i]? = some (some d) → ∃ v, σ[i]? = some (some v) ∧ Rp (ML Mc L) H v d
  own : ∀ (i : Nat) (d : D), O.contains i = true → ds[i]? = some (some d) → ∃ l xs dl, d = .list dl ∧ σ[i]? = some (some (.ref l)) ∧ L l ∧ H l = some (.lst xs) ∧ RpAll (ML Mc L) H xs dl
  sep : ∀ (i j : Nat) (l : Addr) (d e : D), O.contains i = true → O.contains j = true → ds[i]? = some (some d) → ds[j]? = some (some e) → σ[i]? = some (some (.ref l)) → σ[j]? = some (some (.ref l)) → i = j
  fr : ∀ (a : Addr) (o : HO), Z a o → H a = some o
  nl : ∀ (a : Addr) (o : HO), Z a o → ¬ L a
  okL : ∀ a, L a → H a ≠ none
  okM : ∀ a, Mc a → ∃ o, Z a o
def mkO (O : List Nat) : Nat → Sl → Sl
  | _, [] => []
  | k, d :: ds => (if O.contains k = true then none else d) :: mkO O (k + 1) ds
theorem mkO_get {O : List Nat} : ∀ {k : Nat} {ds : Sl} {i : Nat}, (mkO O k ds)[i]? = (ds[i]?).map fun d => if O.contains (k + i) = true then none else d
  | k, [], i => by simp [mkO]
  | k, d :: ds, 0 => by simp [mkO]
  | k, d :: ds, i + 1 => by
    rw [mkO, List.getElem?_cons_succ, List.getElem?_cons_succ, mkO_get, Nat.add_right_comm]; rfl
theorem mkO_len {O : List Nat} : ∀ {k : Nat} {ds : Sl}, (mkO O k ds).length = ds.length
  | k, [] => rfl
  | k, d :: ds => by rw [mkO, List.length_cons, List.length_cons, mkO_len]
section
variable {O : List Nat} {Z Z' : ZS} {Mc L : MS} {H H' : Hp} {σ : St} {ds : Sl} {v : V} {d : D} {i : Nat}
theorem SlO.ok (s : SlO O Z Mc L H σ ds) : Ok (ML Mc L) H := fun a m => m.elim (fun m => by obtain ⟨o, z⟩ := s.okM a m; rw [s.fr a o z]; simp) (s.okL a)
theorem SlO.okc (s : SlO O Z Mc L H σ ds) : Ok Mc H := fun a m => s.ok a (.inl m)
theorem SlO.nM (s : SlO O Z Mc L H σ ds) {l : Addr} (h : L l) : ¬ Mc l := fun m => by
  obtain ⟨o, z⟩ := s.okM l m
  exact s.nl l o z h
theorem ml_c {H : Hp} : ∀ a o, ¬ (ML Mc L) a → H a = some o → ¬ Mc a ∧ H a = some o := fun a o n e => ⟨fun m => n (.inl m), e⟩
theorem SlO.full (s : SlO O Z Mc L H σ ds) : SlD Mc H σ ds := ⟨s.len, fun i d g => by
  cases h : O.contains i with
  | false =>
    obtain ⟨v, e, r⟩ := s.get i d h g
    exact ⟨v, e, r.mono ml_c d v⟩
  | true =>
    obtain ⟨l, xs, dl, rfl, e, m, e2, r⟩ := s.own i d h g
    exact ⟨.ref l, e, .lst e2 (s.nM m) (r.mono ml_c dl xs)⟩⟩
theorem SlO.mask (s : SlO O Z Mc L H σ ds) : SlD (ML Mc L) H σ (mkO O 0 ds) := ⟨by rw [mkO_len]; exact s.len, fun i d g => by
  rw [mkO_get, Nat.zero_add] at g
  cases e : ds[i]? with
  | none => rw [e] at g; cases g
  | some u =>
    rw [e] at g
    cases h : O.contains i with
    | true => rw [h] at g; cases g
    | false =>
      rw [h] at g
      have g' : u = some d := Option.some.inj g
      subst g'
      exact s.get i d h e⟩
theorem SlO.same (s : SlO O Z Mc L H σ ds) (k : Same H H') : SlO O Z Mc L H' σ ds := ⟨s.len, fun i d h g => by
  obtain ⟨v, e, r⟩ := s.get i d h g
  exact ⟨v, e, r.same k⟩, fun i d h g => by
  obtain ⟨l, xs, dl, e0, e, m, e2, r⟩ := s.own i d h g
  exact ⟨l, xs, dl, e0, e, m, k _ _ e2, r.same k⟩, s.sep, fun a o z => k _ _ (s.fr a o z), s.nl, (fun a m => (Ok.same (M := L) s.okL k) a m), s.okM⟩
theorem SlO.weak (s : SlO O Z' Mc L H σ ds) (h : ∀ a o, Z a o → Z' a o) (hm : ∀ a, Mc a → ∃ o, Z a o) : SlO O Z Mc L H σ ds := ⟨s.len, s.get, s.own, s.sep, fun a o z => s.fr a o (h a o z), fun a o z => s.nl a o (h a o z), s.okL, hm⟩
theorem SlO.set (s : SlO O Z Mc L H σ ds) (hi : O.contains i = false) (r : Rp (ML Mc L) H v d) : SlO O Z Mc L H (σ.set i (some v)) (ds.set i (some d)) := by
  have ne : ∀ j, O.contains j = true → i ≠ j := fun j hj e => by rw [e, hj] at hi; cases hi
  refine ⟨by rw [List.length_set, List.length_set]; exact s.len, fun j e h g => ?_, fun j e h g => ?_, fun j k l d' e' hj hk g1 g2 e1 e2 => ?_, s.fr, s.nl, s.okL, s.okM⟩
  · by_cases hj : i = j
    · subst hj
      by_cases hl : i < ds.length
      · rw [List.getElem?_set_self hl] at g
        cases g
        exact ⟨v, List.getElem?_set_self (by rw [s.len]; exact hl), r⟩
      · rw [List.getElem?_eq_none (by simpa using hl)] at g; cases g
    · rw [List.getElem?_set_ne hj] at g ⊢
      exact s.get j e h g
  · rw [List.getElem?_set_ne (ne j h)] at g ⊢
    exact s.own j e h g
  · rw [List.getElem?_set_ne (ne j hj)] at g1 e1
    rw [List.getElem?_set_ne (ne k hk)] at g2 e2
    exact s.sep j k l d' e' hj hk g1 g2 e1 e2
/-- a new list into a slot of O -/
theorem SlO.put {p : Addr} {xs : List V} {dl : List D} (s : SlO O Z Mc L H σ ds) (hi : O.contains i = true) (hp : H p = none) (e : Same H H') (e2 : H' p = some (.lst xs)) (r : RpAll (ML Mc fun a => L a ∨ a = p) H' xs dl) :
    SlO O Z Mc (fun a => L a ∨ a = p) H' (σ.set i (some (.ref p))) (ds.set i (some (.list dl))) := by
  have fr : ∀ a o, ¬ (ML Mc L) a → H a = some o → ¬ (ML Mc fun a => L a ∨ a = p) a ∧ H' a = some o := fun a o n q => ⟨fun m => m.elim (fun m => n (.inl m)) fun m => m.elim (fun m => n (.inr m)) fun m => (by rw [m, hp] at q; cases q), e a o q⟩
  refine ⟨by rw [List.length_set, List.length_set]; exact s.len, fun j d h g => ?_, fun j d h g => ?_, fun j k l d' e' hj hk g1 g2 e1 e3 => ?_, fun a o z => e _ _ (s.fr a o z), fun a o z m => m.elim (s.nl a o z) fun m => (by rw [m] at z; rw [s.fr p o z] at hp; cases hp), fun a m => ?_, s.okM⟩
  · have hj : i ≠ j := fun z => by rw [z, h] at hi; cases hi
    rw [List.getElem?_set_ne hj] at g ⊢
    obtain ⟨v, q1, q2⟩ := s.get j d h g
    exact ⟨v, q1, q2.mono fr d v⟩
  · by_cases hj : i = j
    · subst hj
      by_cases hl : i < ds.length
      · rw [List.getElem?_set_self hl] at g
        cases g
        exact ⟨p, xs, dl, rfl, List.getElem?_set_self (by rw [s.len]; exact hl), .inr rfl, e2, r⟩
      · rw [List.getElem?_eq_none (by simpa using hl)] at g; cases g
    · rw [List.getElem?_set_ne hj] at g ⊢
      obtain ⟨l, ys, dl', q0, q1, q2, q3, q4⟩ := s.own j d h g
      exact ⟨l, ys, dl', q0, q1, .inl q2, e _ _ q3, q4.mono fr dl' ys⟩
  · have old : ∀ j d, i ≠ j → O.contains j = true → ds[j]? = some (some d) → σ[j]? ≠ some (some (.ref p)) := fun j d hij hj g q => by
      obtain ⟨l', ys, dl', q0, q1, q2, q3, q4⟩ := s.own j d hj g
      rw [q] at q1
      cases q1
      rw [hp] at q3; cases q3
    have self : ∀ d l, (ds.set i (some (PyData.list dl)))[i]? = some (some d) → (σ.set i (some (V.ref p)))[i]? = some (some (.ref l)) → l = p := fun d l g q => by
      by_cases hl : i < ds.length
      · rw [List.getElem?_set_self (by rw [s.len]; exact hl)] at q
        cases q; rfl
      · rw [List.getElem?_eq_none (by simpa using hl)] at g; cases g
    by_cases h1 : i = j
    · by_cases h2 : i = k
      · rw [← h1, ← h2]
      · subst h1
        have := self d' l g1 e1
        subst this
        rw [List.getElem?_set_ne h2] at g2 e3
        exact absurd e3 (old k _ h2 hk g2)
    · by_cases h2 : i = k
      · subst h2
        have := self e' l g2 e3
        subst this
        rw [List.getElem?_set_ne h1] at g1 e1
        exact absurd e1 (old j _ h1 hj g1)
      · rw [List.getElem?_set_ne h1] at g1 e1
        rw [List.getElem?_set_ne h2] at g2 e3
        exact s.sep j k l d' e' hj hk g1 g2 e1 e3
  · rcases m with m | rfl
    · exact (Ok.same (M := L) s.okL e) a m
    · rw [e2]; simp
/-- such a list changes -/
theorem SlO.change {l : Addr} {ys : List V} {dl dl' : List D} (s : SlO O Z Mc L H σ ds) (hi : O.contains i = true) (g : ds[i]? = some (some (.list dl))) (q : σ[i]? = some (some (.ref l))) (m : L l) (k : ∀ a o, a ≠ l → H a = some o → H' a = some o) (e : H' l = some (.lst ys)) (r : RpAll (ML Mc L) H' ys dl') :
    SlO O Z Mc L H' σ (ds.set i (some (.list dl'))) := by
  have nel : ∀ a, ¬ (ML Mc L) a → a ≠ l := fun a n z => n (.inr (by rw [z]; exact m))
  have fr : ∀ a o, ¬ (ML Mc L) a → H a = some o → ¬ (ML Mc L) a ∧ H' a = some o := fun a o n q => ⟨n, k a o (nel a n) q⟩
  refine ⟨by rw [List.length_set]; exact s.len, fun j d h g => ?_, fun j d h g' => ?_, fun j k l' d' e' hj hk g1 g2 e1 e3 => ?_, fun a o z => k a o (fun e => s.nl a o z (by rw [e]; exact m)) (s.fr a o z), s.nl, fun a m' => ?_, s.okM⟩
  · have hj : i ≠ j := fun z => by rw [z, h] at hi; cases hi
    rw [List.getElem?_set_ne hj] at g
    obtain ⟨v, q1, q2⟩ := s.get j d h g
    exact ⟨v, q1, q2.mono fr d v⟩
  · by_cases hj : i = j
    · subst hj
      have hl := (List.getElem?_eq_some_iff.mp g).1
      rw [List.getElem?_set_self hl] at g'
      cases g'
      exact ⟨l, ys, dl', rfl, q, m, e, r⟩
    · rw [List.getElem?_set_ne hj] at g'
      obtain ⟨l', zs, dl2, q0, q1, q2, q3, q4⟩ := s.own j d h g'
      have hne : l' ≠ l := fun z => hj (s.sep i j l _ _ hi h g g' q (z ▸ q1))
      exact ⟨l', zs, dl2, q0, q1, q2, k _ _ hne q3, q4.mono fr dl2 zs⟩
  · have told : ∀ j d, (ds.set i (some (PyData.list dl')))[j]? = some (some d) → ∃ d, ds[j]? = some (some d) := fun j d h => by
      by_cases hj : i = j
      · subst hj; exact ⟨_, g⟩
      · rw [List.getElem?_set_ne hj] at h; exact ⟨d, h⟩
    obtain ⟨d1, h1⟩ := told j d' g1
    obtain ⟨d2, h2⟩ := told k e' g2
    exact s.sep j k l' d1 d2 hj hk h1 h2 e1 e3
  · by_cases z : a = l
    · rw [z, e]; simp
    · cases h : H a with
      | none => exact absurd h (s.okL a m')
      | some o => rw [k a o z h]; simp
theorem SlO.start {vs : List V} {l : List D} (ok : Ok Mc H) (r : RpAll Mc H vs l) (N : List Str) (hO : ∀ i, O.contains i = true → l.length ≤ i) : SlO O (fun a o => H a = some o) Mc (fun _ => False) H (start N vs) (l.map some ++ List.replicate (N.length - l.length) none) := by
  have s := SlD.start r N
  have fr : ∀ a o, ¬ Mc a → H a = some o → ¬ (ML Mc fun _ => False) a ∧ H a = some o := fun a o n q => ⟨fun m => m.elim n id, q⟩
  have no : ∀ i d, O.contains i = true → (l.map some ++ List.replicate (N.length - l.length) none)[i]? = some (some d) → False := fun i d h g => by
    have := hO i h
    rw [List.getElem?_append_right (by simpa using this), List.getElem?_replicate] at g
    split at g <;> cases g
  refine ⟨s.len, fun i d _ g => ?_, fun i d h g => (no i d h g).elim, fun i j l' d e h _ g _ _ _ => (no i d h g).elim, fun _ _ z => z, fun _ _ _ m => m, fun _ m => m.elim, fun a m => ?_⟩
  · obtain ⟨v, e, r⟩ := s.get i d g
    exact ⟨v, e, r.mono fr d v⟩
  · cases h : H a with
    | none => exact absurd h (ok a m)
    | some o => exact ⟨o, rfl⟩
end

/-! ### statements -/
def AftO (O : List Nat) (E : Ends) (Z : ZS) (Mc : MS) : Out → Prop
  | .nx ds => ∀ σ H L, SlO O Z Mc L H σ ds → E.nx σ H
  | .bk ds => ∀ σ H L, SlO O Z Mc L H σ ds → E.bk σ H
  | .ct ds => ∀ σ H L, SlO O Z Mc L H σ ds → E.ct σ H
  | .rt d => ∀ v H, (∀ a o, Z a o → H a = some o) → Rp Mc H v d → E.rt v H
def tSO (O : List Nat) (f : S) : TS := fun E σ H => ∃ (Z : ZS) (Mc L : MS) (ds : Sl) (o : Out), SlO O Z Mc L H σ ds ∧ f ds = some o ∧ AftO O E Z Mc o
/-- with the slots O not told -/
def atO {α : Type} (O : List Nat) (f : Sl → Option α) : Sl → Option α := fun ds => f (mkO O 0 ds)
def sSetO (O : List Nat) (i : Nat) (f : Sl → Option D) : S := sSet i (atO O f)
def sNewO (i : Nat) : S := fun ds => some (.nx (ds.set i (some (.list []))))
def sAppO (O : List Nat) (i : Nat) (f : Sl → Option D) : S := fun ds => (f (mkO O 0 ds)).bind fun d => match ds[i]? with
  | some (some (.list l)) => if l.length + 1 ≤ lim then some (.nx (ds.set i (some (.list (l ++ [d]))))) else none
  | _ => none
/-- j = i.pop() -/
def sPopO (i j : Nat) : S := fun ds => match ds[i]? with
  | some (some (.list l)) => match l.getLast? with
    | some d => some (.nx ((ds.set i (some (.list l.dropLast))).set j (some d)))
    | none => none
  | _ => none
def sUnpO (O : List Nat) (is : List Nat) (f : Sl → Option D) : S := fun ds => (atO O f ds).bind fun d => (gTupD is d ds).bind fun ds' => some (.nx ds')
def sForO (O : List Nat) (it : Sl → Option (List D)) (G : D → Sl → Option Sl) (f : S) : S := fun ds => (atO O it ds).bind fun l => loopD G f l ds
def whileD (p : Sl → Option Bool) (f : S) : Nat → S
  | 0, _ => none
  | n + 1, ds => (p ds).bind fun b => if b = true then (f ds).bind fun o => match o with
    | .nx ds' => whileD p f n ds'
    | .ct ds' => whileD p f n ds'
    | .bk ds' => some (.nx ds')
    | .rt d => some (.rt d) else some (.nx ds)
section
variable {X : Cx} {O : List Nat} {st : Stmt} {rest : List Stmt} {e c : Expr} {a b : List Stmt} {f g : S} {h : Sl → Option D} {p : Sl → Option Bool} {pos : Pos}
theorem ptsd_one {q : Sl → Option Bool} (h : PT X c (tPT q)) : PTs X [c] (tPT q) := pts_one h
theorem o_nil : PSs X [] (tSO O sNx) := pss_of pss_nil fun E σ H ⟨Z, Mc, L, ds, o, s, e, q⟩ => by
  cases e
  exact q σ H L s
theorem o_cons (h1 : PS X st (tSO O f)) (h2 : PSs X rest (tSO O g)) : PSs X (st :: rest) (tSO O (sSeq f g)) := pss_of (pss_cons h1 h2) fun E σ H ⟨Z, Mc, L, ds, o, s, e, q⟩ => by
  obtain ⟨o1, e1, e2⟩ := bind_some e
  refine ⟨Z, Mc, L, ds, o1, s, e1, ?_⟩
  cases o1 with
  | nx ds' => exact fun σ' H' L' r => ⟨Z, Mc, L', ds', o, r, e2, q⟩
  | rt d => cases e2; exact q
  | bk d => cases e2; exact q
  | ct d => cases e2; exact q
theorem o_one (h1 : PS X st (tSO O f)) : PSs X [st] (tSO O f) := pss_one h1
theorem o_pass : PS X (.Pass pos) (tSO O sNx) := ps_of ps_pass fun E σ H ⟨Z, Mc, L, ds, o, s, e, q⟩ => by
  cases e
  exact q σ H L s
theorem o_never : PS X st (tSO O sNever) := ps_of ps_never fun E σ H ⟨Z, Mc, L, ds, o, s, e, q⟩ => by cases e
theorem o_if (hc : PT X c (tPT p)) (ha : PSs X a (tSO O f)) (hb : PSs X b (tSO O g)) : PS X (.If c a b pos) (tSO O (sIf p f g)) := ps_of (ps_if hc ha hb) fun E σ H ⟨Z, Mc, L, ds, o, s, e, q⟩ => by
  obtain ⟨k, e1, e2⟩ := bind_some e
  refine ⟨Mc, ds, k, s.okc, s.full, e1, fun H1 s1 => ?_⟩
  cases k with
  | true =>
    rw [if_pos rfl] at e2 ⊢
    exact ⟨Z, Mc, L, ds, o, s.same s1, e2, q⟩
  | false =>
    rw [if_neg Bool.false_ne_true] at e2 ⊢
    exact ⟨Z, Mc, L, ds, o, s.same s1, e2, q⟩
theorem o_ret (he : PE X e (tP h)) : PS X (.Return (some e) pos) (tSO O (sRet h)) := ps_of (ps_ret he) fun E σ H ⟨Z, Mc, L, ds, o, s, e, q⟩ => by
  obtain ⟨d, e1, e2⟩ := bind_some e
  cases e2
  exact ⟨Mc, ds, d, s.okc, s.full, e1, fun v H' s' r => q v H' (fun a o z => s' _ _ (s.fr a o z)) r⟩
theorem asgO_of {i : Nat} (hi : O.contains i = false) : ∀ E σ H, tSO O (sSetO O i h) E σ H → tAsg (tP h) (gName i) E σ H := fun E σ H ⟨Z, Mc, L, ds, o, s, e, q⟩ => by
  obtain ⟨d, e1, e2⟩ := bind_some e
  cases e2
  exact ⟨ML Mc L, _, d, s.ok, s.mask, e1, fun v H' s' r => q _ H' L ((s.same s').set hi r)⟩
theorem o_set {i : Nat} {x : Str} {pos' : Pos} (hi0 : O.contains i = false) (hN : X.N.Nodup) (hi : X.N[i]? = some x) (hx : Loc X.env.scope x) (he : PE X e (tP h)) (hs : swapsWith e (some (.Name x pos')) pos.line X.env = pure false := by rfl) (hf : X.fn x = true ∨ X.env.scope.names.lookup x = some .local := by first | exact .inl rfl | exact .inr rfl | assumption) :
    PS X (.Assign [.Name x pos'] e pos) (tSO O (sSetO O i h)) := ps_of (ps_set hN hi hx he hs hf) (asgO_of hi0)
/-- y = [..] -/
theorem o_setLc {elt tg iter : Expr} {ifs : List Expr} {scope : Scope} {own : List (Str × Nat)} {pos2 : Pos} {i j : Nat} {h e : Sl → Option D} {c : Sl → Option Bool} {y : Str} {py spos : Pos} (hj : O.contains j = false) (hc : X.calm = true) (hN : X.N.Nodup) (hy : X.N[j]? = some y) (hyl : X.env.scope.names.lookup y = some .local)
    (hsw : swapsWith (.ListComp elt [⟨tg, iter, ifs, 0⟩] scope pos) (some (.Name y py)) spos.line X.env = pure true) (hi : PE X iter (tP h)) (ok : BlkOk X.N X.env.scope scope own)
    (hg : ∀ (s : Shared) (H : Hp) (C : Addr) (cl : List (Str × Addr)) (fp : List Addr), PG (X.blk s H scope (compEnvC scope cl C X.env) fp) tg (gName i)) (ht : ∀ (s : Shared) (H : Hp) (C : Addr) (cl : List (Str × Addr)) (fp : List Addr), PTs (X.blk s H scope (compEnvC scope cl C X.env) fp) ifs (tPT c))
    (he : ∀ (s : Shared) (H : Hp) (C : Addr) (cl : List (Str × Addr)) (fp : List Addr), PE (X.blk s H scope (compEnvC scope cl C X.env) fp) elt (tP e)) (hv : own.map (·.2) = [i] := by rfl) (hs : ∀ x, foldedSetIterable iter X.env x = pure x := by intro _; rfl) :
    PS X (.Assign [.Name y py] (.ListComp elt [⟨tg, iter, ifs, 0⟩] scope pos) spos) (tSO O (sSetO O j (eLc i (eItems h) c e))) := ps_of (ps_setLc hc hN hy hyl hsw (pi_seq hi) ok hg ht he hs) fun E σ H q => by
  have z := asgO_of hj E σ H q
  exact lc_seq_of hv σ H _ z
theorem o_setLcR {elt tg n : Expr} {ifs : List Expr} {scope : Scope} {own : List (Str × Nat)} {pos2 p : Pos} {i j : Nat} {h e : Sl → Option D} {c : Sl → Option Bool} {y : Str} {py spos : Pos} (hj : O.contains j = false) (hgl : Gl X "range") (hm : X.mg "range" = none) (hc : X.calm = true) (hN : X.N.Nodup) (hy : X.N[j]? = some y) (hyl : X.env.scope.names.lookup y = some .local)
    (hsw : swapsWith (.ListComp elt [⟨tg, .Call (.Name "range" p) [n] [] pos, ifs, 0⟩] scope pos2) (some (.Name y py)) spos.line X.env = pure true) (hi : PE X n (tP h)) (ok : BlkOk X.N X.env.scope scope own)
    (hg : ∀ (s : Shared) (H : Hp) (C : Addr) (cl : List (Str × Addr)) (fp : List Addr), PG (X.blk s H scope (compEnvC scope cl C X.env) fp) tg (gName i)) (ht : ∀ (s : Shared) (H : Hp) (C : Addr) (cl : List (Str × Addr)) (fp : List Addr), PTs (X.blk s H scope (compEnvC scope cl C X.env) fp) ifs (tPT c))
    (he : ∀ (s : Shared) (H : Hp) (C : Addr) (cl : List (Str × Addr)) (fp : List Addr), PE (X.blk s H scope (compEnvC scope cl C X.env) fp) elt (tP e)) (hv : own.map (·.2) = [i] := by rfl)
    (ha1 : starEach (n :: []) X.env = (false, eval n X.env) :: starEach [] X.env := by rfl) (hr : starEach [n] X.env = [(false, eval n X.env)] := by rfl) (hs : ∀ x, foldedSetIterable (.Call (.Name "range" p) [n] [] pos) X.env x = pure x := by intro _; rfl) :
    PS X (.Assign [.Name y py] (.ListComp elt [⟨tg, .Call (.Name "range" p) [n] [] pos, ifs, 0⟩] scope pos2) spos) (tSO O (sSetO O j (eLc i (eRng h) c e))) := ps_of (ps_setLc hc hN hy hyl hsw (pi_range1 hgl hm (pa_cons hi pa_nil ha1) hr) ok hg ht he hs) fun E σ H q => by
  have z := asgO_of hj E σ H q
  exact lc_rng_of hv σ H _ z
theorem o_new {i : Nat} {x : Str} {pos' p2 : Pos} (hi0 : O.contains i = true) (hN : X.N.Nodup) (hi : X.N[i]? = some x) (hx : Loc X.env.scope x) (hs : swapsWith (.List [] p2) (some (.Name x pos')) pos.line X.env = pure false := by rfl) (hf : X.fn x = true ∨ X.env.scope.names.lookup x = some .local := by first | exact .inl rfl | exact .inr rfl | assumption) :
    PS X (.Assign [.Name x pos'] (.List [] p2) pos) (tSO O (sNewO i)) := ps_of (ps_set hN hi hx (pe_lst pa_nil) hs hf) fun E σ H ⟨Z, Mc, L, ds, o, s, e, q⟩ => by
  cases e
  exact ⟨Nat.zero_le _, fun p hp => q _ _ _ (s.put hi0 hp (Same.new hp) upd_same .nil)⟩
/-- a new list of flat things, by a sum -/
theorem cat_new {x y : Expr} {f g : Sl → Option D} {M : MS} {H : Hp} {σ : St} {ds : Sl} {l : List D} {Q : VK} {K : PySem.W.Frag} (ok : Ok M H) (s : SlD M H σ ds) (e : eOp oAdd f g ds = some (.list l)) (k : ∀ p xs H', Same H H' → H p = none → H' p = some (.lst xs) → RpAll M H' xs l → Q (.ref p) H') : tOp (rAddD K) (tP f) (tP g) σ H Q := by
  obtain ⟨x, e1, e⟩ := bind_some e
  obtain ⟨y, e2, e3⟩ := bind_some e
  refine ⟨M, ds, x, ok, s, e1, fun v H1 s1 r1 => ⟨M, ds, y, ok.same s1, s.same s1, e2, fun w H2 s2 r2 => ?_⟩⟩
  have r1' := r1.same s2
  unfold oAdd at e3
  split at e3
  · cases e3
  · split at e3
    · rename_i hz
      cases e3
      cases r1' with
      | lst a1 n1 q1 =>
        cases r2 with
        | lst a2 n2 q2 =>
          refine .inr (.inl ⟨_, _, _, _, rfl, rfl, a1, a2, ?_, fun p hp => ?_⟩)
          · rw [q1.length, q2.length]
            exact Nat.le_trans hz lim_le
          · exact k p _ _ ((s1.trans s2).trans (Same.new hp)) ((s1.trans s2).free hp) upd_same ((q1.append q2).same (Same.new hp))
    · cases e3
  · split at e3 <;> cases e3
  · cases e3
theorem flat_any {M M' : MS} {H : Hp} : ∀ {vs : List V} {l : List D}, l.all flatD = true → RpAll M H vs l → RpAll M' H vs l
  | _, [], _, r => by cases r; exact .nil
  | _, d :: l, f, r => by
    rw [List.all_cons, Bool.and_eq_true] at f
    cases r with
    | cons r1 r2 =>
      refine .cons ?_ (flat_any f.2 r2)
      cases r1 with
      | non => exact .non
      | bl b => exact .bl b
      | int i => exact .int i
      | str x => exact .str x
      | lst e n r => exact Bool.noConfusion f.1
      | tup e n r => exact Bool.noConfusion f.1
/-- i = a + b, of flat things -/
def sCatO (i : Nat) (f g : Sl → Option D) : S := fun ds => (eOp oAdd f g ds).bind fun d => match d with
  | .list l => if l.all flatD = true then some (.nx (ds.set i (some (.list l)))) else none
  | _ => none
theorem o_cat {i : Nat} {x : Str} {pos' p2 : Pos} {ea eb : Expr} {hf hg : Sl → Option D} (hi0 : O.contains i = true) (hN : X.N.Nodup) (hi : X.N[i]? = some x) (hx : Loc X.env.scope x) (ha : PE X ea (tP hf)) (hb : PE X eb (tP hg)) (hs : swapsWith (.BinOp ea .Add eb p2) (some (.Name x pos')) pos.line X.env = pure false := by rfl) (hf' : X.fn x = true ∨ X.env.scope.names.lookup x = some .local := by first | exact .inl rfl | exact .inr rfl | assumption) :
    PS X (.Assign [.Name x pos'] (.BinOp ea .Add eb p2) pos) (tSO O (sCatO i hf hg)) := ps_of (ps_set hN hi hx (pe_op or_addD ha hb) hs hf') fun E σ H ⟨Z, Mc, L, ds, o, s, e, q⟩ => by
  obtain ⟨d, e1, e2⟩ := bind_some e
  split at e2
  · split at e2
    · rename_i hfl
      cases e2
      exact cat_new (x := ea) (y := eb) s.okc s.full e1 fun p xs H' s' hp e3 r => q _ _ _ (s.put hi0 hp s' e3 (flat_any hfl r))
    · cases e2
  · cases e2
theorem o_app {i : Nat} {x : Str} {pos' apos cpos : Pos} (hi0 : O.contains i = true) (hN : X.N[i]? = some x) (hv : Vis X.env.scope x) (he : PE X e (tP h)) (hd : (x == ("__debug__" : Str)) = false := by decide) (hcd : (x == ("__classdict__" : Str)) = false := by decide)
    (hbase : attributeBase (.Name x pos') "append" X.env (eval (.Name x pos') X.env) = eval (.Name x pos') X.env := by rfl)
    (hfew : ((backTo cpos (starEach [e] X.env)).all (fun x => !x.1) && (backToKw cpos (keywordEach [] X.env)).all (fun x => x.1.isSome) && decide (([e] : List Expr).length + ([] : List Keyword).length + (if ([] : List Keyword).isEmpty then 0 else 1) < 30)) = true := by rfl)
    (hline : (apos.endLine == cpos.line) = true := by rfl) (hs : starEach [e] X.env = (false, eval e X.env) :: starEach [] X.env := by rfl) (hplain : (backTo cpos (starEach [] X.env)).any (·.1) = false := by rfl)
    (hsw : swapsWith (.Call (.Attribute (.Name x pos') "append" apos) [e] [] cpos) none pos.line X.env = pure false := by rfl) :
    PS X (.Expr (.Call (.Attribute (.Name x pos') "append" apos) [e] [] cpos) pos) (tSO O (sAppO O i h)) :=
  ps_of (ps_expr (pe_bm PySem.F.plainAttrs_list PySem.F.slot_list_append PySem.F.type_list_append (mt_append) (pe_var hN hv hd hcd) (pa_cons he pa_nil hs) hbase hfew hline hs hplain) hsw) fun E σ H ⟨Z, Mc, L, ds, o, s, e, q⟩ => by
    obtain ⟨d, e1, e2⟩ := bind_some e
    split at e2
    · rename_i dl hds
      split at e2
      · rename_i hz
        cases e2
        obtain ⟨l, xs, dl', e0, e3, m, e4, r⟩ := s.own i _ hi0 hds
        cases e0
        refine ⟨.ref l, e3, .inl ⟨rfl, xs, SqL.of e4⟩, ML Mc L, _, d, s.ok, s.mask, e1, fun v H' s' rv => ?_⟩
        have s2 := s.same s'
        refine ⟨l, xs, v, rfl, rfl, s' _ _ e4, ?_, q _ _ L (s2.change hi0 hds e3 m (fun a o n z => by rw [upd_ne n]; exact z) upd_same ((((r.same s').snoc rv)).mono (fun a o n z => ⟨n, by rw [upd_ne (fun (z2 : a = l) => n (.inr (by rw [z2]; exact m)))]; exact z⟩) _ _))⟩
        rw [r.length]
        exact Nat.lt_of_lt_of_le (by omega : dl.length < lim) lim_le
      · cases e2
    · cases e2
end

/-! ### targets, loops -/
def TgsO (O : List Nat) (g : TGs) (is : List Nat) : Prop := ∀ (Z : ZS) (Mc L : MS) (H : Hp) (σ : St) (ds ds' : Sl) (vs : List V) (l : List D) (Q : St → Hp → Prop), SlO O Z Mc L H σ ds → RpAll (ML Mc L) H vs l → setAll is l ds = some ds' → (∀ σ', SlO O Z Mc L H σ' ds' → Q σ' H) → g vs σ H Q
theorem tgsO_nil {O : List Nat} : TgsO O gNil [] := fun Z Mc L H σ ds ds' vs l Q s r e q => by
  cases l with
  | nil => cases r; cases e; exact ⟨rfl, q σ s⟩
  | cons => cases e
theorem tgsO_cons {O : List Nat} {i : Nat} {is : List Nat} {u : TGs} (hi : O.contains i = false) (h : TgsO O u is) : TgsO O (gCons (gName i) u) (i :: is) := fun Z Mc L H σ ds ds' vs l Q s r e q => by
  cases l with
  | nil => cases e
  | cons d l =>
    cases r with
    | cons r1 r2 => exact ⟨_, _, rfl, h Z Mc L H _ _ ds' _ l Q (s.set hi r1) r2 e q⟩
def PGO (O : List Nat) (X : Cx) (tg : Expr) (g : TG) (G : D → Sl → Option Sl) : Prop := PG X tg g ∧ ∀ (Z : ZS) (Mc L : MS) (H : Hp) (σ : St) (ds ds' : Sl) (v : V) (d : D) (Q : St → Hp → Prop), SlO O Z Mc L H σ ds → Rp (ML Mc L) H v d → G d ds = some ds' → (∀ σ', SlO O Z Mc L H σ' ds' → Q σ' H) → g v σ H Q
section
variable {X : Cx} {O : List Nat} {e tg : Expr} {es : List Expr} {h : Sl → Option D} {g : TG} {G : D → Sl → Option Sl} {pos : Pos}
theorem pgo_name {i : Nat} {x : Str} (hi0 : O.contains i = false) (hN : X.N.Nodup) (hi : X.N[i]? = some x) (hx : Loc X.env.scope x) (hf : X.fn x = true ∨ X.env.scope.names.lookup x = some .local := by first | exact .inl rfl | exact .inr rfl | assumption) : PGO O X (.Name x pos) (gName i) (gNameD i) :=
  ⟨pg_name hN hi hx hf, fun Z Mc L H σ ds ds' v d Q s r e q => by cases e; exact q _ (s.set hi0 r)⟩
theorem pgo_tup {k n : Nat} {u : TGs} {is : List Nat} (hc : X.calm = true) (hp : PGs X es u) (hu : TgsO O u is) (hl : is.length = n) (hn : (assignEach es X.env).length = n := by rfl) (hst : (assignEach es X.env).findIdx? (·.1) = none := by rfl) : PGO O X (.Tuple es k pos) (gTup X.K n u) (gTupD is) :=
  ⟨pg_tup hc hp hn hst, fun Z Mc L H σ ds ds' v d Q s r e q => by
    cases r with
    | tup e1 n1 r1 => exact ⟨_, _, rfl, SqT.of e1, by rw [r1.length, setAll_len e, hl], hu Z Mc L H σ ds ds' _ _ Q s r1 e q⟩
    | _ => cases e⟩
theorem o_unp {is : List Nat} (he : PE X e (tP h)) (hg : PGO O X tg g (gTupD is)) (hs : swapsWithSole [tg] e pos.line X.env = pure false := by rfl) (hw : swappedStores [tg] e X.env = pure none := by rfl)
    (h1 : (assignEach [tg] X.env).map (·.2) = [assign tg X.env] := by rfl) : PS X (.Assign [tg] e pos) (tSO O (sUnpO O is h)) := ps_of (ps_asg he hg.1 hs hw h1) fun E σ H ⟨Z, Mc, L, ds, o, s, e, q⟩ => by
  obtain ⟨d, e1, e2⟩ := bind_some e
  obtain ⟨ds', e3, e4⟩ := bind_some e2
  cases e4
  exact ⟨ML Mc L, _, d, s.ok, s.mask, e1, fun v H' s' r => hg.2 Z Mc L H' σ ds ds' v d _ (s.same s') r e3 fun σ' r' => q σ' H' L r'⟩
end
section
variable {X : Cx} {O : List Nat} {tg iter : Expr} {body : List Stmt} {f : S} {h : Sl → Option D} {g : TG} {G : D → Sl → Option Sl} {pos p : Pos}
/-- one turn -/
theorem loopO_turn {E : Ends} {Z Z1 : ZS} {Mc L : MS} {H : Hp} {l : List D} {o : Out} {i : Nat} {d : D} {v : V} {σ : St} {ds : Sl} {Pv : Nat → St → Hp → Prop}
    (hP : ∀ j σ H, (∃ L ds, SlO O Z1 Mc L H σ ds ∧ loopD G f (l.drop j) ds = some o) → Pv j σ H) (hg : ∀ (Z : ZS) (Mc L : MS) (H : Hp) (σ : St) (ds ds' : Sl) (v : V) (d : D) (Q : St → Hp → Prop), SlO O Z Mc L H σ ds → Rp (ML Mc L) H v d → G d ds = some ds' → (∀ σ', SlO O Z Mc L H σ' ds' → Q σ' H) → g v σ H Q)
    (hz : ∀ a o, Z a o → Z1 a o) (hm : ∀ a, Mc a → ∃ o, Z a o) (q : AftO O E Z Mc o) (hd : l[i]? = some d) (s : SlO O Z1 Mc L H σ ds) (e : loopD G f (l.drop i) ds = some o) (r : Rp (ML Mc L) H v d) :
    g v σ H fun σ2 H2 => tSO O f { E with nx := Pv (i + 1), ct := Pv (i + 1), bk := E.nx } σ2 H2 := by
  have hi : i < l.length := (List.getElem?_eq_some_iff.mp hd).1
  have e0 : l.drop i = d :: l.drop (i + 1) := by
    rw [List.drop_eq_getElem_cons hi, (List.getElem?_eq_some_iff.mp hd).2]
  rw [e0] at e
  obtain ⟨ds1, e1, e2⟩ := bind_some e
  obtain ⟨o1, e3, e4⟩ := bind_some e2
  refine hg Z1 Mc L H σ ds ds1 v d _ s r e1 fun σ' s' => ⟨Z1, Mc, L, ds1, o1, s', e3, ?_⟩
  cases o1 with
  | nx ds2 => exact fun σ3 H3 L3 s3 => hP _ _ _ ⟨L3, ds2, s3, e4⟩
  | ct ds2 => exact fun σ3 H3 L3 s3 => hP _ _ _ ⟨L3, ds2, s3, e4⟩
  | bk ds2 => cases e4; exact fun σ3 H3 L3 s3 => q σ3 H3 L3 (s3.weak hz hm)
  | rt d2 => cases e4; exact fun v3 H3 z3 r3 => q v3 H3 (fun a o z => z3 a o (hz a o z)) r3
theorem loopO_end {E : Ends} {Z Z1 : ZS} {Mc : MS} {H : Hp} {l : List D} {o : Out} {σ : St} (hz : ∀ a o, Z a o → Z1 a o) (hm : ∀ a, Mc a → ∃ o, Z a o) (q : AftO O E Z Mc o) (n : Nat) (hn : n = l.length) (p : ∃ L ds, SlO O Z1 Mc L H σ ds ∧ loopD G f (l.drop n) ds = some o) : E.nx σ H := by
  obtain ⟨L, ds, s, e⟩ := p
  subst hn
  rw [List.drop_length] at e
  cases e
  exact q σ H L (s.weak hz hm)
/-- what a loop leaves as it is: all but the lists of one's own -/
def ZL (H : Hp) (L : MS) : ZS := fun a o => H a = some o ∧ ¬ L a
theorem SlO.loop {Z : ZS} {Mc L : MS} {H : Hp} {σ : St} {ds : Sl} (s : SlO O Z Mc L H σ ds) : SlO O (ZL H L) Mc L H σ ds := ⟨s.len, s.get, s.own, s.sep, fun _ _ z => z.1, fun _ _ z => z.2, s.okL, fun a m => by
  obtain ⟨o, z⟩ := s.okM a m
  exact ⟨o, s.fr a o z, s.nl a o z⟩⟩
theorem rp_loop {Mc L L' : MS} {H H' : Hp} {σ : St} {ds : Sl} {v : V} {d : D} (s : SlO O (ZL H L) Mc L' H' σ ds) (r : Rp (ML Mc L) H v d) : Rp (ML Mc L') H' v d :=
  r.mono (fun a o n e => ⟨fun m => m.elim (fun m => n (.inl m)) (s.nl a o ⟨e, fun z => n (.inr z)⟩), s.fr a o ⟨e, fun z => n (.inr z)⟩⟩) d v
theorem o_for (he : PE X iter (tP h)) (hg : PGO O X tg g G) (hb : PSs X body (tSO O f)) (hc : X.calm = true := by rfl) (hp : PassesOwn (model X.prog X.w) X.A X.env X.xe := by exact PassesOwn.never) (hs : ∀ x, foldedSetIterable iter X.env x = pure x := by intro _; rfl) :
    PS X (.For tg iter body [] pos) (tSO O (sForO O (eItems h) G f)) := ps_of (ps_for hp hc (pi_seq he) hg.1 hb hs) fun E σ H ⟨Z, Mc, L, ds, o, s, e, q⟩ => by
  obtain ⟨l, e1, e2⟩ := bind_some e
  obtain ⟨d, e3, e4⟩ := bind_some e1
  unfold itemsD at e4
  split at e4
  · cases e4
    refine .inl ⟨ML Mc L, _, _, s.ok, s.mask, e3, fun v H1 s1 r1 => ?_⟩
    cases r1 with
    | lst a1 n1 r1 =>
      have sl := (s.same s1).loop
      have hz : ∀ a o, Z a o → ZL H1 L a o := fun a o z => ⟨s1 _ _ (s.fr a o z), s.nl a o z⟩
      refine ⟨_, rfl, ⟨_, SqL.of a1⟩, for_list (fun i σ' H' => ∃ L' ds', SlO O (ZL H1 L) Mc L' H' σ' ds' ∧ loopD G f (l.drop i) ds' = some o) ⟨L, ds, sl, e2⟩ (fun i σ' H' _ ⟨L', ds', s', _⟩ => SqL.of (s'.fr _ _ ⟨a1, fun z => n1 (.inr z)⟩)) (fun i x σ' H' hx ⟨L', ds', s', e'⟩ => ?_) (fun σ' H' p => loopO_end hz s.okM q _ r1.length p)⟩
      obtain ⟨d, hd, r⟩ := r1.get' hx
      exact loopO_turn (E := E) (fun _ _ _ z => z) hg.2 hz s.okM q hd s' e' (rp_loop s' r)
  · cases e4
    refine .inr ⟨ML Mc L, _, _, s.ok, s.mask, e3, fun v H1 s1 r1 => ?_⟩
    cases r1 with
    | tup a1 n1 r1 =>
      have sl := (s.same s1).loop
      have hz : ∀ a o, Z a o → ZL H1 L a o := fun a o z => ⟨s1 _ _ (s.fr a o z), s.nl a o z⟩
      refine ⟨_, rfl, ⟨_, SqT.of a1⟩, for_tup (fun i σ' H' => ∃ L' ds', SlO O (ZL H1 L) Mc L' H' σ' ds' ∧ loopD G f (l.drop i) ds' = some o) ⟨L, ds, sl, e2⟩ (fun i σ' H' _ ⟨L', ds', s', _⟩ => SqT.of (s'.fr _ _ ⟨a1, fun z => n1 (.inr z)⟩)) (fun i x σ' H' hx ⟨L', ds', s', e'⟩ => ?_) (fun σ' H' p => loopO_end hz s.okM q _ r1.length p)⟩
      obtain ⟨d, hd, r⟩ := r1.get' hx
      exact loopO_turn (E := E) (fun _ _ _ z => z) hg.2 hz s.okM q hd s' e' (rp_loop s' r)
  · cases e4
theorem o_forR {n : Expr} {pos2 : Pos} (hgl : Gl X "range") (hm : X.mg "range" = none) (he : PE X n (tP h)) (hg : PGO O X tg g G) (hb : PSs X body (tSO O f)) (hc : X.calm = true := by rfl) (hp : PassesOwn (model X.prog X.w) X.A X.env X.xe := by exact PassesOwn.never)
    (ha1 : starEach (n :: []) X.env = (false, eval n X.env) :: starEach [] X.env := by rfl) (hr : starEach [n] X.env = [(false, eval n X.env)] := by rfl) (hs : ∀ x, foldedSetIterable (.Call (.Name "range" p) [n] [] pos) X.env x = pure x := by intro _; rfl) :
    PS X (.For tg (.Call (.Name "range" p) [n] [] pos) body [] pos2) (tSO O (sForO O (eRng h) G f)) := ps_of (ps_for hp hc (pi_range1 hgl hm (pa_cons he pa_nil ha1) hr) hg.1 hb hs) fun E σ H ⟨Z, Mc, L, ds, o, s, e, q⟩ => by
  obtain ⟨l, e1, e2⟩ := bind_some e
  obtain ⟨d, e3, e4⟩ := bind_some e1
  split at e4
  · split at e4
    · rename_i k hk
      cases e4
      refine ⟨ML Mc L, _, _, s.ok, s.mask, e3, fun v H1 s1 r1 => ?_⟩
      cases r1
      have sl := (s.same s1).loop
      have hz : ∀ a o, Z a o → ZL H1 L a o := fun a o z => ⟨s1 _ _ (s.fr a o z), s.nl a o z⟩
      refine ⟨_, rfl, by omega, by omega, for_range (lo := 0) (n := k.toNat) (fun i σ' H' => ∃ L' ds', SlO O (ZL H1 L) Mc L' H' σ' ds' ∧ loopD G f ((rngD k).drop i) ds' = some o) ⟨L, ds, sl, e2⟩ (fun i σ' H' hi ⟨L', ds', s', e'⟩ => ?_) (fun σ' H' p => loopO_end hz s.okM q _ (rngD_length k).symm p)⟩
      rw [Int.zero_add]
      exact loopO_turn (E := E) (fun _ _ _ z => z) hg.2 hz s.okM q (rngD_get hi) s' e' (.int _)
    · cases e4
  · cases e4
theorem o_while {n : Nat} {c : Expr} {p : Sl → Option Bool} (hc : PT X c (tPT p)) (hb : PSs X body (tSO O f)) (hp : PassesOwn (model X.prog X.w) X.A X.env X.xe := by exact PassesOwn.never) : PS X (.While c body [] pos) (tSO O (whileD p f n)) := ps_of (ps_while hp hc hb) fun E σ H ⟨Z, Mc, L, ds, o, s, e, q⟩ => by
  refine ⟨fun m σ H => ∃ L ds, SlO O Z Mc L H σ ds ∧ whileD p f m ds = some o, ⟨n, L, ds, s, e⟩, ?_⟩
  rintro m σ H ⟨L, ds, s, e⟩
  cases m with
  | zero => cases e
  | succ m =>
    obtain ⟨b, e1, e2⟩ := bind_some e
    refine ⟨Mc, ds, b, s.okc, s.full, e1, fun H1 s1 => ?_⟩
    cases b with
    | false =>
      rw [if_neg Bool.false_ne_true] at e2 ⊢
      cases e2
      exact q σ H1 L (s.same s1)
    | true =>
      rw [if_pos rfl] at e2 ⊢
      obtain ⟨o1, e3, e4⟩ := bind_some e2
      refine ⟨fun σ' H' => ∃ L ds, SlO O Z Mc L H' σ' ds ∧ whileD p f m ds = some o, fun σ' H' z => ⟨m, Nat.lt_succ_self m, z⟩, Z, Mc, L, ds, o1, s.same s1, e3, ?_⟩
      cases o1 with
      | nx ds2 => exact fun σ3 H3 L3 s3 => ⟨L3, ds2, s3, e4⟩
      | ct ds2 => exact fun σ3 H3 L3 s3 => ⟨L3, ds2, s3, e4⟩
      | bk ds2 => cases e4; exact fun σ3 H3 L3 s3 => q σ3 H3 L3 s3
      | rt d2 => cases e4; exact fun v3 H3 z3 r3 => q v3 H3 z3 r3
end
/-! ### a def -/
theorem ok_funO {P : Program} {w : World} {K : PySem.W.Frag} {mg : Str → Option Value} {base : Heap} {x qual : Str} {st : Stmt} {f : Addr} {fd : FuncData} {N ps : List Str} {k n : Nat} {O : List Nat} {F : S} (hF : Fun K x qual st f fd) (sc : FnScope N ps (defScope st)) (hn : ps.length = n) (hO : ∀ i, O.contains i = true → n ≤ i)
    (hb : ∀ (cdv : Value) (A : Around) (outer : List Env) (s : Shared) (H : Hp) (E : XK), Room k (A.deeper (envOfC qual (defScope st) s.heap.objs.size f cdv)) → PSs (cxOf CX0 P w K mg base N qual (defScope st) f cdv A outer s H E).nox (defBody st) (tSO O F)) :
    FnOk P w K mg base CX0 (k + 1) f fd ps (spF n (runF N.length F)) := by
  refine hF.ok sc (fun vs H Q E h => h.1.trans hn.symm) fun cdv A outer s H vs Q E hr h => ⟨tSO O F, hb cdv A outer s H E hr, ?_⟩
  obtain ⟨hl, M, l, d, ok, r, e, q⟩ := h
  obtain ⟨o, e1, e2⟩ := bind_some e
  refine ⟨_, M, _, _, o, SlO.start ok r N (fun i h => by rw [← r.length, hl]; exact hO i h), e1, ?_⟩
  cases o with
  | rt d' => cases e2; exact fun v H' z r => q v H' z r
  | nx ds => cases e2; exact fun σ' H' L' s' => q _ H' s'.fr .non
  | bk ds => cases e2
  | ct ds => cases e2

/-! ### a def whose last argument is such a list -/
def spO (n : Nat) (F : List D → List D → Option (D × List D)) : Sp := fun vs H Q _ => ∃ (M : MS) (us : List V) (l : Addr) (xs : List V) (args dl : List D) (r : D × List D), vs = us ++ [.ref l] ∧ us.length = n ∧ Ok M H ∧ M l ∧ H l = some (.lst xs) ∧ RpAll M H xs dl ∧ RpAll M H us args ∧ F args dl = some r ∧
  ∀ v H' xs', (∀ a o, a ≠ l → H a = some o → H' a = some o) → H' l = some (.lst xs') → RpAll M H' xs' r.2 → Rp M H' v r.1 → Q v H'
def tApp (g : Sl → Option (List D)) (i : Nat) : TA := fun σ H Q => tPA g σ H fun vs H' => ∃ v, σ[i]? = some (some v) ∧ Q (vs ++ [v]) H'
section
variable {X : Cx} {O : List Nat} {x : Str} {p pos : Pos} {e : Expr} {es : List Expr} {f : Sl → Option D} {g : Sl → Option (List D)} {i : Nat}
theorem pla_nil (hN : X.N[i]? = some x) (hv : Vis X.env.scope x) (hd : (x == ("__debug__" : Str)) = false := by decide) (hcd : (x == ("__classdict__" : Str)) = false := by decide) (hs : starEach [.Name x pos] X.env = (false, eval (.Name x pos) X.env) :: starEach [] X.env := by rfl) : PA X [.Name x pos] (tApp esNil i) :=
  pa_of (pa_cons (pe_var hN hv hd hcd) pa_nil hs) fun σ H Q ⟨M, ds, l, ok, s, e, q⟩ => by
    cases e
    obtain ⟨v, h1, h2⟩ := q [] H (Same.refl H) .nil
    exact ⟨v, h1, h2⟩
theorem pla_cons (ha : PE X e (tP f)) (hr : PA X es (tApp g i)) (hs : starEach (e :: es) X.env = (false, eval e X.env) :: starEach es X.env := by rfl) : PA X (e :: es) (tApp (esCons f g) i) := pa_of (pa_cons ha hr hs) fun σ H Q ⟨M, ds, l, ok, s, e, q⟩ => by
  obtain ⟨d, e1, e⟩ := bind_some e
  obtain ⟨r, e2, e⟩ := bind_some e
  cases e
  exact ⟨M, ds, d, ok, s, e1, fun v H1 s1 r1 => ⟨M, ds, r, ok.same s1, s.same s1, e2, fun vs H2 s2 r2 => by
    obtain ⟨w, h1, h2⟩ := q (v :: vs) H2 (s1.trans s2) (.cons (r1.same s2) r2)
    exact ⟨w, h1, h2⟩⟩⟩
/-- j = f(.., i) -/
def sCallO (O : List Nat) (j i : Nat) (F : List D → List D → Option (D × List D)) (g : Sl → Option (List D)) : S := fun ds => (atO O g ds).bind fun args => match ds[i]? with
  | some (some (.list dl)) => (F args dl).bind fun r => some (.nx ((ds.set i (some (.list r.2))).set j (some r.1)))
  | _ => none
theorem o_call {CX : CXT} {k n j : Nat} {fa : Addr} {fd : FuncData} {ps : List Str} {E : XK} {F : List D → List D → Option (D × List D)} {y : Str} {pos' spos : Pos} (Fk : FnOk X.prog X.w X.K X.mg X.base CX k fa fd ps (spO n F)) (hr : Room k X.A) (hg : Gl X x) (hm : X.mg x = some (.ref fa)) (hk : PySem.W.keepIn X.K (.ref fa) = true) (hb : Binds X.K fd ps []) (hx : Passes CX X E)
    (hi : O.contains i = true) (hj : O.contains j = false) (ha : PA X (e :: es) (tApp g i)) (hl : ∀ ds l, g ds = some l → l.length = n) (hN : X.N.Nodup) (hjN : X.N[j]? = some y) (hy : Loc X.env.scope y) (hf : X.fn y = true ∨ X.env.scope.names.lookup y = some .local := by first | exact .inl rfl | exact .inr rfl | assumption)
    (hdb : (x == ("__debug__" : Str)) = false := by decide) (he : starEach (e :: es) X.env = (false, eval e X.env) :: starEach es X.env := by rfl) (hpl : (backTo pos (starEach es X.env)).any (·.1) = false := by rfl)
    (hs : swapsWith (.Call (.Name x p) (e :: es) [] pos) (some (.Name y pos')) spos.line X.env = pure false := by rfl) :
    PS X (.Assign [.Name y pos'] (.Call (.Name x p) (e :: es) [] pos) spos) (tSO O (sCallO O j i F g)) := ps_of (ps_set hN hjN hy (pe_call Fk hr hg hm hk hb .nil hx ha hdb he hpl) hs hf) fun E' σ H ⟨Z, Mc, L, ds, o, s, e, q⟩ => by
  obtain ⟨args, e1, e2⟩ := bind_some e
  split at e2
  · rename_i dl hds
    obtain ⟨r, e3, e4⟩ := bind_some e2
    cases e4
    obtain ⟨l, xs, dl', e0, e5, m, e6, rl⟩ := s.own i _ hi hds
    cases e0
    refine ⟨ML Mc L, _, args, s.ok, s.mask, e1, fun vs H1 s1 r1 => ⟨.ref l, e5, ?_⟩⟩
    have s2 := s.same s1
    show spO n F ((vs ++ [V.ref l]) ++ []) H1 _ _
    rw [List.append_nil]
    exact ⟨ML Mc L, vs, l, xs, args, dl, r, rfl, by rw [r1.length]; exact hl _ _ e1, s2.ok, .inr m, s1 _ _ e6, rl.same s1, r1, e3, fun v H' xs' k e7 r7 rv => q _ H' L ((s2.change hi hds e5 m k e7 r7).set hj rv)⟩
  · cases e2
end
end Pu

set_option Elab.async false
set_option linter.all false
set_option maxRecDepth 100000
set_option autoImplicit false
/-! Fs2: (printed) bodies with lists of their own, as functions. -/
namespace Pu
open PySem

def M_one_more : List D → List D → Option (D × List D)
  | [p, y, w], es => (bT (eOp oEq (eOp oIx (eOp oIx (eOp oIx (eVar 1) (eC (.int 1))) (eVar 2)) (eC (.int 0))) (eC (.str "rests"))) [some p, some y, some w, none, none]).bind fun b =>
    if b = true then some (y, es) else (M_stepped [p, y, w]).bind fun r => match r with
      | .tuple [y', e] => if isNon e = true then some (y', es) else if es.length + 1 ≤ lim then some (y', es ++ [e]) else none
      | _ => none
  | _, _ => none

def F_woven : S := (sSeq (sForO [4] (eItems (eVar 2)) (gNameD 3) (sIf (bNot (bT (eChain oLe oLt (eC (.int 0)) (eVar 3) (eCall oLen (esCons (eOp oIx (eVar 1) (eC (.int 0))) esNil))))) sNever sNx)) (sSeq (sNewO 4) (sSeq (sForO [4] (eItems (eVar 2)) (gNameD 3) (sCallO [4] 1 4 M_one_more (esCons (eVar 0) (esCons (eVar 1) (esCons (eVar 3) esNil))))) (sRet (eTup (esCons (eVar 1) (esCons (eVar 4) esNil)))))))
def M_woven : List D → Option D := runF 5 F_woven

def F_finished (n : Nat) : S := (sSeq (sNewO 2) (sSeq (whileD (bNot (bT (eCall M_is_over (esCons (eVar 1) esNil)))) (sForO [2] (eRng (eCall oLen (esCons (eOp oIx (eVar 1) (eC (.int 0))) esNil))) (gNameD 3) (sCallO [2] 1 2 M_one_more (esCons (eVar 0) (esCons (eVar 1) (esCons (eVar 3) esNil))))) n) (sRet (eTup (esCons (eVar 1) (esCons (eVar 2) esNil))))))
def M_finished (n : Nat) : List D → Option D := runF 4 (F_finished n)

def F_l_by_rounds : S := (sSeq (sNewO 2) (sSeq (sForO [2] (eRng (eC (.int 1000))) (gNameD 3) (sSeq (sSetO [2] 4 (eLc 5 (eRng (eCall oLen (esCons (eOp oIx (eVar 1) (eC (.int 1))) esNil))) (bT (eOp oNe (eOp oIx (eOp oIx (eVar 1) (eC (.int 1))) (eVar 5)) (eTup (esCons (eC (.str "rests")) esNil)))) (eVar 5))) (sSeq (sIf (bT (eOp oNe (eCall M_is_over (esCons (eVar 1) esNil)) (eOp oEq (eVar 4) (eLst esNil)))) (sRet (eC .none)) sNx) (sSeq (sIf (bT (eOp oEq (eVar 4) (eLst esNil))) (sRet (eTup (esCons (eVar 1) (esCons (eVar 2) esNil)))) sNx) (sForO [2] (eItems (eVar 4)) (gNameD 5) (sSeq (sSetO [2] 6 (eCall M_stepped (esCons (eVar 0) (esCons (eVar 1) (esCons (eVar 5) esNil))))) (sSeq (sSetO [2] 1 (eOp oIx (eVar 6) (eC (.int 0)))) (sIf (bT (eOp oIsntA (eOp oIx (eVar 6) (eC (.int 1))) (eC .none))) (sAppO [2] 2 (eOp oIx (eVar 6) (eC (.int 1)))) sNx)))))))) (sRet (eC .none))))
def M_l_by_rounds : List D → Option D := runF 7 F_l_by_rounds

def F_l_by_steps : S := (sSeq (sNewO 3) (sSeq (sForO [3] (eItems (eVar 2)) (gNameD 4) (sIf (bT (eOp oNe (eOp oIx (eOp oIx (eVar 1) (eC (.int 1))) (eVar 4)) (eTup (esCons (eC (.str "rests")) esNil)))) (sSeq (sSetO [3] 5 (eCall M_stepped (esCons (eVar 0) (esCons (eVar 1) (esCons (eVar 4) esNil))))) (sSeq (sSetO [3] 1 (eOp oIx (eVar 5) (eC (.int 0)))) (sIf (bT (eOp oIsntA (eOp oIx (eVar 5) (eC (.int 1))) (eC .none))) (sAppO [3] 3 (eOp oIx (eVar 5) (eC (.int 1)))) sNx))) sNx)) (sRet (eTup (esCons (eVar 1) (esCons (eVar 3) esNil))))))
def M_l_by_steps : List D → Option D := runF 6 F_l_by_steps

end Pu

set_option Elab.async false
set_option linter.all false
set_option maxRecDepth 100000
set_option maxHeartbeats 4000000
set_option autoImplicit false
/-! Ow: weavings, whole; rounds. -/
namespace Pu
open PySem

/-- what each step rests on -/
structure Gd (n : Nat) (b : LL) (y : Yard) : Prop where
  ci : CI b y
  bd : Bd n y
  inb : ∀ (p : Nat) (l : List Nat) (c : Nat), b[p]? = some l → c ∈ l → p < c ∧ c < b.length
theorem Gd.start {b s : LL} (P : PlanOk 200 b s) : Gd 200 b (yard0 s) := ⟨CI.start b s P, Bd.start P, P.inb⟩
theorem Gd.mono {n m : Nat} {b : LL} {y : Yard} (G : Gd n b y) (h : n ≤ m) : Gd m b y := ⟨G.ci, G.bd.mono h, G.inb⟩
/-- a step of w, if it doesn't rest -/
def nextY (b : LL) (y : Yard) (w : Nat) : Yard × List Evt := match stepY b y w with
  | some q => (q.1, q.2.toList)
  | none => (y, [])
def runY (b : LL) : Yard → List Nat → Yard × List Evt
  | y, [] => (y, [])
  | y, w :: ws => ((runY b (nextY b y w).1 ws).1, (nextY b y w).2 ++ (runY b (nextY b y w).1 ws).2)
theorem runY_nil {b : LL} {y : Yard} : runY b y [] = (y, []) := rfl
theorem runY_cons {b : LL} {y : Yard} {w : Nat} {ws : List Nat} : runY b y (w :: ws) = ((runY b (nextY b y w).1 ws).1, (nextY b y w).2 ++ (runY b (nextY b y w).1 ws).2) := rfl
theorem stepY_rests {b : LL} {y : Yard} {w : Nat} (hw : w < y.states.length) (h : y.S w = .rests) : stepY b y w = none := by
  unfold stepY
  rw [Yard.S_get hw, h]; rfl
theorem Gd.next {n : Nat} {b : LL} {y : Yard} (G : Gd n b y) {w : Nat} (hw : w < y.rows.length) : Gd (n + 1) b (nextY b y w).1 ∧ (nextY b y w).1.rows.length = y.rows.length ∧ ((y.S w = .rests ∧ nextY b y w = (y, [])) ∨ (y.S w ≠ .rests ∧ ∃ q, stepY b y w = some q ∧ nextY b y w = (q.1, q.2.toList) ∧ Stp b y w q.1 q.2)) := by
  by_cases h : y.S w = .rests
  · have e : nextY b y w = (y, []) := by unfold nextY; rw [stepY_rests (by rw [G.ci.len]; exact hw) h]
    rw [e]
    exact ⟨G.mono (by omega), rfl, .inl ⟨h, rfl⟩⟩
  · obtain ⟨q, hq⟩ := G.ci.can hw h
    have e : nextY b y w = (q.1, q.2.toList) := by unfold nextY; rw [hq]
    obtain ⟨I', S'⟩ := G.ci.step hq (inb_lt G.inb)
    rw [e]
    exact ⟨⟨I', G.bd.step S', G.inb⟩, S'.m', .inr ⟨h, q, hq, rfl, S'⟩⟩
theorem Gd.run {b : LL} : ∀ (ws : List Nat) {n : Nat} {y : Yard} (G : Gd n b y) (hw : ∀ w ∈ ws, w < y.rows.length), Gd (n + ws.length) b (runY b y ws).1 ∧ (runY b y ws).1.rows.length = y.rows.length ∧ (runY b y ws).2.length ≤ ws.length
  | [], n, y, G, _ => ⟨G, rfl, Nat.le_refl _⟩
  | w :: ws, n, y, G, hw => by
    obtain ⟨G1, h1, h2⟩ := G.next (hw w List.mem_cons_self)
    obtain ⟨G2, h3, h4⟩ := Gd.run ws G1 (fun v hv => by rw [h1]; exact hw v (List.mem_cons_of_mem _ hv))
    refine ⟨G2.mono (by rw [List.length_cons]; omega), h3.trans h1, ?_⟩
    have h5 : (nextY b y w).2.length ≤ 1 := by
      rcases h2 with ⟨_, e⟩ | ⟨_, q, _, e, _⟩
      · rw [e]; exact Nat.zero_le _
      · rw [e]
        cases q.2 with
        | none => exact Nat.zero_le _
        | some _ => exact Nat.le_refl _
    show ((nextY b y w).2 ++ (runY b (nextY b y w).1 ws).2).length ≤ ws.length + 1
    rw [List.length_append]
    omega
theorem encO_non : ∀ o : Option Evt, isNon (encO o) = o.isNone
  | none => rfl
  | some (.own _ _) => rfl
  | some (.taken _ _ _) => rfl
  | some (.put _ _) => rfl
  | some (.done _ _) => rfl
  | some (.rests _) => rfl
theorem word_rests (s : W) {ds : Sl} {f : Sl → Option D} (h : f ds = some (encS s)) : bT (eOp oEq (eOp oIx f (eC (.int 0))) (eC (.str "rests"))) ds = some (decide (s = .rests)) := by
  unfold bT
  rw [eOp_ev (eOp_ev h rfl |>.trans (ix_word s)) rfl, eq_word s "rests" sh_rests, rests_word]; rfl
theorem st_ev {y : Yard} {w : Nat} {ds : Sl} {f g : Sl → Option D} (hw : w < y.states.length) (h : f ds = some (encY y)) (hg : g ds = some (.int (w : Int))) : eOp oIx (eOp oIx f (eC (.int 1))) g ds = some (encS (y.S w)) := by
  rw [eOp_ev (eOp_ev h rfl |>.trans oIx1) hg, nth_state (Yard.S_get hw)]
theorem one_ev {n : Nat} {b st : LL} {y : Yard} {w : Nat} {es : List Evt} (G : Gd n b y) (hn : n ≤ 900000) (hw : w < y.rows.length) (he : es.length + 1 ≤ lim) :
    M_one_more [encP b st, encY y, .int (w : Int)] (es.map encE) = some (encY (nextY b y w).1, (es ++ (nextY b y w).2).map encE) := by
  have hl := G.ci.len
  unfold M_one_more
  dsimp only
  rw [word_rests (y.S w) (st_ev (by omega) (eVar_get rfl) (eVar_get rfl)), Option.bind_some]
  obtain ⟨G1, h1, h2⟩ := G.next hw
  rcases h2 with ⟨h0, e⟩ | ⟨h0, q, hq, e, _⟩
  · rw [decide_eq_true h0, if_pos rfl, e, List.append_nil]
  · rw [decide_eq_false h0, if_neg Bool.false_ne_true, stepped_ev hq hl (by have := G.bd.rows; unfold lim; omega) (fun r hr => by have := G.bd.places r hr; unfold lim; omega), Option.bind_some, e]
    dsimp only
    rw [encO_non]
    cases ho : q.2 with
    | none => simp
    | some o =>
      rw [if_neg (by simp), if_pos (by rw [List.length_map]; exact he)]
      simp [encO]
/-! ### weavings -/
theorem wvloop {b st : LL} {A : D} : ∀ (ws : List Nat) {n : Nat} {y : Yard} (es : List Evt) (G : Gd n b y) (x : Option D), n + ws.length ≤ 900000 → es.length + ws.length ≤ 900000 → (∀ w ∈ ws, w < y.rows.length) →
    ∃ x', loopD (gNameD 3) (sCallO [4] 1 4 M_one_more (esCons (eVar 0) (esCons (eVar 1) (esCons (eVar 3) esNil)))) (encN ws) [some (encP b st), some (encY y), some A, x, some (.list (es.map encE))]
      = some (.nx [some (encP b st), some (encY (runY b y ws).1), some A, x', some (.list ((es ++ (runY b y ws).2).map encE))])
  | [], n, y, es, G, x, _, _, _ => ⟨x, by rw [runY_nil, List.append_nil]; rfl⟩
  | w :: ws, n, y, es, G, x, hn, he, hw => by
    rw [List.length_cons] at hn he
    have hw0 := hw w List.mem_cons_self
    obtain ⟨G1, h1, h2⟩ := G.next hw0
    have h5 : (nextY b y w).2.length ≤ 1 := by
      rcases h2 with ⟨_, e⟩ | ⟨_, q, _, e, _⟩
      · rw [e]; exact Nat.zero_le _
      · rw [e]
        cases q.2 with
        | none => exact Nat.zero_le _
        | some _ => exact Nat.le_refl _
    obtain ⟨x', z⟩ := wvloop (A := A) ws (es ++ (nextY b y w).2) G1 (some (.int (w : Int))) (by omega) (by rw [List.length_append]; omega) (fun v hv => by rw [h1]; exact hw v (List.mem_cons_of_mem _ hv))
    refine ⟨x', ?_⟩
    have e1 := one_ev (st := st) (es := es) G (by omega) hw0 (by unfold lim; omega)
    have e2 : sCallO [4] 1 4 M_one_more (esCons (eVar 0) (esCons (eVar 1) (esCons (eVar 3) esNil))) [some (encP b st), some (encY y), some A, some (.int (w : Int)), some (.list (es.map encE))] = some (.nx [some (encP b st), some (encY (nextY b y w).1), some A, some (.int (w : Int)), some (.list ((es ++ (nextY b y w).2).map encE))]) := by
      show ((M_one_more [encP b st, encY y, .int (w : Int)] (es.map encE)).bind _) = _
      rw [e1]; rfl
    show ((sCallO [4] 1 4 M_one_more (esCons (eVar 0) (esCons (eVar 1) (esCons (eVar 3) esNil))) [some (encP b st), some (encY y), some A, some (.int (w : Int)), some (.list (es.map encE))]).bind _) = _
    rw [e2, Option.bind_some]
    dsimp only
    unfold encN at z
    rw [z, runY_cons, List.append_assoc]
theorem chkloop {b st : LL} {y : Yard} {A : D} {f : S} (hf : ∀ (w : Nat) (x5 : Option D), w < y.rows.length → f [some (encP b st), some (encY y), some A, some (.int (w : Int)), x5] = some (.nx [some (encP b st), some (encY y), some A, some (.int (w : Int)), x5])) : ∀ (ws : List Nat) (x : Option D), (∀ w ∈ ws, w < y.rows.length) →
    ∃ x', loopD (gNameD 3) f (encN ws) [some (encP b st), some (encY y), some A, x, none] = some (.nx [some (encP b st), some (encY y), some A, x', none])
  | [], x, _ => ⟨x, rfl⟩
  | w :: ws, x, hw => by
    obtain ⟨x', z⟩ := chkloop hf ws (some (.int (w : Int))) (fun v hv => hw v (List.mem_cons_of_mem _ hv))
    refine ⟨x', ?_⟩
    show ((f [some (encP b st), some (encY y), some A, some (.int (w : Int)), none]).bind _) = _
    rw [hf w none (hw w List.mem_cons_self), Option.bind_some]
    exact z
theorem lenR_ev {y : Yard} {ds : Sl} {f : Sl → Option D} (h : f ds = some (encY y)) : eCall oLen (esCons (eOp oIx f (eC (.int 0))) esNil) ds = some (.int (y.rows.length : Int)) := by
  rw [q_call (q_cons (eOp_ev h rfl |>.trans oIx0) rfl)]
  show some (PyData.int ((y.rows.map encR).length : Int)) = _
  rw [List.length_map]
theorem lenS_ev {y : Yard} {ds : Sl} {f : Sl → Option D} (h : f ds = some (encY y)) : eCall oLen (esCons (eOp oIx f (eC (.int 1))) esNil) ds = some (.int (y.states.length : Int)) := by
  rw [q_call (q_cons (eOp_ev h rfl |>.trans oIx1) rfl)]
  show some (PyData.int ((y.states.map encS).length : Int)) = _
  rw [List.length_map]
theorem chk_ev {b st : LL} {y : Yard} {A : D} (w : Nat) (x5 : Option D) (hw : w < y.rows.length) : sIf (bNot (bT (eChain oLe oLt (eC (.int 0)) (eVar 3) (eCall oLen (esCons (eOp oIx (eVar 1) (eC (.int 0))) esNil))))) sNever sNx [some (encP b st), some (encY y), some A, some (.int (w : Int)), x5] = some (.nx [some (encP b st), some (encY y), some A, some (.int (w : Int)), x5]) := by
  have e : bT (eChain oLe oLt (eC (.int 0)) (eVar 3) (eCall oLen (esCons (eOp oIx (eVar 1) (eC (.int 0))) esNil))) [some (encP b st), some (encY y), some A, some (.int (w : Int)), x5] = some true := by
    unfold bT eChain
    rw [lenR_ev (eVar_get rfl)]
    have h1 : (0 : Int) ≤ (w : Int) := by omega
    have h2 : (w : Int) < (y.rows.length : Int) := by omega
    simp [eC, eVar, oLe, oLt, h1, h2]
  rw [q_iff (by unfold bNot; rw [e]; rfl)]
  rfl
theorem woven_ev {n : Nat} {b st : LL} {y : Yard} {ws : List Nat} (G : Gd n b y) (hn : n + ws.length ≤ 900000) (hw : ∀ w ∈ ws, w < y.rows.length) {A : D} (hA : itemsD A = some (encN ws)) :
    M_woven [encP b st, encY y, A] = some (.tuple [encY (runY b y ws).1, .list ((runY b y ws).2.map encE)]) := by
  have hu : M_woven [encP b st, encY y, A] = (F_woven [some (encP b st), some (encY y), some A, none, none]).bind endD := rfl
  rw [hu]
  unfold F_woven
  obtain ⟨x1, z1⟩ := chkloop (b := b) (st := st) (y := y) (A := A) chk_ev ws none hw
  obtain ⟨x2, z2⟩ := wvloop (st := st) (A := A) ws [] G x1 hn (by simp; omega) hw
  have it : ∀ x3 x4, atO [4] (eItems (eVar 2)) [some (encP b st), some (encY y), some A, x3, x4] = some (encN ws) := fun x3 x4 => by
    show (itemsD A) = _
    exact hA
  have f1 : ∀ {f : S} {x3 x4 : Option D} {o : Out}, loopD (gNameD 3) f (encN ws) [some (encP b st), some (encY y), some A, x3, x4] = some o → sForO [4] (eItems (eVar 2)) (gNameD 3) f [some (encP b st), some (encY y), some A, x3, x4] = some o := fun {f x3 x4 o} h => by
    unfold sForO
    rw [it, Option.bind_some]
    exact h
  rw [q_seq (f1 z1), q_seq (show sNewO 4 [some (encP b st), some (encY y), some A, x1, none] = some (.nx [some (encP b st), some (encY y), some A, x1, some (.list ([].map encE))]) from rfl), q_seq (f1 z2)]
  rw [List.nil_append, q_ret (q_tup (q_cons (eVar_get rfl) (q_cons (eVar_get rfl) rfl)) (by simp))]
  rfl
theorem runY_app {b : LL} : ∀ (u v : List Nat) (y : Yard), runY b y (u ++ v) = ((runY b (runY b y u).1 v).1, (runY b y u).2 ++ (runY b (runY b y u).1 v).2)
  | [], v, y => rfl
  | w :: u, v, y => by
    rw [List.cons_append, runY_cons, runY_cons, runY_app u v]
    simp only [List.append_assoc]
/-! ### rounds -/
def roundY (b : LL) (y : Yard) : Yard × List Evt := runY b y (List.range y.rows.length)
def finR (b : LL) : Nat → Yard → Option (Yard × List Evt)
  | 0, _ => none
  | k + 1, y => if overY y = true then some (y, []) else (finR b k (roundY b y).1).map fun r => (r.1, (roundY b y).2 ++ r.2)
theorem finloop {b st : LL} : ∀ (k : Nat) {n : Nat} {y : Yard} (es : List Evt) (G : Gd n b y) (x : Option D) (r : Yard × List Evt), finR b k y = some r → n + 12 * k ≤ 900000 → es.length + 12 * k ≤ 900000 →
    ∃ x', whileD (bNot (bT (eCall M_is_over (esCons (eVar 1) esNil)))) (sForO [2] (eRng (eCall oLen (esCons (eOp oIx (eVar 1) (eC (.int 0))) esNil))) (gNameD 3) (sCallO [2] 1 2 M_one_more (esCons (eVar 0) (esCons (eVar 1) (esCons (eVar 3) esNil))))) k [some (encP b st), some (encY y), some (.list (es.map encE)), x]
      = some (.nx [some (encP b st), some (encY r.1), some (.list ((es ++ r.2).map encE)), x'])
  | 0, n, y, es, G, x, r, h, _, _ => by cases h
  | k + 1, n, y, es, G, x, r, h, hn, he => by
    have hr := G.bd.rows
    have e0 : bNot (bT (eCall M_is_over (esCons (eVar 1) esNil))) [some (encP b st), some (encY y), some (.list (es.map encE)), x] = some (!overY y) := by
      unfold bNot bT
      rw [q_call (q_cons (eVar_get rfl) rfl), is_over_ev y (by have := G.ci.len; unfold lim; omega)]; rfl
    unfold whileD
    rw [e0, Option.bind_some]
    unfold finR at h
    by_cases ho : overY y = true
    · rw [if_pos ho] at h
      cases h
      rw [ho]
      exact ⟨x, by simp⟩
    · rw [if_neg ho] at h
      rw [if_pos (by simpa using ho)]
      cases hf : finR b k (roundY b y).1 with
      | none => rw [hf] at h; cases h
      | some r' =>
        rw [hf] at h
        cases h
        have hw : ∀ w ∈ List.range y.rows.length, w < y.rows.length := fun w h => List.mem_range.mp h
        obtain ⟨G1, h1, h2⟩ := Gd.run (List.range y.rows.length) G hw
        rw [List.length_range] at G1 h2
        -- one round
        have rl : ∀ (ws : List Nat) {n : Nat} {y : Yard} (es : List Evt) (G : Gd n b y) (x : Option D), n + ws.length ≤ 900000 → es.length + ws.length ≤ 900000 → (∀ w ∈ ws, w < y.rows.length) →
            ∃ x', loopD (gNameD 3) (sCallO [2] 1 2 M_one_more (esCons (eVar 0) (esCons (eVar 1) (esCons (eVar 3) esNil)))) (encN ws) [some (encP b st), some (encY y), some (.list (es.map encE)), x]
              = some (.nx [some (encP b st), some (encY (runY b y ws).1), some (.list ((es ++ (runY b y ws).2).map encE)), x']) := by
          intro ws
          induction ws with
          | nil => intro n y es G x _ _ _; exact ⟨x, by rw [runY_nil, List.append_nil]; rfl⟩
          | cons w ws ih =>
            intro n y es G x hn he hw
            rw [List.length_cons] at hn he
            have hw0 := hw w List.mem_cons_self
            obtain ⟨G1, h1, h2⟩ := G.next hw0
            have h5 : (nextY b y w).2.length ≤ 1 := by
              rcases h2 with ⟨_, e⟩ | ⟨_, q, _, e, _⟩
              · rw [e]; exact Nat.zero_le _
              · rw [e]
                cases q.2 with
                | none => exact Nat.zero_le _
                | some _ => exact Nat.le_refl _
            obtain ⟨x', z⟩ := ih (es ++ (nextY b y w).2) G1 (some (.int (w : Int))) (by omega) (by rw [List.length_append]; omega) (fun v hv => by rw [h1]; exact hw v (List.mem_cons_of_mem _ hv))
            refine ⟨x', ?_⟩
            have e1 := one_ev (st := st) (es := es) G (by omega) hw0 (by unfold lim; omega)
            have e2 : sCallO [2] 1 2 M_one_more (esCons (eVar 0) (esCons (eVar 1) (esCons (eVar 3) esNil))) [some (encP b st), some (encY y), some (.list (es.map encE)), some (.int (w : Int))] = some (.nx [some (encP b st), some (encY (nextY b y w).1), some (.list ((es ++ (nextY b y w).2).map encE)), some (.int (w : Int))]) := by
              show ((M_one_more [encP b st, encY y, .int (w : Int)] (es.map encE)).bind _) = _
              rw [e1]; rfl
            show ((sCallO [2] 1 2 M_one_more (esCons (eVar 0) (esCons (eVar 1) (esCons (eVar 3) esNil))) [some (encP b st), some (encY y), some (.list (es.map encE)), some (.int (w : Int))]).bind _) = _
            rw [e2, Option.bind_some]
            dsimp only
            unfold encN at z
            rw [z, runY_cons, List.append_assoc]
        obtain ⟨x1, z1⟩ := rl (List.range y.rows.length) es G x (by rw [List.length_range]; omega) (by rw [List.length_range]; omega) hw
        obtain ⟨x2, z2⟩ := finloop (st := st) k (es ++ (roundY b y).2) G1 x1 r' hf (by omega) (by rw [List.length_append]; unfold roundY; omega)
        refine ⟨x2, ?_⟩
        have it : atO [2] (eRng (eCall oLen (esCons (eOp oIx (eVar 1) (eC (.int 0))) esNil))) [some (encP b st), some (encY y), some (.list (es.map encE)), x] = some (encN (List.range y.rows.length)) := by
          unfold atO eRng
          rw [lenR_ev (y := y) (eVar_get rfl), Option.bind_some]
          dsimp only
          rw [if_pos (by omega)]
          unfold rngD encN
          rw [Int.toNat_natCast]
        have e3 : sForO [2] (eRng (eCall oLen (esCons (eOp oIx (eVar 1) (eC (.int 0))) esNil))) (gNameD 3) (sCallO [2] 1 2 M_one_more (esCons (eVar 0) (esCons (eVar 1) (esCons (eVar 3) esNil)))) [some (encP b st), some (encY y), some (.list (es.map encE)), x] = some (.nx [some (encP b st), some (encY (roundY b y).1), some (.list ((es ++ (roundY b y).2).map encE)), x1]) := by
          unfold sForO
          rw [it, Option.bind_some]
          exact z1
        rw [e3, Option.bind_some]
        dsimp only
        unfold roundY at z2 ⊢
        rw [z2, List.append_assoc]
theorem finished_ev {k n : Nat} {b st : LL} {y : Yard} {r : Yard × List Evt} (G : Gd n b y) (h : finR b k y = some r) (hn : n + 12 * k ≤ 900000) :
    M_finished k [encP b st, encY y] = some (.tuple [encY r.1, .list (r.2.map encE)]) := by
  have hu : M_finished k [encP b st, encY y] = (F_finished k [some (encP b st), some (encY y), none, none]).bind endD := rfl
  rw [hu]
  unfold F_finished
  obtain ⟨x, z⟩ := finloop (st := st) k [] G none r h hn (by simp; omega)
  rw [q_seq (show sNewO 2 [some (encP b st), some (encY y), none, none] = some (.nx [some (encP b st), some (encY y), some (.list ([].map encE)), none]) from rfl), q_seq z]
  rw [List.nil_append, q_ret (q_tup (q_cons (eVar_get rfl) (q_cons (eVar_get rfl) rfl)) (by simp))]
  rfl
end Pu

set_option Elab.async false
set_option linter.all false
set_option maxRecDepth 100000
set_option maxHeartbeats 4000000
set_option autoImplicit false
/-! Abs: plain rows; a step's event done upon them. -/
namespace Pu
open PySem

structure Pl where
  rows : List (List Nat)
  holds : List (Option (Nat × Nat))
  rests : List Bool
def Pl.R (p : Pl) (w : Nat) : List Nat := (p.rows[w]?).getD []
def Pl.H (p : Pl) (w : Nat) : Option (Nat × Nat) := (p.holds[w]?).getD none
def Pl.Z (p : Pl) (w : Nat) : Bool := (p.rests[w]?).getD false
def stand (r : Row) (s : W) : List Nat := (r.places.drop r.head.toNat).take (tl r s - r.head).toNat
def heldW : W → Option (Nat × Nat)
  | .holds t n => some (t, n)
  | .wrote t n => some (t, n)
  | .mends _ (some c) => some (c, 0)
  | _ => none
def absY (y : Yard) : Pl := ⟨(List.range y.rows.length).map fun w => stand (y.R w) (y.S w), (List.range y.rows.length).map fun w => heldW (y.S w), (List.range y.rows.length).map fun w => decide (y.S w = .rests)⟩
/-- an event done upon plain rows -/
def goP (b : LL) (p : Pl) : Evt → Option Pl
  | .own w t => if w < p.rows.length ∧ p.Z w = false ∧ p.H w = none ∧ (p.R w).getLast? = some t then some ⟨p.rows.set w (p.R w).dropLast, p.holds.set w (some (t, 0)), p.rests⟩ else none
  | .taken w o t => if w < p.rows.length ∧ p.Z w = false ∧ p.H w = none ∧ o < p.rows.length ∧ o ≠ w ∧ (p.R o).head? = some t then some ⟨p.rows.set o (p.R o).tail, p.holds.set w (some (t, 0)), p.rests⟩ else none
  | .put w t => if w < p.rows.length ∧ p.Z w = false then (p.H w).bind fun h => (b[h.1]?).bind fun l => if l[h.2]? = some t then some ⟨p.rows.set w (p.R w ++ [t]), p.holds.set w (some (h.1, h.2 + 1)), p.rests⟩ else none else none
  | .done w t => if w < p.rows.length ∧ p.Z w = false then (p.H w).bind fun h => (b[h.1]?).bind fun l => if h.1 = t ∧ h.2 = l.length then some ⟨p.rows, p.holds.set w none, p.rests⟩ else none else none
  | .rests w => if w < p.rows.length ∧ p.Z w = false ∧ p.H w = none ∧ p.R w = [] then some ⟨p.rows, p.holds, p.rests.set w true⟩ else none
def goPs (b : LL) : Pl → List Evt → Option Pl
  | p, [] => some p
  | p, e :: es => (goP b p e).bind fun q => goPs b q es
theorem goPs_app {b : LL} : ∀ (es fs : List Evt) (p : Pl), goPs b p (es ++ fs) = (goPs b p es).bind fun q => goPs b q fs
  | [], _, _ => rfl
  | e :: es, fs, p => by
    show ((goP b p e).bind fun q => goPs b q (es ++ fs)) = ((goP b p e).bind fun q => goPs b q es).bind _
    cases goP b p e with
    | none => rfl
    | some q => exact goPs_app es fs q
theorem rng_get {α : Type} {m w : Nat} {f : Nat → α} (h : w < m) : ((List.range m).map f)[w]? = some (f w) := by
  rw [List.getElem?_map, List.getElem?_range h]; rfl
theorem rng_none {α : Type} {m w : Nat} {f : Nat → α} (h : ¬ w < m) : ((List.range m).map f)[w]? = none := List.getElem?_eq_none (by simp; omega)
theorem rng_set {α : Type} {m x : Nat} {f g : Nat → α} {a : α} (h : ∀ v, v < m → v ≠ x → f v = g v) (hx : x < m → f x = a) : (List.range m).map f = ((List.range m).map g).set x a := by
  apply List.ext_getElem?
  intro v
  rw [List.getElem?_set]
  by_cases hv : v < m
  · rw [rng_get hv]
    by_cases e : x = v
    · subst e
      rw [if_pos rfl, if_pos (by simpa using hv), hx hv]
    · rw [if_neg e, rng_get hv, h v hv (fun z => e z.symm)]
  · rw [rng_none hv]
    by_cases e : x = v
    · subst e
      rw [if_pos rfl, if_neg (by simpa using hv)]
    · rw [if_neg e, rng_none hv]
theorem rng_eq {α : Type} {m : Nat} {f g : Nat → α} (h : ∀ v, v < m → f v = g v) : (List.range m).map f = (List.range m).map g :=
  List.map_congr_left fun v hv => h v (List.mem_range.mp hv)
theorem absY_R {y : Yard} {w : Nat} (h : w < y.rows.length) : (absY y).R w = stand (y.R w) (y.S w) := by unfold Pl.R absY; rw [rng_get h]; rfl
theorem absY_H {y : Yard} {w : Nat} (h : w < y.rows.length) : (absY y).H w = heldW (y.S w) := by unfold Pl.H absY; rw [rng_get h]; rfl
theorem absY_Z {y : Yard} {w : Nat} (h : w < y.rows.length) : (absY y).Z w = decide (y.S w = .rests) := by unfold Pl.Z absY; rw [rng_get h]; rfl
theorem absY_len {y : Yard} : (absY y).rows.length = y.rows.length := by unfold absY; simp
/-! what stands in a row -/
theorem stand_nil {r : Row} {s : W} (h : tl r s = r.head) : stand r s = [] := by unfold stand; rw [h]; simp
theorem slice_snoc {l : List Nat} {i j : Nat} {t : Nat} (h : i ≤ j) (hj : l[j]? = some t) : (l.drop i).take (j + 1 - i) = (l.drop i).take (j - i) ++ [t] := by
  have e : j + 1 - i = (j - i) + 1 := by omega
  rw [e, List.take_add_one, List.getElem?_drop, Nat.add_sub_cancel' h, hj]; rfl
theorem slice_cons {l : List Nat} {i j : Nat} {t : Nat} (h : i < j) (hi : l[i]? = some t) : (l.drop i).take (j - i) = t :: (l.drop (i + 1)).take (j - (i + 1)) := by
  have hl := (List.getElem?_eq_some_iff.mp hi).1
  rw [List.drop_eq_getElem_cons hl, (List.getElem?_eq_some_iff.mp hi).2]
  have e : j - i = (j - (i + 1)) + 1 := by omega
  rw [e, List.take_succ_cons]
theorem stand_last {r : Row} {s s' : W} {r' : Row} {t : Nat} (h0 : 0 ≤ r.head) (hh : r'.head = r.head) (hp : r'.places = r.places) (h1 : tl r s = tl r' s' + 1) (h2 : r.head ≤ tl r' s') (ha : at? r.places (tl r' s') = some t) : stand r s = stand r' s' ++ [t] := by
  obtain ⟨a0, a1⟩ := at?_some ha
  unfold stand
  rw [hh, hp, h1]
  have e1 : (tl r' s' + 1 - r.head).toNat = (tl r' s').toNat + 1 - r.head.toNat := by omega
  have e2 : (tl r' s' - r.head).toNat = (tl r' s').toNat - r.head.toNat := by omega
  rw [e1, e2, slice_snoc (by omega) a1]
theorem stand_first {r r' : Row} {s : W} {t : Nat} (h0 : 0 ≤ r.head) (hh : r'.head = r.head + 1) (hp : r'.places = r.places) (h1 : tl r' s = tl r s) (h2 : r.head < tl r s) (ha : at? r.places r.head = some t) : stand r s = t :: stand r' s := by
  obtain ⟨a0, a1⟩ := at?_some ha
  unfold stand
  rw [hh, hp, h1]
  have e1 : (tl r s - r.head).toNat = (tl r s).toNat - r.head.toNat := by omega
  have e2 : (tl r s - (r.head + 1)).toNat = (tl r s).toNat - (r.head.toNat + 1) := by omega
  have e3 : (r.head + 1).toNat = r.head.toNat + 1 := by omega
  rw [e1, e2, e3, slice_cons (by omega) a1]
theorem stand_same {r r' : Row} {s s' : W} (hh : r'.head = r.head) (hp : r'.places = r.places) (h1 : tl r' s' = tl r s) : stand r' s' = stand r s := by
  unfold stand; rw [hh, hp, h1]
theorem stand_put {r : Row} {s s' : W} {c : Nat} (h0 : 0 ≤ r.head) (h1 : r.head ≤ tl r s) (h2 : tl r s ≤ (r.places.length : Int)) (h3 : tl r s = r.tail) (h4 : tl ⟨r.head, r.tail, putIn r.places r.tail.toNat c⟩ s' = r.tail) : stand ⟨r.head, r.tail, putIn r.places r.tail.toNat c⟩ s' = stand r s := by
  unfold stand
  rw [h3, h4]
  dsimp only
  apply List.ext_getElem?
  intro i
  rw [List.getElem?_take, List.getElem?_take]
  by_cases hi : i < (r.tail - r.head).toNat
  · rw [if_pos hi, if_pos hi, List.getElem?_drop, List.getElem?_drop]
    exact putIn_other (by omega) (by omega)
  · rw [if_neg hi, if_neg hi]
/-- what a step does to one's own row, and what one holds -/
inductive OwnE (b : LL) (w : Nat) (R : List Nat) (h : Option (Nat × Nat)) (R' : List Nat) (h' : Option (Nat × Nat)) (z' : Bool) : Option Evt → Prop
  | non : R' = R → h' = h → z' = false → OwnE b w R h R' h' z' none
  | own (t : Nat) : h = none → R = R' ++ [t] → h' = some (t, 0) → z' = false → OwnE b w R h R' h' z' (some (.own w t))
  | put (p n : Nat) (l : List Nat) (c : Nat) : h = some (p, n) → b[p]? = some l → l[n]? = some c → R' = R ++ [c] → h' = some (p, n + 1) → z' = false → OwnE b w R h R' h' z' (some (.put w c))
  | done (t : Nat) (l : List Nat) : h = some (t, l.length) → b[t]? = some l → R' = R → h' = none → z' = false → OwnE b w R h R' h' z' (some (.done w t))
  | rests : h = none → R = [] → R' = [] → h' = none → z' = true → OwnE b w R h R' h' z' (some (.rests w))
theorem trA_abs {b : LL} {m w x : Nat} {r r' : Row} {s s' : W} {e : Option Evt} (tr : Tr b m w x r s r' s' e) (R : RowI b r s) (hk : isK s = false) : OwnE b w (stand r s) (heldW s) (stand r' s') (heldW s') (decide (s' = .rests)) e := by
  obtain ⟨h0, ht, hl, tt, pl, st⟩ := R
  cases tr with
  | free => exact .non (stand_same rfl rfl (by dsimp only [tl]; omega)) rfl rfl
  | look1 _ t h1 h2 => exact .own t rfl (stand_last h0 rfl rfl rfl (by dsimp only [tl]; omega) h2) rfl rfl
  | look2 _ h1 => exact .non (stand_same rfl rfl rfl) rfl rfl
  | look3 _ h1 => exact .non (stand_same rfl rfl rfl) rfl rfl
  | last1 _ h t h1 h2 =>
    dsimp only [StI] at st
    refine .own t rfl ?_ rfl rfl
    have e1 : stand ⟨r.head + 1, r.tail, r.places⟩ (.mends (h + 1) (some t)) = [] := stand_nil (by dsimp only [tl]; omega)
    rw [e1, stand_first (r' := ⟨r.head + 1, r.tail, r.places⟩) h0 rfl rfl rfl (by dsimp only [tl]; omega) (by rw [h1]; exact h2), stand_nil (r := ⟨r.head + 1, r.tail, r.places⟩) (by dsimp only [tl]; omega)]; rfl
  | last2 _ h h1 =>
    dsimp only [StI, tl] at *
    exact .non (by rw [stand_nil (by dsimp only [tl]; omega), stand_nil (by dsimp only [tl]; omega)]) rfl rfl
  | mend1 _ t c =>
    dsimp only [StI, tl] at *
    exact .non (stand_same rfl rfl rfl) rfl rfl
  | mend2 _ t h1 =>
    dsimp only [StI, tl] at *
    exact .rests rfl (stand_nil (by dsimp only [tl]; omega)) (stand_nil (by dsimp only [tl]; omega)) rfl rfl
  | mend3 _ t h1 =>
    dsimp only [StI, tl] at *
    exact .non (stand_same rfl rfl rfl) rfl rfl
  | holds1 _ t n l c hl1 hc h1 => exact .non (stand_put h0 ht hl rfl rfl) rfl rfl
  | holds2 _ t n l hl1 h1 =>
    obtain ⟨l', e1, e2⟩ := st
    rw [hl1] at e1; cases e1
    have e : n = l.length := by omega
    subst e
    exact .done t l rfl hl1 (stand_same rfl rfl rfl) rfl rfl
  | wrote _ t n l c hl1 hc =>
    obtain ⟨l', c', e1, e2, e3⟩ := st
    rw [hl1] at e1; cases e1
    rw [hc] at e2; cases e2
    exact .put t n l c rfl hl1 hc (stand_last (s := .holds t (n + 1)) (s' := .wrote t n) (r := ⟨r.head, r.tail + 1, r.places⟩) (r' := r) h0 rfl rfl rfl (by dsimp only [tl] at ht ⊢; exact ht) e3) rfl rfl
  | _ => cases hk
theorem tl_head (r : Row) (s : W) (h : Int) : tl ⟨h, r.tail, r.places⟩ s = tl r s := by cases s <;> rfl
/-- what a step at another one's row does -/
theorem trB_abs {b : LL} {m w x : Nat} {r r' rw_ : Row} {s s' so : W} {e : Option Evt} (tr : Tr b m w x r s r' s' e) (hk : isK s = true) (Rw : RowI b rw_ s) (Ro : RowI b r so) (Th : ThI m r so s) :
    stand rw_ s' = stand rw_ s ∧ heldW s = none ∧ ((e = none ∧ r' = r ∧ heldW s' = none ∧ s' ≠ .rests) ∨ (e = some (.rests w) ∧ r' = r ∧ heldW s' = none ∧ s' = .rests ∧ stand rw_ s = []) ∨ ∃ t, e = some (.taken w x t) ∧ stand r so = t :: stand r' so ∧ heldW s' = some (t, 0) ∧ s' ≠ .rests) := by
  cases tr with
  | looks k => exact ⟨stand_same rfl rfl rfl, rfl, .inl ⟨rfl, rfl, rfl, by simp⟩⟩
  | seen1 _ k h h1 => exact ⟨stand_same rfl rfl rfl, rfl, .inl ⟨rfl, rfl, rfl, by simp⟩⟩
  | seen2 _ k h h1 h2 => exact ⟨stand_same rfl rfl rfl, rfl, .inl ⟨rfl, rfl, rfl, by simp⟩⟩
  | seen3 _ k h h1 h2 => exact ⟨stand_same rfl rfl rfl, rfl, .inr (.inl ⟨rfl, rfl, rfl, rfl, stand_nil (by have := Rw.st; dsimp only [StI, tl] at *; omega)⟩)⟩
  | reads _ k h t h1 => exact ⟨stand_same rfl rfl rfl, rfl, .inl ⟨rfl, rfl, rfl, by simp⟩⟩
  | tries1 _ k h t h1 =>
    obtain ⟨k1, k2, k3, k4, k5⟩ := Th
    obtain ⟨k6, k7⟩ := k5 h1
    exact ⟨stand_same rfl rfl rfl, rfl, .inr (.inr ⟨t, rfl, stand_first (r' := ⟨r.head + 1, r.tail, r.places⟩) Ro.h0 rfl rfl (tl_head r so (r.head + 1)) (by omega) (by rw [h1]; exact k7), rfl, by simp⟩)⟩
  | tries2 _ k h t h1 => exact ⟨stand_same rfl rfl rfl, rfl, .inl ⟨rfl, rfl, rfl, by simp⟩⟩
  | _ => cases hk
theorem rests_eq {s : W} {z : Bool} (h : decide (s = .rests) = z) : (decide (s = .rests)) = z := h
/-- a step's event, done upon the plain rows of the yard -/
theorem step_go {b : LL} {y y' : Yard} {w : Nat} {e : Option Evt} (I : CI b y) (S : Stp b y w y' e) : goPs b (absY y) e.toList = some (absY y') := by
  obtain ⟨hw, hs, hm, x, r', s', hx, rfl, tr, ha, hb⟩ := S
  have hws : w < y.states.length := by rw [I.len]; exact hw
  have hR : ∀ v, (Yard.mk (y.rows.set x r') (y.states.set w s')).R v = if v = x then r' else y.R v := fun v => R_set y x v r' _ hx
  have hS : ∀ v, (Yard.mk (y.rows.set x r') (y.states.set w s')).S v = if v = w then s' else y.S v := fun v => S_set y w v s' _ hws
  have hl : (y.rows.set x r').length = y.rows.length := by simp
  have z0 : (absY y).Z w = false := by rw [absY_Z hw]; exact decide_eq_false hs
  have hH : (absY y).H w = heldW (y.S w) := absY_H hw
  have hl0 : w < (absY y).rows.length := by rw [absY_len]; exact hw
  have hrest : ∀ z, decide (s' = .rests) = z → (absY ⟨y.rows.set x r', y.states.set w s'⟩).rests = (absY y).rests.set w z := fun z hz => by
    unfold absY; dsimp only; rw [hl]
    exact rng_set (fun v _ hv => by rw [hS, if_neg hv]) (fun _ => by rw [hS, if_pos rfl]; exact hz)
  have hhold : ∀ h, heldW s' = h → (absY ⟨y.rows.set x r', y.states.set w s'⟩).holds = (absY y).holds.set w h := fun z hz => by
    unfold absY; dsimp only; rw [hl]
    exact rng_set (fun v _ hv => by rw [hS, if_neg hv]) (fun _ => by rw [hS, if_pos rfl]; exact hz)
  have same_rest : decide (s' = .rests) = false → (absY ⟨y.rows.set x r', y.states.set w s'⟩).rests = (absY y).rests := fun hz => by
    unfold absY; dsimp only; rw [hl]
    exact rng_eq fun v hv => by
      rw [hS]
      by_cases e : v = w
      · rw [if_pos e, e, hz, decide_eq_false hs]
      · rw [if_neg e]
  have same_hold : heldW s' = heldW (y.S w) → (absY ⟨y.rows.set x r', y.states.set w s'⟩).holds = (absY y).holds := fun hz => by
    unfold absY; dsimp only; rw [hl]
    exact rng_eq fun v hv => by
      rw [hS]
      by_cases e : v = w
      · rw [if_pos e, e, hz]
      · rw [if_neg e]
  have mkPl : ∀ (p q : Pl), p.rows = q.rows → p.holds = q.holds → p.rests = q.rests → p = q := fun p q h1 h2 h3 => by cases p; cases q; cases h1; cases h2; cases h3; rfl
  by_cases hk : isK (y.S w) = false
  · have hxw := ha hk
    subst hxw
    have O := trA_abs tr (I.own x hw) hk
    have hRw : (absY y).R x = stand (y.R x) (y.S x) := absY_R hw
    have hrows : ∀ l, stand r' s' = l → (absY ⟨y.rows.set x r', y.states.set x s'⟩).rows = (absY y).rows.set x l := fun l hz => by
      unfold absY; dsimp only; rw [hl]
      exact rng_set (fun v _ hv => by rw [hR, hS, if_neg hv, if_neg hv]) (fun _ => by rw [hR, hS, if_pos rfl, if_pos rfl]; exact hz)
    have same_rows : stand r' s' = stand (y.R x) (y.S x) → (absY ⟨y.rows.set x r', y.states.set x s'⟩).rows = (absY y).rows := fun hz => by
      unfold absY; dsimp only; rw [hl]
      exact rng_eq fun v hv => by
        rw [hR, hS]
        by_cases e : v = x
        · rw [if_pos e, if_pos e, e, hz]
        · rw [if_neg e, if_neg e]
    cases O with
    | non h1 h2 h3 => exact congrArg some (mkPl _ _ (same_rows h1).symm (same_hold h2).symm (same_rest h3).symm)
    | own t h1 h2 h3 h4 =>
      show (goP b (absY y) (.own x t)).bind _ = _
      unfold goP; dsimp only
      rw [if_pos ⟨hl0, z0, by rw [hH, h1], by rw [hRw, h2, List.getLast?_concat]⟩, Option.bind_some]
      refine congrArg some (mkPl _ _ ?_ (hhold _ h3).symm (same_rest h4).symm)
      rw [hRw, h2, List.dropLast_concat]
      exact (hrows _ rfl).symm
    | put p n l c h1 h2 h3 h4 h5 h6 =>
      show (goP b (absY y) (.put x c)).bind _ = _
      unfold goP; dsimp only
      rw [if_pos ⟨hl0, z0⟩, hH, h1, Option.bind_some, h2, Option.bind_some, if_pos h3, Option.bind_some]
      refine congrArg some (mkPl _ _ ?_ (hhold _ h5).symm (same_rest h6).symm)
      rw [hRw]
      exact (hrows _ h4).symm
    | done t l h1 h2 h3 h4 h5 =>
      show (goP b (absY y) (.done x t)).bind _ = _
      unfold goP; dsimp only
      rw [if_pos ⟨hl0, z0⟩, hH, h1, Option.bind_some, h2, Option.bind_some, if_pos ⟨rfl, rfl⟩, Option.bind_some]
      exact congrArg some (mkPl _ _ (same_rows h3).symm (hhold _ h4).symm (same_rest h5).symm)
    | rests h1 h2 h3 h4 h5 =>
      show (goP b (absY y) (.rests x)).bind _ = _
      unfold goP; dsimp only
      rw [if_pos ⟨hl0, z0, by rw [hH, h1], by rw [hRw, h2]⟩, Option.bind_some]
      exact congrArg some (mkPl _ _ (same_rows (by rw [h2, h3])).symm (same_hold (by rw [h4, h1])).symm (hrest _ h5).symm)
  · have hk' : isK (y.S w) = true := by simpa using hk
    obtain ⟨hxo, hne⟩ := hb hk'
    have Th := I.th w hw
    rw [← hxo] at Th
    obtain ⟨b1, b2, b3⟩ := trB_abs tr hk' (I.own w hw) (I.own x hx) Th
    have rowsx : ∀ l, stand r' (y.S x) = l → (absY ⟨y.rows.set x r', y.states.set w s'⟩).rows = (absY y).rows.set x l := fun l hz => by
      unfold absY; dsimp only; rw [hl]
      refine rng_set (fun v _ hv => ?_) (fun _ => by rw [hR, hS, if_pos rfl, if_neg hne]; exact hz)
      rw [hR, hS, if_neg hv]
      by_cases e : v = w
      · rw [if_pos e, e, b1]
      · rw [if_neg e]
    have same_rows : r' = y.R x → (absY ⟨y.rows.set x r', y.states.set w s'⟩).rows = (absY y).rows := fun hz => by
      unfold absY; dsimp only; rw [hl]
      exact rng_eq fun v hv => by
        rw [hR, hS]
        by_cases e : v = x
        · have e' : ¬ v = w := fun z => hne (by rw [← e, z])
          rw [if_pos e, if_neg e', hz, e]
        · rw [if_neg e]
          by_cases e2 : v = w
          · rw [if_pos e2, e2, b1]
          · rw [if_neg e2]
    rcases b3 with ⟨rfl, c1, c2, c3⟩ | ⟨rfl, c1, c2, c3, c4⟩ | ⟨t, rfl, c1, c2, c3⟩
    · exact congrArg some (mkPl _ _ (same_rows c1).symm (same_hold (by rw [c2, b2])).symm (same_rest (decide_eq_false c3)).symm)
    · show (goP b (absY y) (.rests w)).bind _ = _
      unfold goP; dsimp only
      rw [if_pos ⟨hl0, z0, by rw [hH, b2], by rw [absY_R hw, c4]⟩, Option.bind_some]
      exact congrArg some (mkPl _ _ (same_rows c1).symm (same_hold (by rw [c2, b2])).symm (hrest _ (decide_eq_true c3)).symm)
    · show (goP b (absY y) (.taken w x t)).bind _ = _
      unfold goP; dsimp only
      rw [if_pos ⟨hl0, z0, by rw [hH, b2], by rw [absY_len]; exact hx, hne, by rw [absY_R hx, c1]; rfl⟩, Option.bind_some]
      refine congrArg some (mkPl _ _ ?_ (hhold _ c2).symm (same_rest (decide_eq_false c3)).symm)
      rw [absY_R hx, c1, List.tail_cons]
      exact (rowsx _ rfl).symm
/-- all events of a weaving -/
theorem run_go {b : LL} : ∀ (ws : List Nat) {n : Nat} {y : Yard} (G : Gd n b y) (hw : ∀ w ∈ ws, w < y.rows.length), goPs b (absY y) (runY b y ws).2 = some (absY (runY b y ws).1)
  | [], n, y, G, _ => rfl
  | w :: ws, n, y, G, hw => by
    obtain ⟨G1, h1, h2⟩ := G.next (hw w List.mem_cons_self)
    have h3 := run_go ws G1 (fun v hv => by rw [h1]; exact hw v (List.mem_cons_of_mem _ hv))
    rw [runY_cons, goPs_app]
    have h4 : goPs b (absY y) (nextY b y w).2 = some (absY (nextY b y w).1) := by
      rcases h2 with ⟨_, e⟩ | ⟨_, q, _, e, S⟩
      · rw [e]; rfl
      · rw [e]; exact step_go G.ci S
    rw [h4, Option.bind_some, h3]
/-- the plain rows at first -/
def pl0 (s : LL) : Pl := ⟨s, s.map fun _ => none, s.map fun _ => false⟩
theorem absY_start (s : LL) : absY (yard0 s) = pl0 s := by
  have hl : (yard0 s).rows.length = s.length := by unfold yard0; simp
  have hr : ∀ w, w < s.length → (yard0 s).R w = ⟨0, ((s[w]?).getD []).length, (s[w]?).getD []⟩ ∧ (yard0 s).S w = .free := fun w hw => by
    unfold Yard.R Yard.S yard0
    dsimp only
    rw [List.getElem?_map, List.getElem?_map, List.getElem?_eq_getElem hw]
    exact ⟨rfl, rfl⟩
  have ext : ∀ {α : Type} (f : Nat → α) (l : List α), l.length = s.length → (∀ w, w < s.length → l[w]? = some (f w)) → (List.range s.length).map f = l := fun f l h1 h2 => by
    apply List.ext_getElem?
    intro v
    by_cases hv : v < s.length
    · rw [rng_get hv, h2 v hv]
    · rw [rng_none hv, List.getElem?_eq_none (by omega)]
  unfold absY pl0
  rw [hl]
  rw [ext (fun w => stand ((yard0 s).R w) ((yard0 s).S w)) s rfl (fun w hw => by
      rw [(hr w hw).1, (hr w hw).2, List.getElem?_eq_getElem hw]
      unfold stand
      simp [tl]),
    ext (fun w => heldW ((yard0 s).S w)) (s.map fun _ => none) (by simp) (fun w hw => by rw [(hr w hw).2, List.getElem?_map, List.getElem?_eq_getElem hw]; rfl),
    ext (fun w => decide ((yard0 s).S w = .rests)) (s.map fun _ => false) (by simp) (fun w hw => by rw [(hr w hw).2, List.getElem?_map, List.getElem?_eq_getElem hw]; rfl)]
end Pu

set_option Elab.async false
set_option linter.all false
set_option maxRecDepth 100000
set_option maxHeartbeats 4000000
set_option autoImplicit false
/-! Saf: each task is taken at most once, counted. -/
namespace Pu
open PySem

def takes : List Evt → List Nat
  | [] => []
  | .own _ t :: es => t :: takes es
  | .taken _ _ t :: es => t :: takes es
  | _ :: es => takes es
def dones : List Evt → List Nat
  | [] => []
  | .done _ t :: es => t :: dones es
  | _ :: es => dones es
def puts : List Evt → List Nat
  | [] => []
  | .put _ t :: es => t :: puts es
  | _ :: es => puts es
theorem takes_app : ∀ a b : List Evt, takes (a ++ b) = takes a ++ takes b
  | [], _ => rfl
  | e :: a, b => by cases e <;> simp [takes, takes_app a b]
theorem dones_app : ∀ a b : List Evt, dones (a ++ b) = dones a ++ dones b
  | [], _ => rfl
  | e :: a, b => by cases e <;> simp [dones, dones_app a b]
theorem puts_app : ∀ a b : List Evt, puts (a ++ b) = puts a ++ puts b
  | [], _ => rfl
  | e :: a, b => by cases e <;> simp [puts, puts_app a b]
def br (b : LL) (t : Nat) : List Nat := (b[t]?).getD []
theorem br_of {b : LL} {t : Nat} {l : List Nat} (h : b[t]? = some l) : br b t = l := by unfold br; rw [h]; rfl
/-- what a held task counts -/
def hT (g : Nat → Nat) : Option (Nat × Nat) → Nat
  | none => 0
  | some h => g h.1
def hB (b : LL) (x : Nat) : Option (Nat × Nat) → Nat
  | none => 0
  | some h => ((br b h.1).take h.2).count x
structure Saf (b s : LL) (es : List Evt) (p : Pl) : Prop where
  lh : p.holds.length = p.rows.length
  lr : p.rests.length = p.rows.length
  ls : p.rows.length = s.length
  A : ∀ x, (takes es).count x + (p.rows.map (List.count x)).sum = s.flatten.count x + (puts es).count x
  B : ∀ x, (takes es).count x = (dones es).count x + (p.holds.map (hT fun t => if t = x then 1 else 0)).sum
  C : ∀ x, (puts es).count x = ((dones es).map fun d => (br b d).count x).sum + (p.holds.map (hB b x)).sum
theorem sum_set {α : Type} (f : α → Nat) : ∀ (l : List α) (i : Nat) (a c : α), l[i]? = some a → ((l.set i c).map f).sum + f a = (l.map f).sum + f c
  | [], i, a, c, h => by simp at h
  | x :: l, 0, a, c, h => by
    simp at h; subst h
    simp [List.sum_cons]; omega
  | x :: l, i + 1, a, c, h => by
    have z := sum_set f l i a c (by simpa using h)
    rw [List.set_cons_succ, List.map_cons, List.sum_cons, List.map_cons, List.sum_cons]; omega
theorem Saf.start (b s : LL) : Saf b s [] (pl0 s) := by
  have z0 : ∀ (f : Option (Nat × Nat) → Nat), f none = 0 → (((s.map fun _ => none).map f).sum) = 0 := fun f h => by
    rw [List.map_map]
    induction s with
    | nil => rfl
    | cons a s ih => rw [List.map_cons, List.sum_cons, ih]; show f none + 0 = 0; rw [h]
  refine ⟨by unfold pl0; simp, by unfold pl0; simp, rfl, fun x => ?_, fun x => ?_, fun x => ?_⟩
  · show 0 + (s.map (List.count x)).sum = _ + 0
    rw [List.count_flatten]; omega
  · show 0 = 0 + ((s.map fun _ => none).map _).sum
    rw [z0 _ rfl]
  · show 0 = 0 + ((s.map fun _ => none).map _).sum
    rw [z0 _ rfl]
theorem get_of {α : Type} {l : List α} {i : Nat} {d : α} (h : i < l.length) : l[i]? = some ((l[i]?).getD d) := by
  rw [List.getElem?_eq_getElem h]; rfl
theorem snoc_of {l : List Nat} {t : Nat} (h : l.getLast? = some t) : l = l.dropLast ++ [t] := by
  have hn : l ≠ [] := fun e => by rw [e] at h; cases h
  rw [List.getLast?_eq_some_getLast hn] at h
  have e : l.getLast hn = t := Option.some.inj h
  rw [← e, List.dropLast_concat_getLast]
theorem Saf.go {b s : LL} {es : List Evt} {p q : Pl} {e : Evt} (S : Saf b s es p) (h : goP b p e = some q) : Saf b s (es ++ [e]) q := by
  obtain ⟨lh, lr, ls, A, B, C⟩ := S
  have hr : ∀ w, w < p.rows.length → p.rows[w]? = some (p.R w) := fun w hw => get_of hw
  have hh : ∀ w, w < p.rows.length → p.holds[w]? = some (p.H w) := fun w hw => get_of (by omega)
  cases e with
  | own w t =>
    unfold goP at h; dsimp only at h
    split at h
    · rename_i c
      obtain ⟨hw, _, h1, h2⟩ := c
      cases h
      have e1 : p.R w = (p.R w).dropLast ++ [t] := snoc_of h2
      refine ⟨by simp [lh], by simp [lr], by simpa using ls, fun x => ?_, fun x => ?_, fun x => ?_⟩
      · have z := sum_set (List.count x) p.rows w _ (p.R w).dropLast (hr w hw)
        have z2 : (p.R w).count x = (p.R w).dropLast.count x + [t].count x := by rw [← List.count_append, ← e1]
        have := A x
        rw [takes_app, puts_app, List.count_append, List.count_append]
        simp only [takes, puts, List.count_nil]
        omega
      · have z := sum_set (hT fun t => if t = x then 1 else 0) p.holds w _ (some (t, 0)) (hh w hw)
        have := B x
        rw [h1] at z
        rw [takes_app, dones_app, List.count_append, List.count_append]
        simp only [takes, dones, List.count_nil, hT] at z ⊢
        have z3 : [t].count x = if t = x then 1 else 0 := by simp [List.count_cons]
        omega
      · have z := sum_set (hB b x) p.holds w _ (some (t, 0)) (hh w hw)
        have := C x
        rw [h1] at z
        rw [puts_app, dones_app, List.count_append, List.map_append, List.sum_append_nat]
        simp only [puts, dones, List.count_nil, hB, List.take_zero, List.map_nil, List.sum_nil] at z ⊢
        omega
    · cases h
  | taken w o t =>
    unfold goP at h; dsimp only at h
    split at h
    · rename_i c
      obtain ⟨hw, _, h1, ho, _, h2⟩ := c
      cases h
      have e1 : p.R o = t :: (p.R o).tail := by
        cases hz : p.R o with
        | nil => rw [hz] at h2; cases h2
        | cons a l => rw [hz] at h2; cases h2; rfl
      refine ⟨by simp [lh], by simp [lr], by simpa using ls, fun x => ?_, fun x => ?_, fun x => ?_⟩
      · have z := sum_set (List.count x) p.rows o _ (p.R o).tail (hr o ho)
        have z2 : (p.R o).count x = [t].count x + (p.R o).tail.count x := by rw [← List.count_append]; rw [List.singleton_append, ← e1]
        have := A x
        rw [takes_app, puts_app, List.count_append, List.count_append]
        simp only [takes, puts, List.count_nil]
        omega
      · have z := sum_set (hT fun t => if t = x then 1 else 0) p.holds w _ (some (t, 0)) (hh w hw)
        have := B x
        rw [h1] at z
        rw [takes_app, dones_app, List.count_append, List.count_append]
        simp only [takes, dones, List.count_nil, hT] at z ⊢
        have z3 : [t].count x = if t = x then 1 else 0 := by simp [List.count_cons]
        omega
      · have z := sum_set (hB b x) p.holds w _ (some (t, 0)) (hh w hw)
        have := C x
        rw [h1] at z
        rw [puts_app, dones_app, List.count_append, List.map_append, List.sum_append_nat]
        simp only [puts, dones, List.count_nil, hB, List.take_zero, List.map_nil, List.sum_nil] at z ⊢
        omega
    · cases h
  | put w t =>
    unfold goP at h; dsimp only at h
    split at h
    · rename_i c
      obtain ⟨hw, _⟩ := c
      obtain ⟨g, h1, h⟩ := bind_some h
      obtain ⟨l, h2, h⟩ := bind_some h
      split at h
      · rename_i h3
        cases h
        have hb := br_of h2
        refine ⟨by simp [lh], by simp [lr], by simpa using ls, fun x => ?_, fun x => ?_, fun x => ?_⟩
        · have z := sum_set (List.count x) p.rows w _ (p.R w ++ [t]) (hr w hw)
          rw [List.count_append] at z
          have := A x
          rw [takes_app, puts_app, List.count_append, List.count_append]
          simp only [takes, puts, List.count_nil]
          omega
        · have z := sum_set (hT fun t => if t = x then 1 else 0) p.holds w _ (some (g.1, g.2 + 1)) (hh w hw)
          have := B x
          rw [h1] at z
          rw [takes_app, dones_app, List.count_append, List.count_append]
          simp only [takes, dones, List.count_nil, hT] at z ⊢
          omega
        · have z := sum_set (hB b x) p.holds w _ (some (g.1, g.2 + 1)) (hh w hw)
          have := C x
          rw [h1] at z
          rw [puts_app, dones_app, List.count_append, List.map_append, List.sum_append_nat]
          simp only [puts, dones, List.count_nil, hB, List.map_nil, List.sum_nil] at z ⊢
          rw [hb, List.take_add_one, h3, List.count_append] at z
          have z4 : (some t).toList = [t] := rfl
          rw [z4] at z
          omega
      · cases h
    · cases h
  | done w t =>
    unfold goP at h; dsimp only at h
    split at h
    · rename_i c
      obtain ⟨hw, _⟩ := c
      obtain ⟨g, h1, h⟩ := bind_some h
      obtain ⟨l, h2, h⟩ := bind_some h
      split at h
      · rename_i h3
        obtain ⟨h3, h4⟩ := h3
        cases h
        have hb := br_of h2
        refine ⟨by simp [lh], by simp [lr], by simpa using ls, fun x => ?_, fun x => ?_, fun x => ?_⟩
        · have := A x
          rw [takes_app, puts_app, List.count_append, List.count_append]
          simp only [takes, puts, List.count_nil]
          omega
        · have z := sum_set (hT fun t => if t = x then 1 else 0) p.holds w _ none (hh w hw)
          have := B x
          rw [h1] at z
          rw [takes_app, dones_app, List.count_append, List.count_append]
          simp only [takes, dones, List.count_nil, hT] at z ⊢
          have z3 : [t].count x = if t = x then 1 else 0 := by simp [List.count_cons]
          rw [h3] at z
          omega
        · have z := sum_set (hB b x) p.holds w _ none (hh w hw)
          have := C x
          rw [h1] at z
          rw [puts_app, dones_app, List.count_append, List.map_append, List.sum_append_nat]
          simp only [puts, dones, List.count_nil, hB, List.map_nil, List.sum_nil, List.map_cons, List.sum_cons] at z ⊢
          rw [h4, hb, List.take_length, ← hb, h3] at z
          omega
      · cases h
    · cases h
  | rests w =>
    unfold goP at h; dsimp only at h
    split at h
    · cases h
      refine ⟨lh, by simpa using lr, ls, fun x => ?_, fun x => ?_, fun x => ?_⟩
      · have := A x
        rw [takes_app, puts_app, List.count_append, List.count_append]
        simp only [takes, puts, List.count_nil]
        omega
      · have := B x
        rw [takes_app, dones_app, List.count_append, List.count_append]
        simp only [takes, dones, List.count_nil]
        omega
      · have := C x
        rw [puts_app, dones_app, List.count_append, List.map_append, List.sum_append_nat]
        simp only [puts, dones, List.count_nil, List.map_nil, List.sum_nil]
        omega
    · cases h
theorem Saf.gos {b s : LL} : ∀ (fs : List Evt) {es : List Evt} {p q : Pl} (S : Saf b s es p) (h : goPs b p fs = some q), Saf b s (es ++ fs) q
  | [], es, p, q, S, h => by cases h; rw [List.append_nil]; exact S
  | f :: fs, es, p, q, S, h => by
    obtain ⟨r, h1, h2⟩ := bind_some h
    have z := Saf.gos fs (S.go h1) h2
    rw [List.append_assoc] at z
    exact z
/-! ### counting -/
theorem sum_zero (g : Nat → Nat) (t : Nat) : ∀ n, t < n → ((List.range n).map fun p => if p = t then 0 else g p).sum + g t = ((List.range n).map g).sum
  | 0, h => absurd h (Nat.not_lt_zero _)
  | n + 1, h => by
    rw [List.range_succ, List.map_append, List.map_append, List.sum_append_nat, List.sum_append_nat]
    simp only [List.map_cons, List.map_nil, List.sum_cons, List.sum_nil]
    by_cases e : n = t
    · subst e
      have e2 : ((List.range n).map fun p => if p = n then 0 else g p) = (List.range n).map g := List.map_congr_left fun p hp => by
        have := List.mem_range.mp hp
        rw [if_neg (by omega)]
      rw [e2, if_pos rfl]; omega
    · have z := sum_zero g t n (by omega)
      rw [if_neg e]; omega
theorem sum_le_range : ∀ (T : List Nat) (n : Nat) (g : Nat → Nat), (∀ p, 0 < g p → T.count p ≤ 1 ∧ p < n) → (T.map g).sum ≤ ((List.range n).map g).sum
  | [], n, g, _ => Nat.zero_le _
  | t :: T, n, g, h => by
    rw [List.map_cons, List.sum_cons]
    by_cases h0 : g t = 0
    · have z := sum_le_range T n g fun p hp => ⟨by have := (h p hp).1; rw [List.count_cons] at this; omega, (h p hp).2⟩
      omega
    · have hp := h t (by omega)
      rw [List.count_cons_self] at hp
      have hnt : t ∉ T := fun m => by have := List.count_pos_iff.mpr m; omega
      have e : (T.map fun p => if p = t then 0 else g p) = T.map g := List.map_congr_left fun p hm => by
        rw [if_neg (fun (e : p = t) => hnt (by rw [← e]; exact hm))]
      have z := sum_le_range T n (fun p => if p = t then 0 else g p) fun p hp => by
        by_cases e : p = t
        · rw [if_pos e] at hp; omega
        · rw [if_neg e] at hp
          have := h p hp
          rw [List.count_cons] at this
          exact ⟨by omega, this.2⟩
      rw [e] at z
      have z2 := sum_zero g t n hp.2
      omega
theorem brs (b : LL) : (List.range b.length).map (br b) = b := by
  apply List.ext_getElem?
  intro i
  by_cases h : i < b.length
  · rw [rng_get h]
    unfold br
    rw [List.getElem?_eq_getElem h]; rfl
  · rw [rng_none h, List.getElem?_eq_none (by omega)]
theorem count_brs (b : LL) (x : Nat) : ((List.range b.length).map fun p => (br b p).count x).sum = b.flatten.count x := by
  rw [List.count_flatten]
  have e : ((List.range b.length).map fun p => (br b p).count x) = ((List.range b.length).map (br b)).map (List.count x) := by rw [List.map_map]; rfl
  rw [e, brs]
theorem sum_mono {α : Type} {f g : α → Nat} : ∀ (l : List α), (∀ a ∈ l, f a ≤ g a) → (l.map f).sum ≤ (l.map g).sum
  | [], _ => Nat.le_refl _
  | a :: l, h => by
    rw [List.map_cons, List.map_cons, List.sum_cons, List.sum_cons]
    have := h a List.mem_cons_self
    have := sum_mono l fun c hc => h c (List.mem_cons_of_mem _ hc)
    omega
/-- the tasks held, as a list -/
def heldT : List (Option (Nat × Nat)) → List Nat
  | [] => []
  | none :: l => heldT l
  | some h :: l => h.1 :: heldT l
theorem heldT_sum (g : Nat → Nat) : ∀ l : List (Option (Nat × Nat)), (l.map (hT g)).sum = ((heldT l).map g).sum
  | [] => rfl
  | none :: l => by
    rw [List.map_cons, List.sum_cons, heldT_sum g l]
    show 0 + _ = _
    rw [Nat.zero_add]; rfl
  | some h :: l => by
    rw [List.map_cons, List.sum_cons, heldT_sum g l]; rfl
theorem count_one (x : Nat) : ∀ l : List Nat, (l.map fun t => if t = x then 1 else 0).sum = l.count x
  | [] => rfl
  | t :: l => by
    rw [List.map_cons, List.sum_cons, count_one x l, List.count_cons]
    by_cases e : t = x
    · rw [if_pos e, if_pos (by simpa using e)]; omega
    · rw [if_neg e, if_neg (by simpa using e)]; omega
theorem Saf.perm {b s : LL} {es : List Evt} {p : Pl} (S : Saf b s es p) : (takes es).Perm (dones es ++ heldT p.holds) := List.perm_iff_count.mpr fun x => by
  rw [List.count_append, S.B x, heldT_sum, count_one]
theorem Saf.puts_le {b s : LL} {es : List Evt} {p : Pl} (S : Saf b s es p) (x : Nat) : (puts es).count x ≤ ((takes es).map fun t => (br b t).count x).sum := by
  rw [(S.perm.map _).sum_nat, List.map_append, List.sum_append_nat, S.C x, ← heldT_sum]
  have := sum_mono (f := hB b x) (g := hT fun t => (br b t).count x) p.holds fun a _ => by
    cases a with
    | none => exact Nat.le_refl _
    | some h => exact List.Sublist.count_le _ (List.take_sublist _ _)
  omega
theorem br_in {b : LL} (hb : ∀ (p : Nat) (l : List Nat) (c : Nat), b[p]? = some l → c ∈ l → p < c ∧ c < b.length) {p x : Nat} (h : 0 < (br b p).count x) : p < x ∧ x < b.length ∧ p < b.length := by
  have m := List.count_pos_iff.mp h
  unfold br at m
  cases e : b[p]? with
  | none => rw [e] at m; cases m
  | some l =>
    rw [e] at m
    have := hb p l x e m
    have := (List.getElem?_eq_some_iff.mp e).1
    omega
/-- each task is taken at most once -/
theorem Saf.once {b s : LL} {es : List Evt} {p : Pl} (S : Saf b s es p) (P : PlanOk 200 b s) : ∀ x, (takes es).count x ≤ 1 := by
  intro x
  induction x using Nat.strongRecOn with
  | _ x ih =>
    have h1 := S.A x
    have h2 := S.puts_le x
    have h3 := sum_le_range (takes es) b.length (fun t => (br b t).count x) fun q hq => by
      have := br_in P.inb hq
      exact ⟨ih q this.1, this.2.2⟩
    rw [count_brs] at h3
    have h4 := List.nodup_iff_count.mp P.nd x
    rw [List.count_append] at h4
    omega
theorem Saf.put1 {b s : LL} {es : List Evt} {p : Pl} (S : Saf b s es p) (P : PlanOk 200 b s) : ∀ x, (puts es).count x ≤ 1 := fun x => by
  have h2 := S.puts_le x
  have h3 := sum_le_range (takes es) b.length (fun t => (br b t).count x) fun q hq => ⟨S.once P q, (br_in P.inb hq).2.2⟩
  rw [count_brs] at h3
  have h4 := List.nodup_iff_count.mp P.nd x
  rw [List.count_append] at h4
  omega
theorem sum_pos {α : Type} {f : α → Nat} : ∀ {l : List α}, 0 < (l.map f).sum → ∃ a ∈ l, 0 < f a
  | [], h => absurd h (Nat.lt_irrefl _)
  | a :: l, h => by
    rw [List.map_cons, List.sum_cons] at h
    by_cases z : 0 < f a
    · exact ⟨a, List.mem_cons_self, z⟩
    · obtain ⟨c, m, q⟩ := sum_pos (l := l) (f := f) (by omega)
      exact ⟨c, List.mem_cons_of_mem _ m, q⟩
theorem Saf.put_in {b s : LL} {es : List Evt} {p : Pl} (S : Saf b s es p) (P : PlanOk 200 b s) {x : Nat} (h : x ∈ puts es) : x < b.length := by
  have h1 := List.count_pos_iff.mpr h
  have h2 := S.puts_le x
  obtain ⟨t, _, h3⟩ := sum_pos (f := fun t => (br b t).count x) (l := takes es) (by omega)
  exact (br_in P.inb h3).2.1
theorem Saf.take_in {b s : LL} {es : List Evt} {p : Pl} (S : Saf b s es p) (P : PlanOk 200 b s) {x : Nat} (h : x ∈ takes es) : x < b.length := by
  have h1 := List.count_pos_iff.mpr h
  have h2 := S.A x
  by_cases h3 : 0 < s.flatten.count x
  · obtain ⟨q, l, e, m⟩ := mem_flat (List.count_pos_iff.mp h3)
    exact P.ins q l x e m
  · exact S.put_in P (List.count_pos_iff.mp (by omega))
theorem Saf.lens {b s : LL} {es : List Evt} {p : Pl} (S : Saf b s es p) (P : PlanOk 200 b s) : (takes es).length ≤ b.length ∧ (puts es).length ≤ b.length := by
  have z1 := List.Nodup.length_le_of_subset (List.nodup_iff_count.mpr (S.once P)) (l₂ := List.range b.length) fun x hx => List.mem_range.mpr (S.take_in P hx)
  have z2 := List.Nodup.length_le_of_subset (List.nodup_iff_count.mpr (S.put1 P)) (l₂ := List.range b.length) fun x hx => List.mem_range.mpr (S.put_in P hx)
  rw [List.length_range] at z1 z2
  exact ⟨z1, z2⟩
/-- a yard that was come to, with the events on the way -/
structure Rch (n : Nat) (b s : LL) (y : Yard) (es : List Evt) : Prop where
  gd : Gd n b y
  ml : y.rows.length = s.length
  go : goPs b (pl0 s) es = some (absY y)
theorem Rch.start {b s : LL} (P : PlanOk 200 b s) : Rch 200 b s (yard0 s) [] := ⟨Gd.start P, by unfold yard0; simp, by rw [absY_start]; rfl⟩
theorem Rch.run {n : Nat} {b s : LL} {y : Yard} {es : List Evt} (R : Rch n b s y es) {ws : List Nat} (hw : ∀ w ∈ ws, w < s.length) : Rch (n + ws.length) b s (runY b y ws).1 (es ++ (runY b y ws).2) := by
  have hw' : ∀ w ∈ ws, w < y.rows.length := fun w h => by rw [R.ml]; exact hw w h
  obtain ⟨G, h1, _⟩ := Gd.run ws R.gd hw'
  refine ⟨G, h1.trans R.ml, ?_⟩
  rw [goPs_app, R.go, Option.bind_some, run_go ws R.gd hw']
theorem Rch.saf {n : Nat} {b s : LL} {y : Yard} {es : List Evt} (R : Rch n b s y es) : Saf b s es (absY y) := by
  have z := Saf.gos es (Saf.start b s) R.go
  rw [List.nil_append] at z
  exact z
end Pu

set_option Elab.async false
set_option linter.all false
set_option maxRecDepth 100000
set_option maxHeartbeats 4000000
set_option autoImplicit false
/-! Psi: how long it takes till all rest. -/
namespace Pu
open PySem

def phi (m : Nat) (s : W) (hd : Int) : Int := match s with
  | .free => 2 * m + 4
  | .lowered => 2 * m + 3
  | .last _ => 2 * m + 2
  | .mends _ none => 2 * m + 1
  | .mends _ (some _) => 2 * m + 7
  | .holds _ _ => 2 * m + 6
  | .wrote _ _ => 2 * m + 5
  | .rests => 0
  | .looks k => 2 * (m - k) + 2
  | .seen k h => 2 * (m - k) + 1 + (if hd = h then 0 else 4)
  | .reads k h => 2 * (m - k) + (if hd = h then 0 else 4)
  | .tries k h _ => 2 * (m - k) - 1 + (if hd = h then 0 else 4)
def gain (m : Nat) : Option Evt → Int
  | some (.own _ _) => 2 * m + 6
  | some (.taken _ _ _) => 2 * m + 6
  | some (.put _ _) => 2
  | _ => 0
theorem phi_4 (m : Nat) (s : W) (a c : Int) : phi m s a ≤ phi m s c + 4 := by
  cases s with
  | mends t x => cases x <;> (dsimp only [phi]; omega)
  | _ => dsimp only [phi] <;> (try split) <;> (try split) <;> omega
theorem gain_0 (m : Nat) (e : Option Evt) : 0 ≤ gain m e := by
  cases e with
  | none => exact Int.le_refl _
  | some e => cases e <;> (dsimp only [gain]; omega)
def hdO (y : Yard) (w : Nat) : Int := (y.R (otherOf w (kOfW (y.S w)) y.rows.length)).head
/-- the head of the row, and the state, of a step -/
theorem tr_phi {b : LL} {m w x : Nat} {r r' : Row} {s s' : W} {e : Option Evt} (tr : Tr b m w x r s r' s' e) (hm : 1 ≤ m) (Th : isK s = true → 1 ≤ kOfW s ∧ kOfW s < (m : Int)) :
    (gain m e < 8 → r'.head = r.head) ∧ (∀ hd hd', (isK s = true → hd = r.head) → (isK s' = true → kOfW s' = kOfW s → hd' = r'.head) → (isK s = false → isK s' = true → kOfW s' = 1) → phi m s' hd' + 1 ≤ phi m s hd + gain m e) := by
  cases tr with
  | free => exact ⟨fun _ => rfl, fun hd hd' _ _ _ => by dsimp only [phi, gain]; omega⟩
  | look1 _ t h1 h2 => exact ⟨fun _ => rfl, fun hd hd' _ _ _ => by dsimp only [phi, gain]; omega⟩
  | look2 _ h1 => exact ⟨fun _ => rfl, fun hd hd' _ _ _ => by dsimp only [phi, gain]; omega⟩
  | look3 _ h1 => exact ⟨fun _ => rfl, fun hd hd' _ _ _ => by dsimp only [phi, gain]; omega⟩
  | last1 _ h t h1 h2 => exact ⟨fun z => by dsimp only [gain] at z; omega, fun hd hd' _ _ _ => by dsimp only [phi, gain]; omega⟩
  | last2 _ h h1 => exact ⟨fun _ => rfl, fun hd hd' _ _ _ => by dsimp only [phi, gain]; omega⟩
  | mend1 _ t c => exact ⟨fun _ => rfl, fun hd hd' _ _ _ => by dsimp only [phi, gain]; omega⟩
  | mend2 _ t h1 => exact ⟨fun _ => rfl, fun hd hd' _ _ _ => by dsimp only [phi, gain]; omega⟩
  | mend3 _ t h1 => exact ⟨fun _ => rfl, fun hd hd' _ _ _ => by dsimp only [phi, gain]; omega⟩
  | looks k => exact ⟨fun _ => rfl, fun hd hd' h1 h2 _ => by
      have e := h2 rfl rfl
      dsimp only [phi, gain]; rw [e, if_pos rfl]; omega⟩
  | seen1 _ k h h1 => exact ⟨fun _ => rfl, fun hd hd' h1 h2 _ => by
      have e := h2 rfl rfl
      have e1 := h1 rfl
      dsimp only [phi, gain]; rw [e, e1]; split <;> omega⟩
  | seen2 _ k h h1 h2 => exact ⟨fun _ => rfl, fun hd hd' _ _ _ => by dsimp only [phi, gain]; split <;> omega⟩
  | seen3 _ k h h1 h2 =>
    have t := Th rfl
    dsimp only [kOfW] at t
    exact ⟨fun _ => rfl, fun hd hd' _ _ _ => by dsimp only [phi, gain]; split <;> omega⟩
  | reads _ k h t h1 => exact ⟨fun _ => rfl, fun hd hd' h1 h2 _ => by
      have e := h2 rfl rfl
      have e1 := h1 rfl
      dsimp only [phi, gain]; rw [e, e1]; split <;> omega⟩
  | tries1 _ k h t h1 =>
    have t := Th rfl
    dsimp only [kOfW] at t
    exact ⟨fun z => by dsimp only [gain] at z; omega, fun hd hd' _ _ _ => by dsimp only [phi, gain]; split <;> omega⟩
  | tries2 _ k h t h1 => exact ⟨fun _ => rfl, fun hd hd' h2 _ _ => by
      have e := h2 rfl
      dsimp only [phi, gain]; rw [e, if_neg h1]; omega⟩
  | holds1 _ t n l c hl1 hc h1 => exact ⟨fun _ => rfl, fun hd hd' _ _ _ => by dsimp only [phi, gain]; omega⟩
  | holds2 _ t n l hl1 h1 => exact ⟨fun _ => rfl, fun hd hd' _ _ _ => by dsimp only [phi, gain]; omega⟩
  | wrote _ t n l c hl1 hc => exact ⟨fun _ => rfl, fun hd hd' _ _ _ => by dsimp only [phi, gain]; omega⟩
theorem k1_of {b : LL} {m w x : Nat} {r r' : Row} {s s' : W} {e : Option Evt} (tr : Tr b m w x r s r' s' e) : isK s = false → isK s' = true → kOfW s' = 1 := by
  cases tr <;> intro h1 h2 <;> first | rfl | (exact Bool.noConfusion h1) | (exact Bool.noConfusion h2)
theorem psi_step {b : LL} {y y' : Yard} {v : Nat} {e : Option Evt} (I : CI b y) (S : Stp b y v y' e) : (∀ w, w < y.rows.length → phi y.rows.length (y'.S w) (hdO y' w) ≤ phi y.rows.length (y.S w) (hdO y w) + gain y.rows.length e) ∧ phi y.rows.length (y'.S v) (hdO y' v) + 1 ≤ phi y.rows.length (y.S v) (hdO y v) + gain y.rows.length e := by
  obtain ⟨hv, hs, hm, x, r', s', hx, rfl, tr, ha, hb⟩ := S
  have hvs : v < y.states.length := by rw [I.len]; exact hv
  have hR : ∀ u, (Yard.mk (y.rows.set x r') (y.states.set v s')).R u = if u = x then r' else y.R u := fun u => R_set y x u r' _ hx
  have hS : ∀ u, (Yard.mk (y.rows.set x r') (y.states.set v s')).S u = if u = v then s' else y.S u := fun u => S_set y v u s' _ hvs
  obtain ⟨t1, t2⟩ := tr_phi tr I.m1 (fun hk => (I.th v hv).k hk)
  have me : phi y.rows.length s' (hdO ⟨y.rows.set x r', y.states.set v s'⟩ v) + 1 ≤ phi y.rows.length (y.S v) (hdO y v) + gain y.rows.length e := by
    refine t2 _ _ (fun hk => ?_) (fun hk' hkk => ?_) (k1_of tr)
    · unfold hdO
      rw [← (hb hk).1]
    · unfold hdO
      rw [hm, hS, if_pos rfl, hR]
      by_cases hk : isK (y.S v) = true
      · rw [hkk, ← (hb hk).1, if_pos rfl]
      · have hk0 : isK (y.S v) = false := by simpa using hk
        have e1 := k1_of tr hk0 hk'
        rw [hkk] at e1
        exfalso
        cases hz : y.S v <;> rw [hz] at e1 hk0 <;> first | (exact Bool.noConfusion hk0) | (dsimp only [kOfW] at e1; omega)
  refine ⟨fun w hw => ?_, by rw [hS, if_pos rfl]; exact me⟩
  rw [hS]
  by_cases e1 : w = v
  · rw [if_pos e1, e1]; omega
  · rw [if_neg e1]
    by_cases g : gain y.rows.length e < 8
    · have hh : hdO ⟨y.rows.set x r', y.states.set v s'⟩ w = hdO y w := by
        unfold hdO
        rw [hm, hS, if_neg e1, hR]
        by_cases e2 : otherOf w (kOfW (y.S w)) y.rows.length = x
        · rw [if_pos e2, e2, t1 g]
        · rw [if_neg e2]
      rw [hh]
      have := gain_0 y.rows.length e
      omega
    · have := phi_4 y.rows.length (y.S w) (hdO ⟨y.rows.set x r', y.states.set v s'⟩ w) (hdO y w)
      omega
theorem phi_pos {b : LL} {y : Yard} (I : CI b y) {w : Nat} (hw : w < y.rows.length) (h : y.S w ≠ .rests) : 1 ≤ phi y.rows.length (y.S w) (hdO y w) := by
  have T := I.th w hw
  have m1 := I.m1
  cases hs : y.S w with
  | rests => exact absurd hs h
  | mends t x => cases x <;> (dsimp only [phi]; omega)
  | looks k => rw [hs] at T; obtain ⟨a, c⟩ := T; dsimp only [phi]; omega
  | seen k h => rw [hs] at T; obtain ⟨a, c, _⟩ := T; dsimp only [phi]; split <;> omega
  | reads k h => rw [hs] at T; obtain ⟨a, c, _⟩ := T; dsimp only [phi]; split <;> omega
  | tries k h t => rw [hs] at T; obtain ⟨a, c, _⟩ := T; dsimp only [phi]; split <;> omega
  | _ => dsimp only [phi]; omega
theorem phi_max {b : LL} {y : Yard} (I : CI b y) {w : Nat} (hw : w < y.rows.length) : phi y.rows.length (y.S w) (hdO y w) ≤ 2 * y.rows.length + 7 := by
  have T := I.th w hw
  cases hs : y.S w with
  | mends t x => cases x <;> (dsimp only [phi]; omega)
  | looks k => rw [hs] at T; obtain ⟨a, c⟩ := T; dsimp only [phi]; omega
  | seen k h => rw [hs] at T; obtain ⟨a, c, _⟩ := T; dsimp only [phi]; split <;> omega
  | reads k h => rw [hs] at T; obtain ⟨a, c, _⟩ := T; dsimp only [phi]; split <;> omega
  | tries k h t => rw [hs] at T; obtain ⟨a, c, _⟩ := T; dsimp only [phi]; split <;> omega
  | _ => dsimp only [phi]; omega
/-- what is left to worker w -/
def Psi (b : LL) (y : Yard) (es : List Evt) (w : Nat) : Int := phi y.rows.length (y.S w) (hdO y w) + ((2 * y.rows.length + 6 : Nat) : Int) * ((b.length : Int) - (takes es).length) + 2 * ((b.length : Int) - (puts es).length)
theorem gain_of (m : Nat) (o : Option Evt) : gain m o = ((2 * m + 6 : Nat) : Int) * ((takes o.toList).length : Int) + 2 * ((puts o.toList).length : Int) := by
  cases o with
  | none => simp [gain, takes, puts]
  | some e => cases e <;> simp [gain, takes, puts]
theorem psi_next {n : Nat} {b s : LL} {y : Yard} {es : List Evt} (R : Rch n b s y es) {v : Nat} (hv : v < s.length) :
    (∀ w, w < s.length → Psi b (nextY b y v).1 (es ++ (nextY b y v).2) w ≤ Psi b y es w) ∧ (∀ w, w < s.length → y.S w = .rests → (nextY b y v).1.S w = .rests) ∧ (y.S v = .rests ∨ Psi b (nextY b y v).1 (es ++ (nextY b y v).2) v + 1 ≤ Psi b y es v) := by
  obtain ⟨G1, h1, h2⟩ := R.gd.next (w := v) (by rw [R.ml]; exact hv)
  rcases h2 with ⟨h0, e⟩ | ⟨h0, q, hq, e, S⟩
  · rw [e, List.append_nil]
    exact ⟨fun w _ => Int.le_refl _, fun w _ h => h, .inl h0⟩
  · rw [e]
    dsimp only
    obtain ⟨p1, p2⟩ := psi_step R.gd.ci S
    have ex : ∀ w, Psi b q.1 (es ++ q.2.toList) w = phi y.rows.length (q.1.S w) (hdO q.1 w) + ((2 * y.rows.length + 6 : Nat) : Int) * ((b.length : Int) - (takes es).length) + 2 * ((b.length : Int) - (puts es).length) - gain y.rows.length q.2 := fun w => by
      unfold Psi
      rw [S.m', gain_of, takes_app, puts_app, List.length_append, List.length_append]
      simp only [Int.natCast_add, Int.mul_sub, Int.mul_add]
      omega
    refine ⟨fun w hw => ?_, fun w hw h => ?_, .inr ?_⟩
    · rw [ex]
      have := p1 w (by rw [R.ml]; exact hw)
      unfold Psi
      omega
    · obtain ⟨x, r', s', hx, eq, tr, _, _⟩ := S.ex
      have hvs : v < y.states.length := by rw [R.gd.ci.len, R.ml]; exact hv
      rw [eq, S_set y v w s' _ hvs]
      by_cases e : w = v
      · rw [e] at h; exact absurd h h0
      · rw [if_neg e]; exact h
    · rw [ex]
      unfold Psi
      omega
theorem psi_run {b s : LL} : ∀ (ws : List Nat) {n : Nat} {y : Yard} {es : List Evt} (R : Rch n b s y es) (hw : ∀ w ∈ ws, w < s.length),
    (∀ w, w < s.length → Psi b (runY b y ws).1 (es ++ (runY b y ws).2) w ≤ Psi b y es w) ∧ (∀ w, w < s.length → y.S w = .rests → (runY b y ws).1.S w = .rests) ∧ (∀ w, w ∈ ws → (runY b y ws).1.S w = .rests ∨ Psi b (runY b y ws).1 (es ++ (runY b y ws).2) w + 1 ≤ Psi b y es w)
  | [], n, y, es, R, _ => by
    rw [runY_nil, List.append_nil]
    exact ⟨fun _ _ => Int.le_refl _, fun _ _ h => h, fun w h => by cases h⟩
  | v :: ws, n, y, es, R, hw => by
    have hv := hw v List.mem_cons_self
    obtain ⟨a1, a2, a3⟩ := psi_next R hv
    have R1 : Rch (n + 1) b s (nextY b y v).1 (es ++ (nextY b y v).2) := by
      have z := R.run (ws := [v]) (fun w h => by rw [List.mem_singleton.mp h]; exact hv)
      rw [runY_cons, runY_nil, List.append_nil] at z
      exact z
    obtain ⟨c1, c2, c3⟩ := psi_run ws R1 (fun w h => hw w (List.mem_cons_of_mem _ h))
    rw [runY_cons, ← List.append_assoc]
    refine ⟨fun w h => Int.le_trans (c1 w h) (a1 w h), fun w h z => c2 w h (a2 w h z), fun w h => ?_⟩
    rcases List.mem_cons.mp h with rfl | h
    · rcases a3 with z | z
      · exact .inl (c2 w hv (a2 w hv z))
      · exact .inr (by have := c1 w hv; dsimp only; omega)
    · rcases c3 w h with z | z
      · exact .inl z
      · exact .inr (by have := a1 w (hw w (List.mem_cons_of_mem _ h)); dsimp only; omega)
theorem psi_pos {n : Nat} {b s : LL} {y : Yard} {es : List Evt} (R : Rch n b s y es) (P : PlanOk 200 b s) {w : Nat} (hw : w < s.length) (h : y.S w ≠ .rests) : 1 ≤ Psi b y es w := by
  have z := phi_pos R.gd.ci (by rw [R.ml]; exact hw) h
  obtain ⟨l1, l2⟩ := R.saf.lens P
  have z2 : (0 : Int) ≤ ((2 * y.rows.length + 6 : Nat) : Int) * ((b.length : Int) - (takes es).length) := Int.mul_nonneg (by omega) (by omega)
  unfold Psi
  omega
theorem psi_max {n : Nat} {b s : LL} {y : Yard} {es : List Evt} (R : Rch n b s y es) (P : PlanOk 200 b s) {w : Nat} (hw : w < s.length) : Psi b y es w ≤ ((2 * s.length + 7 + (2 * s.length + 6) * b.length + 2 * b.length : Nat) : Int) := by
  have z := phi_max R.gd.ci (w := w) (by rw [R.ml]; exact hw)
  have z2 : ((2 * y.rows.length + 6 : Nat) : Int) * ((b.length : Int) - (takes es).length) ≤ ((2 * y.rows.length + 6 : Nat) : Int) * (b.length : Int) := Int.mul_le_mul_of_nonneg_left (by omega) (by omega)
  rw [← Int.natCast_mul] at z2
  unfold Psi
  rw [R.ml] at z z2 ⊢
  generalize (2 * s.length + 6) * b.length = X at z2 ⊢
  generalize ((2 * s.length + 6 : Nat) : Int) * ((b.length : Int) - (takes es).length) = Y at z2 ⊢
  omega
theorem over_iff {y : Yard} (hl : y.states.length = y.rows.length) : overY y = true ↔ ∀ w, w < y.rows.length → y.S w = .rests := by
  unfold overY
  rw [List.all_eq_true]
  constructor
  · intro h w hw
    have hw' : w < y.states.length := by omega
    have z := h _ (List.mem_of_getElem? (Yard.S_get hw'))
    exact of_decide_eq_true z
  · intro h x hx
    obtain ⟨w, hw⟩ := List.mem_iff_getElem?.mp hx
    have hw' := (List.getElem?_eq_some_iff.mp hw).1
    have := h w (by omega)
    rw [Yard.S_of hw] at this
    exact decide_eq_true this
/-- turns over and over, till all rest -/
def finT (b : LL) (ws : List Nat) : Nat → Yard → Option (Yard × List Evt)
  | 0, _ => none
  | k + 1, y => if overY y = true then some (y, []) else (finT b ws k (runY b y ws).1).map fun r => (r.1, (runY b y ws).2 ++ r.2)
theorem finR_T {b : LL} : ∀ (k : Nat) {n : Nat} {y : Yard} (G : Gd n b y), finR b k y = finT b (List.range y.rows.length) k y
  | 0, n, y, G => rfl
  | k + 1, n, y, G => by
    unfold finR finT
    obtain ⟨G1, h1, _⟩ := Gd.run (List.range y.rows.length) G (fun w h => List.mem_range.mp h)
    have z := finR_T k G1
    rw [h1] at z
    unfold roundY
    rw [z]
theorem finT_ends {b s : LL} (P : PlanOk 200 b s) {ws : List Nat} (hw : ∀ w ∈ ws, w < s.length) (ha : ∀ w, w < s.length → w ∈ ws) : ∀ (k : Nat) {n : Nat} {y : Yard} {es : List Evt} (R : Rch n b s y es), (∀ w, w < s.length → y.S w = .rests ∨ Psi b y es w ≤ (k : Int)) →
    ∃ r, finT b ws (k + 1) y = some r ∧ overY r.1 = true ∧ Rch (n + ws.length * k) b s r.1 (es ++ r.2)
  | 0, n, y, es, R, h => by
    have ho : overY y = true := (over_iff R.gd.ci.len).mpr fun w hw' => by
      rw [R.ml] at hw'
      rcases h w hw' with z | z
      · exact z
      · by_cases e : y.S w = .rests
        · exact e
        · have := psi_pos R P hw' e
          omega
    refine ⟨(y, []), by unfold finT; rw [if_pos ho], ho, ?_⟩
    rw [List.append_nil]
    exact ⟨R.gd.mono (by omega), R.ml, R.go⟩
  | k + 1, n, y, es, R, h => by
    by_cases ho : overY y = true
    · refine ⟨(y, []), by unfold finT; rw [if_pos ho], ho, ?_⟩
      rw [List.append_nil]
      exact ⟨R.gd.mono (by omega), R.ml, R.go⟩
    · obtain ⟨c1, c2, c3⟩ := psi_run ws R hw
      obtain ⟨r, e1, e2, e3⟩ := finT_ends P hw ha k (R.run hw) fun w hw' => by
        rcases c3 w (ha w hw') with z | z
        · exact .inl z
        · rcases h w hw' with z2 | z2
          · exact .inl (c2 w hw' z2)
          · exact .inr (by omega)
      refine ⟨(r.1, (runY b y ws).2 ++ r.2), ?_, e2, ?_⟩
      · rw [finT, if_neg ho, e1]; rfl
      · rw [← List.append_assoc]
        exact ⟨e3.gd.mono (by rw [Nat.mul_add]; omega), e3.ml, e3.go⟩
theorem finT_more {b : LL} {ws : List Nat} : ∀ (k j : Nat) {y : Yard} {r : Yard × List Evt}, finT b ws k y = some r → finT b ws (k + j) y = some r
  | 0, j, y, r, h => by cases h
  | k + 1, j, y, r, h => by
    have e : k + 1 + j = (k + j) + 1 := by omega
    rw [e]
    unfold finT at h ⊢
    by_cases ho : overY y = true
    · rw [if_pos ho] at h ⊢; exact h
    · rw [if_neg ho] at h ⊢
      cases hz : finT b ws k (runY b y ws).1 with
      | none => rw [hz] at h; cases h
      | some r' => rw [hz] at h; rw [finT_more k j hz]; exact h
end Pu

set_option Elab.async false
set_option linter.all false
set_option maxRecDepth 100000
set_option maxHeartbeats 4000000
set_option autoImplicit false
/-! Sh: data that may be compared with ==, and what == says. -/
namespace Pu
open PySem

mutual
theorem good_lay : ∀ (n : Nat) (d : D), good n d → PyData.canLay0 d = true ∧ d.depth ≤ n
  | 0, _, h => h.elim
  | n + 1, .tuple l, h => by
    obtain ⟨a, b⟩ := good_lays n l h.2
    refine ⟨by simpa [PyData.canLay0] using a, by simp only [PyData.depth]; omega⟩
  | n + 1, .list l, h => by
    obtain ⟨a, b⟩ := good_lays n l h.2
    refine ⟨by simpa [PyData.canLay0] using a, by simp only [PyData.depth]; omega⟩
  | n + 1, .int _, _ => ⟨rfl, by simp [PyData.depth]⟩
  | n + 1, .str x, h => by
    have h' : SeqAt.shaped (.str x) = true := h
    unfold SeqAt.shaped at h'
    rw [Bool.and_eq_true] at h'
    exact ⟨h'.1, by simp [PyData.depth]⟩
  | n + 1, .none, _ => ⟨rfl, by simp [PyData.depth]⟩
  | n + 1, .bool _, h => h.elim
  | n + 1, .dict _, h => h.elim
theorem good_lays : ∀ (n : Nat) (l : List D), (∀ x ∈ l, good n x) → PyData.canLayAll0 l = true ∧ PyData.depthAll l ≤ n
  | n, [], _ => ⟨rfl, by simp [PyData.depthAll]⟩
  | n, d :: l, h => by
    obtain ⟨a, b⟩ := good_lay n d (h d List.mem_cons_self)
    obtain ⟨a2, b2⟩ := good_lays n l fun x hx => h x (List.mem_cons_of_mem _ hx)
    refine ⟨by simp [PyData.canLayAll0, a, a2], by simp only [PyData.depthAll]; omega⟩
end
theorem good_sh {n : Nat} {d : D} (h : good n d) (hn : n ≤ 60) : SeqAt.shaped d = true := by
  obtain ⟨a, b⟩ := good_lay n d h
  unfold SeqAt.shaped
  rw [a, Bool.true_and]
  exact decide_eq_true (by omega)
theorem sh_bool (b : Bool) : SeqAt.shaped (.bool b) = true := by cases b <;> decide +kernel
mutual
def nb : D → Bool
  | .none => true
  | .int _ => true
  | .str _ => true
  | .bool _ => false
  | .dict _ => false
  | .list l => nbs l
  | .tuple l => nbs l
def nbs : List D → Bool
  | [] => true
  | d :: l => nb d && nbs l
end
mutual
theorem eqv_nb : ∀ (d e : D), nb d = true → nb e = true → (PyData.eqv d e = true ↔ d = e)
  | .none, e, _, h => by cases e <;> simp [PyData.eqv]
  | .int i, e, _, h => by
    cases e with
    | bool b => cases h
    | _ => simp [PyData.eqv]
  | .str x, e, _, h => by cases e <;> simp [PyData.eqv]
  | .bool b, _, h, _ => by cases h
  | .dict _, _, h, _ => by cases h
  | .list l, e, h, k => by
    cases e with
    | list m =>
      have z := eqv_nbs l m h k
      simp only [PyData.eqv, PyData.list.injEq]
      exact z
    | _ => simp [PyData.eqv]
  | .tuple l, e, h, k => by
    cases e with
    | tuple m =>
      have z := eqv_nbs l m h k
      simp only [PyData.eqv, PyData.tuple.injEq]
      exact z
    | _ => simp [PyData.eqv]
theorem eqv_nbs : ∀ (l m : List D), nbs l = true → nbs m = true → (PyData.eqvAll l m = true ↔ l = m)
  | [], [], _, _ => by simp [PyData.eqvAll]
  | [], _ :: _, _, _ => by simp [PyData.eqvAll]
  | _ :: _, [], _, _ => by simp [PyData.eqvAll]
  | d :: l, e :: m, h, k => by
    have h' : (nb d && nbs l) = true := h
    have k' : (nb e && nbs m) = true := k
    rw [Bool.and_eq_true] at h' k'
    have z1 := eqv_nb d e h'.1 k'.1
    have z2 := eqv_nbs l m h'.2 k'.2
    simp only [PyData.eqvAll, Bool.and_eq_true, z1, z2, List.cons.injEq]
end
mutual
theorem good_nb : ∀ (n : Nat) (d : D), good n d → nb d = true
  | 0, _, h => h.elim
  | n + 1, .tuple l, h => good_nbs n l h.2
  | n + 1, .list l, h => good_nbs n l h.2
  | n + 1, .int _, _ => rfl
  | n + 1, .str _, _ => rfl
  | n + 1, .none, _ => rfl
  | n + 1, .bool _, h => h.elim
  | n + 1, .dict _, h => h.elim
theorem good_nbs : ∀ (n : Nat) (l : List D), (∀ x ∈ l, good n x) → nbs l = true
  | n, [], _ => rfl
  | n, d :: l, h => by
    show (nb d && nbs l) = true
    rw [good_nb n d (h d List.mem_cons_self), good_nbs n l fun x hx => h x (List.mem_cons_of_mem _ hx)]; rfl
end
/-- == of good data -/
theorem oEq_g {n m : Nat} {d e : D} {k : Bool} (h1 : good n d) (h2 : good m e) (hn : n ≤ 60) (hm : m ≤ 60) (hk : k = true ↔ d = e) : oEq d e = some (.bool k) := by
  unfold oEq
  rw [if_pos ⟨good_sh h1 hn, good_sh h2 hm⟩]
  have z := eqv_nb d e (good_nb n d h1) (good_nb m e h2)
  congr 2
  cases hz : PyData.eqv d e <;> cases k <;> simp [hz] at z hk ⊢
  · exact z hk
  · exact hk z
theorem oNe_g {n m : Nat} {d e : D} {k : Bool} (h1 : good n d) (h2 : good m e) (hn : n ≤ 60) (hm : m ≤ 60) (hk : k = true ↔ d = e) : oNe d e = some (.bool (!k)) := by
  unfold oNe
  rw [if_pos ⟨good_sh h1 hn, good_sh h2 hm⟩]
  have z := eqv_nb d e (good_nb n d h1) (good_nb m e h2)
  congr 2
  cases hz : PyData.eqv d e <;> cases k <;> simp [hz] at z hk ⊢
  · exact z hk
  · exact hk z
theorem good_L (l : List Nat) (h : l.length ≤ 1000000) : good 2 (.list (encN l)) := good_N l h
theorem good_LL (b : LL) (h : b.length ≤ 1000000) (h2 : ∀ r ∈ b, r.length ≤ 1000000) : good 3 (encLL b) := ⟨by rw [List.length_map]; exact h, good_map fun r hr => good_L r (h2 r hr)⟩
theorem good_P (b s : LL) (h : b.length ≤ 1000000) (h2 : ∀ r ∈ b, r.length ≤ 1000000) (h3 : s.length ≤ 1000000) (h4 : ∀ r ∈ s, r.length ≤ 1000000) : good 4 (encP b s) := good_t (by simp) (all_cons (good_LL b h h2) (all_cons (good_LL s h3 h4) all_nil))
theorem good_Es (es : List Evt) (h : es.length ≤ 1000000) : good 4 (.list (es.map encE)) := ⟨by rw [List.length_map]; exact h, good_map fun e _ => good_E e⟩
theorem oNe_bools (a c : Bool) : oNe (.bool a) (.bool c) = some (.bool (a != c)) := by
  unfold oNe
  rw [if_pos ⟨sh_bool a, sh_bool c⟩]
  cases a <;> cases c <;> simp [PyData.eqv]
theorem encS_rests (s : W) : encS s = encS .rests ↔ s = .rests := by cases s <;> simp (config := {decide := true}) [encS]
theorem ne_rests (s : W) : oNe (encS s) (.tuple [.str "rests"]) = some (.bool (!decide (s = .rests))) :=
  oNe_g (good_S s) (good_S .rests) (by omega) (by omega) (by rw [decide_eq_true_iff]; exact (encS_rests s).symm)
theorem sl_rests {ds : Sl} : eTup (esCons (eC (.str "rests")) esNil) ds = some (.tuple [.str "rests"]) := q_tup (q_cons rfl rfl) (by simp)
theorem encN_nil (l : List Nat) : PyData.list (encN l) = .list [] ↔ l = [] := by
  constructor
  · intro h
    injection h with h
    cases l with
    | nil => rfl
    | cons a l => cases h
  · intro h; rw [h]; rfl
theorem encN_inj : ∀ {a b : List Nat}, encN a = encN b → a = b
  | [], [], _ => rfl
  | [], _ :: _, h => by cases h
  | _ :: _, [], h => by cases h
  | x :: a, y :: b, h => by
    unfold encN at h
    rw [List.map_cons, List.map_cons] at h
    injection h with h1 h2
    injection h1 with h1
    have := encN_inj (a := a) (b := b) h2
    rw [this]
    congr 1
    omega
/-! ### the laws' own goings by steps and by rounds -/
theorem runY_skip {b : LL} : ∀ (ws : List Nat) {n : Nat} {y : Yard} (G : Gd n b y) (hw : ∀ w ∈ ws, w < y.rows.length) (hd : ws.Nodup), runY b y ws = runY b y (ws.filter fun w => !decide (y.S w = .rests))
  | [], n, y, G, _, _ => rfl
  | w :: ws, n, y, G, hw, hd => by
    obtain ⟨h1, h2⟩ := List.nodup_cons.mp hd
    obtain ⟨G1, e1, e2⟩ := G.next (hw w List.mem_cons_self)
    have z := runY_skip ws G1 (fun v hv => by rw [e1]; exact hw v (List.mem_cons_of_mem _ hv)) h2
    rcases e2 with ⟨h0, e⟩ | ⟨h0, q, hq, e, S⟩
    · rw [List.filter_cons_of_neg (by simp [h0])]
      rw [e] at z
      rw [runY_cons, e]
      dsimp only at z ⊢
      rw [z, List.nil_append]
    · rw [List.filter_cons_of_pos (by simp [h0]), runY_cons, runY_cons, z]
      have ef : ws.filter (fun v => !decide ((nextY b y w).1.S v = .rests)) = ws.filter (fun v => !decide (y.S v = .rests)) := by
        refine List.filter_congr fun v hv => ?_
        obtain ⟨x, r', s', hx, eq, tr, _, _⟩ := S.ex
        rw [e]
        dsimp only
        rw [eq, S_set y w v s' _ (by rw [G.ci.len]; exact S.hw), if_neg (fun (z : v = w) => h1 (by rw [← z]; exact hv))]
      rw [ef]
theorem tail_ev {n : Nat} {b st : LL} {y : Yard} {w : Nat} (G : Gd n b y) (hn : n ≤ 900000) (hw : w < y.rows.length) (h : y.S w ≠ .rests) : ∃ e, M_stepped [encP b st, encY y, .int (w : Int)] = some (.tuple [encY (nextY b y w).1, encO e]) ∧ (nextY b y w).2 = e.toList := by
  obtain ⟨G1, e1, e2⟩ := G.next hw
  rcases e2 with ⟨h0, _⟩ | ⟨h0, q, hq, e, S⟩
  · exact absurd h0 h
  · refine ⟨q.2, ?_, by rw [e]⟩
    rw [e]
    exact stepped_ev hq G.ci.len (by have := G.bd.rows; unfold lim; omega) (fun r hr => by have := G.bd.places r hr; unfold lim; omega)
theorem nextY_len {n : Nat} {b : LL} {y : Yard} {w : Nat} (G : Gd n b y) (hw : w < y.rows.length) : (nextY b y w).2.length ≤ 1 := by
  have h := (Gd.run [w] G (fun v hv => by rw [List.mem_singleton.mp hv]; exact hw)).2.2
  rw [runY_cons, runY_nil, List.append_nil] at h
  exact h
/-- put the event, if there is one -/
theorem app_ev {i j : Nat} {O : List Nat} {ds : Sl} {d : D} {e : Option Evt} {es : List Evt} (h : ds[i]? = some (some (.tuple [d, encO e]))) (hm : (mkO O 0 ds)[i]? = some (some (.tuple [d, encO e]))) (hj : ds[j]? = some (some (.list (es.map encE)))) (he : es.length + 1 ≤ lim) :
    sIf (bT (eOp oIsntA (eOp oIx (eVar i) (eC (.int 1))) (eC .none))) (sAppO O j (eOp oIx (eVar i) (eC (.int 1)))) sNx ds = some (.nx (ds.set j (some (.list ((es ++ e.toList).map encE))))) := by
  have e1 : bT (eOp oIsntA (eOp oIx (eVar i) (eC (.int 1))) (eC .none)) ds = some (!isNon (encO e)) := by
    unfold bT
    rw [eOp_ev (eOp_ev (eVar_get h) rfl |>.trans oIx1) rfl]; rfl
  cases e with
  | none =>
    rw [q_iff (e1.trans (by rw [encO_non]; rfl))]
    simp only [Option.toList_none, List.append_nil]
    unfold sNx
    congr 2
    apply List.ext_getElem?
    intro k
    rw [List.getElem?_set]
    by_cases hk : j = k
    · subst hk
      rw [if_pos rfl, if_pos (List.getElem?_eq_some_iff.mp hj).1, hj]
    · rw [if_neg hk]
  | some v =>
    rw [q_ift (e1.trans (by rw [encO_non]; rfl))]
    unfold sAppO
    rw [eOp_ev (eVar_get hm) rfl, oIx1, Option.bind_some, hj]
    dsimp only
    rw [if_pos (by rw [List.length_map]; exact he)]
    simp [encO]
/-- k09's rounds -/
theorem rdloop {b st : LL} : ∀ (ws : List Nat) {n : Nat} {y : Yard} (es : List Evt) (G : Gd n b y) (x3 x4 x5 x6 : Option D), n + ws.length ≤ 900000 → es.length + ws.length ≤ 900000 → (∀ w ∈ ws, w < y.rows.length) → (∀ w ∈ ws, y.S w ≠ .rests) → ws.Nodup →
    ∃ x5' x6', loopD (gNameD 5) (sSeq (sSetO [2] 6 (eCall M_stepped (esCons (eVar 0) (esCons (eVar 1) (esCons (eVar 5) esNil))))) (sSeq (sSetO [2] 1 (eOp oIx (eVar 6) (eC (.int 0)))) (sIf (bT (eOp oIsntA (eOp oIx (eVar 6) (eC (.int 1))) (eC .none))) (sAppO [2] 2 (eOp oIx (eVar 6) (eC (.int 1)))) sNx))) (encN ws) [some (encP b st), some (encY y), some (.list (es.map encE)), x3, x4, x5, x6]
      = some (.nx [some (encP b st), some (encY (runY b y ws).1), some (.list ((es ++ (runY b y ws).2).map encE)), x3, x4, x5', x6'])
  | [], n, y, es, G, x3, x4, x5, x6, _, _, _, _, _ => ⟨x5, x6, by rw [runY_nil, List.append_nil]; rfl⟩
  | w :: ws, n, y, es, G, x3, x4, x5, x6, hn, he, hw, hr, hd => by
    rw [List.length_cons] at hn he
    have hw0 := hw w List.mem_cons_self
    obtain ⟨h1, h2⟩ := List.nodup_cons.mp hd
    obtain ⟨G1, e1, e2⟩ := G.next hw0
    obtain ⟨e, z1, z2⟩ := tail_ev (st := st) G (by omega) hw0 (hr w List.mem_cons_self)
    have hle := nextY_len G hw0
    have hS : ∀ v ∈ ws, (nextY b y w).1.S v ≠ .rests := fun v hv => by
      rcases e2 with ⟨_, e⟩ | ⟨h0, q, hq, e, S⟩
      · rw [e]; exact hr v (List.mem_cons_of_mem _ hv)
      · obtain ⟨x, r', s', hx, eq, tr, _, _⟩ := S.ex
        rw [e]
        dsimp only
        rw [eq, S_set y w v s' _ (by rw [G.ci.len]; exact S.hw), if_neg (fun (z : v = w) => h1 (by rw [← z]; exact hv))]
        exact hr v (List.mem_cons_of_mem _ hv)
    obtain ⟨x5', x6', z⟩ := rdloop ws (es ++ (nextY b y w).2) G1 x3 x4 (some (.int (w : Int))) (some (.tuple [encY (nextY b y w).1, encO e])) (by omega) (by rw [List.length_append]; omega) (fun v hv => by rw [e1]; exact hw v (List.mem_cons_of_mem _ hv)) hS h2
    refine ⟨x5', x6', ?_⟩
    have b1 : (sSeq (sSetO [2] 6 (eCall M_stepped (esCons (eVar 0) (esCons (eVar 1) (esCons (eVar 5) esNil))))) (sSeq (sSetO [2] 1 (eOp oIx (eVar 6) (eC (.int 0)))) (sIf (bT (eOp oIsntA (eOp oIx (eVar 6) (eC (.int 1))) (eC .none))) (sAppO [2] 2 (eOp oIx (eVar 6) (eC (.int 1)))) sNx))) [some (encP b st), some (encY y), some (.list (es.map encE)), x3, x4, some (.int (w : Int)), x6]
        = some (.nx [some (encP b st), some (encY (nextY b y w).1), some (.list ((es ++ (nextY b y w).2).map encE)), x3, x4, some (.int (w : Int)), some (.tuple [encY (nextY b y w).1, encO e])]) := by
      unfold sSetO
      rw [q_seqS (d := .tuple [encY (nextY b y w).1, encO e]) (by
        show eCall M_stepped (esCons (eVar 0) (esCons (eVar 1) (esCons (eVar 5) esNil))) [some (encP b st), some (encY y), none, x3, x4, some (.int (w : Int)), x6] = _
        rw [q_call (q_cons (eVar_get rfl) (q_cons (eVar_get rfl) (q_cons (eVar_get rfl) rfl))), z1])]
      dsimp only [List.set]
      rw [q_seqS (d := encY (nextY b y w).1) (by
        show eOp oIx (eVar 6) (eC (.int 0)) [some (encP b st), some (encY y), none, x3, x4, some (.int (w : Int)), some (.tuple [encY (nextY b y w).1, encO e])] = _
        rw [eOp_ev (eVar_get rfl) rfl, oIx0])]
      dsimp only [List.set]
      rw [app_ev (i := 6) (j := 2) (O := [2]) (es := es) (e := e) rfl rfl rfl (by unfold lim; omega), z2]
      rfl
    show ((sSeq (sSetO [2] 6 (eCall M_stepped (esCons (eVar 0) (esCons (eVar 1) (esCons (eVar 5) esNil))))) (sSeq (sSetO [2] 1 (eOp oIx (eVar 6) (eC (.int 0)))) (sIf (bT (eOp oIsntA (eOp oIx (eVar 6) (eC (.int 1))) (eC .none))) (sAppO [2] 2 (eOp oIx (eVar 6) (eC (.int 1)))) sNx))) [some (encP b st), some (encY y), some (.list (es.map encE)), x3, x4, some (.int (w : Int)), x6]).bind _ = _
    rw [b1, Option.bind_some]
    dsimp only
    unfold encN at z
    rw [z, runY_cons, List.append_assoc]
theorem busy_nil {y : Yard} (hl : y.states.length = y.rows.length) : overY y = decide ((List.range y.rows.length).filter (fun w => !decide (y.S w = .rests)) = []) := by
  by_cases h : overY y = true
  · rw [h]
    symm
    rw [decide_eq_true_iff, List.filter_eq_nil_iff]
    intro w hw
    have := (over_iff hl).mp h w (List.mem_range.mp hw)
    simp [this]
  · have h' : overY y = false := by simpa using h
    rw [h']
    symm
    rw [decide_eq_false_iff_not]
    intro e
    refine h ((over_iff hl).mpr fun w hw => ?_)
    rw [List.filter_eq_nil_iff] at e
    have := e w (List.mem_range.mpr hw)
    simpa using this
theorem lc_filter {α : Type} {i : Nat} {it : Sl → Option (List D)} {c : Sl → Option Bool} {e : Sl → Option D} {enc : α → D} {g : α → D} {q : α → Bool} {l : List α} {ds : Sl} (h0 : it ds = some (l.map enc)) (hl : l.length ≤ lim)
    (h : ∀ x ∈ l, c ((ds.set i none).set i (some (enc x))) = some (q x) ∧ e ((ds.set i none).set i (some (enc x))) = some (g x)) : eLc i it c e ds = some (.list ((l.filter q).map g)) := by
  have key : ∀ (l : List α), (∀ x ∈ l, c ((ds.set i none).set i (some (enc x))) = some (q x) ∧ e ((ds.set i none).set i (some (enc x))) = some (g x)) → lcD i c e (l.map enc) (ds.set i none) = some ((l.filter q).map g) := by
    intro l
    induction l with
    | nil => intro _; rfl
    | cons x l ih =>
      intro h
      have h1 := h x List.mem_cons_self
      have h2 := ih fun y hy => h y (List.mem_cons_of_mem _ hy)
      rw [List.map_cons]
      unfold lcD
      simp only [h1.1, h1.2, h2, Option.bind_some]
      cases hq : q x with
      | true => rw [if_pos rfl, List.filter_cons_of_pos hq, List.map_cons]
      | false => rw [if_neg Bool.false_ne_true, List.filter_cons_of_neg (by simp [hq])]
  unfold eLc
  simp only [h0, Option.bind_some, List.length_map, if_pos hl, key l h]
end Pu

set_option Elab.async false
set_option linter.all false
set_option maxRecDepth 100000
set_option maxHeartbeats 4000000
set_option autoImplicit false
/-! K9: the law's own going by rounds. -/
namespace Pu
open PySem

def F_rdBody : S := (sSeq (sSetO [2] 4 (eLc 5 (eRng (eCall oLen (esCons (eOp oIx (eVar 1) (eC (.int 1))) esNil))) (bT (eOp oNe (eOp oIx (eOp oIx (eVar 1) (eC (.int 1))) (eVar 5)) (eTup (esCons (eC (.str "rests")) esNil)))) (eVar 5))) (sSeq (sIf (bT (eOp oNe (eCall M_is_over (esCons (eVar 1) esNil)) (eOp oEq (eVar 4) (eLst esNil)))) (sRet (eC .none)) sNx) (sSeq (sIf (bT (eOp oEq (eVar 4) (eLst esNil))) (sRet (eTup (esCons (eVar 1) (esCons (eVar 2) esNil)))) sNx) (sForO [2] (eItems (eVar 4)) (gNameD 5) (sSeq (sSetO [2] 6 (eCall M_stepped (esCons (eVar 0) (esCons (eVar 1) (esCons (eVar 5) esNil))))) (sSeq (sSetO [2] 1 (eOp oIx (eVar 6) (eC (.int 0)))) (sIf (bT (eOp oIsntA (eOp oIx (eVar 6) (eC (.int 1))) (eC .none))) (sAppO [2] 2 (eOp oIx (eVar 6) (eC (.int 1)))) sNx)))))))
theorem good_nil : good 2 (.list []) := ⟨by simp, fun x hx => by cases hx⟩
theorem eqnil_ev {l : List Nat} {ds : Sl} {f : Sl → Option D} (h : f ds = some (.list (encN l))) (hl : l.length ≤ 1000000) : eOp oEq f (eLst esNil) ds = some (.bool (decide (l = []))) := by
  rw [eOp_ev h (q_lst rfl (by simp)), oEq_g (good_L l hl) good_nil (by omega) (by omega) (k := decide (l = [])) (by rw [decide_eq_true_iff]; exact (encN_nil l).symm)]
theorem bT_of {f : Sl → Option D} {ds : Sl} {k : Bool} (h : f ds = some (.bool k)) : bT f ds = some k := by unfold bT; rw [h]; rfl
theorem rdbody_ev {n : Nat} {b st : LL} {y : Yard} {es : List Evt} (G : Gd n b y) (hn : n + 12 ≤ 900000) (he : es.length + 12 ≤ 900000) (x3 x4 x5 x6 : Option D) :
    (overY y = true → F_rdBody [some (encP b st), some (encY y), some (.list (es.map encE)), x3, x4, x5, x6] = some (.rt (.tuple [encY y, .list (es.map encE)]))) ∧
    (overY y = false → ∃ x4' x5' x6', F_rdBody [some (encP b st), some (encY y), some (.list (es.map encE)), x3, x4, x5, x6] = some (.nx [some (encP b st), some (encY (roundY b y).1), some (.list ((es ++ (roundY b y).2).map encE)), x3, x4', x5', x6'])) := by
  have hl := G.ci.len
  have hb := G.bd.rows
  have hbl : ((List.range y.rows.length).filter fun w => !decide (y.S w = .rests)).length ≤ y.rows.length := by
    have := List.length_filter_le (fun w => !decide (y.S w = .rests)) (List.range y.rows.length)
    rw [List.length_range] at this
    exact this
  have e1 : eLc 5 (eRng (eCall oLen (esCons (eOp oIx (eVar 1) (eC (.int 1))) esNil))) (bT (eOp oNe (eOp oIx (eOp oIx (eVar 1) (eC (.int 1))) (eVar 5)) (eTup (esCons (eC (.str "rests")) esNil)))) (eVar 5) [some (encP b st), some (encY y), none, x3, x4, x5, x6] = some (.list (encN ((List.range y.rows.length).filter fun w => !decide (y.S w = .rests)))) := by
    have it : eRng (eCall oLen (esCons (eOp oIx (eVar 1) (eC (.int 1))) esNil)) [some (encP b st), some (encY y), none, x3, x4, x5, x6] = some ((List.range y.rows.length).map fun (w : Nat) => PyData.int (w : Int)) := by
      unfold eRng
      rw [lenS_ev (y := y) (eVar_get rfl), Option.bind_some]
      dsimp only
      rw [if_pos (by omega)]
      unfold rngD
      rw [Int.toNat_natCast, hl]
    exact lc_filter (q := fun w => !decide (y.S w = .rests)) (g := fun (w : Nat) => PyData.int (w : Int)) it (by rw [List.length_range]; unfold lim; omega) (fun w hw => ⟨bT_of (by
      rw [eOp_ev (st_ev (y := y) (w := w) (by have := List.mem_range.mp hw; omega) (eVar_get rfl) (eVar_get rfl)) sl_rests, ne_rests]), rfl⟩)
  have e2 : sSetO [2] 4 (eLc 5 (eRng (eCall oLen (esCons (eOp oIx (eVar 1) (eC (.int 1))) esNil))) (bT (eOp oNe (eOp oIx (eOp oIx (eVar 1) (eC (.int 1))) (eVar 5)) (eTup (esCons (eC (.str "rests")) esNil)))) (eVar 5)) [some (encP b st), some (encY y), some (.list (es.map encE)), x3, x4, x5, x6] = some (.nx [some (encP b st), some (encY y), some (.list (es.map encE)), x3, some (.list (encN ((List.range y.rows.length).filter fun w => !decide (y.S w = .rests)))), x5, x6]) := by
    unfold sSetO
    exact q_set e1
  have e3 : eOp oEq (eVar 4) (eLst esNil) [some (encP b st), some (encY y), some (.list (es.map encE)), x3, some (.list (encN ((List.range y.rows.length).filter fun w => !decide (y.S w = .rests)))), x5, x6] = some (.bool (overY y)) := by
    rw [eqnil_ev (eVar_get rfl) (by omega), busy_nil hl]
  have e4 : bT (eOp oNe (eCall M_is_over (esCons (eVar 1) esNil)) (eOp oEq (eVar 4) (eLst esNil))) [some (encP b st), some (encY y), some (.list (es.map encE)), x3, some (.list (encN ((List.range y.rows.length).filter fun w => !decide (y.S w = .rests)))), x5, x6] = some false := by
    refine bT_of ?_
    rw [eOp_ev (q_call (q_cons (eVar_get rfl) rfl) |>.trans (is_over_ev y (by unfold lim; omega))) e3, oNe_bools]
    simp
  unfold F_rdBody
  rw [q_seq e2, q_seq (q_iff e4 |>.trans rfl)]
  refine ⟨fun ho => ?_, fun ho => ?_⟩
  · rw [q_seqR (q_ift (bT_of e3 |>.trans (by rw [ho])) |>.trans (q_ret (q_tup (q_cons (eVar_get rfl) (q_cons (eVar_get rfl) rfl)) (by simp))))]
  · rw [q_seq (q_iff (bT_of e3 |>.trans (by rw [ho])) |>.trans rfl)]
    obtain ⟨x5', x6', z⟩ := rdloop (st := st) ((List.range y.rows.length).filter fun w => !decide (y.S w = .rests)) es G x3 (some (.list (encN ((List.range y.rows.length).filter fun w => !decide (y.S w = .rests))))) x5 x6 (by omega) (by omega) (fun w hw => List.mem_range.mp (List.mem_filter.mp hw).1) (fun w hw => by simpa using (List.mem_filter.mp hw).2) (List.nodup_range.sublist List.filter_sublist)
    rw [← runY_skip (List.range y.rows.length) G (fun w h => List.mem_range.mp h) List.nodup_range] at z
    refine ⟨some (.list (encN ((List.range y.rows.length).filter fun w => !decide (y.S w = .rests)))), x5', x6', ?_⟩
    unfold sForO
    have it : atO [2] (eItems (eVar 4)) [some (encP b st), some (encY y), some (.list (es.map encE)), x3, some (.list (encN ((List.range y.rows.length).filter fun w => !decide (y.S w = .rests)))), x5, x6] = some (encN ((List.range y.rows.length).filter fun w => !decide (y.S w = .rests))) := rfl
    rw [it, Option.bind_some]
    exact z
theorem roundY_len {n : Nat} {b : LL} {y : Yard} (G : Gd n b y) : Gd (n + 12) b (roundY b y).1 ∧ (roundY b y).2.length ≤ 12 := by
  obtain ⟨G1, h1, h2⟩ := Gd.run (List.range y.rows.length) G (fun w h => List.mem_range.mp h)
  rw [List.length_range] at G1 h2
  have := G.bd.rows
  exact ⟨G1.mono (by omega), Nat.le_trans h2 this⟩
theorem rounds_loop {b st : LL} : ∀ (k : Nat) {n : Nat} {y : Yard} (es : List Evt) (l : List D) (G : Gd n b y) (r : Yard × List Evt) (x3 x4 x5 x6 : Option D), finR b k y = some r → k ≤ l.length → n + 12 * k ≤ 900000 → es.length + 12 * k ≤ 900000 →
    loopD (gNameD 3) F_rdBody l [some (encP b st), some (encY y), some (.list (es.map encE)), x3, x4, x5, x6] = some (.rt (.tuple [encY r.1, .list ((es ++ r.2).map encE)]))
  | 0, n, y, es, l, G, r, x3, x4, x5, x6, h, _, _, _ => by cases h
  | k + 1, n, y, es, [], G, r, x3, x4, x5, x6, h, hk, hn, he => by simp at hk
  | k + 1, n, y, es, d :: l, G, r, x3, x4, x5, x6, h, hk, hn, he => by
    obtain ⟨c1, c2⟩ := rdbody_ev (st := st) (es := es) G (by omega) (by omega) (some d) x4 x5 x6
    have u : loopD (gNameD 3) F_rdBody (d :: l) [some (encP b st), some (encY y), some (.list (es.map encE)), x3, x4, x5, x6] = ((F_rdBody [some (encP b st), some (encY y), some (.list (es.map encE)), some d, x4, x5, x6]).bind fun o => match o with
      | .nx ds2 => loopD (gNameD 3) F_rdBody l ds2
      | .ct ds2 => loopD (gNameD 3) F_rdBody l ds2
      | .bk ds2 => some (.nx ds2)
      | .rt r => some (.rt r)) := rfl
    rw [u]
    unfold finR at h
    by_cases ho : overY y = true
    · rw [if_pos ho] at h
      cases h
      rw [c1 ho, Option.bind_some, List.append_nil]
    · rw [if_neg ho] at h
      have ho' : overY y = false := by simpa using ho
      cases hf : finR b k (roundY b y).1 with
      | none => rw [hf] at h; cases h
      | some r' =>
        rw [hf] at h
        cases h
        obtain ⟨x4', x5', x6', z⟩ := c2 ho'
        rw [z, Option.bind_some]
        obtain ⟨G1, hle⟩ := roundY_len G
        dsimp only
        rw [rounds_loop k (es ++ (roundY b y).2) l G1 r' (some d) x4' x5' x6' hf (by simpa using hk) (by omega) (by rw [List.length_append]; omega), List.append_assoc]
theorem by_rounds_ev {k n : Nat} {b st : LL} {y : Yard} {r : Yard × List Evt} (G : Gd n b y) (h : finR b k y = some r) (hk : k ≤ 1000) (hn : n + 12 * k ≤ 900000) :
    M_l_by_rounds [encP b st, encY y] = some (.tuple [encY r.1, .list (r.2.map encE)]) := by
  have hu : M_l_by_rounds [encP b st, encY y] = (F_l_by_rounds [some (encP b st), some (encY y), none, none, none, none, none]).bind endD := rfl
  rw [hu]
  have z := rounds_loop (st := st) k [] (rngD 1000) G r none none none none h (by rw [rngD_length]; exact hk) hn (by simp; omega)
  unfold F_l_by_rounds
  rw [q_seq (show sNewO 2 [some (encP b st), some (encY y), none, none, none, none, none] = some (.nx [some (encP b st), some (encY y), some (.list ([].map encE)), none, none, none, none]) from rfl)]
  have z2 : sForO [2] (eRng (eC (.int 1000))) (gNameD 3) F_rdBody [some (encP b st), some (encY y), some (.list ([].map encE)), none, none, none, none] = some (.rt (.tuple [encY r.1, .list (r.2.map encE)])) := by
    unfold sForO
    have it : atO [2] (eRng (eC (.int 1000))) [some (encP b st), some (encY y), some (.list ([].map encE)), none, none, none, none] = some (rngD 1000) := by
      unfold atO eRng eC
      rw [Option.bind_some]
      dsimp only
      rw [if_pos (by omega)]
    rw [it, Option.bind_some]
    exact z
  unfold F_rdBody at z2
  rw [q_seqR z2]
  rfl
/-- of a yard that was come to, the rounds end, soon -/
theorem rounds_end {n : Nat} {b s : LL} {y : Yard} {es : List Evt} (P : PlanOk 200 b s) (R : Rch n b s y es) : ∃ r, finR b (2 * s.length + 8 + (2 * s.length + 6) * b.length + 2 * b.length) y = some r ∧ overY r.1 = true ∧ Rch (n + 12 * (2 * s.length + 7 + (2 * s.length + 6) * b.length + 2 * b.length)) b s r.1 (es ++ r.2) := by
  obtain ⟨r, e1, e2, e3⟩ := finT_ends P (ws := List.range s.length) (fun w h => List.mem_range.mp h) (fun w h => List.mem_range.mpr h) (2 * s.length + 7 + (2 * s.length + 6) * b.length + 2 * b.length) R (fun w hw => .inr (psi_max R P hw))
  refine ⟨r, ?_, e2, ?_⟩
  · rw [finR_T _ R.gd, R.ml]
    have e : 2 * s.length + 8 + (2 * s.length + 6) * b.length + 2 * b.length = 2 * s.length + 7 + (2 * s.length + 6) * b.length + 2 * b.length + 1 := by omega
    rw [e]
    exact e1
  · rw [List.length_range] at e3
    have hm := P.m2
    refine ⟨e3.gd.mono ?_, e3.ml, e3.go⟩
    have := Nat.mul_le_mul_right (2 * s.length + 7 + (2 * s.length + 6) * b.length + 2 * b.length) hm
    omega
theorem finR_more {b : LL} : ∀ (k j : Nat) {y : Yard} {r : Yard × List Evt}, finR b k y = some r → finR b (k + j) y = some r
  | 0, j, y, r, h => by cases h
  | k + 1, j, y, r, h => by
    have e : k + 1 + j = (k + j) + 1 := by omega
    rw [e]
    unfold finR at h ⊢
    by_cases ho : overY y = true
    · rw [if_pos ho] at h ⊢; exact h
    · rw [if_neg ho] at h ⊢
      cases hz : finR b k (roundY b y).1 with
      | none => rw [hz] at h; cases h
      | some r' => rw [hz] at h; rw [finR_more k j hz]; exact h
theorem nx_call {O : List Nat} {j i : Nat} {F : List D → List D → Option (D × List D)} {g : Sl → Option (List D)} {ds : Sl} {o : Out} (h : sCallO O j i F g ds = some o) : ∃ ds', o = .nx ds' := by
  obtain ⟨args, e1, e2⟩ := bind_some h
  split at e2
  · obtain ⟨r, e3, e4⟩ := bind_some e2
    cases e4
    exact ⟨_, rfl⟩
  · cases e2
theorem nx_loop {G : D → Sl → Option Sl} {f : S} (hf : ∀ ds o, f ds = some o → ∃ ds', o = .nx ds') : ∀ (l : List D) {ds : Sl} {o : Out}, loopD G f l ds = some o → ∃ ds', o = .nx ds'
  | [], ds, o, h => by cases h; exact ⟨_, rfl⟩
  | d :: l, ds, o, h => by
    obtain ⟨ds1, e1, e2⟩ := bind_some h
    obtain ⟨o1, e3, e4⟩ := bind_some e2
    obtain ⟨ds2, rfl⟩ := hf _ _ e3
    exact nx_loop hf l e4
theorem nx_for {O : List Nat} {it : Sl → Option (List D)} {G : D → Sl → Option Sl} {f : S} (hf : ∀ ds o, f ds = some o → ∃ ds', o = .nx ds') {ds : Sl} {o : Out} (h : sForO O it G f ds = some o) : ∃ ds', o = .nx ds' := by
  obtain ⟨l, e1, e2⟩ := bind_some h
  exact nx_loop hf l e2
theorem nx_while {p : Sl → Option Bool} {f : S} (hf : ∀ ds o, f ds = some o → ∃ ds', o = .nx ds') : ∀ (n : Nat) {ds : Sl} {o : Out}, whileD p f n ds = some o → ∃ ds', o = .nx ds'
  | 0, ds, o, h => by cases h
  | n + 1, ds, o, h => by
    obtain ⟨b, e1, e2⟩ := bind_some h
    cases b with
    | false => rw [if_neg Bool.false_ne_true] at e2; cases e2; exact ⟨_, rfl⟩
    | true =>
      rw [if_pos rfl] at e2
      obtain ⟨o1, e3, e4⟩ := bind_some e2
      obtain ⟨ds2, rfl⟩ := hf _ _ e3
      exact nx_while hf n e4
theorem eVar_some {i : Nat} {ds : Sl} {d : D} (h : eVar i ds = some d) : ds[i]? = some (some d) := by
  unfold eVar at h
  cases e : ds[i]? with
  | none => rw [e] at h; cases h
  | some u => rw [e] at h; cases u with
    | none => cases h
    | some d' => cases h; rfl
/-- a pair of which the second is a new list -/
def spPair (n : Nat) (F : List D → Option D) : L2.Sp := fun vs H Q _ => vs.length = n ∧ ∃ (M : MS) (l : List D) (dy : D) (de : List D), Ok M H ∧ RpAll M H vs l ∧ F l = some (.tuple [dy, .list de]) ∧
  ∀ (p le : Addr) (vy : L2.V) (xs : List L2.V) (H' : L2.Hp), L2.Same H H' → H le = none → H p = none → H' p = some (.tup [vy, .ref le]) → H' le = some (.lst xs) → Rp (fun a => M a ∨ a = le) H' vy dy → RpAll (fun a => M a ∨ a = le) H' xs de → Q (.ref p) H'
end Pu

set_option Elab.async false
set_option linter.all false
set_option maxRecDepth 100000
set_option maxHeartbeats 4000000
set_option autoImplicit false
/-! Lw: the readings that the laws share. -/
namespace Pu
open PySem PySem.Spec PyProof.Rows L2

theorem SlD.nones {M : MS} {H : Hp} (σ : St) : SlD M H σ (List.replicate σ.length none) := ⟨by simp, fun i d g => by
  rw [List.getElem?_replicate] at g
  split at g <;> cases g⟩
section
variable {K : PySem.W.Frag} {E E2 E3 : XK} {σ : St} {H : Hp} {Q : VK}
theorem rd_int {i : Int} (q : ∀ H', Same H H' → Q (.int i) H') : tP (eC (.int i)) σ H Q := tp_int (Ok.none H) (SlD.nones σ) rfl q
theorem rd_part {i : Int} {Q : Option Int → Hp → Prop} (q : ∀ H', Same H H' → Q (some i) H') : tPart (tP (eC (.int i))) σ H Q := tp_int (Ok.none H) (SlD.nones σ) rfl fun H' s' => ⟨i, rfl, q H' s'⟩
theorem rd_plan {a : Addr} {ns : List Int} {first mostI : Int} {most : Nat} (h0 : σ[0]? = some (some (.ref a))) (hS : SqL K H a (ns.map V.int)) (hf : 0 ≤ first) (hm : most ≤ 200) (hi : mostI = (most : Int))
    (q : ∀ b s v H', PlanOk most b s → Same H H' → (∀ M : MS, Ok M H → Rp M H' v (encP b s)) → Q v H') : tCall (spPlanZ K) [] E (tCons (tVar 0) (tCons (tP (eC (.int first))) (tCons (tP (eC (.int mostI))) tNil))) σ H Q := by
  subst hi
  refine ⟨_, h0, rd_int fun H1 s1 => rd_int fun H2 s2 => ?_⟩
  exact ⟨a, ns, first, most, rfl, (s1.trans s2).seq hS, hf, hm, fun b s v H3 Pl s3 fr => q b s v H3 Pl ((s1.trans s2).trans s3) fun M ok => fr M ((ok.same s1).same s2)⟩
theorem rd_cell {a : Addr} {ns : List Int} {k : Int} (h0 : σ[0]? = some (some (.ref a))) (hS : SqL K H a (ns.map V.int)) (hk : 0 ≤ k) (q : ∀ c H', Same H H' → Q (.int c) H') : tCall (spCellZ K) [] E (tCons (tVar 0) (tCons (tP (eC (.int k))) tNil)) σ H Q :=
  ⟨_, h0, rd_int fun H1 s1 => ⟨a, ns, k, rfl, s1.seq hS, hk, fun c H' s' => q c H' (s1.trans s')⟩⟩
/-- script[lo:hi] -/
theorem rd_cut {a : Addr} {ns : List Int} {lo hi : Int} (h0 : σ[0]? = some (some (.ref a))) (hS : SqL K H a (ns.map V.int)) (q : ∀ p (cs : List Int) H', cs.length ≤ ns.length → Same H H' → Rp M0 H' (.ref p) (.list (cs.map .int)) → Q (.ref p) H') :
    L2.tSl (rSlD K) (tVar 0) (tPart (tP (eC (.int lo)))) (tPart (tP (eC (.int hi)))) σ H Q := by
  refine ⟨_, h0, rd_part fun H1 s1 => rd_part fun H2 s2 => .inl ⟨a, _, rfl, (s1.trans s2).seq hS, fun p hp => ?_⟩⟩
  have scut : ∃ cs : List Int, cutV (ns.map V.int) (some lo) (some hi) = cs.map V.int ∧ cs.length ≤ ns.length := ⟨(ns.drop (HT.sIx (ns.map V.int).length 0 (some lo))).take (HT.sIx (ns.map V.int).length (ns.map V.int).length (some hi) - HT.sIx (ns.map V.int).length 0 (some lo)), by unfold cutV; rw [List.map_take, List.map_drop], by rw [List.length_take, List.length_drop]; omega⟩
  obtain ⟨cs, hcs, hcl⟩ := scut
  rw [hcs]
  obtain ⟨w1, w2⟩ := new_lst (M := M0) (Ok.none H2) hp (RpAll.of_ints cs)
  exact q p cs _ hcl ((s1.trans s2).trans w1) w2
/-- a weaving by the script's numbers -/
theorem rd_weav {a : Addr} {ns : List Int} {lo hi : Int} {gm : Sl → Option D} {ds : Sl} {m : Nat} (h0 : σ[0]? = some (some (.ref a))) (hS : SqL K H a (ns.map V.int)) (hn : ns.length ≤ 63) (sl : SlD M0 H σ ds) (hg : gm ds = some (.int (m : Int))) (m1 : 1 ≤ m) (m2 : m ≤ 12)
    (q : ∀ ws v H', ws.length ≤ 1890 → (∀ w ∈ ws, w < m) → Same H H' → Rp M0 H' v (.list (encN ws)) → Q v H') :
    tCall (spF 2 M_l_weaving_by) [] E (tCons (L2.tSl (rSlD K) (tVar 0) (tPart (tP (eC (.int lo)))) (tPart (tP (eC (.int hi))))) (tCons (tP gm) tNil)) σ H Q := by
  refine rd_cut h0 hS fun p cs H1 hc s1 r1 => ?_
  refine tp_int (Ok.none H1) (sl.same s1) hg fun H2 s2 => ?_
  obtain ⟨ws, w1, w2, w3⟩ := weaving_ev cs m m1 m2 (by omega)
  exact ⟨rfl, M0, _, _, Ok.none _, .cons (r1.same s2) (.cons (.int _) .nil), w3, fun v H3 s3 r3 => q ws v H3 (by omega) w2 ((s1.trans s2).trans s3) r3⟩
/-- woven(plan, started(plan), weaving) -/
theorem rd_woven {a : Addr} {ns : List Int} {lo hi : Int} {gp gm : Sl → Option D} {ds : Sl} {b s : LL} (h0 : σ[0]? = some (some (.ref a))) (hS : SqL K H a (ns.map V.int)) (hn : ns.length ≤ 63) (sl : SlD M0 H σ ds) (hp : gp ds = some (encP b s)) (hg : gm ds = some (.int (s.length : Int))) (P : PlanOk 200 b s)
    (q : ∀ ws v H', ws.length ≤ 1890 → (∀ w ∈ ws, w < s.length) → Same H H' → Rp M0 H' v (.tuple [encY (runY b (yard0 s) ws).1, .list ((runY b (yard0 s) ws).2.map encE)]) → Q v H') :
    tCall (spF 3 M_woven) [] E (tCons (tP gp) (tCons (tP (eCall M_started (esCons gp esNil))) (tCons (tCall (spF 2 M_l_weaving_by) [] E2 (tCons (L2.tSl (rSlD K) (tVar 0) (tPart (tP (eC (.int lo)))) (tPart (tP (eC (.int hi))))) (tCons (tP gm) tNil))) tNil))) σ H Q := by
  refine tp_ok (Ok.none H) sl hp fun vp H1 s1 rp => ?_
  refine tp_ok (Ok.none H1) (sl.same s1) (q_call (q_cons hp rfl) |>.trans (started_ev b s (by have := P.m2; unfold lim; omega))) fun vy H2 s2 ry => ?_
  have s12 := s1.trans s2
  refine rd_weav h0 (s12.seq hS) hn (sl.same s12) hg P.m1 P.m2 fun ws v H3 w1 w2 s3 r3 => ?_
  have hl : (yard0 s).rows.length = s.length := by unfold yard0; simp
  exact ⟨rfl, M0, _, _, Ok.none _, .cons ((rp.same s2).same s3) (.cons (ry.same s3) (.cons r3 .nil)), woven_ev (Gd.start P) (by omega) (by rw [hl]; exact w2) (A := .list (encN ws)) rfl, fun v4 H4 s4 r4 => q ws v4 H4 w1 w2 ((s12.trans s3).trans s4) r4⟩
/-- a plan of new lists -/
theorem rd_given {f g : Sl → Option D} {ds : Sl} {b s : LL} {i : Nat} (sl : SlD M0 H σ ds) (e0 : f ds = some (encLL b)) (e1 : g ds = some (encLL s)) (hi : i < σ.length) (hb : b.length ≤ 100000) (hs : s.length ≤ 100000)
    (q : ∀ p lb ls ab asr H', Same H H' → H p = none → New H lb ab → New H ls asr → Rows H' lb ab (b.map vN) → Rows H' ls asr (s.map vN) → (∀ x, (x = lb ∨ x ∈ ab) → x ≠ ls ∧ ¬ x ∈ asr) → H' p = some (.tup [.ref lb, .ref ls]) → Rp M0 H' (.ref p) (encP b s) → Q (.ref p) H') :
    tTup (tCons (tLc (iSeq K f) (gName i) tYes (tCB (rList K) (tCons (tVar i) tNil)) [i]) (tCons (tLc (iSeq K g) (gName i) tYes (tCB (rList K) (tCons (tVar i) tNil)) [i]) tNil)) σ H Q := by
  refine z_tup ?_
  refine z_cons ?_
  refine lc_copy (Ok.none H) sl e0 hi hb fun H4 lb ab Rb s4 nb => ?_
  refine z_cons ?_
  refine lc_copy (Ok.none H4) (sl.same s4) e1 hi hs fun H5 ls asr Rs s5 nsr => ?_
  refine ⟨by show 2 ≤ sizeLine; rw [sizeLine_eq]; decide, fun p hp => ?_⟩
  have s6 : Same H5 (upd H5 p (.tup [.ref lb, .ref ls])) := Pu.Same.new hp
  have Rb6 : Rows (upd H5 p (.tup [.ref lb, .ref ls])) lb ab (b.map vN) := Rb.same fun x o _ e => s6 x o (s5 x o e)
  have Rs6 : Rows (upd H5 p (.tup [.ref lb, .ref ls])) ls asr (s.map vN) := Rs.same fun x o _ e => s6 x o e
  have s46 := s4.trans s5
  refine q p lb ls ab asr _ (s46.trans s6) (s46.free hp) nb ⟨s4.free nsr.1, fun x hx => s4.free (nsr.2 x hx)⟩ Rb6 Rs6 (fun x hx => ?_) upd_same (.tup upd_same (fun z => z) (.cons (rows_rp Rb6 (fun z => z) fun _ _ z => z) (.cons (rows_rp Rs6 (fun z => z) fun _ _ z => z) .nil)))
  have hx4 : H4 x ≠ none := by
    rcases hx with rfl | hx
    · rw [Rb.top]; simp
    · obtain ⟨i, hi⟩ := List.mem_iff_getElem?.mp hx
      obtain ⟨r, _, h2⟩ := Rb.row i x hi
      rw [h2]; simp
  exact ⟨fun e => hx4 (e ▸ nsr.1), fun m => hx4 (nsr.2 x m)⟩

end
theorem Rp.old {H : Hp} {l : Addr} {v : V} {d : D} (r : Rp M0 H v d) (h : H l = none) : Rp (fun a => M0 a ∨ a = l) H v d := r.mono (fun a o n e => ⟨fun m => m.elim id fun m => (by rw [m, h] at e; cases e), e⟩) d v
theorem finR_len {b : LL} : ∀ (k : Nat) {n : Nat} {y : Yard} {r : Yard × List Evt} (G : Gd n b y), finR b k y = some r → r.2.length ≤ 12 * k
  | 0, n, y, r, G, h => by cases h
  | k + 1, n, y, r, G, h => by
    unfold finR at h
    by_cases ho : overY y = true
    · rw [if_pos ho] at h; cases h; exact Nat.zero_le _
    · rw [if_neg ho] at h
      obtain ⟨G1, hl⟩ := roundY_len G
      cases hz : finR b k (roundY b y).1 with
      | none => rw [hz] at h; cases h
      | some r' =>
        rw [hz] at h; cases h
        have := finR_len k G1 hz
        dsimp only
        rw [List.length_append]; omega
end Pu

set_option Elab.async false
set_option linter.all false
set_option maxRecDepth 100000
set_option maxHeartbeats 4000000
set_option autoImplicit false
/-! Xc: defs that raise. -/
namespace Pu
open PySem PySem.Spec PyProof.Rows L2

theorem fnok_or {P : Program} {w : World} {K : PySem.W.Frag} {mg : Str → Option Value} {base : Heap} {k j m : Nat} {f : Addr} {fd : FuncData} {ps : List Str} {sp1 sp2 : Sp} (F1 : FnOk P w K mg base CX0 k f fd ps sp1) (F2 : FnOk P w K mg base (L2.CX P w) j f fd ps sp2) (hk : k ≤ m) (hj : j ≤ m) :
    FnOk P w K mg base (L2.CX P w) m f fd ps (fun vs H Q E => sp1 vs H Q E ∨ sp2 vs H Q E) :=
  ⟨fun vs H Q E h => h.elim (F1.len vs H Q E) (F2.len vs H Q E), fun A outer s H args us vs Q E hr he hb hv hs => hs.elim
    (fun h => codeAny_mono ((F1.mono hk).run A outer s H args us vs Q E hr he hb hv h) fun r s' q => by
      cases r with
      | ok fl => cases fl <;> exact q
      | error e => exact q.elim)
    (fun h => (F2.mono hj).run A outer s H args us vs Q E hr he hb hv h)⟩
theorem pss_ex {X : Cx} {st : List Stmt} {ι : Type} {Pi : ι → Prop} {t : ι → TS} (h : ∀ i, Pi i → PSs X st (t i)) : PSs X st (fun D σ H => ∃ i, Pi i ∧ t i D σ H) := ⟨fun pins s σ H D I ⟨i, p, q⟩ => (h i p).run pins s σ H D I q⟩
/-- a def that raises one of two, each with no fields of its own, for such arguments -/
def spRaise (n : Nat) (Xf : List D → Option Addr) : Sp := fun vs H _ E => vs.length = n ∧ ∃ (M : MS) (l : List D) (C : Addr), Ok M H ∧ RpAll M H vs l ∧ Xf l = some C ∧ ∀ H', Same H H' → E (.ref C) none H'
/-- isinstance(e, c) -/
theorem pe_isE {X : Cx} {a D : Addr} {oe : Obj} {pn : List (Addr × Obj)} {i : Nat} {x c : Str} {p p1 p2 pos : Pos} {cv : V} {u : Value} (C : ExcC X.K D) (hz : Zc (.ref D) none oe) (hf : ∃ vs, oe.data = .fields vs)
    (hg : Gl X "isinstance") (hm : X.mg "isinstance" = none) (hN : X.N[i]? = some x) (hv : Vis X.env.scope x) (hc : PE (X.suite a ((a, oe) :: pn)) (.Name c p2) (tC cv)) (hd : (x == ("__debug__" : Str)) = false := by decide) (hcd : (x == ("__classdict__" : Str)) = false := by decide)
    (hs : starEach (.Name x p1 :: [.Name c p2]) X.env = (false, eval (.Name x p1) X.env) :: starEach [.Name c p2] X.env := by rfl) (hs2 : starEach (.Name c p2 :: []) X.env = (false, eval (.Name c p2) X.env) :: starEach [] X.env := by rfl) (hpl : (backTo pos (starEach [.Name c p2] X.env)).any (·.1) = false := by rfl) :
    PE (X.suite a ((a, oe) :: pn)) (.Call (.Name "isinstance" p) [.Name x p1, .Name c p2] [] pos) (tCB (rIsE X.K D a) (tCons (tVar i) (tCons (tC cv) tNil))) :=
  pe_callB (X := X.suite a ((a, oe) :: pn)) (call_isE C hz hf) hg hm (by decide +kernel) (pa_cons (pe_var hN hv hd hcd) (pa_cons hc pa_nil hs2) hs) (by decide) (by decide) hs hpl
/-- what isinstance tells of an error of class D -/
theorem isE_ok {K : PySem.W.Frag} {a D : Addr} {i : Nat} {cv : V} {u : Value} {b : Bool} {σ : St} {H : Hp} {Q : VK} (hσ : σ[i]? = some (some (.ref a))) (hu : ∀ w, RelV cv w → w = u) (e : PySem.W.kitOne K (.ref D) u = some b) (q : Q (.bl b) H) : tCB (rIsE K D a) (tCons (tVar i) (tCons (tC cv) tNil)) σ H Q :=
  ⟨_, hσ, cv, u, b, rfl, hu, e, q⟩
/-- which of two a step raises: true NoWorker, false NoStep -/
def K_stepped : List D → Option Bool
  | [_, .tuple [_, .tuple ss], .int w] => if 0 ≤ w ∧ w < (ss.length : Int) then (match ss[w.toNat]? with
      | some (.tuple (.str x :: _)) => if x = "rests" then some false else none
      | _ => none) else some true
  | _ => none
def X_stepped (CW CS : Addr) (l : List D) : Option Addr := (K_stepped l).map fun b => if b = true then CW else CS
def told8 (b : Bool) : List D := [.bool (!b), .bool b, .bool false, .bool false, .bool false, .bool false, .bool false, .bool true]
def M_l_told : List D → Option D := fun l => match K_stepped l with
  | some b => some (.list (told8 b))
  | none => M_stepped l
def X_woven (CW : Addr) : List D → Option Addr
  | [_, .tuple [.tuple rs, _], .list ws] => (intsOf ws).bind fun ns => if ns.all (fun w => decide (0 ≤ w ∧ w < (rs.length : Int))) = true then none else some CW
  | _ => none
theorem bt_ValueError : bootBuiltins "ValueError" = some (.type "ValueError") := by decide +kernel
/-- isinstance(e, c), read -/
abbrev tIE (K : PySem.W.Frag) (D a : Addr) (cv : V) : TE := tCB (rIsE K D a) (tCons (tVar 3) (tCons (tC cv) tNil))
theorem kit_ref {K : PySem.W.Frag} {t : Value} {C : Addr} {b : Bool} (h1 : PySem.W.isClsIn K C = true) (h2 : PySem.W.typeIn K (.ref C) = some (.type "type")) (h3 : PySem.W.subIn K t t = some true) (h4 : PySem.W.subIn K t (.ref C) = some b) : PySem.W.kitOne K t (.ref C) = some b := by
  unfold PySem.W.kitOne
  by_cases e : (t == .ref C) = true
  · rw [if_pos e]
    have e' : t = .ref C := beq_iff_eq.mp e
    rw [← e', h3] at h4
    exact h4
  · rw [if_neg e]
    unfold PySem.W.kitCls
    unfold PySem.W.isClsIn at h1
    dsimp only
    rw [h1, h2]
    have e2 : (true && (some (Value.type "type") == some (Value.type "type"))) = true := by rfl
    rw [if_pos e2]
    exact h4
theorem kit_VE {K : PySem.W.Frag} {C : Addr} (h : PySem.W.subIn K (.ref C) (.type "ValueError") = some true) : PySem.W.kitOne K (.ref C) (.type "ValueError") = some true := by
  unfold PySem.W.kitOne
  have e : ¬ ((Value.ref C == .type "ValueError") = true) := by intro e; cases beq_iff_eq.mp e
  rw [if_neg e]
  unfold PySem.W.kitCls
  dsimp only
  have e2 : PySem.W.kitMeta "ValueError" = true := by decide +kernel
  rw [if_pos e2]
  exact h
/-- both ways of an if, joined -/
theorem z_join {c : TT} {t u rest : TS} {D : Ends} {σ : St} {H : Hp} (P : St → Hp → Prop) (h1 : ∀ σ' H', P σ' H' → rest D σ' H') (h2 : (∀ σ' H', P σ' H' → rest D σ' H') → c σ H fun b H1 => if b = true then t { D with nx := fun σ H => rest D σ H } σ H1 else u { D with nx := fun σ H => rest D σ H } σ H1) : tSeq (tIfS c t u) rest D σ H := h2 h1
end Pu

set_option Elab.async false
set_option linter.all false
set_option maxRecDepth 100000
set_option maxHeartbeats 2000000
set_option autoImplicit false
/-! Pu6: list(range(n)), l.index(x), l.pop(). -/
namespace Pu
open PySem PySem.Spec PyProof.Rows L2

def eLstR (f : Sl → Option (List D)) : Sl → Option D := fun ds => (f ds).bind fun l => some (.list l)
theorem rgV_0 (n : Int) : rgV 0 n = (List.range n.toNat).map fun (i : Nat) => V.int (i : Int) := by
  unfold rgV
  rw [Int.sub_zero]
  exact List.map_congr_left fun i _ => by rw [Int.zero_add]
theorem rpAll_rng {M : MS} {H : Hp} (n : Int) : RpAll M H ((List.range n.toNat).map fun (i : Nat) => V.int (i : Int)) (rngD n) := by
  unfold rngD
  have z := RpAll.of_ints (M := M) (H := H) ((List.range n.toNat).map fun (i : Nat) => (i : Int))
  rw [List.map_map, List.map_map] at z
  exact z
section
variable {X : Cx} {a b n : Expr} {f g h : Sl → Option D} {p pos p1 pos1 apos cpos : Pos}
theorem pd_listRg (hc : X.calm = true) (hgl : Gl X "list") (hml : X.mg "list" = none) (hg : Gl X "range") (hm : X.mg "range" = none) (he : PE X n (tP h))
    (na : starEach [n] X.env = (false, eval n X.env) :: starEach [] X.env := by rfl) (nb : starEach [.Call (.Name "range" p1) [n] [] pos1] X.env = (false, eval (.Call (.Name "range" p1) [n] [] pos1) X.env) :: starEach [] X.env := by rfl) :
    PE X (.Call (.Name "list" p) [.Call (.Name "range" p1) [n] [] pos1] [] pos) (tP (eLstR (eRng h))) := pe_of (pe_listRg hc hgl hml (prg_1 hg hm he na) nb) fun σ H Q ⟨M, ds, d, ok, s, e, q⟩ => by
  obtain ⟨l, e1, e2⟩ := bind_some e
  cases e2
  obtain ⟨d0, e3, e4⟩ := bind_some e1
  split at e4
  · split at e4
    · rename_i k hk
      cases e4
      refine ⟨M, ds, _, ok, s, e3, fun v H1 s1 r1 => ?_⟩
      cases r1
      refine ⟨k, rfl, ⟨by omega, by omega, by omega, by omega, by omega⟩, fun p hp => ?_⟩
      rw [rgV_0]
      have z := new_lst (M := M) (ok.same s1) hp (rpAll_rng k)
      exact q _ _ (s1.trans z.1) z.2
    · cases e4
  · cases e4
def oIndex : D → D → Option D
  | .list l, x => if SeqAt.shaped (.list l) = true ∧ SeqAt.shaped x = true then (l.findIdx? fun z => PyData.eqv z x).map fun (j : Nat) => .int (j : Int) else none
  | _, _ => none
theorem pd_index (hu : X.A.units + 65 < cLine) (ha : PE X a (tP f)) (hb : PE X b (tP g)) (hbase : attributeBase a "index" X.env (eval a X.env) = eval a X.env := by rfl)
    (hfew : ((backTo cpos (starEach [b] X.env)).all (fun x => !x.1) && (backToKw cpos (keywordEach [] X.env)).all (fun x => x.1.isSome) && decide (([b] : List Expr).length + ([] : List Keyword).length + (if ([] : List Keyword).isEmpty then 0 else 1) < 30)) = true := by rfl)
    (hline : (apos.endLine == cpos.line) = true := by rfl) (hs : starEach [b] X.env = (false, eval b X.env) :: starEach [] X.env := by rfl) (hplain : (backTo cpos (starEach [] X.env)).any (·.1) = false := by rfl) :
    PE X (.Call (.Attribute a "index" apos) [b] [] cpos) (tP (eOp oIndex f g)) := pe_of (pe_bm PySem.F.plainAttrs_list PySem.F.slot_list_index PySem.F.type_list_index (mt_indexD hu) ha (pa_cons hb pa_nil hs) hbase hfew hline hs hplain) fun σ H Q ⟨M, ds, d, ok, s, e, q⟩ => by
  obtain ⟨x, e1, e⟩ := bind_some e
  obtain ⟨y, e2, e3⟩ := bind_some e
  unfold oIndex at e3
  split at e3
  · rename_i l
    split at e3
    · rename_i hz
      cases hj : l.findIdx? (fun z => PyData.eqv z y) with
      | none => rw [hj] at e3; cases e3
      | some j =>
        rw [hj] at e3
        cases e3
        rw [List.findIdx?_eq_some_iff_getElem] at hj
        obtain ⟨j1, j2, j3⟩ := hj
        refine ⟨M, ds, .list l, ok, s, e1, fun v H1 s1 r1 => ?_⟩
        cases r1 with
        | lst a1 n1 q1 =>
          rename_i la xs
          refine ⟨.inl ⟨rfl, xs, SqL.of a1⟩, M, ds, y, ok.same s1, s.same s1, e2, fun w H2 s2 r2 => ?_⟩
          have rl : Rp M H2 (.ref la) (.list l) := .lst (s2 _ _ a1) n1 (q1.same s2)
          refine ⟨la, w, y, l, j, l[j], rfl, rfl, rl.dp, r2.dp, hz.1, hz.2, List.getElem?_eq_getElem j1, j2, fun m z' hm hz' => ?_, q _ _ (s1.trans s2) (.int _)⟩
          have hml : m < l.length := by omega
          have e5 := j3 m hm
          rw [List.getElem?_eq_getElem hml] at hz'
          cases hz'
          simpa using e5
    · cases e3
  · cases e3
end
end Pu

set_option Elab.async false
set_option linter.all false
set_option maxRecDepth 100000
set_option maxHeartbeats 4000000
set_option autoImplicit false
/-! Kd: l.count(x); a def that is handed the caught exception. -/
namespace Pu
open PySem PySem.Spec PyProof.Rows L2

/-! ### l.count(x) -/
def rCountD (K : PySem.W.Frag) : V → List V → Hp → VK → Prop := fun x xs H Q => ∃ (a : Addr) (y : V) (d : D) (ds : List D), x = .ref a ∧ xs = [y] ∧ Dp K H (.ref a) (.list ds) ∧ Dp K H y d ∧ SeqAt.shaped (.list ds) = true ∧ SeqAt.shaped d = true ∧ Q (.int ((ds.countP fun z => PyData.eqv z d : Nat) : Int)) H
theorem mt_countD {X : Cx} (hu : X.A.units + 65 < cLine) : MtR X "list.count" (rCountD X.K) := fun pins s σ H x xs v us Q I rx rxs h => by
  obtain ⟨a, y, d, ds, rfl, rfl, hl, hy, sl, sd, q⟩ := h
  cases rx
  obtain ⟨uy, rfl, ry⟩ := rxs.one
  obtain ⟨bs, ryd⟩ := Dp.reads I d y uy hy ry
  have room := room_in_shaped (xs := ds) sd hu
  cases hl with
  | lst hs ha =>
    obtain ⟨its, rv, li, hlen⟩ := I.list hs
    obtain ⟨as, ra⟩ := Dp.readsAll I ds _ its ha rv
    have li' : s.heap.IsList a its.toArray := by
      obtain ⟨ob, n, ho, hc, hdn, hdt⟩ := li
      exact ⟨ob, ho, hc, n, hdt⟩
    exact PySem.SeqAt.count_list_data (vs := its.toArray) li' (show ReadsAll s.heap its.toArray.toList ds as from ra) ryd (PyData.plainAll_of_canLay0 _ (SeqAt.canLay_of_shaped sl)) (PyData.plain_of_canLay0 _ (SeqAt.canLay_of_shaped sd)) room ⟨.int _, H, I.tok _, ⟨s.toks, rfl⟩, q⟩
def oCount : D → D → Option D
  | .list l, x => if SeqAt.shaped (.list l) = true ∧ SeqAt.shaped x = true then some (.int ((l.countP fun z => PyData.eqv z x : Nat) : Int)) else none
  | _, _ => none
section
variable {X : Cx} {a b : Expr} {f g : Sl → Option D} {pos apos cpos : Pos}
theorem pd_count (hu : X.A.units + 65 < cLine) (ha : PE X a (tP f)) (hb : PE X b (tP g)) (hbase : attributeBase a "count" X.env (eval a X.env) = eval a X.env := by rfl)
    (hfew : ((backTo cpos (starEach [b] X.env)).all (fun x => !x.1) && (backToKw cpos (keywordEach [] X.env)).all (fun x => x.1.isSome) && decide (([b] : List Expr).length + ([] : List Keyword).length + (if ([] : List Keyword).isEmpty then 0 else 1) < 30)) = true := by rfl)
    (hline : (apos.endLine == cpos.line) = true := by rfl) (hs : starEach [b] X.env = (false, eval b X.env) :: starEach [] X.env := by rfl) (hplain : (backTo cpos (starEach [] X.env)).any (·.1) = false := by rfl) :
    PE X (.Call (.Attribute a "count" apos) [b] [] cpos) (tP (eOp oCount f g)) := pe_of (pe_bm PySem.F.plainAttrs_list PySem.F.slot_list_count PySem.F.type_list_count (mt_countD hu) ha (pa_cons hb pa_nil hs) hbase hfew hline hs hplain) fun σ H Q ⟨M, ds, d, ok, s, e, q⟩ => by
  obtain ⟨x, e1, e⟩ := bind_some e
  obtain ⟨y, e2, e3⟩ := bind_some e
  unfold oCount at e3
  split at e3
  · rename_i l
    split at e3
    · rename_i hz
      cases e3
      refine ⟨M, ds, .list l, ok, s, e1, fun v H1 s1 r1 => ?_⟩
      cases r1 with
      | lst a1 n1 q1 =>
        rename_i la xs
        refine ⟨.inl ⟨rfl, xs, SqL.of a1⟩, M, ds, y, ok.same s1, s.same s1, e2, fun w H2 s2 r2 => ?_⟩
        have rl : Rp M H2 (.ref la) (.list l) := .lst (s2 _ _ a1) n1 (q1.same s2)
        exact ⟨la, w, y, l, rfl, rfl, rl.dp, r2.dp, hz.1, hz.2, q _ _ (s1.trans s2) (.int _)⟩
    · cases e3
  · cases e3
end
/-! ### a whole number that stands in the module -/
theorem pd_globI {X : Cx} {x : Str} {i : Int} {t : Nat} {pos : Pos} (hg : Gl X x) (hm : X.mg x = some (.int i t)) (hd : (x == ("__debug__" : Str)) = false := by decide) : PE X (.Name x pos) (tP (eC (.int i))) := pe_of (pe_glob hg hm (v := .int i) ⟨t, rfl⟩ hd) fun σ H Q ⟨M, ds, d, ok, s, e, q⟩ => by
  cases e
  exact q _ _ (L2.Same.refl _) (.int i)
theorem roomH64 {k : Nat} {A : Around} (r : L2H.RoomH k A) : A.units + 64 < cLine := by have := r.un; omega
theorem roomH65 {k : Nat} {A : Around} (r : L2H.RoomH k A) : A.units + 65 < cLine := by have := r.un; omega
/-! ### isinstance(e, c), e an exception that is pinned -/
theorem call_isP {X : Cx} {C : Addr} {p : Addr × Obj} (hp : p ∈ X.pn) (XC : ExcC X.K C) (hz : Zc (.ref C) none p.2) (hf : ∃ vs, p.2.data = .fields vs) : CallR X (.builtin "isinstance") (rIsE X.K C p.1) := fun pins s σ H xs us Q I r h => by
  obtain ⟨c, cv, b, rfl, hcv, eb, q⟩ := h
  obtain ⟨ue, ur, eu, re, rr⟩ : ∃ ue ur, us = ue :: ur ∧ RelV (.ref p.1) ue ∧ Vals [c] ur := by
    cases r with
    | cons ha hb => exact ⟨_, _, rfl, ha, hb⟩
  obtain ⟨uc, rfl, rc⟩ := rr.one
  subst eu
  obtain rfl : ue = Value.ref p.1 := re
  obtain rfl := hcv _ rc
  have get := (I.pin p (List.mem_append_left _ hp)).1
  have inst : PySem.W.InstAt s.heap p.1 p.2 C none := by
    obtain ⟨pa, ⟨oc, od, oda, osl⟩⟩ := p
    obtain ⟨vs, hv⟩ := hf
    have h1 : oc = .ref C := hz.1
    have h2 : od = none := hz.2
    have h3 : oda = .fields vs := hv
    subst h1 h2 h3
    exact ⟨get, rfl, rfl, trivial⟩
  exact PySem.W.kia_one (PySem.W.handS_kitx_exc XC.hg XC.hk XC.hs XC.hd XC.ha XC.hn XC.ht XC.hm) I.kIn inst eb (fun z => nomatch z) fun tk => ⟨.bl b, H, I.kept (t' := tk) fun _ _ z => z, rfl, q⟩
theorem pe_isP {X : Cx} {C : Addr} {p0 : Addr × Obj} {i : Nat} {x c : Str} {p p1 p2 pos : Pos} {cv : V} (hp : p0 ∈ X.pn) (XC : ExcC X.K C) (hz : Zc (.ref C) none p0.2) (hf : ∃ vs, p0.2.data = .fields vs)
    (hg : Gl X "isinstance") (hm : X.mg "isinstance" = none) (hN : X.N[i]? = some x) (hv : Vis X.env.scope x) (hc : PE X (.Name c p2) (tC cv)) (hd : (x == ("__debug__" : Str)) = false := by decide) (hcd : (x == ("__classdict__" : Str)) = false := by decide)
    (hs : starEach (.Name x p1 :: [.Name c p2]) X.env = (false, eval (.Name x p1) X.env) :: starEach [.Name c p2] X.env := by rfl) (hs2 : starEach (.Name c p2 :: []) X.env = (false, eval (.Name c p2) X.env) :: starEach [] X.env := by rfl) (hpl : (backTo pos (starEach [.Name c p2] X.env)).any (·.1) = false := by rfl) :
    PE X (.Call (.Name "isinstance" p) [.Name x p1, .Name c p2] [] pos) (tCB (rIsE X.K C p0.1) (tCons (tVar i) (tCons (tC cv) tNil))) :=
  pe_callB (call_isP hp XC hz hf) hg hm (by decide +kernel) (pa_cons (pe_var hN hv hd hcd) (pa_cons hc pa_nil hs2) hs) (by decide) (by decide) hs hpl
/-! ### a def that tells a word of the exception that it is handed -/
structure FnE (P : Program) (w : World) (K : PySem.W.Frag) (mg : Str → Option Value) (base : Heap) (k : Nat) (f : Addr) (fd : FuncData) (ps : List Str) (C : Addr) (d : Str) : Prop where
  one : ps.length = 1
  run : ∀ (A : Around) (outer : List Env) (s : Shared) (H : Hp) (args : Args) (us : List Value) (Q : VK) (p : Addr × Obj), L2H.RoomH k A → L2H.PinOk outer H s p → Zc (.ref C) none p.2 → (∃ vs, p.2.data = .fields vs) → Env0 P w K mg base A outer s H → BindsTo s fd args (ps.zip us) → Vals [.ref p.1] us →
    (∀ H', Same H H' → Q (.str d) H') → codeAny (model P w) A (.call (.ref f) args) (CR CX0 outer P w H s Q fun _ _ _ => False) s
theorem fnE_of {P : Program} {w : World} {K : PySem.W.Frag} {mg : Str → Option Value} {base : Heap} {k : Nat} {x qual : Str} {st : Stmt} {f : Addr} {fd : FuncData} {N ps : List Str} {C : Addr} {d : Str} (F : Fun K x qual st f fd) (S : FnScope N ps (defScope st)) (h1 : ps.length = 1)
    (body : ∀ (cdv : Value) (A : Around) (outer : List Env) (s : Shared) (H : Hp) (Q : VK) (p : Addr × Obj), L2H.RoomH k (A.deeper (envOfC qual (defScope st) s.heap.objs.size f cdv)) → Zc (.ref C) none p.2 → (∃ vs, p.2.data = .fields vs) → (∀ H', Same H H' → Q (.str d) H') →
      ∃ t, PSs (L2H.cxH CX0 P w K mg base N qual (defScope st) f cdv A outer s H (fun _ _ _ => False) p) (defBody st) t ∧ t { nx := fun _ H' => Q .non H', rt := Q } (start N [.ref p.1]) H) : FnE P w K mg base (k + 1) f fd ps C d := by
  obtain ⟨ocl, od, kV, doc, pm, an, cdv, ct, osl, rfl, lk, hcd⟩ := F.ex
  refine ⟨h1, fun A outer s H args us Q p room pin hz hf e0 bd r q => ?_⟩
  have old : ∀ b o, base.get? b = some o → s.heap.get? b = some o := fun b o e => (e0.bs b o e).1
  have kin : K.In s.heap := e0.mod.kin.keeps old
  refine codeAny_call_function room.depth (kin _ _ lk) rfl S.co S.gen rfl (PySem.W.codeRec_of kin hcd) (bd _ _ _ _ ?_)
  refine wpAny_newFunctionEnv_cells S.kind (fun y hy => (S.par y.1 (List.of_mem_zip (b := y.2) hy).1).imp_right fun c => ⟨c, PySem.W.cellsFrom_some _ _ _ (.inl c)⟩) fun env he s1 ic => ?_
  subst he
  refine ⟨(e0.mod.nolimit.keeps old).keeps ic.toInCall.keep, codeAny_func ?_⟩
  obtain ⟨t, ht, hq⟩ := body cdv A outer s H Q p (room.deeper _) hz hf q
  have I := L2H.inv_startH (CX := CX0) (E := fun _ _ _ => False) (vs := [V.ref p.1]) S pin e0 h1.symm r ic
  refine wpAny_mono (ht.run [] s1 (start N [.ref p.1]) H _ I hq) (fun fl s' hs => ?_) fun _ _ z => z
  cases fl with
  | ret u => obtain ⟨v, σ', H', J, rv, z⟩ := hs; exact ⟨v, H', J.os, J.bare, J.base, J.hok, rv, z⟩
  | next => obtain ⟨σ', H', J, z⟩ := hs; exact ⟨.non, H', J.os, J.bare, J.base, J.hok, rfl, z⟩
  | brk => obtain ⟨_, _, _, z⟩ := hs; exact z.elim
  | cont => obtain ⟨_, _, _, z⟩ := hs; exact z.elim
/-- x(e) in the suite of the except clause -/
theorem pe_callE {X : Cx} {k i : Nat} {f C a : Addr} {oe : Obj} {pn : List (Addr × Obj)} {fd : FuncData} {ps : List Str} {d x n : Str} {p p1 pos : Pos} (F : FnE X.prog X.w X.K X.mg X.base k f fd ps C d) (hr : Room k X.A) (hz : Zc (.ref C) none oe) (hf : ∃ vs, oe.data = .fields vs) (hg : Gl X x) (hm : X.mg x = some (.ref f)) (hk : PySem.W.keepIn X.K (.ref f) = true) (hb : Binds X.K fd ps [])
    (hN : X.N[i]? = some n) (hv : Vis X.env.scope n) (hdb : (x == ("__debug__" : Str)) = false := by decide) (hd : (n == ("__debug__" : Str)) = false := by decide) (hcd : (n == ("__classdict__" : Str)) = false := by decide)
    (he : starEach (.Name n p1 :: []) X.env = (false, eval (.Name n p1) X.env) :: starEach [] X.env := by rfl) (hpl : (backTo pos (starEach [] X.env)).any (·.1) = false := by rfl) :
    PE (X.suite a ((a, oe) :: pn)) (.Call (.Name x p) [.Name n p1] [] pos) (fun σ H Q => σ[i]? = some (some (.ref a)) ∧ ∀ H', Same H H' → Q (.str d) H') := by
  refine ⟨fun pins s σ H Q I hQ => ?_⟩
  refine wpAny_Call_Name_kw (ld_glob (X := X.suite a ((a, oe) :: pn)) I hg hm ?_ hdb)
  have pa : PA (X.suite a ((a, oe) :: pn)) [.Name n p1] (tCons (tVar i) tNil) := pa_cons (pe_var (X := X.suite a ((a, oe) :: pn)) hN hv hd hcd) pa_nil he
  refine PySem.W.callWith_K (h₀ := X.base) I.ok.mod.kin hk (thn (pa.run pos pins s σ H (fun vs H1 => vs = [.ref a] ∧ ∀ H', Same H1 H' → Q (.str d) H') I ⟨_, hQ.1, rfl, hQ.2⟩) fun us s1 ⟨vs, H1, I1, r, ev, q⟩ => ⟨I1.kIn, ?_⟩) he hpl
  subst ev
  have P1 := I1.pin (a, oe) (List.mem_append_left _ List.mem_cons_self)
  have b := hb s1 us I1.kIn (by rw [List.append_nil, ← r.length]; exact F.one.symm)
  rw [List.append_nil] at b
  refine wpAny_call (codeAny_mono (F.run _ (X.suite a ((a, oe) :: pn)).stack s1 H1 ⟨us, []⟩ us Q (a, oe) ⟨hr.dp, hr.un⟩ ⟨P1.1, P1.2.1, fun m => (List.mem_cons.mp (I1.stkSub a m)).elim P1.2.2.1 P1.2.2.2.1, P1.2.2.2.2⟩ hz hf I1.env0 b r q) fun rr s' hq => ?_)
  cases rr with
  | error ee => exact False.elim hq
  | ok fl =>
    cases fl with
    | ret u => exact I1.after hq
    | next => exact False.elim hq
    | brk => exact False.elim hq
    | cont => exact False.elim hq
end Pu

set_option Elab.async false
set_option linter.all false
set_option maxRecDepth 100000
set_option autoImplicit false
/-! Fs7: (printed) the functions of l_put_in, l_changed, l_wrong. -/
namespace Pu
open PySem

def F_l_put_in : S := (sSeq (sIf (bT (eOp oEq (eVar 0) (eLst esNil))) (sRet (eVar 0)) sNx) (sSeq (sSet 3 (eOp oMod (eVar 1) (eCall oLen (esCons (eVar 0) esNil)))) (sSeq (sSet 4 (eOp oMod (eOp oDiv (eVar 1) (eC (.int 211))) (eOp oAdd (eCall oLen (esCons (eOp oIx (eVar 0) (eVar 3)) esNil)) (eC (.int 1))))) (sSeq (sSet 5 (eOp oIx (eVar 0) (eVar 3))) (sSeq (sSet 5 (eOp oAdd (eOp oAdd (eSl (eVar 5) eNoPart (ePart (eVar 4))) (eLst (esCons (eVar 2) esNil))) (eSl (eVar 5) (ePart (eVar 4)) eNoPart))) (sRet (eOp oAdd (eOp oAdd (eSl (eVar 0) eNoPart (ePart (eVar 3))) (eLst (esCons (eVar 5) esNil))) (eSl (eVar 0) (ePart (eOp oAdd (eVar 3) (eC (.int 1)))) eNoPart))))))))
def M_l_put_in : List D → Option D := runF 6 F_l_put_in
def F_l_changed : S := (sSeq (sUnp [3, 4] (eVar 0)) (sSeq (sSet 5 (eCall oLen (esCons (eVar 3) esNil))) (sSeq (sSet 6 (eOp oMod (eVar 1) (eC (.int 9)))) (sSeq (sSet 7 (eOp oDiv (eVar 1) (eC (.int 9)))) (sSeq (sIf (bT (eOp oLt (eVar 6) (eC (.int 3)))) (sSeq (sSet 8 (eLst (esCons (eUn oNeg (eC (.int 1))) (esCons (eVar 5) (esCons (eOp oAdd (eOp oAdd (eVar 5) (eC (.int 1))) (eOp oMod (eVar 7) (eC (.int 999)))) (esCons (eOp oSub (eUn oNeg (eC (.int 1))) (eOp oMod (eVar 7) (eC (.int 99)))) (esCons (eOp oPow (eC (.int 10)) (eC (.int 12))) (esCons (eC (.int 0)) (esCons (eOp oMod (eVar 7) (eOp oAdd (eVar 5) (eC (.int 1)))) esNil))))))))) (sSeq (sSet 8 (eOp oIx (eVar 8) (eOp oMod (eOp oDiv (eVar 7) (eC (.int 50))) (eC (.int 7))))) (sSeq (sIf (bT (eOp oEq (eVar 6) (eC (.int 2)))) (sRet (eTup (esCons (eVar 3) (esCons (eCall M_l_put_in (esCons (eVar 4) (esCons (eVar 2) (esCons (eVar 8) esNil)))) esNil)))) sNx) (sRet (eTup (esCons (eCall M_l_put_in (esCons (eVar 3) (esCons (eVar 2) (esCons (eVar 8) esNil)))) (esCons (eVar 4) esNil))))))) sNx) (sSeq (sIf (bAnd (bT (eOp oEq (eVar 6) (eC (.int 3)))) (bT (eOp oGt (eVar 5) (eC (.int 0))))) (sRet (eTup (esCons (eCall M_l_put_in (esCons (eVar 3) (esCons (eVar 2) (esCons (eOp oMod (eVar 7) (eOp oAdd (eOp oMod (eVar 2) (eVar 5)) (eC (.int 1)))) esNil)))) (esCons (eVar 4) esNil)))) sNx) (sSeq (sIf (bAnd (bT (eOp oEq (eVar 6) (eC (.int 4)))) (bT (eOp oGt (eVar 5) (eC (.int 0))))) (sRet (eTup (esCons (eVar 3) (esCons (eCall M_l_put_in (esCons (eVar 4) (esCons (eVar 2) (esCons (eOp oMod (eVar 7) (eVar 5)) esNil)))) esNil)))) sNx) (sSeq (sIf (bT (eOp oEq (eVar 6) (eC (.int 5)))) (sRet (eTup (esCons (eVar 3) (esCons (eSl (eOp oMul (eVar 4) (eC (.int 13))) eNoPart (ePart (eOp oIx (eLst (esCons (eC (.int 0)) (esCons (eC (.int 1)) (esCons (eC (.int 12)) (esCons (eC (.int 13)) esNil))))) (eOp oMod (eVar 7) (eC (.int 4)))))) esNil)))) sNx) (sSeq (sIf (bT (eOp oEq (eVar 6) (eC (.int 6)))) (sRet (eTup (esCons (eOp oAdd (eVar 3) (eLc 9 (eRng (eOp oSub (eOp oIx (eLst (esCons (eC (.int 200)) (esCons (eC (.int 201)) (esCons (eC (.int 199)) esNil)))) (eOp oMod (eVar 7) (eC (.int 3)))) (eVar 5))) bYes (eLst esNil))) (esCons (eVar 4) esNil)))) sNx) (sRet (eTup (esCons (eVar 3) (esCons (eVar 4) esNil)))))))))))))
def M_l_changed : List D → Option D := runF 10 F_l_changed
def F_wIn : S := (sSeq (sIf (bOr (bT (eOp oLt (eVar 4) (eC (.int 0)))) (bT (eOp oGe (eVar 4) (eCall oLen (esCons (eVar 0) esNil))))) (sRet (eC (.str "task"))) sNx) (sSeq (sIf (bT (eOp oLe (eVar 4) (eVar 6))) (sRet (eC (.str "early"))) sNx) (sSeq (sIf (bT (eOp oInA (eVar 4) (eVar 2))) (sRet (eC (.str "twice"))) sNx) (sAppO [2] 2 (eVar 4)))))
def F_l_wrong : S := (sSeq (sIf (bT (eOp oGt (eCall oLen (esCons (eVar 0) esNil)) (eC (.int 200)))) (sRet (eC (.str "many"))) sNx) (sSeq (sIf (bOr (bT (eOp oLt (eCall oLen (esCons (eVar 1) esNil)) (eC (.int 1)))) (bT (eOp oGt (eCall oLen (esCons (eVar 1) esNil)) (eC (.int 12))))) (sRet (eC (.str "crew"))) sNx) (sSeq (sNewO 2) (sSeq (sSetO [2] 3 (eOp oAdd (eLc 4 (eRng (eCall oLen (esCons (eVar 0) esNil))) bYes (eTup (esCons (eVar 4) (esCons (eOp oIx (eVar 0) (eVar 4)) esNil)))) (eLc 5 (eItems (eVar 1)) bYes (eTup (esCons (eUn oNeg (eC (.int 1))) (esCons (eVar 5) esNil)))))) (sSeq (sForO [2] (eItems (eVar 3)) (gTupD [6, 7]) (sForO [2] (eItems (eVar 7)) (gNameD 4) F_wIn)) (sRet (eC (.str ""))))))))
def M_l_wrong : List D → Option D := runF 8 F_l_wrong
end Pu

set_option Elab.async false
set_option linter.all false
set_option maxRecDepth 100000
set_option maxHeartbeats 4000000
set_option autoImplicit false
/-! K1: plans of any whole numbers; what is changed in them; what is wrong with them. -/
namespace Pu
open PySem PySem.Spec PyProof.Rows L2

abbrev LI := List (List Int)
def encLI (r : List Int) : D := .list (r.map .int)
def encLLI (b : LI) : D := .list (b.map encLI)
def encPI (b s : LI) : D := .tuple [encLLI b, encLLI s]
def toI (b : LL) : LI := b.map fun r => r.map fun (n : Nat) => (n : Int)
theorem enc_toI (b : LL) : encLL b = encLLI (toI b) := by
  unfold encLL encLLI toI
  rw [List.map_map]
  congr 1
  refine List.map_congr_left fun r _ => ?_
  show PyData.list (encN r) = .list ((r.map fun (n : Nat) => (n : Int)).map .int)
  unfold encN; rw [List.map_map]; rfl
theorem encP_I (b s : LL) : encP b s = encPI (toI b) (toI s) := by
  show PyData.tuple [encLL b, encLL s] = _
  rw [enc_toI, enc_toI]; rfl
def Sz (n : Nat) (b s : LI) : Prop := b.length ≤ n ∧ s.length ≤ n ∧ (∀ r ∈ b, r.length ≤ n) ∧ ∀ r ∈ s, r.length ≤ n
/-! ### lists of anything -/
section
variable {α : Type} {e : α → D} {f g : Sl → Option D} {ds : Sl}
theorem add_m {xs ys : List α} (hf : f ds = some (.list (xs.map e))) (hg : g ds = some (.list (ys.map e))) (h : xs.length + ys.length ≤ 900000) : eOp oAdd f g ds = some (.list ((xs ++ ys).map e)) := by
  rw [eOp_ev hf hg]
  show (if (xs.map e).length + (ys.map e).length ≤ lim then some (PyData.list (xs.map e ++ ys.map e)) else none) = _
  rw [if_pos (by rw [List.length_map, List.length_map]; unfold lim; omega), List.map_append]
theorem to_m {xs : List α} {a : Nat} (hf : f ds = some (.list (xs.map e))) (hg : g ds = some (.int (a : Int))) : eSl f eNoPart (ePart g) ds = some (.list ((xs.take a).map e)) := by
  unfold eSl ePart eNoPart
  rw [hf, hg]
  show some (PyData.list (cutD (xs.map e) none (some (a : Int)))) = _
  unfold cutD
  rw [HT.sIx_none, HT.sIx_nat, List.drop_zero, Nat.sub_zero, List.length_map, List.map_take]
  rcases Nat.le_total a xs.length with q | q
  · rw [Nat.min_eq_left q]
  · rw [Nat.min_eq_right q, List.take_of_length_le (by rw [List.length_map]; exact Nat.le_refl _), List.take_of_length_le (by rw [List.length_map]; exact q)]
theorem from_m {xs : List α} {a : Nat} (hf : f ds = some (.list (xs.map e))) (hg : g ds = some (.int (a : Int))) : eSl f (ePart g) eNoPart ds = some (.list ((xs.drop a).map e)) := by
  unfold eSl ePart eNoPart
  rw [hf, hg]
  show some (PyData.list (cutD (xs.map e) (some (a : Int)) none)) = _
  unfold cutD
  rw [HT.sIx_none, HT.sIx_nat, List.length_map, List.map_drop]
  rcases Nat.le_total a xs.length with q | q
  · rw [Nat.min_eq_left q]
    exact congrArg some (congrArg PyData.list (List.take_of_length_le (by rw [List.length_drop, List.length_map]; exact Nat.le_refl _)))
  · rw [Nat.min_eq_right q, List.drop_of_length_le (l := xs.map e) (i := xs.length) (by rw [List.length_map]; exact Nat.le_refl _), List.drop_of_length_le (l := xs.map e) (i := a) (by rw [List.length_map]; exact q), List.take_nil]
theorem at_m {xs : List α} {a : Nat} {x : α} (hf : f ds = some (.list (xs.map e))) (hg : g ds = some (.int (a : Int))) (hx : xs[a]? = some x) : eOp oIx f g ds = some (e x) := by
  rw [eOp_ev hf hg]
  refine ixL_at (at?_map ?_)
  unfold at?
  rw [if_pos (by omega), Int.toNat_natCast]
  exact hx
theorem one_m {x : α} (h : f ds = some (e x)) : eLst (esCons f esNil) ds = some (.list ([x].map e)) := q_lst (q_cons h q_nil) (by simp)
theorem len_m {xs : List α} (h : f ds = some (.list (xs.map e))) : eCall oLen (esCons f esNil) ds = some (.int (xs.length : Int)) := by
  rw [q_call (q_cons h q_nil)]
  show some (PyData.int ((xs.map e).length : Int)) = _
  rw [List.length_map]
theorem pick_m {l : List D} {k : Int} (hf : f ds = some (.list l)) (hg : g ds = some (.int k)) (h0 : 0 ≤ k) (h1 : k < (l.length : Int)) : ∃ d, d ∈ l ∧ eOp oIx f g ds = some d := by
  have hl : k.toNat < l.length := by omega
  refine ⟨l[k.toNat], List.getElem_mem hl, ?_⟩
  rw [eOp_ev hf hg]
  refine ixL_at ?_
  unfold at?
  rw [if_pos h0]
  exact List.getElem?_eq_getElem hl
end
theorem good_I1 (ns : List Int) (h : ns.length ≤ 1000000) : good 2 (encLI ns) := ⟨by rw [List.length_map]; exact h, fun x hx => by
  obtain ⟨n, _, rfl⟩ := List.mem_map.mp hx
  trivial⟩
theorem good_I2 (b : LI) (h : b.length ≤ 1000000) (h2 : ∀ r ∈ b, r.length ≤ 1000000) : good 3 (encLLI b) := ⟨by rw [List.length_map]; exact h, fun x hx => by
  obtain ⟨r, hr, rfl⟩ := List.mem_map.mp hx
  exact good_I1 r (h2 r hr)⟩
theorem good_I3 {n : Nat} {b s : LI} (z : Sz n b s) (hn : n ≤ 1000000) : good 4 (encPI b s) := good_t (by simp) (all_cons (good_I2 b (by have := z.1; omega) fun r hr => by have := z.2.2.1 r hr; omega) (all_cons (good_I2 s (by have := z.2.1; omega) fun r hr => by have := z.2.2.2 r hr; omega) all_nil))
theorem nil_LI (b : LI) : (encLLI b = .list []) ↔ b = [] := by
  constructor
  · intro h
    unfold encLLI at h
    injection h with h
    exact List.map_eq_nil_iff.mp h
  · intro h; subst h; rfl
/-! ### one put in -/
def putR (L : LI) (a p : Nat) (t : Int) : LI := L.take a ++ [((L[a]?).getD []).take p ++ [t] ++ ((L[a]?).getD []).drop p] ++ L.drop (a + 1)
theorem put_ev (L : LI) (c t : Int) {n : Nat} (hn : n ≤ 100000) (hl : L.length ≤ n) (hr : ∀ r ∈ L, r.length ≤ n) : ∃ L', M_l_put_in [encLLI L, .int c, .int t] = some (encLLI L') ∧ L'.length = L.length ∧ ∀ r ∈ L', r.length ≤ n + 1 := by
  have hu : M_l_put_in [encLLI L, .int c, .int t] = (F_l_put_in [some (encLLI L), some (.int c), some (.int t), none, none, none]).bind endD := rfl
  rw [hu]
  unfold F_l_put_in
  have t0 : bT (eOp oEq (eVar 0) (eLst esNil)) [some (encLLI L), some (.int c), some (.int t), none, none, none] = some (decide (L = [])) := bT_of (by
    rw [eOp_ev (eVar_get rfl) (q_lst rfl (by simp)), oEq_g (good_I2 L (by omega) fun r h => by have := hr r h; omega) good_nil (by omega) (by omega) (k := decide (L = [])) (by rw [decide_eq_true_iff]; exact (nil_LI L).symm)])
  by_cases hL : L = []
  · refine ⟨L, ?_, rfl, fun r h => by have := hr r h; omega⟩
    rw [q_seqR ((q_ift (g := sNx) (t0.trans (by rw [decide_eq_true hL]))).trans (q_ret (eVar_get rfl)))]
    rfl
  · rw [q_seq ((q_iff (g := sNx) (t0.trans (by rw [decide_eq_false hL]))).trans rfl)]
    have hp : 0 < L.length := List.length_pos_iff.mpr hL
    have ra := fmod_rng (a := c) (b := (L.length : Int)) (by omega)
    obtain ⟨a, ea⟩ : ∃ a : Nat, (a : Int) = c.fmod (L.length : Int) := ⟨(c.fmod (L.length : Int)).toNat, by omega⟩
    have ha : a < L.length := by omega
    have hra : L[a]? = some L[a] := List.getElem?_eq_getElem ha
    generalize hrw : L[a] = r at hra
    have hrl : r.length ≤ n := hr r (by rw [← hrw]; exact List.getElem_mem ha)
    rw [q_seqS (d := .int (a : Int)) (by rw [mod_ev (eVar_get rfl) (len_m (e := encLI) (xs := L) (eVar_get rfl)) (by omega), ea])]
    dsimp only [List.set]
    have rp := fmod_rng (a := c.fdiv 211) (b := (r.length : Int) + 1) (by omega)
    obtain ⟨p, epp⟩ : ∃ p : Nat, (p : Int) = (c.fdiv 211).fmod ((r.length : Int) + 1) := ⟨((c.fdiv 211).fmod ((r.length : Int) + 1)).toNat, by omega⟩
    rw [q_seqS (d := .int (p : Int)) (by rw [mod_ev (div_ev (eVar_get rfl) rfl (by decide) (by decide)) (add_ev (len_m (e := PyData.int) (xs := r) (at_m (e := encLI) (xs := L) (a := a) (eVar_get rfl) (eVar_get rfl) hra)) rfl) (by omega), epp])]
    dsimp only [List.set]
    rw [q_seqS (d := encLI r) (at_m (e := encLI) (xs := L) (a := a) (eVar_get rfl) (eVar_get rfl) hra)]
    dsimp only [List.set]
    have e5 : eOp oAdd (eOp oAdd (eSl (eVar 5) eNoPart (ePart (eVar 4))) (eLst (esCons (eVar 2) esNil))) (eSl (eVar 5) (ePart (eVar 4)) eNoPart) [some (encLLI L), some (.int c), some (.int t), some (.int (a : Int)), some (.int (p : Int)), some (encLI r)] = some (encLI (r.take p ++ [t] ++ r.drop p)) :=
      add_m (e := PyData.int) (add_m (e := PyData.int) (to_m (e := PyData.int) (xs := r) (a := p) (eVar_get rfl) (eVar_get rfl)) (one_m (e := PyData.int) (x := t) (eVar_get rfl)) (by rw [List.length_take, List.length_singleton]; omega)) (from_m (e := PyData.int) (xs := r) (a := p) (eVar_get rfl) (eVar_get rfl)) (by rw [List.length_append, List.length_take, List.length_singleton, List.length_drop]; omega)
    rw [q_seqS e5]
    dsimp only [List.set]
    have e6 : eOp oAdd (eOp oAdd (eSl (eVar 0) eNoPart (ePart (eVar 3))) (eLst (esCons (eVar 5) esNil))) (eSl (eVar 0) (ePart (eOp oAdd (eVar 3) (eC (.int 1)))) eNoPart) [some (encLLI L), some (.int c), some (.int t), some (.int (a : Int)), some (.int (p : Int)), some (encLI (r.take p ++ [t] ++ r.drop p))] = some (encLLI (L.take a ++ [r.take p ++ [t] ++ r.drop p] ++ L.drop (a + 1))) :=
      add_m (e := encLI) (add_m (e := encLI) (to_m (e := encLI) (xs := L) (a := a) (eVar_get rfl) (eVar_get rfl)) (one_m (e := encLI) (eVar_get rfl)) (by rw [List.length_take, List.length_singleton]; omega)) (from_m (e := encLI) (xs := L) (a := a + 1) (eVar_get rfl) ((add_ev (x := (a : Int)) (eVar_get rfl) rfl).trans rfl)) (by rw [List.length_append, List.length_take, List.length_singleton, List.length_drop]; omega)
    refine ⟨_, by rw [q_ret e6]; rfl, by rw [List.length_append, List.length_append, List.length_take, List.length_singleton, List.length_drop]; omega, fun x hx => ?_⟩
    rcases List.mem_append.mp hx with hx | hx
    · rcases List.mem_append.mp hx with hx | hx
      · have := hr x (List.mem_of_mem_take hx); omega
      · rw [List.mem_singleton.mp hx, List.length_append, List.length_append, List.length_take, List.length_singleton, List.length_drop]; omega
    · have := hr x (List.mem_of_mem_drop hx); omega
/-! ### one thing changed -/
theorem changed_ev (b s : LI) (c k : Int) {n : Nat} (hn : n ≤ 10000) (z : Sz n b s) : ∃ b' s', M_l_changed [encPI b s, .int c, .int k] = some (encPI b' s') ∧ Sz (n + 201) b' s' := by
  obtain ⟨z1, z2, z3, z4⟩ := z
  have zz : Sz (n + 201) b s := ⟨by omega, by omega, fun r h => by have := z3 r h; omega, fun r h => by have := z4 r h; omega⟩
  have hu : M_l_changed [encPI b s, .int c, .int k] = (F_l_changed [some (encPI b s), some (.int c), some (.int k), none, none, none, none, none, none, none]).bind endD := rfl
  rw [hu]
  unfold F_l_changed
  rw [q_seq (q_unp (l := [encLLI b, encLLI s]) (ds' := [some (encPI b s), some (.int c), some (.int k), some (encLLI b), some (encLLI s), none, none, none, none, none]) (eVar_get rfl) rfl)]
  rw [q_seqS (d := .int (b.length : Int)) (len_m (e := encLI) (xs := b) (eVar_get rfl))]
  dsimp only [List.set]
  rw [q_seqS (d := .int (c.fmod 9)) (mod_ev (eVar_get rfl) rfl (by decide))]
  dsimp only [List.set]
  rw [q_seqS (d := .int (c.fdiv 9)) (div_ev (eVar_get rfl) rfl (by decide) (by decide))]
  dsimp only [List.set]
  have wy : ∀ (j : Int) (x8 : Option D), bT (eOp oEq (eVar 6) (eC (.int j))) [some (encPI b s), some (.int c), some (.int k), some (encLLI b), some (encLLI s), some (.int (b.length : Int)), some (.int (c.fmod 9)), some (.int (c.fdiv 9)), x8, none] = some (c.fmod 9 == j) := fun j x8 => eq_ev (eVar_get rfl) rfl
  have gt5 : bT (eOp oGt (eVar 5) (eC (.int 0))) [some (encPI b s), some (.int c), some (.int k), some (encLLI b), some (encLLI s), some (.int (b.length : Int)), some (.int (c.fmod 9)), some (.int (c.fdiv 9)), none, none] = some (decide (0 < (b.length : Int))) := bT_of (by rw [eOp_ev (eVar_get rfl) rfl]; rfl)
  have tl : bT (eOp oLt (eVar 6) (eC (.int 3))) [some (encPI b s), some (.int c), some (.int k), some (encLLI b), some (encLLI s), some (.int (b.length : Int)), some (.int (c.fmod 9)), some (.int (c.fdiv 9)), none, none] = some (decide (c.fmod 9 < 3)) := bT_of (by rw [eOp_ev (eVar_get rfl) rfl]; rfl)
  have r9 := fmod_rng (a := c) (b := 9) (by decide)
  by_cases h3 : c.fmod 9 < 3
  · have r7 := fmod_rng (a := (c.fdiv 9).fdiv 50) (b := 7) (by decide)
    have rs := fmod_rng (a := c.fdiv 9) (b := (b.length : Int) + 1) (by omega)
    have l0 : eLst (esCons (eUn oNeg (eC (.int 1))) (esCons (eVar 5) (esCons (eOp oAdd (eOp oAdd (eVar 5) (eC (.int 1))) (eOp oMod (eVar 7) (eC (.int 999)))) (esCons (eOp oSub (eUn oNeg (eC (.int 1))) (eOp oMod (eVar 7) (eC (.int 99)))) (esCons (eOp oPow (eC (.int 10)) (eC (.int 12))) (esCons (eC (.int 0)) (esCons (eOp oMod (eVar 7) (eOp oAdd (eVar 5) (eC (.int 1)))) esNil))))))) [some (encPI b s), some (.int c), some (.int k), some (encLLI b), some (encLLI s), some (.int (b.length : Int)), some (.int (c.fmod 9)), some (.int (c.fdiv 9)), none, none] = some (encLI [-1, (b.length : Int), (b.length : Int) + 1 + (c.fdiv 9).fmod 999, -1 - (c.fdiv 9).fmod 99, 10 ^ 12, 0, (c.fdiv 9).fmod ((b.length : Int) + 1)]) :=
      q_lst (q_cons rfl (q_cons (eVar_get rfl) (q_cons (add_ev (add_ev (eVar_get rfl) rfl) (mod_ev (eVar_get rfl) rfl (by decide))) (q_cons (sub_ev rfl (mod_ev (eVar_get rfl) rfl (by decide))) (q_cons rfl (q_cons rfl (q_cons (mod_ev (eVar_get rfl) (add_ev (eVar_get rfl) rfl) (by omega)) q_nil))))))) (by simp)
    obtain ⟨d, hd, ed⟩ := pick_m (f := eVar 8) (g := eOp oMod (eOp oDiv (eVar 7) (eC (.int 50))) (eC (.int 7))) (ds := [some (encPI b s), some (.int c), some (.int k), some (encLLI b), some (encLLI s), some (.int (b.length : Int)), some (.int (c.fmod 9)), some (.int (c.fdiv 9)), some (encLI [-1, (b.length : Int), (b.length : Int) + 1 + (c.fdiv 9).fmod 999, -1 - (c.fdiv 9).fmod 99, 10 ^ 12, 0, (c.fdiv 9).fmod ((b.length : Int) + 1)]), none]) (eVar_get rfl) (mod_ev (div_ev (eVar_get rfl) rfl (by decide) (by decide)) rfl (by decide)) (by omega) (by show _ < (7 : Int); omega)
    obtain ⟨t, _, rfl⟩ := List.mem_map.mp hd
    have e8 := q_seqS (g := sSeq (sIf (bT (eOp oEq (eVar 6) (eC (.int 2)))) (sRet (eTup (esCons (eVar 3) (esCons (eCall M_l_put_in (esCons (eVar 4) (esCons (eVar 2) (esCons (eVar 8) esNil)))) esNil)))) sNx) (sRet (eTup (esCons (eCall M_l_put_in (esCons (eVar 3) (esCons (eVar 2) (esCons (eVar 8) esNil)))) (esCons (eVar 4) esNil))))) (i := 8) ed
    by_cases h2 : c.fmod 9 = 2
    · obtain ⟨s', p1, p2, p3⟩ := put_ev s k t (n := n) (by omega) z2 z4
      have fin : eTup (esCons (eVar 3) (esCons (eCall M_l_put_in (esCons (eVar 4) (esCons (eVar 2) (esCons (eVar 8) esNil)))) esNil)) [some (encPI b s), some (.int c), some (.int k), some (encLLI b), some (encLLI s), some (.int (b.length : Int)), some (.int (c.fmod 9)), some (.int (c.fdiv 9)), some (.int t), none] = some (encPI b s') := q_tup (q_cons (eVar_get rfl) (q_cons ((q_call (q_cons (eVar_get rfl) (q_cons (eVar_get rfl) (q_cons (eVar_get rfl) q_nil)))).trans p1) q_nil)) (by simp)
      refine ⟨b, s', ?_, zz.1, by omega, zz.2.2.1, fun r h => by have := p3 r h; omega⟩
      rw [q_seqR ((q_ift (g := sNx) (tl.trans (by rw [decide_eq_true h3]))).trans ((q_seqS l0).trans (e8.trans (q_seqR ((q_ift (g := sNx) ((wy 2 _).trans (by rw [h2]; rfl))).trans (q_ret fin))))))]
      rfl
    · obtain ⟨b', p1, p2, p3⟩ := put_ev b k t (n := n) (by omega) z1 z3
      have fin : eTup (esCons (eCall M_l_put_in (esCons (eVar 3) (esCons (eVar 2) (esCons (eVar 8) esNil)))) (esCons (eVar 4) esNil)) [some (encPI b s), some (.int c), some (.int k), some (encLLI b), some (encLLI s), some (.int (b.length : Int)), some (.int (c.fmod 9)), some (.int (c.fdiv 9)), some (.int t), none] = some (encPI b' s) := q_tup (q_cons ((q_call (q_cons (eVar_get rfl) (q_cons (eVar_get rfl) (q_cons (eVar_get rfl) q_nil)))).trans p1) (q_cons (eVar_get rfl) q_nil)) (by simp)
      refine ⟨b', s, ?_, by omega, zz.2.1, fun r h => by have := p3 r h; omega, zz.2.2.2⟩
      rw [q_seqR ((q_ift (g := sNx) (tl.trans (by rw [decide_eq_true h3]))).trans ((q_seqS l0).trans (e8.trans ((q_seq ((q_iff (g := sNx) ((wy 2 _).trans (by simp [h2]))).trans rfl)).trans (q_ret fin)))))]
      rfl
  · rw [q_seq ((q_iff (g := sNx) (tl.trans (by rw [decide_eq_false h3]))).trans rfl)]
    by_cases a3 : c.fmod 9 = 3 ∧ 0 < (b.length : Int)
    · have ri := fmod_rng (a := k) (b := (b.length : Int)) a3.2
      obtain ⟨b', p1, p2, p3⟩ := put_ev b k ((c.fdiv 9).fmod (k.fmod (b.length : Int) + 1)) (n := n) (by omega) z1 z3
      have fin : eTup (esCons (eCall M_l_put_in (esCons (eVar 3) (esCons (eVar 2) (esCons (eOp oMod (eVar 7) (eOp oAdd (eOp oMod (eVar 2) (eVar 5)) (eC (.int 1)))) esNil)))) (esCons (eVar 4) esNil)) [some (encPI b s), some (.int c), some (.int k), some (encLLI b), some (encLLI s), some (.int (b.length : Int)), some (.int (c.fmod 9)), some (.int (c.fdiv 9)), none, none] = some (encPI b' s) := q_tup (q_cons ((q_call (q_cons (eVar_get rfl) (q_cons (eVar_get rfl) (q_cons (mod_ev (eVar_get rfl) (add_ev (mod_ev (eVar_get rfl) (eVar_get rfl) a3.2) rfl) (by omega)) q_nil)))).trans p1) (q_cons (eVar_get rfl) q_nil)) (by simp)
      refine ⟨b', s, ?_, by omega, zz.2.1, fun r h => by have := p3 r h; omega, zz.2.2.2⟩
      rw [q_seqR ((q_ift (g := sNx) ((and_ev (wy 3 _) gt5).trans (by rw [a3.1, decide_eq_true a3.2]; rfl))).trans (q_ret fin))]
      rfl
    · rw [q_seq ((q_iff (g := sNx) ((and_ev (wy 3 _) gt5).trans (by
        by_cases x : c.fmod 9 = 3
        · have y : ¬ 0 < (b.length : Int) := fun v => a3 ⟨x, v⟩
          rw [decide_eq_false y, Bool.and_false]
        · simp [x]))).trans rfl)]
      by_cases a4 : c.fmod 9 = 4 ∧ 0 < (b.length : Int)
      · obtain ⟨s', p1, p2, p3⟩ := put_ev s k ((c.fdiv 9).fmod (b.length : Int)) (n := n) (by omega) z2 z4
        have fin : eTup (esCons (eVar 3) (esCons (eCall M_l_put_in (esCons (eVar 4) (esCons (eVar 2) (esCons (eOp oMod (eVar 7) (eVar 5)) esNil)))) esNil)) [some (encPI b s), some (.int c), some (.int k), some (encLLI b), some (encLLI s), some (.int (b.length : Int)), some (.int (c.fmod 9)), some (.int (c.fdiv 9)), none, none] = some (encPI b s') := q_tup (q_cons (eVar_get rfl) (q_cons ((q_call (q_cons (eVar_get rfl) (q_cons (eVar_get rfl) (q_cons (mod_ev (eVar_get rfl) (eVar_get rfl) a4.2) q_nil)))).trans p1) q_nil)) (by simp)
        refine ⟨b, s', ?_, zz.1, by omega, zz.2.2.1, fun r h => by have := p3 r h; omega⟩
        rw [q_seqR ((q_ift (g := sNx) ((and_ev (wy 4 _) gt5).trans (by rw [a4.1, decide_eq_true a4.2]; rfl))).trans (q_ret fin))]
        rfl
      · rw [q_seq ((q_iff (g := sNx) ((and_ev (wy 4 _) gt5).trans (by
          by_cases x : c.fmod 9 = 4
          · have y : ¬ 0 < (b.length : Int) := fun v => a4 ⟨x, v⟩
            rw [decide_eq_false y, Bool.and_false]
          · simp [x]))).trans rfl)]
        by_cases a5 : c.fmod 9 = 5
        · have r4 := fmod_rng (a := c.fdiv 9) (b := 4) (by decide)
          have l0 : eLst (esCons (eC (.int 0)) (esCons (eC (.int 1)) (esCons (eC (.int 12)) (esCons (eC (.int 13)) esNil)))) [some (encPI b s), some (.int c), some (.int k), some (encLLI b), some (encLLI s), some (.int (b.length : Int)), some (.int (c.fmod 9)), some (.int (c.fdiv 9)), none, none] = some (.list (([0, 1, 12, 13] : List Nat).map fun (x : Nat) => PyData.int (x : Int))) := q_lst (q_cons rfl (q_cons rfl (q_cons rfl (q_cons rfl q_nil)))) (by simp)
          obtain ⟨d, hd, ed⟩ := pick_m (g := eOp oMod (eVar 7) (eC (.int 4))) l0 (mod_ev (eVar_get rfl) rfl (by decide)) (by omega) (by show _ < (4 : Int); omega)
          obtain ⟨m, hm, rfl⟩ := List.mem_map.mp hd
          have hm13 : m ≤ 13 := by
            simp only [List.mem_cons, List.not_mem_nil, or_false] at hm
            omega
          have em : eOp oMul (eVar 4) (eC (.int 13)) [some (encPI b s), some (.int c), some (.int k), some (encLLI b), some (encLLI s), some (.int (b.length : Int)), some (.int (c.fmod 9)), some (.int (c.fdiv 9)), none, none] = some (.list (((List.replicate 13 s).flatten).map encLI)) := by
            rw [eOp_ev (eVar_get rfl) rfl]
            show (if _ then _ else _) = _
            rw [if_pos ⟨by decide, by decide, by rw [List.length_map]; unfold lim; show s.length * 13 ≤ _; omega⟩]
            rw [List.map_flatten, List.map_replicate]; rfl
          have fin : eTup (esCons (eVar 3) (esCons (eSl (eOp oMul (eVar 4) (eC (.int 13))) eNoPart (ePart (eOp oIx (eLst (esCons (eC (.int 0)) (esCons (eC (.int 1)) (esCons (eC (.int 12)) (esCons (eC (.int 13)) esNil))))) (eOp oMod (eVar 7) (eC (.int 4)))))) esNil)) [some (encPI b s), some (.int c), some (.int k), some (encLLI b), some (encLLI s), some (.int (b.length : Int)), some (.int (c.fmod 9)), some (.int (c.fdiv 9)), none, none] = some (encPI b ((List.replicate 13 s).flatten.take m)) := q_tup (q_cons (eVar_get rfl) (q_cons (to_m (e := encLI) em ed) q_nil)) (by simp)
          refine ⟨b, (List.replicate 13 s).flatten.take m, ?_, zz.1, Nat.le_trans (List.length_take_le _ _) (by omega), zz.2.2.1, fun r h => ?_⟩
          · rw [q_seqR ((q_ift (g := sNx) ((wy 5 _).trans (by rw [a5]; rfl))).trans (q_ret fin))]
            rfl
          · obtain ⟨l, hl, hrl⟩ := List.mem_flatten.mp (List.mem_of_mem_take h)
            rw [(List.mem_replicate.mp hl).2] at hrl
            have := z4 r hrl; omega
        · rw [q_seq ((q_iff (g := sNx) ((wy 5 _).trans (by simp [a5]))).trans rfl)]
          by_cases a6 : c.fmod 9 = 6
          · have r3 := fmod_rng (a := c.fdiv 9) (b := 3) (by decide)
            have l0 : eLst (esCons (eC (.int 200)) (esCons (eC (.int 201)) (esCons (eC (.int 199)) esNil))) [some (encPI b s), some (.int c), some (.int k), some (encLLI b), some (encLLI s), some (.int (b.length : Int)), some (.int (c.fmod 9)), some (.int (c.fdiv 9)), none, none] = some (.list (([200, 201, 199] : List Nat).map fun (x : Nat) => PyData.int (x : Int))) := q_lst (q_cons rfl (q_cons rfl (q_cons rfl q_nil))) (by simp)
            obtain ⟨d, hd, ed⟩ := pick_m (g := eOp oMod (eVar 7) (eC (.int 3))) l0 (mod_ev (eVar_get rfl) rfl (by decide)) (by omega) (by show _ < (3 : Int); omega)
            obtain ⟨m, hm, rfl⟩ := List.mem_map.mp hd
            have hm13 : m ≤ 201 := by
              simp only [List.mem_cons, List.not_mem_nil, or_false] at hm
              omega
            have it : eRng (eOp oSub (eOp oIx (eLst (esCons (eC (.int 200)) (esCons (eC (.int 201)) (esCons (eC (.int 199)) esNil)))) (eOp oMod (eVar 7) (eC (.int 3)))) (eVar 5)) [some (encPI b s), some (.int c), some (.int k), some (encLLI b), some (encLLI s), some (.int (b.length : Int)), some (.int (c.fmod 9)), some (.int (c.fdiv 9)), none, none] = some ((List.range ((m : Int) - (b.length : Int)).toNat).map fun (i : Nat) => PyData.int (i : Int)) := by
              unfold eRng
              rw [sub_ev ed (eVar_get rfl), Option.bind_some]
              dsimp only
              rw [if_pos ⟨by omega, by omega⟩]
              rfl
            have lc : eLc 9 (eRng (eOp oSub (eOp oIx (eLst (esCons (eC (.int 200)) (esCons (eC (.int 201)) (esCons (eC (.int 199)) esNil)))) (eOp oMod (eVar 7) (eC (.int 3)))) (eVar 5))) bYes (eLst esNil) [some (encPI b s), some (.int c), some (.int k), some (encLLI b), some (encLLI s), some (.int (b.length : Int)), some (.int (c.fmod 9)), some (.int (c.fdiv 9)), none, none] = some (.list ((List.replicate ((m : Int) - (b.length : Int)).toNat ([] : List Int)).map encLI)) := by
              rw [lc_enc (g := fun (_ : Nat) => encLI []) it (by rw [List.length_range]; unfold lim; omega) fun i _ => ⟨rfl, q_lst q_nil (by simp)⟩]
              rw [List.map_const', List.length_range, List.map_replicate]
            have fin : eTup (esCons (eOp oAdd (eVar 3) (eLc 9 (eRng (eOp oSub (eOp oIx (eLst (esCons (eC (.int 200)) (esCons (eC (.int 201)) (esCons (eC (.int 199)) esNil)))) (eOp oMod (eVar 7) (eC (.int 3)))) (eVar 5))) bYes (eLst esNil))) (esCons (eVar 4) esNil)) [some (encPI b s), some (.int c), some (.int k), some (encLLI b), some (encLLI s), some (.int (b.length : Int)), some (.int (c.fmod 9)), some (.int (c.fdiv 9)), none, none] = some (encPI (b ++ List.replicate ((m : Int) - (b.length : Int)).toNat []) s) := q_tup (q_cons (add_m (e := encLI) (eVar_get rfl) lc (by rw [List.length_replicate]; omega)) (q_cons (eVar_get rfl) q_nil)) (by simp)
            refine ⟨b ++ List.replicate ((m : Int) - (b.length : Int)).toNat [], s, ?_, by rw [List.length_append, List.length_replicate]; omega, zz.2.1, fun r h => ?_, zz.2.2.2⟩
            · rw [q_seqR ((q_ift (g := sNx) ((wy 6 _).trans (by rw [a6]; rfl))).trans (q_ret fin))]
              rfl
            · rcases List.mem_append.mp h with h | h
              · exact zz.2.2.1 r h
              · rw [(List.mem_replicate.mp h).2]; exact Nat.zero_le _
          · refine ⟨b, s, ?_, zz⟩
            rw [q_seq ((q_iff (g := sNx) ((wy 6 _).trans (by simp [a6]))).trans rfl), q_ret (q_tup (q_cons (eVar_get rfl) (q_cons (eVar_get rfl) q_nil)) (by simp))]
            rfl
end Pu

set_option Elab.async false
set_option linter.all false
set_option maxRecDepth 100000
set_option maxHeartbeats 4000000
set_option autoImplicit false
/-! K1w: what is wrong with a plan. -/
namespace Pu
open PySem PySem.Spec PyProof.Rows L2

/-! ### steps that may fail -/
section
variable {σ α : Type} {f : σ → α → Except Str σ}
def foldE (f : σ → α → Except Str σ) : σ → List α → Except Str σ
  | s, [] => .ok s
  | s, a :: l => match f s a with
    | .ok s' => foldE f s' l
    | .error e => .error e
theorem foldE_ok {a : α} {l : List α} {s s1 : σ} (h : f s a = .ok s1) : foldE f s (a :: l) = foldE f s1 l := by
  show (match f s a with | .ok s' => foldE f s' l | .error e => .error e) = _
  rw [h]
theorem foldE_er {a : α} {l : List α} {s : σ} {e : Str} (h : f s a = .error e) : foldE f s (a :: l) = .error e := by
  show (match f s a with | .ok s' => foldE f s' l | .error e => .error e) = _
  rw [h]
theorem foldE_app : ∀ (l m : List α) (s : σ), foldE f s (l ++ m) = match foldE f s l with
    | .ok s' => foldE f s' m
    | .error e => .error e
  | [], _, _ => rfl
  | a :: l, m, s => by
    show (match f s a with | .ok s' => foldE f s' (l ++ m) | .error e => .error e) = match (match f s a with | .ok s' => foldE f s' l | .error e => .error e) with | .ok s' => foldE f s' m | .error e => .error e
    cases f s a with
    | ok s' => exact foldE_app l m s'
    | error e => rfl
theorem split_at {l : List α} {j : Nat} {a : α} (h : l[j]? = some a) : l = l.take j ++ (a :: l.drop (j + 1)) ∧ l.take (j + 1) = l.take j ++ [a] := by
  have hj := (List.getElem?_eq_some_iff.mp h).1
  have e := (List.getElem?_eq_some_iff.mp h).2
  exact ⟨by rw [← e, ← List.drop_eq_getElem_cons hj, List.take_append_drop], by rw [List.take_add_one, h]; rfl⟩
theorem foldE_next {l : List α} {j : Nat} {a : α} {s s1 : σ} (h : foldE f s (l.take j) = .ok s1) (ha : l[j]? = some a) : foldE f s (l.take (j + 1)) = f s1 a := by
  rw [(split_at ha).2, foldE_app, h]
  show (match f s1 a with | .ok s' => Except.ok s' | .error e => .error e) = _
  cases f s1 a <;> rfl
theorem foldE_bad {l : List α} {j : Nat} {a : α} {s s1 : σ} {e : Str} (h : foldE f s (l.take j) = .ok s1) (ha : l[j]? = some a) (he : f s1 a = .error e) : foldE f s l = .error e := by
  rw [(split_at ha).1, foldE_app, h]
  show (match f s1 a with | .ok s' => foldE f s' (l.drop (j + 1)) | .error e => .error e) = _
  rw [he]
end
def wr1 (n : Nat) (p : Int) (seen : List Int) (t : Int) : Except Str (List Int) := if t < 0 ∨ (n : Int) ≤ t then .error "task" else if t ≤ p then .error "early" else if t ∈ seen then .error "twice" else .ok (seen ++ [t])
abbrev Rw1 := Int × List Int
def wr2 (n : Nat) (seen : List Int) (q : Rw1) : Except Str (List Int) := foldE (wr1 n q.1) seen q.2
def rowsW (b s : LI) : List Rw1 := ((List.range b.length).map fun (i : Nat) => ((i : Int), (b[i]?).getD [])) ++ s.map fun r => ((-1 : Int), r)
def wrongL (b s : LI) : Str := if 200 < b.length then "many" else if s.length < 1 ∨ 12 < s.length then "crew" else match foldE (wr2 b.length) [] (rowsW b s) with
  | .ok _ => ""
  | .error e => e
theorem wr1_len {n : Nat} {p : Int} {seen s' : List Int} {t : Int} (h : wr1 n p seen t = .ok s') : s' = seen ++ [t] ∧ ¬ (t < 0 ∨ (n : Int) ≤ t) ∧ ¬ t ≤ p ∧ ¬ t ∈ seen := by
  unfold wr1 at h
  split at h
  · cases h
  · split at h
    · cases h
    · split at h
      · cases h
      · cases h; exact ⟨rfl, by assumption, by assumption, by assumption⟩
theorem wr2_len {n : Nat} {p : Int} : ∀ (ts : List Int) {seen s' : List Int}, foldE (wr1 n p) seen ts = .ok s' → s'.length = seen.length + ts.length
  | [], seen, s', h => by cases h; rfl
  | t :: ts, seen, s', h => by
    unfold foldE at h
    cases h1 : wr1 n p seen t with
    | error e => rw [h1] at h; cases h
    | ok s1 =>
      rw [h1] at h
      have e := (wr1_len h1).1
      have := wr2_len ts h
      rw [e, List.length_append, List.length_singleton] at this
      rw [List.length_cons]; omega
/-! ### the law's own look -/
def encR1 (q : Rw1) : D := .tuple [.int q.1, encLI q.2]
abbrev dW (b s : LI) (seen : List Int) (rs : List Rw1) (x4 x6 x7 : Option D) : Sl := [some (encLLI b), some (encLLI s), some (encLI seen), some (.list (rs.map encR1)), x4, none, x6, x7]
theorem any_I1 (ns : List Int) (n : Int) : ((ns.map PyData.int).any fun z => PyData.eqv z (.int n)) = decide (n ∈ ns) := by
  induction ns with
  | nil => rfl
  | cons m ns ih =>
    rw [List.map_cons, List.any_cons, ih, eqv_int]
    by_cases e : m = n
    · subst e; simp
    · have e2 : ¬ n = m := fun z => e z.symm
      simp [e, e2]
theorem or_ev {f g : Sl → Option Bool} {ds : Sl} {x y : Bool} (hf : f ds = some x) (hg : g ds = some y) : bOr f g ds = some (x || y) := by
  unfold bOr; rw [hf]
  show (if x = true then some true else g ds) = _
  rw [hg]
  cases x <;> rfl
theorem wIn_ev {b s : LI} {seen : List Int} {rs : List Rw1} {t p : Int} {x7 : Option D} (h : seen.length ≤ 900000) : F_wIn (dW b s seen rs (some (.int t)) (some (.int p)) x7) = some (match wr1 b.length p seen t with
    | .ok s' => .nx (dW b s s' rs (some (.int t)) (some (.int p)) x7)
    | .error e => .rt (.str e)) := by
  have t1 : bOr (bT (eOp oLt (eVar 4) (eC (.int 0)))) (bT (eOp oGe (eVar 4) (eCall oLen (esCons (eVar 0) esNil)))) (dW b s seen rs (some (.int t)) (some (.int p)) x7) = some (decide (t < 0) || decide ((b.length : Int) ≤ t)) := or_ev (bT_of (by rw [eOp_ev (eVar_get rfl) rfl]; rfl)) (bT_of (by rw [eOp_ev (eVar_get rfl) (len_m (e := encLI) (xs := b) (eVar_get rfl))]; rfl))
  have t2 : bT (eOp oLe (eVar 4) (eVar 6)) (dW b s seen rs (some (.int t)) (some (.int p)) x7) = some (decide (t ≤ p)) := bT_of (by rw [eOp_ev (eVar_get rfl) (eVar_get rfl)]; rfl)
  have t3 : bT (eOp oInA (eVar 4) (eVar 2)) (dW b s seen rs (some (.int t)) (some (.int p)) x7) = some (decide (t ∈ seen)) := bT_of (by
    have hs : SeqAt.shaped (.list (seen.map .int)) = true := good_sh (good_I1 seen (by omega)) (by omega)
    rw [eOp_ev (eVar_get rfl) (eVar_get rfl)]
    show (if SeqAt.shaped (.int t) = true ∧ SeqAt.shaped (.list (seen.map .int)) = true then some (PyData.bool ((seen.map PyData.int).any fun z => PyData.eqv z (.int t))) else none) = _
    rw [if_pos ⟨sh_int t, hs⟩, any_I1])
  unfold F_wIn wr1
  by_cases h1 : t < 0 ∨ (b.length : Int) ≤ t
  · rw [if_pos h1, q_seqR ((q_ift (g := sNx) (t1.trans (by
      rcases h1 with h1 | h1
      · rw [decide_eq_true h1]; rfl
      · rw [decide_eq_true h1, Bool.or_true]))).trans (q_ret (d := .str "task") rfl))]
  · rw [if_neg h1, q_seq ((q_iff (g := sNx) (t1.trans (by rw [decide_eq_false fun z => h1 (.inl z), decide_eq_false fun z => h1 (.inr z)]; rfl))).trans rfl)]
    by_cases h2 : t ≤ p
    · rw [if_pos h2, q_seqR ((q_ift (g := sNx) (t2.trans (by rw [decide_eq_true h2]))).trans (q_ret (d := .str "early") rfl))]
    · rw [if_neg h2, q_seq ((q_iff (g := sNx) (t2.trans (by rw [decide_eq_false h2]))).trans rfl)]
      by_cases h3 : t ∈ seen
      · rw [if_pos h3, q_seqR ((q_ift (g := sNx) (t3.trans (by rw [decide_eq_true h3]))).trans (q_ret (d := .str "twice") rfl))]
      · rw [if_neg h3, q_seq ((q_iff (g := sNx) (t3.trans (by rw [decide_eq_false h3]))).trans rfl)]
        show (if (seen.map PyData.int).length + 1 ≤ lim then some (Out.nx ((dW b s seen rs (some (.int t)) (some (.int p)) x7).set 2 (some (.list (seen.map PyData.int ++ [.int t]))))) else none) = _
        rw [if_pos (by rw [List.length_map]; unfold lim; omega)]
        have eL : PyData.list (seen.map PyData.int ++ [.int t]) = encLI (seen ++ [t]) := by
          unfold encLI
          rw [List.map_append]; rfl
        rw [eL]
        rfl
theorem wIn_loop {b s : LI} {rs : List Rw1} {p : Int} {x7 : Option D} : ∀ (ts seen : List Int) (x4 : Option D), seen.length + ts.length ≤ 900000 → ∃ x4', loopD (gNameD 4) F_wIn (ts.map .int) (dW b s seen rs x4 (some (.int p)) x7) = some (match foldE (wr1 b.length p) seen ts with
    | .ok s' => .nx (dW b s s' rs x4' (some (.int p)) x7)
    | .error e => .rt (.str e))
  | [], seen, x4, h => ⟨x4, rfl⟩
  | t :: ts, seen, x4, h => by
    rw [List.length_cons] at h
    have e := wIn_ev (b := b) (s := s) (rs := rs) (t := t) (p := p) (x7 := x7) (seen := seen) (by omega)
    have u : ∀ o : Out, F_wIn (dW b s seen rs (some (.int t)) (some (.int p)) x7) = some o → loopD (gNameD 4) F_wIn ((t :: ts).map .int) (dW b s seen rs x4 (some (.int p)) x7) = match o with
        | .nx ds2 => loopD (gNameD 4) F_wIn (ts.map .int) ds2
        | .ct ds2 => loopD (gNameD 4) F_wIn (ts.map .int) ds2
        | .bk ds2 => some (.nx ds2)
        | .rt r => some (.rt r) := fun o ho => by
      show ((F_wIn (dW b s seen rs (some (.int t)) (some (.int p)) x7)).bind _) = _
      rw [ho, Option.bind_some]
      all_goals (cases o <;> rfl)
    cases h1 : wr1 b.length p seen t with
    | error er =>
      rw [h1] at e
      refine ⟨x4, ?_⟩
      rw [u _ e, foldE_er h1]
    | ok s1 =>
      rw [h1] at e
      have hs1 := (wr1_len h1).1
      obtain ⟨x4', ih⟩ := wIn_loop ts s1 (some (.int t)) (by rw [hs1, List.length_append, List.length_singleton]; omega)
      refine ⟨x4', ?_⟩
      rw [u _ e]
      show loopD (gNameD 4) F_wIn (ts.map .int) (dW b s s1 rs (some (.int t)) (some (.int p)) x7) = _
      rw [ih]
      rw [foldE_ok h1]
theorem wOut_loop {b s : LI} {rs : List Rw1} : ∀ (qs : List Rw1) (seen : List Int) (x4 x6 x7 : Option D), seen.length + 1000 * qs.length ≤ 900000 → (∀ q ∈ qs, q.2.length ≤ 1000) → ∃ x4' x6' x7', loopD (gTupD [6, 7]) (sForO [2] (eItems (eVar 7)) (gNameD 4) F_wIn) (qs.map encR1) (dW b s seen rs x4 x6 x7) = some (match foldE (wr2 b.length) seen qs with
    | .ok s' => .nx (dW b s s' rs x4' x6' x7')
    | .error e => .rt (.str e))
  | [], seen, x4, x6, x7, h, hq => ⟨x4, x6, x7, rfl⟩
  | q :: qs, seen, x4, x6, x7, h, hq => by
    rw [List.length_cons] at h
    have hl := hq q List.mem_cons_self
    obtain ⟨x4', e⟩ := wIn_loop (b := b) (s := s) (rs := rs) (p := q.1) (x7 := some (encLI q.2)) q.2 seen x4 (by omega)
    have u : ∀ o : Out, loopD (gNameD 4) F_wIn (q.2.map .int) (dW b s seen rs x4 (some (.int q.1)) (some (encLI q.2))) = some o → loopD (gTupD [6, 7]) (sForO [2] (eItems (eVar 7)) (gNameD 4) F_wIn) ((q :: qs).map encR1) (dW b s seen rs x4 x6 x7) = match o with
        | .nx ds2 => loopD (gTupD [6, 7]) (sForO [2] (eItems (eVar 7)) (gNameD 4) F_wIn) (qs.map encR1) ds2
        | .ct ds2 => loopD (gTupD [6, 7]) (sForO [2] (eItems (eVar 7)) (gNameD 4) F_wIn) (qs.map encR1) ds2
        | .bk ds2 => some (.nx ds2)
        | .rt r => some (.rt r) := fun o ho => by
      show ((loopD (gNameD 4) F_wIn (q.2.map .int) (dW b s seen rs x4 (some (.int q.1)) (some (encLI q.2)))).bind _) = _
      rw [ho, Option.bind_some]
      all_goals (cases o <;> rfl)
    cases h1 : wr2 b.length seen q with
    | error er =>
      have h1' : foldE (wr1 b.length q.1) seen q.2 = .error er := h1
      rw [h1'] at e
      refine ⟨x4, x6, x7, ?_⟩
      rw [u _ e, foldE_er h1]
    | ok s1 =>
      have h1' : foldE (wr1 b.length q.1) seen q.2 = .ok s1 := h1
      rw [h1'] at e
      have hs1 := wr2_len q.2 h1'
      obtain ⟨x4'', x6', x7', ih⟩ := wOut_loop qs s1 x4' (some (.int q.1)) (some (encLI q.2)) (by omega) (fun q' m => hq q' (List.mem_cons_of_mem _ m))
      refine ⟨x4'', x6', x7', ?_⟩
      rw [u _ e]
      show loopD (gTupD [6, 7]) (sForO [2] (eItems (eVar 7)) (gNameD 4) F_wIn) (qs.map encR1) (dW b s s1 rs x4' (some (.int q.1)) (some (encLI q.2))) = _
      rw [ih]
      rw [foldE_ok h1]
theorem rowsW_len {b s : LI} : (rowsW b s).length = b.length + s.length := by
  unfold rowsW
  rw [List.length_append, List.length_map, List.length_map, List.length_range]
theorem rowsW_le {b s : LI} {n : Nat} (z : Sz n b s) : ∀ q ∈ rowsW b s, q.2.length ≤ n := fun q hq => by
  rcases List.mem_append.mp hq with hq | hq
  · obtain ⟨i, hi, rfl⟩ := List.mem_map.mp hq
    have hi' := List.mem_range.mp hi
    show ((b[i]?).getD []).length ≤ n
    rw [List.getElem?_eq_getElem hi', Option.getD_some]
    exact z.2.2.1 _ (List.getElem_mem hi')
  · obtain ⟨r, hr, rfl⟩ := List.mem_map.mp hq
    exact z.2.2.2 r hr
theorem wrong_ev {b s : LI} {n : Nat} (z : Sz n b s) (hn : n ≤ 1000) : M_l_wrong [encLLI b, encLLI s] = some (.str (wrongL b s)) := by
  obtain ⟨z1, z2, z3, z4⟩ := id z
  have hu : M_l_wrong [encLLI b, encLLI s] = (F_l_wrong [some (encLLI b), some (encLLI s), none, none, none, none, none, none]).bind endD := rfl
  rw [hu]
  unfold F_l_wrong wrongL
  have l0 : ∀ {x2 x3 : Option D}, eCall oLen (esCons (eVar 0) esNil) [some (encLLI b), some (encLLI s), x2, x3, none, none, none, none] = some (.int (b.length : Int)) := len_m (e := encLI) (xs := b) (eVar_get rfl)
  have l1 : eCall oLen (esCons (eVar 1) esNil) [some (encLLI b), some (encLLI s), none, none, none, none, none, none] = some (.int (s.length : Int)) := len_m (e := encLI) (xs := s) (eVar_get rfl)
  have t1 : bT (eOp oGt (eCall oLen (esCons (eVar 0) esNil)) (eC (.int 200))) [some (encLLI b), some (encLLI s), none, none, none, none, none, none] = some (decide ((200 : Int) < (b.length : Int))) := bT_of (by rw [eOp_ev l0 rfl]; rfl)
  by_cases h1 : 200 < b.length
  · rw [if_pos h1, q_seqR ((q_ift (g := sNx) (t1.trans (by rw [decide_eq_true (by omega)]))).trans (q_ret (d := .str "many") rfl))]
    rfl
  rw [if_neg h1, q_seq ((q_iff (g := sNx) (t1.trans (by rw [decide_eq_false (by omega)]))).trans rfl)]
  have t2 : bOr (bT (eOp oLt (eCall oLen (esCons (eVar 1) esNil)) (eC (.int 1)))) (bT (eOp oGt (eCall oLen (esCons (eVar 1) esNil)) (eC (.int 12)))) [some (encLLI b), some (encLLI s), none, none, none, none, none, none] = some (decide ((s.length : Int) < 1) || decide ((12 : Int) < (s.length : Int))) := or_ev (bT_of (by rw [eOp_ev l1 rfl]; rfl)) (bT_of (by rw [eOp_ev l1 rfl]; rfl))
  by_cases h2 : s.length < 1 ∨ 12 < s.length
  · rw [if_pos h2, q_seqR ((q_ift (g := sNx) (t2.trans (by
      rcases h2 with h2 | h2
      · rw [decide_eq_true (by omega)]; rfl
      · rw [decide_eq_true (p := (12 : Int) < (s.length : Int)) (by omega), Bool.or_true]))).trans (q_ret (d := .str "crew") rfl))]
    rfl
  rw [if_neg h2, q_seq ((q_iff (g := sNx) (t2.trans (by rw [decide_eq_false (by omega), decide_eq_false (by omega)]; rfl))).trans rfl)]
  rw [q_seq (show sNewO 2 [some (encLLI b), some (encLLI s), none, none, none, none, none, none] = some (.nx [some (encLLI b), some (encLLI s), some (encLI []), none, none, none, none, none]) from rfl)]
  have c1 : eLc 4 (eRng (eCall oLen (esCons (eVar 0) esNil))) bYes (eTup (esCons (eVar 4) (esCons (eOp oIx (eVar 0) (eVar 4)) esNil))) [some (encLLI b), some (encLLI s), none, none, none, none, none, none] = some (.list (((List.range b.length).map fun (i : Nat) => ((i : Int), (b[i]?).getD [])).map encR1)) := by
    have it : eRng (eCall oLen (esCons (eVar 0) esNil)) [some (encLLI b), some (encLLI s), none, none, none, none, none, none] = some ((List.range b.length).map fun (i : Nat) => PyData.int (i : Int)) := by
      unfold eRng
      rw [l0, Option.bind_some]
      dsimp only
      rw [if_pos ⟨by omega, by omega⟩]
      unfold rngD
      rw [Int.toNat_natCast]
    rw [lc_enc (g := fun (i : Nat) => encR1 ((i : Int), (b[i]?).getD [])) it (by rw [List.length_range]; unfold lim; omega) fun i hi => ⟨rfl, ?_⟩, List.map_map]
    · rfl
    · have hi' := List.mem_range.mp hi
      have hx : b[i]? = some ((b[i]?).getD []) := by rw [List.getElem?_eq_getElem hi', Option.getD_some]
      exact q_tup (q_cons (d := .int (i : Int)) (eVar_get rfl) (q_cons (at_m (e := encLI) (xs := b) (a := i) (eVar_get rfl) (eVar_get rfl) hx) q_nil)) (by simp)
  have c2 : eLc 5 (eItems (eVar 1)) bYes (eTup (esCons (eUn oNeg (eC (.int 1))) (esCons (eVar 5) esNil))) [some (encLLI b), some (encLLI s), none, none, none, none, none, none] = some (.list ((s.map fun r => ((-1 : Int), r)).map encR1)) := by
    rw [lc_enc (enc := encLI) (g := fun r => encR1 ((-1 : Int), r)) (l := s) (it := eItems (eVar 1)) rfl (by unfold lim; omega) fun r _ => ⟨rfl, q_tup (q_cons (d := .int (-1)) rfl (q_cons (d := encLI r) (eVar_get rfl) q_nil)) (by simp)⟩, List.map_map]
    rfl
  have c3 := add_m (e := encR1) c1 c2 (by rw [List.length_map, List.length_map, List.length_range]; omega)
  have c4 : sSetO [2] 3 (eOp oAdd (eLc 4 (eRng (eCall oLen (esCons (eVar 0) esNil))) bYes (eTup (esCons (eVar 4) (esCons (eOp oIx (eVar 0) (eVar 4)) esNil)))) (eLc 5 (eItems (eVar 1)) bYes (eTup (esCons (eUn oNeg (eC (.int 1))) (esCons (eVar 5) esNil))))) [some (encLLI b), some (encLLI s), some (encLI []), none, none, none, none, none] = some (.nx (dW b s [] (rowsW b s) none none none)) := by
    unfold sSetO
    exact q_set (d := PyData.list ((rowsW b s).map encR1)) c3
  rw [q_seq c4]
  obtain ⟨x4, x6, x7, e⟩ := wOut_loop (b := b) (s := s) (rs := rowsW b s) (rowsW b s) [] none none none (by rw [rowsW_len]; simp; omega) (fun q hq => by have := rowsW_le z q hq; omega)
  have e' : sForO [2] (eItems (eVar 3)) (gTupD [6, 7]) (sForO [2] (eItems (eVar 7)) (gNameD 4) F_wIn) (dW b s [] (rowsW b s) none none none) = some (match foldE (wr2 b.length) [] (rowsW b s) with
      | .ok s' => .nx (dW b s s' (rowsW b s) x4 x6 x7)
      | .error e => .rt (.str e)) := e
  cases hf : foldE (wr2 b.length) [] (rowsW b s) with
  | ok s' =>
    rw [hf] at e'
    rw [q_seq e', q_ret (d := .str "") rfl]
    rfl
  | error er =>
    rw [hf] at e'
    rw [q_seqR e']
    rfl
end Pu

set_option Elab.async false
set_option linter.all false
set_option maxRecDepth 100000
set_option maxHeartbeats 4000000
set_option autoImplicit false
/-! K1c: what look_at and checked promise. -/
namespace Pu
open PySem PySem.Spec PyProof.Rows L2

theorem u1 {n : Nat} (h : n + 65 < cLine) : n + 1 < cLine := by omega
/-! ### a set of whole numbers as a dict -/
def kI (ks : List Int) : List (Key × V) := ks.map fun k => ((.inl k : Key), V.bl true)
theorem kI_any (ks : List Int) (t : Int) : ((kI ks).any fun kv => decide (kv.1 = (.inl t : Key))) = decide (t ∈ ks) := by
  induction ks with
  | nil => rfl
  | cons k ks ih =>
    show (decide ((.inl k : Key) = .inl t) || (kI ks).any _) = _
    rw [ih]
    by_cases e : k = t
    · subst e; simp
    · have e2 : ¬ ((.inl k : Key) = .inl t) := fun z => e (by cases z; rfl)
      rw [decide_eq_false e2]
      simp [show ¬ t = k from fun z => e z.symm]
theorem kI_put {ks : List Int} {t : Int} (h : ¬ t ∈ ks) : putK (kI ks) (.inl t) (.bl true) = kI (ks ++ [t]) := by
  unfold putK
  rw [kI_any, decide_eq_false h, if_neg Bool.false_ne_true]
  unfold kI
  rw [List.map_append]; rfl
theorem kI_val (ks : List Int) (t : Int) : (valV (kI ks) (.inl t)).isSome = decide (t ∈ ks) := by
  rw [← valV_any, kI_any]
theorem kI_len (ks : List Int) : (kI ks).length = ks.length := by unfold kI; rw [List.length_map]
/-! ### rows of whole numbers -/
def vI (l : List Int) : List V := l.map V.int
theorem vI_len (l : List Int) : (vI l).length = l.length := by unfold vI; rw [List.length_map]
theorem rpI {M : MS} {H : Hp} (l : List Int) : RpAll M H (vI l) (l.map .int) := RpAll.of_ints l
theorem rowsI_rp {M : MS} {H : Hp} {l : Addr} {as : List Addr} {b : LI} (R : Rows H l as (b.map vI)) (hl : ¬ M l) (ha : ∀ a ∈ as, ¬ M a) : Rp M H (.ref l) (encLLI b) := by
  have z := R.rp (dss := b.map fun r => r.map PyData.int) hl ha (by simp) (fun i r ds h1 h2 => by
    rw [List.getElem?_map] at h1 h2
    cases e : b[i]? with
    | none => rw [e] at h1; cases h1
    | some x => rw [e] at h1 h2; cases h1; cases h2; exact rpI x)
  rw [List.map_map] at z
  exact z
/-- [list(x) for x in rows], each told as new -/
theorem lc_copyI {K : PySem.W.Frag} {σ : St} {ds : Sl} {f : Sl → Option D} {b : LI} {H : Hp} {Q : VK} {i : Nat} (s : SlD M0 H σ ds) (e : f ds = some (encLLI b)) (hi : i < σ.length) (hz : b.length ≤ 100000)
    (q : ∀ H' Dl as, Rows H' Dl as (b.map vI) → Same H H' → New H Dl as → Q (.ref Dl) H') : tLc (iSeq K f) (gName i) tYes (tCB (rList K) (tCons (tVar i) tNil)) [i] σ H Q := by
  refine .inl (tp_ok (Ok.none H) s e fun v H1 s1 r1 => ?_)
  cases r1 with
  | lst a1 n1 r1 =>
    rename_i a xs
    have hlen : xs.length = b.length := by rw [r1.length, List.length_map]
    refine ⟨a, rfl, ⟨_, SqL.of a1⟩, fun Dl hD => lc_list (te := tCB (rList K) (tCons (tVar i) tNil)) (tt := tYes) (fun j H' => ∃ as, Rows H' Dl as ((b.take j).map vI) ∧ Same H1 H' ∧ New H1 Dl as) ⟨[], Rows.nil upd_same, Pu.Same.new hD, hD, fun a h => by simp at h⟩ (fun j H' _ ⟨_, _, s', _⟩ => SqL.of (s' _ _ a1)) (fun j x H' hx hP => ?_) (fun H' hP => ?_)⟩
    · obtain ⟨as, R, s', nw⟩ := hP
      refine ⟨?_, ?_⟩
      · show ((σ.set i none).set i _).set i none = σ.set i none
        rw [set_set3, set_set3]
      · dsimp only [tYes]
        rw [if_pos rfl]
        obtain ⟨d, hd, rx⟩ := r1.get' hx
        rw [List.getElem?_map] at hd
        cases hb : b[j]? with
        | none => rw [hb] at hd; cases hd
        | some l =>
          rw [hb] at hd
          cases hd
          cases rx with
          | lst e2 n2 r2 =>
            rename_i p ws
            have ew : ws = vI l := r2.ints
            subst ew
            refine ⟨.ref p, ?_, p, vI l, rfl, .inl (SqL.of (s' _ _ e2)), fun p2 hp2 => ⟨as.map V.ref, ?_, ?_, as ++ [p2], ?_, ?_, nw.push s' hp2⟩⟩
            · exact List.getElem?_set_self (by rw [wipe_length]; exact hi)
            · rw [upd_ne (ne_of_none R.top hp2)]; exact R.top
            · have := (List.getElem?_eq_some_iff.mp hb).1
              rw [List.length_map, R.len, List.length_map, List.length_take, sizeLine_eq]; omega
            · have z := R.push (r := vI l) hp2
              have e3 : (b.take (j + 1)).map vI = (b.take j).map vI ++ [vI l] := by
                rw [List.take_add_one, hb, List.map_append]; rfl
              rw [e3]
              exact z
            · exact Pu.Same.mut (L2.Same.trans s' (Pu.Same.new hp2)) hD
    · obtain ⟨as, R, s', nw⟩ := hP
      rw [hlen, List.take_length] at R
      exact q H' Dl as R (L2.Same.trans s1 s') ⟨s1.free nw.1, fun x hx => s1.free (nw.2 x hx)⟩
/-- a pair of such copies -/
def PairAt (H H' : Hp) (b s : LI) (g lb ls : Addr) (ab asr : List Addr) : Prop := Same H H' ∧ H g = none ∧ New H lb ab ∧ New H ls asr ∧ Rows H' lb ab (b.map vI) ∧ Rows H' ls asr (s.map vI) ∧ (∀ x, (x = lb ∨ x ∈ ab) → x ≠ ls ∧ ¬ x ∈ asr) ∧ (g ≠ lb ∧ ¬ g ∈ ab ∧ g ≠ ls ∧ ¬ g ∈ asr) ∧ H' g = some (.tup [.ref lb, .ref ls])
theorem rd_copyI {K : PySem.W.Frag} {σ : St} {H : Hp} {Q : VK} {f g : Sl → Option D} {ds : Sl} {b s : LI} {i j : Nat} (sl : SlD M0 H σ ds) (e0 : f ds = some (encLLI b)) (e1 : g ds = some (encLLI s)) (hi : i < σ.length) (hj : j < σ.length) (hb : b.length ≤ 100000) (hs : s.length ≤ 100000)
    (q : ∀ p lb ls ab asr H', PairAt H H' b s p lb ls ab asr → Q (.ref p) H') :
    tTup (tCons (tLc (iSeq K f) (gName i) tYes (tCB (rList K) (tCons (tVar i) tNil)) [i]) (tCons (tLc (iSeq K g) (gName j) tYes (tCB (rList K) (tCons (tVar j) tNil)) [j]) tNil)) σ H Q := by
  refine z_tup ?_
  refine z_cons ?_
  refine lc_copyI sl e0 hi hb fun H4 lb ab Rb s4 nb => ?_
  refine z_cons ?_
  refine lc_copyI (sl.same s4) e1 hj hs fun H5 ls asr Rs s5 nsr => ?_
  refine ⟨by show 2 ≤ sizeLine; rw [sizeLine_eq]; decide, fun p hp => ?_⟩
  have s6 : Same H5 (upd H5 p (.tup [.ref lb, .ref ls])) := Pu.Same.new hp
  have Rb5 : Rows H5 lb ab (b.map vI) := Rb.same fun x o _ e => s5 x o e
  have s46 := s4.trans s5
  have inB : ∀ {H0 : Hp} {l : Addr} {as : List Addr} {rs : List (List V)}, Rows H0 l as rs → ∀ x, (x = l ∨ x ∈ as) → H0 x ≠ none := fun R x hx => by
    rcases hx with rfl | hx
    · rw [R.top]; simp
    · obtain ⟨k, hk⟩ := List.mem_iff_getElem?.mp hx
      obtain ⟨r, _, h2⟩ := R.row k x hk
      rw [h2]; simp
  refine q p lb ls ab asr _ ⟨s46.trans s6, s46.free hp, nb, ⟨s4.free nsr.1, fun x hx => s4.free (nsr.2 x hx)⟩, Rb5.same fun x o _ e => s6 x o e, Rs.same fun x o _ e => s6 x o e, fun x hx => ⟨fun e => inB Rb x hx (e ▸ nsr.1), fun m => inB Rb x hx (nsr.2 x m)⟩, ⟨fun e => inB Rb5 lb (.inl rfl) (e ▸ hp), fun m => inB Rb5 p (.inr m) hp, fun e => inB Rs ls (.inl rfl) (e ▸ hp), fun m => inB Rs p (.inr m) hp⟩, upd_same⟩
/-! ### the classes -/
def clsOf (cm cc ct ce cw : Addr) (w : Str) : Addr := if w = "many" then cm else if w = "crew" then cc else if w = "task" then ct else if w = "early" then ce else cw
section
variable {cm cc ct ce cw : Addr}
theorem cls_many : clsOf cm cc ct ce cw "many" = cm := if_pos rfl
theorem cls_crew : clsOf cm cc ct ce cw "crew" = cc := by unfold clsOf; rw [if_neg (by decide +kernel), if_pos rfl]
theorem cls_task : clsOf cm cc ct ce cw "task" = ct := by unfold clsOf; rw [if_neg (by decide +kernel), if_neg (by decide +kernel), if_pos rfl]
theorem cls_early : clsOf cm cc ct ce cw "early" = ce := by unfold clsOf; rw [if_neg (by decide +kernel), if_neg (by decide +kernel), if_neg (by decide +kernel), if_pos rfl]
theorem cls_twice : clsOf cm cc ct ce cw "twice" = cw := by unfold clsOf; rw [if_neg (by decide +kernel), if_neg (by decide +kernel), if_neg (by decide +kernel), if_neg (by decide +kernel)]
end
def spLook (ct cw : Addr) : Sp := fun vs H Q E => ∃ (t n : Int) (p : Addr) (seen : List Int), vs = [.int t, .int n, .ref p] ∧ H p = some (.dK (kI seen)) ∧ (¬ (0 ≤ t ∧ t < n) → ∀ H', Same H H' → E (.ref ct) none H') ∧ (0 ≤ t ∧ t < n → t ∈ seen → ∀ H', Same H H' → E (.ref cw) none H') ∧ (0 ≤ t ∧ t < n → ¬ t ∈ seen → ∀ H', Same H H' → Q .non H')
def spChecked (cl : Str → Addr) : Sp := fun vs H Q E => ∃ (vp : V) (b s : LI), vs = [vp] ∧ Rp M0 H vp (encPI b s) ∧ Sz 1000 b s ∧ (wrongL b s = "" → ∀ g lb ls ab asr H', PairAt H H' b s g lb ls ab asr → Q (.ref g) H') ∧ (wrongL b s ≠ "" → ∀ H', Same H H' → E (.ref (cl (wrongL b s))) none H')
/-! ### where it is wrong -/
theorem rowsW_A {b s : LI} {i : Nat} {r : List Int} (h : b[i]? = some r) : (rowsW b s)[i]? = some ((i : Int), r) := by
  have hi := (List.getElem?_eq_some_iff.mp h).1
  unfold rowsW
  rw [List.getElem?_append_left (by rw [List.length_map, List.length_range]; exact hi), List.getElem?_map, List.getElem?_range hi]
  show some ((i : Int), (b[i]?).getD []) = _
  rw [h]; rfl
theorem rowsW_B {b s : LI} {i : Nat} {r : List Int} (h : s[i]? = some r) : (rowsW b s)[b.length + i]? = some ((-1 : Int), r) := by
  unfold rowsW
  rw [List.getElem?_append_right (by rw [List.length_map, List.length_range]; omega), List.length_map, List.length_range, Nat.add_sub_cancel_left, List.getElem?_map, h]; rfl
theorem wrong_at {b s : LI} {k j : Nat} {p t : Int} {r seen seen2 : List Int} {e : Str} (n200 : ¬ 200 < b.length) (nc : ¬ (s.length < 1 ∨ 12 < s.length)) (h1 : foldE (wr2 b.length) [] ((rowsW b s).take k) = .ok seen) (hk : (rowsW b s)[k]? = some (p, r)) (h2 : foldE (wr1 b.length p) seen (r.take j) = .ok seen2) (hj : r[j]? = some t) (he : wr1 b.length p seen2 t = .error e) : wrongL b s = e := by
  have a : wr2 b.length seen (p, r) = .error e := foldE_bad h2 hj he
  have c := foldE_bad h1 hk a
  unfold wrongL
  rw [if_neg n200, if_neg nc, c]
theorem wrong_no {b s : LI} {seen : List Int} (n200 : ¬ 200 < b.length) (nc : ¬ (s.length < 1 ∨ 12 < s.length)) (h1 : foldE (wr2 b.length) [] (rowsW b s) = .ok seen) : wrongL b s = "" := by
  unfold wrongL
  rw [if_neg n200, if_neg nc, h1]
/-! ### what the law does behind it -/
def OkR (l : List D) : Prop := ∃ p : LI × LI, l = [encPI p.1 p.2] ∧ Sz 1000 p.1 p.2
noncomputable def M_l_right : List D → Option D := fun l => by
  classical
  exact if OkR l then some (.bool true) else none
theorem M_right_ev {b s : LI} (z : Sz 1000 b s) : M_l_right [encPI b s] = some (.bool true) := by
  unfold M_l_right
  exact if_pos ⟨(b, s), rfl, z⟩
theorem M_right_of {l : List D} {d : D} (h : M_l_right l = some d) : ∃ b s, l = [encPI b s] ∧ Sz 1000 b s ∧ d = .bool true := by
  unfold M_l_right at h
  by_cases k : OkR l
  · rw [if_pos k] at h
    obtain ⟨p, e, z⟩ := k
    exact ⟨p.1, p.2, e, z, (Option.some.inj h).symm⟩
  · rw [if_neg k] at h; cases h
theorem wr_words {n : Nat} : ∀ {p : Int} (ts : List Int) {seen : List Int} {e : Str}, foldE (wr1 n p) seen ts = .error e → e = "task" ∨ e = "early" ∨ e = "twice"
  | p, [], seen, e, h => by cases h
  | p, t :: ts, seen, e, h => by
    cases h1 : wr1 n p seen t with
    | ok s1 => rw [foldE_ok h1] at h; exact wr_words ts h
    | error e1 =>
      rw [foldE_er h1] at h
      cases h
      unfold wr1 at h1
      split at h1
      · cases h1; exact .inl rfl
      · split at h1
        · cases h1; exact .inr (.inl rfl)
        · split at h1
          · cases h1; exact .inr (.inr rfl)
          · cases h1
theorem wr_words2 {n : Nat} : ∀ (qs : List Rw1) {seen : List Int} {e : Str}, foldE (wr2 n) seen qs = .error e → e = "task" ∨ e = "early" ∨ e = "twice"
  | [], seen, e, h => by cases h
  | q :: qs, seen, e, h => by
    cases h1 : wr2 n seen q with
    | ok s1 => rw [foldE_ok h1] at h; exact wr_words2 qs h
    | error e1 =>
      rw [foldE_er h1] at h
      cases h
      exact wr_words q.2 h1
theorem wrong_words (b s : LI) : wrongL b s = "" ∨ wrongL b s = "many" ∨ wrongL b s = "crew" ∨ wrongL b s = "task" ∨ wrongL b s = "early" ∨ wrongL b s = "twice" := by
  unfold wrongL
  split
  · exact .inr (.inl rfl)
  · split
    · exact .inr (.inr (.inl rfl))
    · cases h : foldE (wr2 b.length) [] (rowsW b s) with
      | ok s1 => exact .inl rfl
      | error e =>
        rcases wr_words2 _ h with rfl | rfl | rfl
        · exact .inr (.inr (.inr (.inl rfl)))
        · exact .inr (.inr (.inr (.inr (.inl rfl))))
        · exact .inr (.inr (.inr (.inr (.inr rfl))))
theorem copyP_ev {ds : Sl} {b s : LI} (h0 : ds[0]? = some (some (encPI b s))) (hd : ds.length = 9) (hb : b.length ≤ 10000) (hs : s.length ≤ 10000) : eTup (esCons (eLc 2 (eItems (eOp oIx (eVar 0) (eC (.int 0)))) bYes (eCall oList (esCons (eVar 2) esNil))) (esCons (eLc 2 (eItems (eOp oIx (eVar 0) (eC (.int 1)))) bYes (eCall oList (esCons (eVar 2) esNil))) esNil)) ds = some (encPI b s) := by
  have a0 : eOp oIx (eVar 0) (eC (.int 0)) ds = some (encLLI b) := by rw [eOp_ev (eVar_get h0) rfl]; exact oIx0
  have a1 : eOp oIx (eVar 0) (eC (.int 1)) ds = some (encLLI s) := by rw [eOp_ev (eVar_get h0) rfl]; exact oIx1
  have one : ∀ {f : Sl → Option D} {L : LI}, f ds = some (encLLI L) → L.length ≤ 10000 → eLc 2 (eItems f) bYes (eCall oList (esCons (eVar 2) esNil)) ds = some (encLLI L) := fun {f L} hf hl => by
    refine lc_enc (enc := encLI) (g := encLI) (by unfold eItems; rw [hf]; rfl) (by unfold lim; omega) fun r _ => ⟨rfl, ?_⟩
    have h2 : ((ds.set 2 none).set 2 (some (encLI r)))[2]? = some (some (encLI r)) := List.getElem?_set_self (by rw [List.length_set, hd]; decide)
    exact (q_call (q_cons (eVar_get h2) q_nil)).trans rfl
  exact q_tup (q_cons (one a0 hb) (q_cons (one a1 hs) q_nil)) (by simp)
/-- the i-th row with i behind it -/
def addK (R : LI) : LI := (List.range R.length).map fun (i : Nat) => (R[i]?).getD [] ++ [(i : Int)]
theorem addK_len (R : LI) : (addK R).length = R.length := by unfold addK; rw [List.length_map, List.length_range]
theorem addK_at {R : LI} {i : Nat} {r : List Int} (h : R[i]? = some r) : (addK R)[i]? = some (r ++ [(i : Int)]) := by
  have hi := (List.getElem?_eq_some_iff.mp h).1
  unfold addK
  rw [List.getElem?_map, List.getElem?_range hi]
  show some ((R[i]?).getD [] ++ [(i : Int)]) = _
  rw [h]; rfl
def curK (R : LI) (j : Nat) : LI := (addK R).take j ++ R.drop j
theorem curK_len {R : LI} {j : Nat} (h : j ≤ R.length) : (curK R j).length = R.length := by
  unfold curK
  rw [List.length_append, List.length_take, List.length_drop, addK_len]; omega
theorem curK_at {R : LI} {j : Nat} {r : List Int} (h : R[j]? = some r) : (curK R j)[j]? = some r := by
  have hj := (List.getElem?_eq_some_iff.mp h).1
  unfold curK
  rw [List.getElem?_append_right (by rw [List.length_take]; omega), List.length_take, addK_len, Nat.min_eq_left (by omega), Nat.sub_self, List.getElem?_drop, Nat.add_zero, h]
theorem curK_set {R : LI} {j : Nat} {r : List Int} (h : R[j]? = some r) : (curK R j).set j (r ++ [(j : Int)]) = curK R (j + 1) := by
  have hj := (List.getElem?_eq_some_iff.mp h).1
  unfold curK
  rw [List.set_append_right _ _ (by rw [List.length_take]; omega), List.length_take, addK_len, Nat.min_eq_left (by omega), Nat.sub_self, List.drop_eq_getElem_cons hj, List.set_cons_zero, List.take_add_one, addK_at h, List.append_assoc]
  rfl
theorem curK_all (R : LI) : curK R R.length = addK R := by
  unfold curK
  rw [List.take_of_length_le (by rw [addK_len]; exact Nat.le_refl _), List.drop_length, List.append_nil]
theorem blsOf_true : ∀ n : Nat, blsOf (List.replicate n (PyData.bool true)) = some (List.replicate n true)
  | 0 => rfl
  | n + 1 => by
    rw [List.replicate_succ, List.replicate_succ]
    show ((blsOf (List.replicate n (PyData.bool true))).bind fun l => some (true :: l)) = _
    rw [blsOf_true n]; rfl
theorem last_ev1 {ds : Sl} {b s : LI} (z : Sz 1000 b s) (h0 : ds[0]? = some (some (encPI b s))) (h1 : ds[1]? = some (some (encPI b s))) (h6 : ds[6]? = some (some (encLLI (addK (b ++ s))))) (h8 : ds[8]? = some (some (encLLI (b ++ s)))) (hd : ds.length = 9) :
    eAnd (eOp oEq (eVar 1) (eVar 0)) (eCall oAll (esCons (eLc 7 (eRng (eCall oLen (esCons (eVar 6) esNil))) bYes (eOp oEq (eOp oIx (eVar 6) (eVar 7)) (eOp oAdd (eOp oIx (eVar 8) (eVar 7)) (eLst (esCons (eVar 7) esNil))))) esNil)) ds = some (.bool true) := by
  obtain ⟨z1, z2, z3, z4⟩ := id z
  have hR : ∀ r ∈ b ++ s, r.length ≤ 1000 := fun r m => (List.mem_append.mp m).elim (z3 r) (z4 r)
  have hl : (b ++ s).length ≤ 2000 := by rw [List.length_append]; omega
  have gp := good_I3 z (by omega)
  have e1 : bT (eOp oEq (eVar 1) (eVar 0)) ds = some true := bT_of (by
    rw [eOp_ev (eVar_get h1) (eVar_get h0)]
    exact oEq_g (k := true) gp gp (by omega) (by omega) ⟨fun _ => rfl, fun _ => rfl⟩)
  have it : eRng (eCall oLen (esCons (eVar 6) esNil)) ds = some ((List.range (b ++ s).length).map fun (i : Nat) => PyData.int (i : Int)) := by
    unfold eRng
    rw [len_m (e := encLI) (xs := addK (b ++ s)) (eVar_get h6), addK_len, Option.bind_some]
    dsimp only
    rw [if_pos ⟨by omega, by omega⟩]
    unfold rngD
    rw [Int.toNat_natCast]
  have lc : eLc 7 (eRng (eCall oLen (esCons (eVar 6) esNil))) bYes (eOp oEq (eOp oIx (eVar 6) (eVar 7)) (eOp oAdd (eOp oIx (eVar 8) (eVar 7)) (eLst (esCons (eVar 7) esNil)))) ds = some (.list ((List.range (b ++ s).length).map fun _ => PyData.bool true)) := by
    refine lc_enc (g := fun _ => PyData.bool true) it (by rw [List.length_range]; unfold lim; omega) fun i hi => ⟨rfl, ?_⟩
    have hi' := List.mem_range.mp hi
    obtain ⟨r, hr⟩ : ∃ r, (b ++ s)[i]? = some r := ⟨(b ++ s)[i], List.getElem?_eq_getElem hi'⟩
    have hrl := hR r (List.mem_of_getElem? hr)
    have h7 : ((ds.set 7 none).set 7 (some (.int (i : Int))))[7]? = some (some (.int (i : Int))) := List.getElem?_set_self (by rw [List.length_set, hd]; decide)
    have h6' : ((ds.set 7 none).set 7 (some (.int (i : Int))))[6]? = some (some (encLLI (addK (b ++ s)))) := by rw [List.getElem?_set_ne (by decide), List.getElem?_set_ne (by decide)]; exact h6
    have h8' : ((ds.set 7 none).set 7 (some (.int (i : Int))))[8]? = some (some (encLLI (b ++ s))) := by rw [List.getElem?_set_ne (by decide), List.getElem?_set_ne (by decide)]; exact h8
    have x1 := at_m (e := encLI) (f := eVar 6) (g := eVar 7) (xs := addK (b ++ s)) (a := i) (eVar_get h6') (eVar_get h7) (addK_at hr)
    have x2 := add_m (e := PyData.int) (xs := r) (ys := [(i : Int)]) (at_m (e := encLI) (f := eVar 8) (g := eVar 7) (xs := b ++ s) (a := i) (eVar_get h8') (eVar_get h7) hr) (one_m (e := PyData.int) (f := eVar 7) (eVar_get h7)) (by rw [List.length_singleton]; omega)
    rw [eOp_ev x1 x2]
    have g1 := good_I1 (r ++ [(i : Int)]) (by rw [List.length_append, List.length_singleton]; omega)
    exact oEq_g (k := true) g1 g1 (by omega) (by omega) ⟨fun _ => rfl, fun _ => rfl⟩
  unfold eAnd
  rw [e1, Option.bind_some, if_pos rfl, q_call (q_cons lc q_nil), List.map_const', List.length_range]
  show ((blsOf (List.replicate (b ++ s).length (PyData.bool true))).bind fun bs => some (PyData.bool (bs.all id))) = _
  rw [blsOf_true, Option.bind_some, List.all_replicate]
  split <;> rfl
/-- one list of the rows of two -/
theorem rows_cat {H : Hp} {lb ls rl : Addr} {ab asr : List Addr} {b s : LI} (Rb : Rows H lb ab (b.map vI)) (Rs : Rows H ls asr (s.map vI)) (dis : ∀ x, (x = lb ∨ x ∈ ab) → x ≠ ls ∧ ¬ x ∈ asr) (hrl : H rl = none) : Rows (upd H rl (.lst (ab.map V.ref ++ asr.map V.ref))) rl (ab ++ asr) ((curK (b ++ s) 0).map vI) := by
  have c0 : curK (b ++ s) 0 = b ++ s := by unfold curK; rw [List.take_zero, List.drop_zero, List.nil_append]
  have inA : ∀ x, x ∈ ab ++ asr → H x ≠ none := fun x hx => by
    rcases List.mem_append.mp hx with hx | hx
    · obtain ⟨k, hk⟩ := List.mem_iff_getElem?.mp hx
      obtain ⟨r, _, h2⟩ := Rb.row k x hk
      rw [h2]; simp
    · obtain ⟨k, hk⟩ := List.mem_iff_getElem?.mp hx
      obtain ⟨r, _, h2⟩ := Rs.row k x hk
      rw [h2]; simp
  have nr : ∀ x, x ∈ ab ++ asr → x ≠ rl := fun x hx e => inA x hx (e ▸ hrl)
  refine ⟨by rw [upd_same, List.map_append], ?_, by rw [c0, List.length_append, List.map_append, List.length_append, Rb.len, Rs.len], fun i a h => ?_⟩
  · refine List.nodup_cons.mpr ⟨fun m => nr rl m rfl, List.nodup_append.mpr ⟨(List.nodup_cons.mp Rb.nd).2, (List.nodup_cons.mp Rs.nd).2, fun x hx y hy e => (dis x (.inr hx)).2 (e ▸ hy)⟩⟩
  · have ha := List.mem_of_getElem? h
    rw [c0, List.map_append, upd_ne (nr a ha)]
    by_cases hi : i < ab.length
    · rw [List.getElem?_append_left hi] at h
      obtain ⟨r, h1, h2⟩ := Rb.row i a h
      exact ⟨r, by rw [List.getElem?_append_left (by rw [← Rb.len]; exact hi)]; exact h1, h2⟩
    · rw [List.getElem?_append_right (by omega)] at h
      obtain ⟨r, h1, h2⟩ := Rs.row _ a h
      exact ⟨r, by rw [List.getElem?_append_right (by rw [← Rb.len]; omega), ← Rb.len]; exact h1, h2⟩
theorem sh_empty : SeqAt.shaped (.str "") = true := by decide +kernel
theorem ne_empty : oNe (.str "") (.str "") = some (.bool false) := by
  unfold oNe
  rw [if_pos ⟨sh_empty, sh_empty⟩, eqv_strs]
  simp
theorem eq_self {w : Str} (h : SeqAt.shaped (.str w) = true) : oEq (.str w) (.str w) = some (.bool true) := by rw [oEq_str h h, decide_eq_true rfl]
theorem cnt_1 (l : List D) (hs : SeqAt.shaped (.list l) = true) (hn : (l.countP fun z => PyData.eqv z (.bool true)) = 1) : oCount (.list l) (.bool true) = some (.int 1) := by
  show (if SeqAt.shaped (.list l) = true ∧ SeqAt.shaped (.bool true) = true then some (PyData.int ((l.countP fun z => PyData.eqv z (.bool true) : Nat) : Int)) else none) = _
  rw [if_pos ⟨hs, rfl⟩, hn]; rfl
theorem kind_ev {j : Nat} {wd : Str} (l : List D) (hs : SeqAt.shaped (.list l) = true) (hj : (l.findIdx? fun z => PyData.eqv z (.bool true)) = some j) (hw : (["many", "crew", "task", "early", "twice", "worker", "step"] : List Str)[j]? = some wd) : eOp oIx (eLst (esCons (eC (.str "many")) (esCons (eC (.str "crew")) (esCons (eC (.str "task")) (esCons (eC (.str "early")) (esCons (eC (.str "twice")) (esCons (eC (.str "worker")) (esCons (eC (.str "step")) esNil)))))))) (eOp oIndex (eVar 1) (eC (.bool true))) [none, some (.list l)] = some (.str wd) := by
  have e1 : eOp oIndex (eVar 1) (eC (.bool true)) [none, some (.list l)] = some (.int (j : Int)) := by
    rw [eOp_ev (eVar_get rfl) rfl]
    show (if SeqAt.shaped (.list l) = true ∧ SeqAt.shaped (.bool true) = true then _ else _) = _
    rw [if_pos ⟨hs, rfl⟩, hj]; rfl
  have e2 : eLst (esCons (eC (.str "many")) (esCons (eC (.str "crew")) (esCons (eC (.str "task")) (esCons (eC (.str "early")) (esCons (eC (.str "twice")) (esCons (eC (.str "worker")) (esCons (eC (.str "step")) esNil))))))) [none, some (.list l)] = some (.list ((["many", "crew", "task", "early", "twice", "worker", "step"] : List Str).map PyData.str)) := q_lst rfl (by simp)
  exact at_m (e := PyData.str) e2 e1 hw
end Pu

set_option Elab.async false
set_option linter.all false
set_option maxRecDepth 100000
set_option maxHeartbeats 4000000
set_option autoImplicit false
namespace Law
open PySem PySem.Spec PyProof.Rows L2 Pu
def topS (i : Nat) : Stmt := PySem.Challenge.pw_stealyard_k01_plans_checked.main.body.getD i (.Pass ⟨0, 0, 0, 0⟩)
abbrev s_look_at : Stmt := topS 12
abbrev N_look_at : List Str := ["task", "tasks", "seen"]
theorem sc_look_at : FnScope N_look_at ["task", "tasks", "seen"] (defScope s_look_at) := ⟨rfl, rfl, rfl, by decide +kernel, rfl, by decide +kernel, by decide +kernel⟩
abbrev s_checked : Stmt := topS 13
abbrev N_checked : List Str := ["plan", "brood", "starts", "seen", "parent", "task", "row", "tasks"]
theorem sc_checked : FnScope N_checked ["plan"] (defScope s_checked) := ⟨rfl, rfl, rfl, by decide +kernel, rfl, by decide +kernel, by decide +kernel⟩
abbrev s_l_cell_at : Stmt := topS 15
abbrev N_l_cell_at : List Str := ["_law_script", "_law_k"]
theorem sc_l_cell_at : FnScope N_l_cell_at ["_law_script", "_law_k"] (defScope s_l_cell_at) := ⟨rfl, rfl, rfl, by decide +kernel, rfl, by decide +kernel, by decide +kernel⟩
abbrev s_l_plan_by : Stmt := topS 16
abbrev N_l_plan_by : List Str := ["_law_script", "_law_first", "_law_most", "_law_cell", "_law_many", "_law_size", "_law_brood", "_law_task", "_law_starts", "_law_worker", "_law_way"]
theorem sc_l_plan_by : FnScope N_l_plan_by ["_law_script", "_law_first", "_law_most"] (defScope s_l_plan_by) := ⟨rfl, rfl, rfl, by decide +kernel, rfl, by decide +kernel, by decide +kernel⟩
abbrev s_l_alike : Stmt := topS 17
abbrev N_l_alike : List Str := ["_law_found", "_law_due", "_law_k"]
theorem sc_l_alike : FnScope N_l_alike ["_law_found", "_law_due"] (defScope s_l_alike) := ⟨rfl, rfl, rfl, by decide +kernel, rfl, by decide +kernel, by decide +kernel⟩
abbrev s_l_wrong : Stmt := topS 18
abbrev N_l_wrong : List Str := ["_law_brood", "_law_starts", "_law_seen", "_law_rows", "_law_task", "_law_row", "_law_parent", "_law_tasks"]
theorem sc_l_wrong : FnScope N_l_wrong ["_law_brood", "_law_starts"] (defScope s_l_wrong) := ⟨rfl, rfl, rfl, by decide +kernel, rfl, by decide +kernel, by decide +kernel⟩
abbrev s_l_put_in : Stmt := topS 19
abbrev N_l_put_in : List Str := ["_law_lists", "_law_cell", "_law_task", "_law_at", "_law_place", "_law_row"]
theorem sc_l_put_in : FnScope N_l_put_in ["_law_lists", "_law_cell", "_law_task"] (defScope s_l_put_in) := ⟨rfl, rfl, rfl, by decide +kernel, rfl, by decide +kernel, by decide +kernel⟩
abbrev s_l_changed : Stmt := topS 20
abbrev N_l_changed : List Str := ["_law_plan", "_law_cell", "_law_some", "_law_brood", "_law_starts", "_law_size", "_law_way", "_law_rest", "_law_odd", "_law_k"]
theorem sc_l_changed : FnScope N_l_changed ["_law_plan", "_law_cell", "_law_some"] (defScope s_l_changed) := ⟨rfl, rfl, rfl, by decide +kernel, rfl, by decide +kernel, by decide +kernel⟩
abbrev s_l_kind : Stmt := topS 21
abbrev N_l_kind : List Str := ["_law_e", "_law_kinds"]
theorem sc_l_kind : FnScope N_l_kind ["_law_e"] (defScope s_l_kind) := ⟨rfl, rfl, rfl, by decide +kernel, rfl, by decide +kernel, by decide +kernel⟩
abbrev s_l_right : Stmt := topS 22
abbrev N_l_right : List Str := ["_law_plan", "_law_given", "_law_row", "_law_due", "_law_found", "_law_e", "_law_rows", "_law_k", "_law_kept"]
theorem sc_l_right : FnScope N_l_right ["_law_plan"] (defScope s_l_right) := ⟨rfl, rfl, rfl, by decide +kernel, rfl, by decide +kernel, by decide +kernel⟩
abbrev s_law : Stmt := topS 23
abbrev N_law : List Str := ["_law_script", "_law_right_here", "_law_plan", "_law_k"]
theorem sc_law : FnScope N_law ["_law_script"] (defScope s_law) := ⟨rfl, rfl, rfl, by decide +kernel, rfl, by decide +kernel, by decide +kernel⟩
/-- what the top has written -/
structure Txt (K : PySem.W.Frag) (mg : Str → Option Value) where
  f_look_at : Addr
  fd_look_at : FuncData
  F_look_at : Fun K "look_at" "look_at" s_look_at f_look_at fd_look_at
  m_look_at : mg "look_at" = some (.ref f_look_at)
  b_look_at : Binds K fd_look_at ["task", "tasks", "seen"] []
  f_checked : Addr
  fd_checked : FuncData
  F_checked : Fun K "checked" "checked" s_checked f_checked fd_checked
  m_checked : mg "checked" = some (.ref f_checked)
  b_checked : Binds K fd_checked ["plan"] []
  f_l_cell_at : Addr
  fd_l_cell_at : FuncData
  F_l_cell_at : Fun K "_law_cell_at" "_law_cell_at" s_l_cell_at f_l_cell_at fd_l_cell_at
  m_l_cell_at : mg "_law_cell_at" = some (.ref f_l_cell_at)
  b_l_cell_at : Binds K fd_l_cell_at ["_law_script", "_law_k"] []
  f_l_plan_by : Addr
  fd_l_plan_by : FuncData
  F_l_plan_by : Fun K "_law_plan_by" "_law_plan_by" s_l_plan_by f_l_plan_by fd_l_plan_by
  m_l_plan_by : mg "_law_plan_by" = some (.ref f_l_plan_by)
  b_l_plan_by : Binds K fd_l_plan_by ["_law_script", "_law_first", "_law_most"] []
  f_l_alike : Addr
  fd_l_alike : FuncData
  F_l_alike : Fun K "_law_alike" "_law_alike" s_l_alike f_l_alike fd_l_alike
  m_l_alike : mg "_law_alike" = some (.ref f_l_alike)
  b_l_alike : Binds K fd_l_alike ["_law_found", "_law_due"] []
  f_l_wrong : Addr
  fd_l_wrong : FuncData
  F_l_wrong : Fun K "_law_wrong" "_law_wrong" s_l_wrong f_l_wrong fd_l_wrong
  m_l_wrong : mg "_law_wrong" = some (.ref f_l_wrong)
  b_l_wrong : Binds K fd_l_wrong ["_law_brood", "_law_starts"] []
  f_l_put_in : Addr
  fd_l_put_in : FuncData
  F_l_put_in : Fun K "_law_put_in" "_law_put_in" s_l_put_in f_l_put_in fd_l_put_in
  m_l_put_in : mg "_law_put_in" = some (.ref f_l_put_in)
  b_l_put_in : Binds K fd_l_put_in ["_law_lists", "_law_cell", "_law_task"] []
  f_l_changed : Addr
  fd_l_changed : FuncData
  F_l_changed : Fun K "_law_changed" "_law_changed" s_l_changed f_l_changed fd_l_changed
  m_l_changed : mg "_law_changed" = some (.ref f_l_changed)
  b_l_changed : Binds K fd_l_changed ["_law_plan", "_law_cell", "_law_some"] []
  f_l_kind : Addr
  fd_l_kind : FuncData
  F_l_kind : Fun K "_law_kind" "_law_kind" s_l_kind f_l_kind fd_l_kind
  m_l_kind : mg "_law_kind" = some (.ref f_l_kind)
  b_l_kind : Binds K fd_l_kind ["_law_e"] []
  f_l_right : Addr
  fd_l_right : FuncData
  F_l_right : Fun K "_law_right" "_law_right" s_l_right f_l_right fd_l_right
  m_l_right : mg "_law_right" = some (.ref f_l_right)
  b_l_right : Binds K fd_l_right ["_law_plan"] []
  t_MOST_TASKS : Nat
  g_MOST_TASKS : mg "MOST_TASKS" = some (.int 200 t_MOST_TASKS)
  t_MOST_WORKERS : Nat
  g_MOST_WORKERS : mg "MOST_WORKERS" = some (.int 12 t_MOST_WORKERS)
  z_ValueError : mg "ValueError" = none
  z_all : mg "all" = none
  z_bool : mg "bool" = none
  z_int : mg "int" = none
  z_isinstance : mg "isinstance" = none
  z_len : mg "len" = none
  z_list : mg "list" = none
  z_range : mg "range" = none
  z_str : mg "str" = none
  z_tuple : mg "tuple" = none
  C_YardError : Addr
  C_NoWorker : Addr
  C_NoStep : Addr
  C_TooMany : Addr
  C_NoCrew : Addr
  C_NoTask : Addr
  C_Early : Addr
  C_Twice : Addr
  g_YardError : mg "YardError" = some (.ref C_YardError)
  g_NoWorker : mg "NoWorker" = some (.ref C_NoWorker)
  g_NoStep : mg "NoStep" = some (.ref C_NoStep)
  g_TooMany : mg "TooMany" = some (.ref C_TooMany)
  g_NoCrew : mg "NoCrew" = some (.ref C_NoCrew)
  g_NoTask : mg "NoTask" = some (.ref C_NoTask)
  g_Early : mg "Early" = some (.ref C_Early)
  g_Twice : mg "Twice" = some (.ref C_Twice)
  x_TooMany : PySem.W.excIn K C_TooMany [.type "ValueError", .type "Exception", .type "BaseException", .type "object"] "ValueError.__new__" = true
  k_TooMany : PySem.W.keepIn K (.ref C_TooMany) = true
  t_TooMany : PySem.W.typeIn K (.ref C_TooMany) = some (.type "type")
  hg_TooMany : PySem.W.findIn K (.ref C_TooMany) "__getattribute__" = some (some (.builtin "BaseException.__getattribute__"))
  hk_TooMany : PySem.W.findIn K (.ref C_TooMany) "__getattr__" = some none
  hs_TooMany : PySem.W.subIn K (.ref C_TooMany) (.type "BaseException") = some true
  hd_TooMany : PySem.W.hasDictIn K C_TooMany = true
  ha_TooMany : PySem.W.findIn K (.ref C_TooMany) "__class__" = some (some (.builtin "object.__class__"))
  hm_TooMany : PySem.W.mroIn K C_TooMany (.type "object") = some true
  i_TooMany_YardError : PySem.W.kitOne K (.ref C_TooMany) (.ref C_YardError) = some true
  i_TooMany_NoWorker : PySem.W.kitOne K (.ref C_TooMany) (.ref C_NoWorker) = some false
  i_TooMany_NoStep : PySem.W.kitOne K (.ref C_TooMany) (.ref C_NoStep) = some false
  i_TooMany_TooMany : PySem.W.kitOne K (.ref C_TooMany) (.ref C_TooMany) = some true
  i_TooMany_NoCrew : PySem.W.kitOne K (.ref C_TooMany) (.ref C_NoCrew) = some false
  i_TooMany_NoTask : PySem.W.kitOne K (.ref C_TooMany) (.ref C_NoTask) = some false
  i_TooMany_Early : PySem.W.kitOne K (.ref C_TooMany) (.ref C_Early) = some false
  i_TooMany_Twice : PySem.W.kitOne K (.ref C_TooMany) (.ref C_Twice) = some false
  i_TooMany_VE : PySem.W.kitOne K (.ref C_TooMany) (.type "ValueError") = some true
  e_TooMany : PySem.W.exmOne K (.ref C_TooMany) (.ref C_YardError) = some true
  x_NoCrew : PySem.W.excIn K C_NoCrew [.type "ValueError", .type "Exception", .type "BaseException", .type "object"] "ValueError.__new__" = true
  k_NoCrew : PySem.W.keepIn K (.ref C_NoCrew) = true
  t_NoCrew : PySem.W.typeIn K (.ref C_NoCrew) = some (.type "type")
  hg_NoCrew : PySem.W.findIn K (.ref C_NoCrew) "__getattribute__" = some (some (.builtin "BaseException.__getattribute__"))
  hk_NoCrew : PySem.W.findIn K (.ref C_NoCrew) "__getattr__" = some none
  hs_NoCrew : PySem.W.subIn K (.ref C_NoCrew) (.type "BaseException") = some true
  hd_NoCrew : PySem.W.hasDictIn K C_NoCrew = true
  ha_NoCrew : PySem.W.findIn K (.ref C_NoCrew) "__class__" = some (some (.builtin "object.__class__"))
  hm_NoCrew : PySem.W.mroIn K C_NoCrew (.type "object") = some true
  i_NoCrew_YardError : PySem.W.kitOne K (.ref C_NoCrew) (.ref C_YardError) = some true
  i_NoCrew_NoWorker : PySem.W.kitOne K (.ref C_NoCrew) (.ref C_NoWorker) = some false
  i_NoCrew_NoStep : PySem.W.kitOne K (.ref C_NoCrew) (.ref C_NoStep) = some false
  i_NoCrew_TooMany : PySem.W.kitOne K (.ref C_NoCrew) (.ref C_TooMany) = some false
  i_NoCrew_NoCrew : PySem.W.kitOne K (.ref C_NoCrew) (.ref C_NoCrew) = some true
  i_NoCrew_NoTask : PySem.W.kitOne K (.ref C_NoCrew) (.ref C_NoTask) = some false
  i_NoCrew_Early : PySem.W.kitOne K (.ref C_NoCrew) (.ref C_Early) = some false
  i_NoCrew_Twice : PySem.W.kitOne K (.ref C_NoCrew) (.ref C_Twice) = some false
  i_NoCrew_VE : PySem.W.kitOne K (.ref C_NoCrew) (.type "ValueError") = some true
  e_NoCrew : PySem.W.exmOne K (.ref C_NoCrew) (.ref C_YardError) = some true
  x_NoTask : PySem.W.excIn K C_NoTask [.type "ValueError", .type "Exception", .type "BaseException", .type "object"] "ValueError.__new__" = true
  k_NoTask : PySem.W.keepIn K (.ref C_NoTask) = true
  t_NoTask : PySem.W.typeIn K (.ref C_NoTask) = some (.type "type")
  hg_NoTask : PySem.W.findIn K (.ref C_NoTask) "__getattribute__" = some (some (.builtin "BaseException.__getattribute__"))
  hk_NoTask : PySem.W.findIn K (.ref C_NoTask) "__getattr__" = some none
  hs_NoTask : PySem.W.subIn K (.ref C_NoTask) (.type "BaseException") = some true
  hd_NoTask : PySem.W.hasDictIn K C_NoTask = true
  ha_NoTask : PySem.W.findIn K (.ref C_NoTask) "__class__" = some (some (.builtin "object.__class__"))
  hm_NoTask : PySem.W.mroIn K C_NoTask (.type "object") = some true
  i_NoTask_YardError : PySem.W.kitOne K (.ref C_NoTask) (.ref C_YardError) = some true
  i_NoTask_NoWorker : PySem.W.kitOne K (.ref C_NoTask) (.ref C_NoWorker) = some false
  i_NoTask_NoStep : PySem.W.kitOne K (.ref C_NoTask) (.ref C_NoStep) = some false
  i_NoTask_TooMany : PySem.W.kitOne K (.ref C_NoTask) (.ref C_TooMany) = some false
  i_NoTask_NoCrew : PySem.W.kitOne K (.ref C_NoTask) (.ref C_NoCrew) = some false
  i_NoTask_NoTask : PySem.W.kitOne K (.ref C_NoTask) (.ref C_NoTask) = some true
  i_NoTask_Early : PySem.W.kitOne K (.ref C_NoTask) (.ref C_Early) = some false
  i_NoTask_Twice : PySem.W.kitOne K (.ref C_NoTask) (.ref C_Twice) = some false
  i_NoTask_VE : PySem.W.kitOne K (.ref C_NoTask) (.type "ValueError") = some true
  e_NoTask : PySem.W.exmOne K (.ref C_NoTask) (.ref C_YardError) = some true
  x_Early : PySem.W.excIn K C_Early [.type "ValueError", .type "Exception", .type "BaseException", .type "object"] "ValueError.__new__" = true
  k_Early : PySem.W.keepIn K (.ref C_Early) = true
  t_Early : PySem.W.typeIn K (.ref C_Early) = some (.type "type")
  hg_Early : PySem.W.findIn K (.ref C_Early) "__getattribute__" = some (some (.builtin "BaseException.__getattribute__"))
  hk_Early : PySem.W.findIn K (.ref C_Early) "__getattr__" = some none
  hs_Early : PySem.W.subIn K (.ref C_Early) (.type "BaseException") = some true
  hd_Early : PySem.W.hasDictIn K C_Early = true
  ha_Early : PySem.W.findIn K (.ref C_Early) "__class__" = some (some (.builtin "object.__class__"))
  hm_Early : PySem.W.mroIn K C_Early (.type "object") = some true
  i_Early_YardError : PySem.W.kitOne K (.ref C_Early) (.ref C_YardError) = some true
  i_Early_NoWorker : PySem.W.kitOne K (.ref C_Early) (.ref C_NoWorker) = some false
  i_Early_NoStep : PySem.W.kitOne K (.ref C_Early) (.ref C_NoStep) = some false
  i_Early_TooMany : PySem.W.kitOne K (.ref C_Early) (.ref C_TooMany) = some false
  i_Early_NoCrew : PySem.W.kitOne K (.ref C_Early) (.ref C_NoCrew) = some false
  i_Early_NoTask : PySem.W.kitOne K (.ref C_Early) (.ref C_NoTask) = some false
  i_Early_Early : PySem.W.kitOne K (.ref C_Early) (.ref C_Early) = some true
  i_Early_Twice : PySem.W.kitOne K (.ref C_Early) (.ref C_Twice) = some false
  i_Early_VE : PySem.W.kitOne K (.ref C_Early) (.type "ValueError") = some true
  e_Early : PySem.W.exmOne K (.ref C_Early) (.ref C_YardError) = some true
  x_Twice : PySem.W.excIn K C_Twice [.type "ValueError", .type "Exception", .type "BaseException", .type "object"] "ValueError.__new__" = true
  k_Twice : PySem.W.keepIn K (.ref C_Twice) = true
  t_Twice : PySem.W.typeIn K (.ref C_Twice) = some (.type "type")
  hg_Twice : PySem.W.findIn K (.ref C_Twice) "__getattribute__" = some (some (.builtin "BaseException.__getattribute__"))
  hk_Twice : PySem.W.findIn K (.ref C_Twice) "__getattr__" = some none
  hs_Twice : PySem.W.subIn K (.ref C_Twice) (.type "BaseException") = some true
  hd_Twice : PySem.W.hasDictIn K C_Twice = true
  ha_Twice : PySem.W.findIn K (.ref C_Twice) "__class__" = some (some (.builtin "object.__class__"))
  hm_Twice : PySem.W.mroIn K C_Twice (.type "object") = some true
  i_Twice_YardError : PySem.W.kitOne K (.ref C_Twice) (.ref C_YardError) = some true
  i_Twice_NoWorker : PySem.W.kitOne K (.ref C_Twice) (.ref C_NoWorker) = some false
  i_Twice_NoStep : PySem.W.kitOne K (.ref C_Twice) (.ref C_NoStep) = some false
  i_Twice_TooMany : PySem.W.kitOne K (.ref C_Twice) (.ref C_TooMany) = some false
  i_Twice_NoCrew : PySem.W.kitOne K (.ref C_Twice) (.ref C_NoCrew) = some false
  i_Twice_NoTask : PySem.W.kitOne K (.ref C_Twice) (.ref C_NoTask) = some false
  i_Twice_Early : PySem.W.kitOne K (.ref C_Twice) (.ref C_Early) = some false
  i_Twice_Twice : PySem.W.kitOne K (.ref C_Twice) (.ref C_Twice) = some true
  i_Twice_VE : PySem.W.kitOne K (.ref C_Twice) (.type "ValueError") = some true
  e_Twice : PySem.W.exmOne K (.ref C_Twice) (.ref C_YardError) = some true
  hn : PySem.W.specialIn K (.builtin "object.__class__") "__get__" = some (some (.builtin "getset_descriptor.__get__"))
  ht : PySem.W.takesIn K (.builtin "object.__class__") = some true
theorem ok_l_alike {P : Program} {w : World} {K : PySem.W.Frag} {mg : Str → Option Value} {base : Heap} (T : Txt K mg) : ∀ n : Nat, FnOk P w K mg base CX0 (n + 1) T.f_l_alike T.fd_l_alike ["_law_found", "_law_due"] (spF 2 (M_l_alike n))
  | 0 => ok_void
  | n + 1 => by
    have G_rec := ok_l_alike (P := P) (w := w) (base := base) T n
    exact ok_fun T.F_l_alike sc_l_alike rfl fun cdv A outer s H E hr => (psd_cons (psd_if (ptd_val (pd_isi2 rfl T.z_isinstance (pd_name 1) (pe_ty rfl T.z_tuple bt_tuple) (pe_ty rfl T.z_list bt_list))) (psd_cons (psd_if (PW.pt (ptd_or (ptd_not (ptd_val (pd_isi2 rfl T.z_isinstance (pd_name 0) (pe_ty rfl T.z_tuple bt_tuple) (pe_ty rfl T.z_list bt_list)))) (ptd_or1 (ptd_cmp (op_neD hr.units) os_ne (pd_isi rfl T.z_isinstance (pd_name 0) (pe_ty rfl T.z_tuple bt_tuple)) (pd_isi rfl T.z_isinstance (pd_name 1) (pe_ty rfl T.z_tuple bt_tuple)) (nomark _))))) (psd_one (psd_ret pd_bl)) psd_nil) (psd_cons (psd_if (ptd_cmp (op_neD hr.units) os_ne (pd_callB cr_len cs_len rfl T.z_len bt_len (pda_cons (pd_name 0) pda_nil)) (pd_callB cr_len cs_len rfl T.z_len bt_len (pda_cons (pd_name 1) pda_nil)) (nomark _)) (psd_one (psd_ret pd_bl)) psd_nil) (psd_one (psd_ret (pd_callB (cr_all rfl) cs_all rfl T.z_all bt_all (pda_cons (pd_lcR rfl T.z_range rfl sc_l_alike.nd (pd_callB cr_len cs_len rfl T.z_len bt_len (pda_cons (pd_name 1) pda_nil)) (blkOk_by (N := N_l_alike) (sc := defScope s_l_alike) (own := [("_law_k", 2)]) (by decide +kernel)) (fun _ _ _ _ _ => pg_name (i := 2) sc_l_alike.nd rfl (Or.inl rfl)) (fun _ _ _ _ _ => ptsd_nil) (fun _ _ _ _ _ => (pd_call G_rec hr rfl T.m_l_alike T.F_l_alike.kp T.b_l_alike pass0 (pda_cons (pd_ix (pd_name 0) (pd_name 2)) (pda_cons (pd_ix (pd_name 1) (pd_name 2)) pda_nil)) (es_len (es_len es_len0))))) pda_nil)))))) psd_nil) (psd_cons (psd_if (ptd_val (pd_isi rfl T.z_isinstance (pd_name 1) (pe_ty rfl T.z_str bt_str))) (psd_one (psd_ret (pd_and (pd_isi rfl T.z_isinstance (pd_name 0) (pe_ty rfl T.z_str bt_str)) (pd_one (pd_cmp (op_eqD hr.units) os_eq (pd_name 0) (pd_name 1) (nomark _)))))) psd_nil) (psd_cons (psd_if (ptd_cmp op_isA os_isA (pd_name 1) pd_non (nomark _)) (psd_one (psd_ret (pd_cmp op_isA os_isA (pd_name 0) pd_non (nomark _)))) psd_nil) (psd_one (psd_ret (pd_and (pd_isi rfl T.z_isinstance (pd_name 0) (pe_ty rfl T.z_int bt_int)) (pd_and (pd_not (pd_isi rfl T.z_isinstance (pd_name 0) (pe_ty rfl T.z_bool bt_bool))) (pd_one (pd_cmp (op_eqD hr.units) os_eq (pd_name 0) (pd_name 1) (nomark _))))))))))
theorem ok_look_at {P : Program} {w : World} {K : PySem.W.Frag} {mg : Str → Option Value} {base : Heap} (T : Txt K mg) : FnOk P w K mg base (L2.CX P w) 1 T.f_look_at T.fd_look_at ["task", "tasks", "seen"] (spLook T.C_NoTask T.C_Twice) := by
  refine T.F_look_at.okX sc_look_at (fun vs H Q E h => ?_) (fun cdv A outer s H vs Q E hr h => ⟨_, (pss_cons (ps_if (ptd_not (ptd_chain op_le os_le op_lt os_lt pd_int (pd_name 0) (pd_name 1))) (pss_one (ps_raise rfl (takes_of rfl rfl rfl rfl) (pmk_own PySem.F.excBase_ValueError T.x_NoTask T.g_NoTask T.k_NoTask (raises_own T.hs_NoTask T.t_NoTask) rfl))) pss_nil) (pss_one (ps_if (pt_cmp (pc_din (u1 (room65 hr)) (pd_name 0) (pv 2)) rfl) (pss_one (ps_raise rfl (takes_of rfl rfl rfl rfl) (pmk_own PySem.F.excBase_ValueError T.x_Twice T.g_Twice T.k_Twice (raises_own T.hs_Twice T.t_Twice) rfl))) pss_nil))), ?_⟩)
  · obtain ⟨t, n, p, seen, rfl, _⟩ := h
    rfl
  · obtain ⟨t, n, p, seen, rfl, hd, hA, hB, hC⟩ := h
    have sl : SlD M0 H [some (.int t), some (.int n), some (.ref p)] [some (.int t), some (.int n), none] := .yes (.int _) (.yes (.int _) (.no _ .nil))
    have ev : bNot (bT (eChain oLe oLt (eC (.int 0)) (eVar 0) (eVar 1))) [some (.int t), some (.int n), none] = some (!decide (0 ≤ t ∧ t < n)) := by
      unfold bNot bT eChain
      by_cases h1 : 0 ≤ t <;> by_cases h2 : t < n <;> simp [eC, eVar, oLe, oLt, h1, h2]
    refine z_seq ?_
    refine z_if ?_
    refine tpt_ok (Ok.none H) sl ev fun H1 s1 => ?_
    by_cases hr : 0 ≤ t ∧ t < n
    · rw [decide_eq_true hr]
      refine iteF ?_
      dsimp only [tNext]
      refine z_if ?_
      refine tp_int (i := t) (Ok.none H1) (sl.same s1) (eVar_get rfl) fun H2 s2 => ?_
      have s12 := L2.Same.trans s1 s2
      refine ⟨_, rfl, p, _, rfl, DGet.k (k := .inl t) (s12 _ _ hd), _, rfl, ?_⟩
      rw [kI_val]
      by_cases hm : t ∈ seen
      · refine if_true_of (decide_eq_true hm) ?_
        exact hB hr hm H2 s12
      · refine if_false_of (decide_eq_false hm) ?_
        exact hC hr hm H2 s12
    · rw [decide_eq_false hr]
      refine iteT ?_
      exact hA hr H1 s1

theorem ok_checked {P : Program} {w : World} {K : PySem.W.Frag} {mg : Str → Option Value} {base : Heap} (T : Txt K mg) : FnOk P w K mg base (L2.CX P w) 2 T.f_checked T.fd_checked ["plan"] (spChecked (clsOf T.C_TooMany T.C_NoCrew T.C_NoTask T.C_Early T.C_Twice)) := by
  have G_look_at := ok_look_at (P := P) (w := w) (base := base) T
  refine T.F_checked.okX sc_checked (fun vs H Q E h => ?_) (fun cdv A outer s H vs Q E hr h => ⟨_, (pss_cons (ps_asg (pd_name 0) (pg_tup rfl (pgs_cons (pg_name (i := 1) sc_checked.nd rfl (by first | exact Or.inl rfl | exact Or.inr rfl)) (pgs_cons (pg_name (i := 2) sc_checked.nd rfl (by first | exact Or.inl rfl | exact Or.inr rfl)) pgs_nil)))) (pss_cons (ps_if (ptd_cmp op_gt os_gt (pd_callB cr_len cs_len rfl T.z_len bt_len (pda_cons (pd_name 1) pda_nil)) (pd_globI rfl T.g_MOST_TASKS) (nomark _)) (pss_one (ps_raise rfl (takes_of rfl rfl rfl rfl) (pmk_own PySem.F.excBase_ValueError T.x_TooMany T.g_TooMany T.k_TooMany (raises_own T.hs_TooMany T.t_TooMany) rfl))) pss_nil) (pss_cons (ps_if (ptd_not (ptd_chain op_le os_le op_le os_le pd_int (pd_callB cr_len cs_len rfl T.z_len bt_len (pda_cons (pd_name 2) pda_nil)) (pd_globI rfl T.g_MOST_WORKERS))) (pss_one (ps_raise rfl (takes_of rfl rfl rfl rfl) (pmk_own PySem.F.excBase_ValueError T.x_NoCrew T.g_NoCrew T.k_NoCrew (raises_own T.hs_NoCrew T.t_NoCrew) rfl))) pss_nil) (pss_cons (ps_set (i := 3) sc_checked.nd rfl (by first | exact Or.inl rfl | exact Or.inr rfl) pe_dnewK) (pss_cons (ps_for (passes_of rfl) rfl (pi_range1 rfl T.z_range (pa_cons (pd_callB cr_len cs_len rfl T.z_len bt_len (pda_cons (pd_name 1) pda_nil)) pa_nil)) (pg_name (i := 4) sc_checked.nd rfl (by first | exact Or.inl rfl | exact Or.inr rfl)) (pss_one (ps_for (passes_of rfl) rfl (pi_seq (pd_ix (pd_name 1) (pd_name 4))) (pg_name (i := 5) sc_checked.nd rfl (by first | exact Or.inl rfl | exact Or.inr rfl)) (pss_cons (ps_if (ptd_chain op_le os_le op_le os_le pd_int (pd_name 5) (pd_name 4)) (pss_one (ps_raise rfl (takes_of rfl rfl rfl rfl) (pmk_own PySem.F.excBase_ValueError T.x_Early T.g_Early T.k_Early (raises_own T.hs_Early T.t_Early) rfl))) pss_nil) (pss_cons (ps_expr (pe_callS G_look_at (hr.mono (by decide)) rfl T.m_look_at T.F_look_at.kp T.b_look_at (fun σ => passAt (takes_of rfl rfl rfl rfl) σ) (pa_cons (pd_name 5) (pa_cons (pd_callB cr_len cs_len rfl T.z_len bt_len (pda_cons (pd_name 1) pda_nil)) (pa_cons (pv 3) pa_nil))))) (pss_one (ps_dput (u1 (room65 hr)) (pv 3) (pd_name 5) pd_bl rfl))))))) (pss_cons (ps_for (passes_of rfl) rfl (pi_seq (pd_name 2)) (pg_name (i := 6) sc_checked.nd rfl (by first | exact Or.inl rfl | exact Or.inr rfl)) (pss_one (ps_for (passes_of rfl) rfl (pi_seq (pd_name 6)) (pg_name (i := 5) sc_checked.nd rfl (by first | exact Or.inl rfl | exact Or.inr rfl)) (pss_cons (ps_expr (pe_callS G_look_at (hr.mono (by decide)) rfl T.m_look_at T.F_look_at.kp T.b_look_at (fun σ => passAt (takes_of rfl rfl rfl rfl) σ) (pa_cons (pd_name 5) (pa_cons (pd_callB cr_len cs_len rfl T.z_len bt_len (pda_cons (pd_name 1) pda_nil)) (pa_cons (pv 3) pa_nil))))) (pss_one (ps_dput (u1 (room65 hr)) (pv 3) (pd_name 5) pd_bl rfl)))))) (pss_one (ps_ret (pe_tup (pa_cons (pe_lc rfl sc_checked.nd (pi_seq (pd_name 1)) (blkOk_by (N := N_checked) (sc := defScope s_checked) (own := [("tasks", 7)]) (by decide +kernel)) (fun _ _ _ _ _ => pg_name (i := 7) sc_checked.nd rfl (Or.inl rfl)) (fun _ _ _ _ _ => pts_nil) (fun _ _ _ _ _ => (show PE _ _ (tCB (rList K) (tCons (tVar 7) tNil)) from pe_callTy cr_list rfl T.z_list bt_list (pa_cons (pv 7) pa_nil)))) (pa_cons (pe_lc rfl sc_checked.nd (pi_seq (pd_name 2)) (blkOk_by (N := N_checked) (sc := defScope s_checked) (own := [("row", 6)]) (by decide +kernel)) (fun _ _ _ _ _ => pg_name (i := 6) sc_checked.nd rfl (Or.inl rfl)) (fun _ _ _ _ _ => pts_nil) (fun _ _ _ _ _ => (show PE _ _ (tCB (rList K) (tCons (tVar 6) tNil)) from pe_callTy cr_list rfl T.z_list bt_list (pa_cons (pv 6) pa_nil)))) pa_nil))))))))))), ?_⟩)
  · obtain ⟨vp, b, st, rfl, _⟩ := h
    rfl
  · obtain ⟨vp, b, st, rfl, rp, sz, qQ, qE⟩ := h
    obtain ⟨z1, z2, z3, z4⟩ := id sz
    -- brood, starts
    refine z_seq ?_
    refine z_asg ?_
    refine tp_ok (Ok.none H) (ds := [some (encPI b st), none, none, none, none, none, none, none]) (.yes rp (.no _ (.no _ (.no _ (.no _ (.no _ (.no _ (.no _ .nil)))))))) (eVar_get rfl) fun v1 H1 s1 r1 => ?_
    cases r1 with
    | tup a1 n1 r1 =>
      cases r1 with
      | cons rb r1 =>
        cases r1 with
        | cons rs r1 =>
          cases r1
          rename_i pa vb vs
          refine ⟨_, _, rfl, SqT.of a1, rfl, vb, _, rfl, vs, _, rfl, rfl, ?_⟩
          dsimp only
          have sl : ∀ {H' : Hp} {x0 x3 x4 x5 x6 x7 : Option V}, Same H1 H' → SlD M0 H' [x0, some vb, some vs, x3, x4, x5, x6, x7] [none, some (encLLI b), some (encLLI st), none, none, none, none, none] := fun s' =>
            .no _ (.yes (rb.same s') (.yes (rs.same s') (.no _ (.no _ (.no _ (.no _ (.no _ .nil)))))))
          have l1 : ∀ {ds : Sl}, ds[1]? = some (some (encLLI b)) → eCall oLen (esCons (eVar 1) esNil) ds = some (.int (b.length : Int)) := fun h => len_m (e := encLI) (xs := b) (eVar_get h)
          have l2 : ∀ {ds : Sl}, ds[2]? = some (some (encLLI st)) → eCall oLen (esCons (eVar 2) esNil) ds = some (.int (st.length : Int)) := fun h => len_m (e := encLI) (xs := st) (eVar_get h)
          -- too many
          refine z_seq ?_
          refine z_if ?_
          refine tpt_ok (b := decide ((200 : Int) < (b.length : Int))) (Ok.none H1) (sl (L2.Same.refl _)) (bT_of (by rw [eOp_ev (l1 rfl) rfl]; rfl)) fun H2 s2 => ?_
          by_cases n200 : 200 < b.length
          · rw [decide_eq_true (by omega)]
            refine iteT ?_
            have hw : wrongL b st = "many" := by unfold wrongL; rw [if_pos n200]
            rw [hw, cls_many] at qE
            exact qE (by decide +kernel) H2 (L2.Same.trans s1 s2)
          rw [decide_eq_false (by omega)]
          refine iteF ?_
          dsimp only [tNext]
          -- no workers, or too many
          refine z_seq ?_
          refine z_if ?_
          have ev2 : bNot (bT (eChain oLe oLe (eC (.int 1)) (eCall oLen (esCons (eVar 2) esNil)) (eC (.int 12)))) [none, some (encLLI b), some (encLLI st), none, none, none, none, none] = some (!decide ((1 : Int) ≤ (st.length : Int) ∧ (st.length : Int) ≤ 12)) := by
            unfold bNot bT eChain
            rw [l2 rfl]
            by_cases h1 : (1 : Int) ≤ (st.length : Int) <;> by_cases h2 : (st.length : Int) ≤ 12 <;> simp [eC, oLe, h1, h2]
          refine tpt_ok (Ok.none H2) (sl s2) ev2 fun H3 s3 => ?_
          have s13 := L2.Same.trans s2 s3
          by_cases nc : st.length < 1 ∨ 12 < st.length
          · rw [decide_eq_false (by omega)]
            refine iteT ?_
            have hw : wrongL b st = "crew" := by unfold wrongL; rw [if_neg n200, if_pos nc]
            rw [hw, cls_crew] at qE
            exact qE (by decide +kernel) H3 (L2.Same.trans s1 s13)
          rw [decide_eq_true (by omega)]
          refine iteF ?_
          dsimp only [tNext]
          -- seen
          refine z_seq ?_
          refine z_asg ?_
          intro p hp
          refine z_name ?_
          dsimp only
          have pH1 : H1 p = none := s13.free hp
          have pH : H p = none := s1.free pH1
          -- the broods
          refine z_seq ?_
          have sp := L2.Same.trans s13 (Pu.Same.new (o := .dK []) hp)
          refine tp_int (Ok.none _) (sl sp) (l1 rfl) fun H4 s4 => ?_
          refine ⟨(b.length : Int), rfl, by omega, by omega, for_range (lo := 0) (n := (b.length : Int).toNat) (fun i σ' G => ∃ (x4 x5 : Option V) (seen : List Int), σ' = [some vp, some vb, some vs, some (.ref p), x4, x5, none, none] ∧ foldE (wr2 b.length) [] ((rowsW b st).take i) = .ok seen ∧ seen.length ≤ 1000 * i ∧ G p = some (.dK (kI seen)) ∧ Same H1 G) ⟨_, _, [], rfl, rfl, by simp, s4 _ _ upd_same, L2.Same.trans sp s4⟩ (fun i σ' G hi hP => ?_) (fun σ' G hP => ?_)⟩
          · obtain ⟨x4, x5, seen, rfl, hf, hsl, hd, sG⟩ := hP
            rw [Int.toNat_natCast] at hi
            rw [Int.zero_add]
            obtain ⟨r, hri⟩ : ∃ r, b[i]? = some r := ⟨b[i], List.getElem?_eq_getElem hi⟩
            have hrl : r.length ≤ 1000 := z3 r (List.mem_of_getElem? hri)
            have hrow := rowsW_A (s := st) hri
            refine z_name ?_
            dsimp only
            refine .inl (tp_ok (Ok.none G) ((sl (x0 := some vp) (x3 := some (.ref p)) (x4 := some (.int (i : Int))) (x5 := x5) (x6 := none) (x7 := none) sG).set 4 (.int (i : Int))) (at_m (e := encLI) (xs := b) (a := i) (f := eVar 1) (g := eVar 4) (eVar_get rfl) (eVar_get rfl) hri) fun v2 G1 t1 r2 => ?_)
            cases r2 with
            | lst a2 n2 r2 =>
              rename_i al xs
              have ew : xs = vI r := r2.ints
              subst ew
              refine ⟨al, rfl, ⟨_, SqL.of a2⟩, for_list (fun j σ'' G' => ∃ (x5 : Option V) (seen2 : List Int), σ'' = [some vp, some vb, some vs, some (.ref p), some (.int (i : Int)), x5, none, none] ∧ foldE (wr1 b.length (i : Int)) seen (r.take j) = .ok seen2 ∧ seen2.length ≤ 1000 * i + j ∧ G' p = some (.dK (kI seen2)) ∧ Same H1 G' ∧ G' al = some (.lst (vI r))) ⟨_, seen, rfl, rfl, by omega, t1 _ _ hd, L2.Same.trans sG t1, a2⟩ (fun j σ'' G' _ ⟨_, _, _, _, _, _, _, k⟩ => SqL.of k) (fun j y σ'' G' hy hP => ?_) (fun σ'' G' hP => ?_)⟩
              · obtain ⟨x5, seen2, rfl, hf2, hsl2, hd2, sG2, hal⟩ := hP
                unfold vI at hy
                rw [List.getElem?_map] at hy
                cases ht : r[j]? with
                | none => rw [ht] at hy; cases hy
                | some t =>
                  rw [ht] at hy
                  cases hy
                  have hj := (List.getElem?_eq_some_iff.mp ht).1
                  refine z_name ?_
                  dsimp only
                  have slt : ∀ {H' : Hp}, Same H1 H' → SlD M0 H' [some vp, some vb, some vs, some (.ref p), some (.int (i : Int)), some (.int t), none, none] [none, some (encLLI b), some (encLLI st), none, some (.int (i : Int)), some (.int t), none, none] := fun {H'} s' =>
                    ((sl (x0 := some vp) (x3 := some (.ref p)) (x4 := some (.int (i : Int))) (x5 := some (.int t)) (x6 := none) (x7 := none) s').set 4 (.int (i : Int))).set 5 (.int t)
                  -- early
                  refine z_seq ?_
                  refine z_if ?_
                  have ev3 : bT (eChain oLe oLe (eC (.int 0)) (eVar 5) (eVar 4)) [none, some (encLLI b), some (encLLI st), none, some (.int (i : Int)), some (.int t), none, none] = some (decide (0 ≤ t ∧ t ≤ (i : Int))) := by
                    unfold bT eChain
                    by_cases h1 : 0 ≤ t <;> by_cases h2 : t ≤ (i : Int) <;> simp [eC, eVar, oLe, h1, h2]
                  refine tpt_ok (Ok.none G') (slt sG2) ev3 fun G2 t2 => ?_
                  have sG3 := L2.Same.trans sG2 t2
                  by_cases he : 0 ≤ t ∧ t ≤ (i : Int)
                  · rw [decide_eq_true he]
                    refine iteT ?_
                    have hw1 : wr1 b.length (i : Int) seen2 t = .error "early" := by
                      unfold wr1
                      rw [if_neg (by omega), if_pos he.2]
                    have hw := wrong_at n200 nc hf hrow hf2 ht hw1
                    rw [hw, cls_early] at qE
                    exact qE (by decide +kernel) G2 (L2.Same.trans s1 sG3)
                  rw [decide_eq_false he]
                  refine iteF ?_
                  dsimp only [tNext]
                  -- look_at
                  refine z_seq ?_
                  refine z_drop ?_
                  refine tp_int (i := t) (Ok.none G2) (slt sG3) (eVar_get rfl) fun G3 t3 => ?_
                  refine tp_int (Ok.none G3) (slt (L2.Same.trans sG3 t3)) (l1 rfl) fun G4 t4 => ?_
                  refine ⟨_, rfl, ?_⟩
                  have t24 := L2.Same.trans t2 (L2.Same.trans t3 t4)
                  have sG4 := L2.Same.trans sG2 t24
                  refine ⟨t, (b.length : Int), p, seen2, rfl, t24 _ _ hd2, fun hn G5 t5 => ?_, fun hr hm G5 t5 => ?_, fun hr hm G5 t5 => ?_⟩
                  · have hw1 : wr1 b.length (i : Int) seen2 t = .error "task" := by
                      unfold wr1
                      rw [if_pos (by omega)]
                    have hw := wrong_at n200 nc hf hrow hf2 ht hw1
                    rw [hw, cls_task] at qE
                    exact qE (by decide +kernel) G5 (L2.Same.trans s1 (L2.Same.trans sG4 t5))
                  · have hw1 : wr1 b.length (i : Int) seen2 t = .error "twice" := by
                      unfold wr1
                      rw [if_neg (by omega), if_neg (by omega), if_pos hm]
                    have hw := wrong_at n200 nc hf hrow hf2 ht hw1
                    rw [hw, cls_twice] at qE
                    exact qE (by decide +kernel) G5 (L2.Same.trans s1 (L2.Same.trans sG4 t5))
                  · have hw1 : wr1 b.length (i : Int) seen2 t = .ok (seen2 ++ [t]) := by
                      unfold wr1
                      rw [if_neg (by omega), if_neg (by omega), if_neg hm]
                    have t25 := L2.Same.trans t24 t5
                    dsimp only
                    refine tp_ok (Ok.none G5) (SlD.nones _) (show eC (.bool true) _ = some (.bool true) from rfl) fun v4 G6 t6 r4 => ?_
                    cases r4
                    refine ⟨_, rfl, ?_⟩
                    have t26 := L2.Same.trans t25 t6
                    refine tp_int (i := t) (Ok.none G6) (slt (L2.Same.trans sG2 t26)) (eVar_get rfl) fun G7 t7 => ?_
                    have t27 := L2.Same.trans t26 t7
                    refine ⟨p, _, rfl, DPut.k (k := .inl t) (t27 _ _ hd2) (by rw [kI_len, sizeLine_eq]; omega), ?_⟩
                    rw [kI_put hm]
                    have hpl : al ≠ p := fun z => by rw [z, hd2] at hal; cases hal
                    refine ⟨_, seen2 ++ [t], rfl, (foldE_next hf2 ht).trans hw1, by rw [List.length_append, List.length_singleton]; omega, upd_same, Pu.Same.mut (L2.Same.trans sG2 t27) pH1, by rw [upd_ne hpl]; exact t27 _ _ hal⟩
              · obtain ⟨x5, seen2, rfl, hf2, hsl2, hd2, sG2, _⟩ := hP
                rw [vI_len] at hf2 hsl2
                rw [List.take_length] at hf2
                exact ⟨_, _, seen2, rfl, (foldE_next hf hrow).trans hf2, by omega, hd2, sG2⟩
          · obtain ⟨x4, x5, seen0, rfl, hf0, hsl0, hd0, sG0⟩ := hP
            rw [Int.toNat_natCast] at hf0 hsl0
            dsimp only
            -- the rows
            refine z_seq ?_
            refine .inl (tp_ok (Ok.none G) (sl sG0) (eVar_get (i := 2) (d := encLLI st) rfl) fun v2 G1 t1 r2 => ?_)
            cases r2 with
            | lst a2 n2 r2 =>
              rename_i al xs
              have hlen : xs.length = st.length := by rw [r2.length, List.length_map]
              have hap : al ≠ p := fun z => by rw [z, t1 _ _ hd0] at a2; cases a2
              refine ⟨al, rfl, ⟨_, SqL.of a2⟩, for_list (fun i σ' G' => ∃ (x5 x6 : Option V) (seen : List Int), σ' = [some vp, some vb, some vs, some (.ref p), x4, x5, x6, none] ∧ foldE (wr2 b.length) [] ((rowsW b st).take (b.length + i)) = .ok seen ∧ seen.length ≤ 1000 * (b.length + i) ∧ G' p = some (.dK (kI seen)) ∧ Same H1 G' ∧ ∀ a o, a ≠ p → G1 a = some o → G' a = some o) ⟨_, _, seen0, rfl, hf0, hsl0, t1 _ _ hd0, L2.Same.trans sG0 t1, fun a o _ z => z⟩ (fun i σ' G' _ ⟨_, _, _, _, _, _, _, _, k⟩ => SqL.of (k _ _ hap a2)) (fun i x σ' G' hx hP => ?_) (fun σ' G' hP => ?_)⟩
              · obtain ⟨x5, x6, seen, rfl, hf, hsl, hd, sG, fr⟩ := hP
                obtain ⟨d, hdd, rx⟩ := rpAll_at r2 hx
                rw [List.getElem?_map] at hdd
                cases hri : st[i]? with
                | none => rw [hri] at hdd; cases hdd
                | some r =>
                  rw [hri] at hdd
                  cases hdd
                  have hi := (List.getElem?_eq_some_iff.mp hri).1
                  have hrl : r.length ≤ 1000 := z4 r (List.mem_of_getElem? hri)
                  have hrow := rowsW_B (b := b) hri
                  refine z_name ?_
                  dsimp only
                  cases rx with
                  | lst a3 n3 r3 =>
                    rename_i am ys
                    have ew : ys = vI r := r3.ints
                    subst ew
                    have hmp : am ≠ p := fun z => by rw [z, t1 _ _ hd0] at a3; cases a3
                    have rx' : Rp M0 G' (.ref am) (encLI r) := .lst (fr _ _ hmp a3) (fun z => z) (rpI r)
                    refine .inl (tp_ok (Ok.none G') (ds := [none, none, none, none, none, none, some (encLI r), none]) (.no _ (.no _ (.no _ (.no _ (.no _ (.no _ (.yes rx' (.no _ .nil)))))))) (eVar_get rfl) fun v3 G2 t2 r4 => ?_)
                    cases r4 with
                    | lst a4 n4 r4 =>
                      rename_i an zs
                      have ew : zs = vI r := r4.ints
                      subst ew
                      refine ⟨an, rfl, ⟨_, SqL.of a4⟩, for_list (fun j σ'' G3 => ∃ (x5 : Option V) (seen2 : List Int), σ'' = [some vp, some vb, some vs, some (.ref p), x4, x5, some (.ref am), none] ∧ foldE (wr1 b.length (-1)) seen (r.take j) = .ok seen2 ∧ seen2.length ≤ 1000 * (b.length + i) + j ∧ G3 p = some (.dK (kI seen2)) ∧ Same H1 G3 ∧ G3 an = some (.lst (vI r)) ∧ ∀ a o, a ≠ p → G1 a = some o → G3 a = some o) ⟨_, seen, rfl, rfl, by omega, t2 _ _ hd, L2.Same.trans sG t2, a4, fun a o n z => t2 _ _ (fr a o n z)⟩ (fun j σ'' G3 _ ⟨_, _, _, _, _, _, _, k, _⟩ => SqL.of k) (fun j y σ'' G3 hy hP => ?_) (fun σ'' G3 hP => ?_)⟩
                      · obtain ⟨x5, seen2, rfl, hf2, hsl2, hd2, sG2, hal, fr2⟩ := hP
                        unfold vI at hy
                        rw [List.getElem?_map] at hy
                        cases ht : r[j]? with
                        | none => rw [ht] at hy; cases hy
                        | some t =>
                          rw [ht] at hy
                          cases hy
                          have hj := (List.getElem?_eq_some_iff.mp ht).1
                          refine z_name ?_
                          dsimp only
                          have slt : ∀ {H' : Hp} {x6 : Option V}, Same H1 H' → SlD M0 H' [some vp, some vb, some vs, some (.ref p), x4, some (.int t), x6, none] [none, some (encLLI b), some (encLLI st), none, none, some (.int t), none, none] := fun {H' x6} s' =>
                            (sl (x0 := some vp) (x3 := some (.ref p)) (x4 := x4) (x5 := some (.int t)) (x6 := x6) (x7 := none) s').set 5 (.int t)
                          -- look_at
                          refine z_seq ?_
                          refine z_drop ?_
                          refine tp_int (i := t) (Ok.none G3) (slt sG2) (eVar_get rfl) fun G4 t3 => ?_
                          refine tp_int (Ok.none G4) (slt (L2.Same.trans sG2 t3)) (l1 rfl) fun G5 t4 => ?_
                          refine ⟨_, rfl, ?_⟩
                          have t34 := L2.Same.trans t3 t4
                          have sG4 := L2.Same.trans sG2 t34
                          refine ⟨t, (b.length : Int), p, seen2, rfl, t34 _ _ hd2, fun hn G6 t5 => ?_, fun hr hm G6 t5 => ?_, fun hr hm G6 t5 => ?_⟩
                          · have hw1 : wr1 b.length (-1) seen2 t = .error "task" := by
                              unfold wr1
                              rw [if_pos (by omega)]
                            have hw := wrong_at n200 nc hf hrow hf2 ht hw1
                            rw [hw, cls_task] at qE
                            exact qE (by decide +kernel) G6 (L2.Same.trans s1 (L2.Same.trans sG4 t5))
                          · have hw1 : wr1 b.length (-1) seen2 t = .error "twice" := by
                              unfold wr1
                              rw [if_neg (by omega), if_neg (by omega), if_pos hm]
                            have hw := wrong_at n200 nc hf hrow hf2 ht hw1
                            rw [hw, cls_twice] at qE
                            exact qE (by decide +kernel) G6 (L2.Same.trans s1 (L2.Same.trans sG4 t5))
                          · have hw1 : wr1 b.length (-1) seen2 t = .ok (seen2 ++ [t]) := by
                              unfold wr1
                              rw [if_neg (by omega), if_neg (by omega), if_neg hm]
                            have t35 := L2.Same.trans t34 t5
                            dsimp only
                            refine tp_ok (Ok.none G6) (SlD.nones _) (show eC (.bool true) _ = some (.bool true) from rfl) fun v4 G7 t6 r5 => ?_
                            cases r5
                            refine ⟨_, rfl, ?_⟩
                            have t36 := L2.Same.trans t35 t6
                            refine tp_int (i := t) (Ok.none G7) (slt (L2.Same.trans sG2 t36)) (eVar_get rfl) fun G8 t7 => ?_
                            have t37 := L2.Same.trans t36 t7
                            refine ⟨p, _, rfl, DPut.k (k := .inl t) (t37 _ _ hd2) (by rw [kI_len, sizeLine_eq]; omega), ?_⟩
                            rw [kI_put hm]
                            have hpl : an ≠ p := fun z => by rw [z, hd2] at hal; cases hal
                            refine ⟨_, seen2 ++ [t], rfl, (foldE_next hf2 ht).trans hw1, by rw [List.length_append, List.length_singleton]; omega, upd_same, Pu.Same.mut (L2.Same.trans sG2 t37) pH1, by rw [upd_ne hpl]; exact t37 _ _ hal, fun a o n z => by rw [upd_ne n]; exact t37 _ _ (fr2 a o n z)⟩
                      · obtain ⟨x5, seen2, rfl, hf2, hsl2, hd2, sG2, _, fr2⟩ := hP
                        rw [vI_len] at hf2 hsl2
                        rw [List.take_length] at hf2
                        exact ⟨_, _, seen2, rfl, (foldE_next hf hrow).trans hf2, by omega, hd2, sG2, fr2⟩
              · obtain ⟨x5, x6, seen, rfl, hf, _, _, sG, _⟩ := hP
                rw [hlen, ← rowsW_len, List.take_length] at hf
                have hw := wrong_no n200 nc hf
                dsimp only
                refine z_ret ?_
                refine rd_copyI (sl sG) (eVar_get rfl) (eVar_get rfl) (by show 7 < 8; decide) (by show 6 < 8; decide) (by omega) (by omega) fun g lb ls ab asr G9 pa9 => ?_
                obtain ⟨p1, p2, p3, p4, p5⟩ := pa9
                have sHG := L2.Same.trans s1 sG
                exact qQ hw g lb ls ab asr G9 ⟨L2.Same.trans sHG p1, sHG.free p2, ⟨sHG.free p3.1, fun x hx => sHG.free (p3.2 x hx)⟩, ⟨sHG.free p4.1, fun x hx => sHG.free (p4.2 x hx)⟩, p5⟩

theorem ok_l_wrong {P : Program} {w : World} {K : PySem.W.Frag} {mg : Str → Option Value} {base : Heap} (T : Txt K mg) : FnOk P w K mg base CX0 1 T.f_l_wrong T.fd_l_wrong ["_law_brood", "_law_starts"] (spF 2 M_l_wrong) := by
  exact ok_funO T.F_l_wrong sc_l_wrong rfl (by intro i h; simp at h; omega) fun cdv A outer s H E hr => (o_cons (o_if (ptd_cmp op_gt os_gt (pd_callB cr_len cs_len rfl T.z_len bt_len (pda_cons (pd_name 0) pda_nil)) pd_int (nomark _)) (o_one (o_ret pd_str)) o_nil) (o_cons (o_if (PW.pt (ptd_or (ptd_cmp op_lt os_lt (pd_callB cr_len cs_len rfl T.z_len bt_len (pda_cons (pd_name 1) pda_nil)) pd_int (nomark _)) (ptd_or1 (ptd_cmp op_gt os_gt (pd_callB cr_len cs_len rfl T.z_len bt_len (pda_cons (pd_name 1) pda_nil)) pd_int (nomark _))))) (o_one (o_ret pd_str)) o_nil) (o_cons (o_new (i := 2) rfl sc_l_wrong.nd rfl (by first | exact Or.inl rfl | exact Or.inr rfl)) (o_cons (o_set (i := 3) rfl sc_l_wrong.nd rfl (by first | exact Or.inl rfl | exact Or.inr rfl) (pd_op or_addD os_add (pd_lcR rfl T.z_range rfl sc_l_wrong.nd (pd_callB cr_len cs_len rfl T.z_len bt_len (pda_cons (pd_name 0) pda_nil)) (blkOk_by (N := N_l_wrong) (sc := defScope s_l_wrong) (own := [("_law_task", 4)]) (by decide +kernel)) (fun _ _ _ _ _ => pg_name (i := 4) sc_l_wrong.nd rfl (Or.inl rfl)) (fun _ _ _ _ _ => ptsd_nil) (fun _ _ _ _ _ => (pd_tup (pda_cons (pd_name 4) (pda_cons (pd_ix (pd_name 0) (pd_name 4)) pda_nil))))) (pd_lc rfl sc_l_wrong.nd (pd_name 1) (blkOk_by (N := N_l_wrong) (sc := defScope s_l_wrong) (own := [("_law_row", 5)]) (by decide +kernel)) (fun _ _ _ _ _ => pg_name (i := 5) sc_l_wrong.nd rfl (Or.inl rfl)) (fun _ _ _ _ _ => ptsd_nil) (fun _ _ _ _ _ => (pd_tup (pda_cons (pd_un un_neg us_neg pd_int) (pda_cons (pd_name 5) pda_nil))))))) (o_cons (o_for (pd_name 3) (pgo_tup rfl (pgs_cons (pg_name (i := 6) sc_l_wrong.nd rfl (by first | exact Or.inl rfl | exact Or.inr rfl)) (pgs_cons (pg_name (i := 7) sc_l_wrong.nd rfl (by first | exact Or.inl rfl | exact Or.inr rfl)) pgs_nil)) (tgsO_cons rfl (tgsO_cons rfl tgsO_nil)) rfl) (o_one (o_for (pd_name 7) (pgo_name (i := 4) rfl sc_l_wrong.nd rfl (by first | exact Or.inl rfl | exact Or.inr rfl)) (o_cons (o_if (PW.pt (ptd_or (ptd_cmp op_lt os_lt (pd_name 4) pd_int (nomark _)) (ptd_or1 (ptd_cmp op_ge os_ge (pd_name 4) (pd_callB cr_len cs_len rfl T.z_len bt_len (pda_cons (pd_name 0) pda_nil)) (nomark _))))) (o_one (o_ret pd_str)) o_nil) (o_cons (o_if (ptd_cmp op_le os_le (pd_name 4) (pd_name 6) (nomark _)) (o_one (o_ret pd_str)) o_nil) (o_cons (o_if (ptd_cmp (op_inA (room65 hr)) os_inA (pd_name 4) (pd_name 2) rfl) (o_one (o_ret pd_str)) o_nil) (o_one (o_app (i := 2) rfl rfl (by first | exact Or.inl rfl | exact Or.inr (Or.inl rfl) | exact Or.inr (Or.inr rfl)) (pd_name 4))))))))) (o_one (o_ret pd_str)))))))
theorem ok_l_put_in {P : Program} {w : World} {K : PySem.W.Frag} {mg : Str → Option Value} {base : Heap} (T : Txt K mg) : FnOk P w K mg base CX0 1 T.f_l_put_in T.fd_l_put_in ["_law_lists", "_law_cell", "_law_task"] (spF 3 M_l_put_in) := by
  exact ok_fun T.F_l_put_in sc_l_put_in rfl fun cdv A outer s H E hr => (psd_cons (psd_if (ptd_cmp (op_eqD hr.units) os_eq (pd_name 0) (pd_lst pda_nil) (nomark _)) (psd_one (psd_ret (pd_name 0))) psd_nil) (psd_cons (psd_set (i := 3) sc_l_put_in.nd rfl (by first | exact Or.inl rfl | exact Or.inr rfl) (pd_op op_modN os_mod (pd_name 1) (pd_callB cr_len cs_len rfl T.z_len bt_len (pda_cons (pd_name 0) pda_nil)))) (psd_cons (psd_set (i := 4) sc_l_put_in.nd rfl (by first | exact Or.inl rfl | exact Or.inr rfl) (pd_op op_modN os_mod (pd_op op_fdivN os_div (pd_name 1) pd_int) (pd_op or_addD os_add (pd_callB cr_len cs_len rfl T.z_len bt_len (pda_cons (pd_ix (pd_name 0) (pd_name 3)) pda_nil)) pd_int))) (psd_cons (psd_set (i := 5) sc_l_put_in.nd rfl (by first | exact Or.inl rfl | exact Or.inr rfl) (pd_ix (pd_name 0) (pd_name 3))) (psd_cons (psd_set (i := 5) sc_l_put_in.nd rfl (by first | exact Or.inl rfl | exact Or.inr rfl) (pd_op or_addD os_add (pd_op or_addD os_add (pd_sl (pd_name 5) po_n (po_p (pd_name 4))) (pd_lst (pda_cons (pd_name 2) pda_nil))) (pd_sl (pd_name 5) (po_p (pd_name 4)) po_n))) (psd_one (psd_ret (pd_op or_addD os_add (pd_op or_addD os_add (pd_sl (pd_name 0) po_n (po_p (pd_name 3))) (pd_lst (pda_cons (pd_name 5) pda_nil))) (pd_sl (pd_name 0) (po_p (pd_op or_addD os_add (pd_name 3) pd_int)) po_n)))))))))
theorem ok_l_changed {P : Program} {w : World} {K : PySem.W.Frag} {mg : Str → Option Value} {base : Heap} (T : Txt K mg) : FnOk P w K mg base CX0 2 T.f_l_changed T.fd_l_changed ["_law_plan", "_law_cell", "_law_some"] (spF 3 M_l_changed) := by
  have G_l_put_in := ok_l_put_in (P := P) (w := w) (base := base) T
  exact ok_fun T.F_l_changed sc_l_changed rfl fun cdv A outer s H E hr => (psd_cons (psd_unp (pd_name 0) (pgd_tup rfl (pgs_cons (pg_name (i := 3) sc_l_changed.nd rfl (by first | exact Or.inl rfl | exact Or.inr rfl)) (pgs_cons (pg_name (i := 4) sc_l_changed.nd rfl (by first | exact Or.inl rfl | exact Or.inr rfl)) pgs_nil)) (tgs_cons (tgs_cons tgs_nil)) rfl)) (psd_cons (psd_set (i := 5) sc_l_changed.nd rfl (by first | exact Or.inl rfl | exact Or.inr rfl) (pd_callB cr_len cs_len rfl T.z_len bt_len (pda_cons (pd_name 3) pda_nil))) (psd_cons (psd_set (i := 6) sc_l_changed.nd rfl (by first | exact Or.inl rfl | exact Or.inr rfl) (pd_op op_modN os_mod (pd_name 1) pd_int)) (psd_cons (psd_set (i := 7) sc_l_changed.nd rfl (by first | exact Or.inl rfl | exact Or.inr rfl) (pd_op op_fdivN os_div (pd_name 1) pd_int)) (psd_cons (psd_if (ptd_cmp op_lt os_lt (pd_name 6) pd_int (nomark _)) (psd_cons (psd_set (i := 8) sc_l_changed.nd rfl (by first | exact Or.inl rfl | exact Or.inr rfl) (pd_lst (pda_cons (pd_un un_neg us_neg pd_int) (pda_cons (pd_name 5) (pda_cons (pd_op or_addD os_add (pd_op or_addD os_add (pd_name 5) pd_int) (pd_op op_modN os_mod (pd_name 7) pd_int)) (pda_cons (pd_op op_sub os_sub (pd_un un_neg us_neg pd_int) (pd_op op_modN os_mod (pd_name 7) pd_int)) (pda_cons (pd_op op_pow os_pow pd_int pd_int) (pda_cons pd_int (pda_cons (pd_op op_modN os_mod (pd_name 7) (pd_op or_addD os_add (pd_name 5) pd_int)) pda_nil))))))))) (psd_cons (psd_set (i := 8) sc_l_changed.nd rfl (by first | exact Or.inl rfl | exact Or.inr rfl) (pd_ix (pd_name 8) (pd_op op_modN os_mod (pd_op op_fdivN os_div (pd_name 7) pd_int) pd_int))) (psd_cons (psd_if (ptd_cmp (op_eqD hr.units) os_eq (pd_name 6) pd_int (nomark _)) (psd_one (psd_ret (pd_tup (pda_cons (pd_name 3) (pda_cons (pd_call G_l_put_in (hr.mono (by decide)) rfl T.m_l_put_in T.F_l_put_in.kp T.b_l_put_in pass0 (pda_cons (pd_name 4) (pda_cons (pd_name 2) (pda_cons (pd_name 8) pda_nil))) (es_len (es_len (es_len es_len0)))) pda_nil))))) psd_nil) (psd_one (psd_ret (pd_tup (pda_cons (pd_call G_l_put_in (hr.mono (by decide)) rfl T.m_l_put_in T.F_l_put_in.kp T.b_l_put_in pass0 (pda_cons (pd_name 3) (pda_cons (pd_name 2) (pda_cons (pd_name 8) pda_nil))) (es_len (es_len (es_len es_len0)))) (pda_cons (pd_name 4) pda_nil)))))))) psd_nil) (psd_cons (psd_if (PW.pt (ptd_and (ptd_cmp (op_eqD hr.units) os_eq (pd_name 6) pd_int (nomark _)) (ptd_and1 (ptd_cmp op_gt os_gt (pd_name 5) pd_int (nomark _))))) (psd_one (psd_ret (pd_tup (pda_cons (pd_call G_l_put_in (hr.mono (by decide)) rfl T.m_l_put_in T.F_l_put_in.kp T.b_l_put_in pass0 (pda_cons (pd_name 3) (pda_cons (pd_name 2) (pda_cons (pd_op op_modN os_mod (pd_name 7) (pd_op or_addD os_add (pd_op op_modN os_mod (pd_name 2) (pd_name 5)) pd_int)) pda_nil))) (es_len (es_len (es_len es_len0)))) (pda_cons (pd_name 4) pda_nil))))) psd_nil) (psd_cons (psd_if (PW.pt (ptd_and (ptd_cmp (op_eqD hr.units) os_eq (pd_name 6) pd_int (nomark _)) (ptd_and1 (ptd_cmp op_gt os_gt (pd_name 5) pd_int (nomark _))))) (psd_one (psd_ret (pd_tup (pda_cons (pd_name 3) (pda_cons (pd_call G_l_put_in (hr.mono (by decide)) rfl T.m_l_put_in T.F_l_put_in.kp T.b_l_put_in pass0 (pda_cons (pd_name 4) (pda_cons (pd_name 2) (pda_cons (pd_op op_modN os_mod (pd_name 7) (pd_name 5)) pda_nil))) (es_len (es_len (es_len es_len0)))) pda_nil))))) psd_nil) (psd_cons (psd_if (ptd_cmp (op_eqD hr.units) os_eq (pd_name 6) pd_int (nomark _)) (psd_one (psd_ret (pd_tup (pda_cons (pd_name 3) (pda_cons (pd_sl (pd_op or_mulD os_mul (pd_name 4) pd_int) po_n (po_p (pd_ix (pd_lst (pda_cons pd_int (pda_cons pd_int (pda_cons pd_int (pda_cons pd_int pda_nil))))) (pd_op op_modN os_mod (pd_name 7) pd_int)))) pda_nil))))) psd_nil) (psd_cons (psd_if (ptd_cmp (op_eqD hr.units) os_eq (pd_name 6) pd_int (nomark _)) (psd_one (psd_ret (pd_tup (pda_cons (pd_op or_addD os_add (pd_name 3) (pd_lcR rfl T.z_range rfl sc_l_changed.nd (pd_op op_sub os_sub (pd_ix (pd_lst (pda_cons pd_int (pda_cons pd_int (pda_cons pd_int pda_nil)))) (pd_op op_modN os_mod (pd_name 7) pd_int)) (pd_name 5)) (blkOk_by (N := N_l_changed) (sc := defScope s_l_changed) (own := [("_law_k", 9)]) (by decide +kernel)) (fun _ _ _ _ _ => pg_name (i := 9) sc_l_changed.nd rfl (Or.inl rfl)) (fun _ _ _ _ _ => ptsd_nil) (fun _ _ _ _ _ => (pd_lst pda_nil)))) (pda_cons (pd_name 4) pda_nil))))) psd_nil) (psd_one (psd_ret (pd_tup (pda_cons (pd_name 3) (pda_cons (pd_name 4) pda_nil))))))))))))))
theorem ok_l_kind {P : Program} {w : World} {K : PySem.W.Frag} {mg : Str → Option Value} {base : Heap} (T : Txt K mg) {C : Addr} {k1 k2 k3 k4 k5 : Bool} {wd : Str} (XC : ExcC K C) (hV : PySem.W.kitOne K (.ref C) (.type "ValueError") = some true) (h1 : PySem.W.kitOne K (.ref C) (.ref T.C_TooMany) = some k1) (h2 : PySem.W.kitOne K (.ref C) (.ref T.C_NoCrew) = some k2) (h3 : PySem.W.kitOne K (.ref C) (.ref T.C_NoTask) = some k3) (h4 : PySem.W.kitOne K (.ref C) (.ref T.C_Early) = some k4) (h5 : PySem.W.kitOne K (.ref C) (.ref T.C_Twice) = some k5) (h6 : PySem.W.kitOne K (.ref C) (.ref T.C_NoWorker) = some false) (h7 : PySem.W.kitOne K (.ref C) (.ref T.C_NoStep) = some false)
    (hc : oCount (.list [.bool k1, .bool k2, .bool k3, .bool k4, .bool k5, .bool false, .bool false]) (.bool true) = some (.int 1)) (hi : eOp oIx (eLst (esCons (eC (.str "many")) (esCons (eC (.str "crew")) (esCons (eC (.str "task")) (esCons (eC (.str "early")) (esCons (eC (.str "twice")) (esCons (eC (.str "worker")) (esCons (eC (.str "step")) esNil)))))))) (eOp oIndex (eVar 1) (eC (.bool true))) [none, some (.list [.bool k1, .bool k2, .bool k3, .bool k4, .bool k5, .bool false, .bool false])] = some (.str wd)) :
    FnE P w K mg base 1 T.f_l_kind T.fd_l_kind ["_law_e"] C wd := by
  refine fnE_of T.F_l_kind sc_l_kind rfl fun cdv A outer s H Q p room hz hf q => ⟨_, (pss_cons (ps_set (i := 1) sc_l_kind.nd rfl (by first | exact Or.inl rfl | exact Or.inr rfl) (pe_lst (pa_cons (pe_isP (cv := .ref T.C_TooMany) (i := 0) (p0 := p) List.mem_cons_self XC hz hf rfl T.z_isinstance rfl (by first | exact Or.inl rfl | exact Or.inr (Or.inl rfl) | exact Or.inr (Or.inr rfl)) (pe_glob rfl T.g_TooMany rfl)) (pa_cons (pe_isP (cv := .ref T.C_NoCrew) (i := 0) (p0 := p) List.mem_cons_self XC hz hf rfl T.z_isinstance rfl (by first | exact Or.inl rfl | exact Or.inr (Or.inl rfl) | exact Or.inr (Or.inr rfl)) (pe_glob rfl T.g_NoCrew rfl)) (pa_cons (pe_isP (cv := .ref T.C_NoTask) (i := 0) (p0 := p) List.mem_cons_self XC hz hf rfl T.z_isinstance rfl (by first | exact Or.inl rfl | exact Or.inr (Or.inl rfl) | exact Or.inr (Or.inr rfl)) (pe_glob rfl T.g_NoTask rfl)) (pa_cons (pe_isP (cv := .ref T.C_Early) (i := 0) (p0 := p) List.mem_cons_self XC hz hf rfl T.z_isinstance rfl (by first | exact Or.inl rfl | exact Or.inr (Or.inl rfl) | exact Or.inr (Or.inr rfl)) (pe_glob rfl T.g_Early rfl)) pa_nil)))))) (pss_cons (ps_set (i := 1) sc_l_kind.nd rfl (by first | exact Or.inl rfl | exact Or.inr rfl) (pe_op or_addD (pv 1) (pe_lst (pa_cons (pe_isP (cv := .ref T.C_Twice) (i := 0) (p0 := p) List.mem_cons_self XC hz hf rfl T.z_isinstance rfl (by first | exact Or.inl rfl | exact Or.inr (Or.inl rfl) | exact Or.inr (Or.inr rfl)) (pe_glob rfl T.g_Twice rfl)) (pa_cons (pe_isP (cv := .ref T.C_NoWorker) (i := 0) (p0 := p) List.mem_cons_self XC hz hf rfl T.z_isinstance rfl (by first | exact Or.inl rfl | exact Or.inr (Or.inl rfl) | exact Or.inr (Or.inr rfl)) (pe_glob rfl T.g_NoWorker rfl)) (pa_cons (pe_isP (cv := .ref T.C_NoStep) (i := 0) (p0 := p) List.mem_cons_self XC hz hf rfl T.z_isinstance rfl (by first | exact Or.inl rfl | exact Or.inr (Or.inl rfl) | exact Or.inr (Or.inr rfl)) (pe_glob rfl T.g_NoStep rfl)) pa_nil)))))) (pss_cons (ps_if (PW.pt (pw_or (pt_not (pt_val (pe_isP (cv := .ty "ValueError") (i := 0) (p0 := p) List.mem_cons_self XC hz hf rfl T.z_isinstance rfl (by first | exact Or.inl rfl | exact Or.inr (Or.inl rfl) | exact Or.inr (Or.inr rfl)) (pe_ty rfl T.z_ValueError bt_ValueError)))) (pw_or1 (ptd_cmp (op_neD (roomH64 room)) os_ne (pd_count (roomH65 room) (pd_name 1) pd_bl) pd_int (nomark _))))) (pss_one (ps_ret pd_str)) pss_nil) (pss_one (ps_ret (pd_ix (pd_lst (pda_cons pd_str (pda_cons pd_str (pda_cons pd_str (pda_cons pd_str (pda_cons pd_str (pda_cons pd_str (pda_cons pd_str pda_nil)))))))) (pd_index (roomH65 room) (pd_name 1) pd_bl))))))), ?_⟩
  refine z_seq ?_
  refine z_asg ?_
  refine isE_ok rfl (fun _ h => h) h1 ?_
  refine isE_ok rfl (fun _ h => h) h2 ?_
  refine isE_ok rfl (fun _ h => h) h3 ?_
  refine isE_ok rfl (fun _ h => h) h4 ?_
  refine ⟨by show 4 ≤ sizeLine; rw [sizeLine_eq]; decide, fun l1 hl1 => ?_⟩
  refine z_name ?_
  dsimp only
  refine z_seq ?_
  refine z_asg ?_
  refine z_op ?_
  refine ⟨_, rfl, ?_⟩
  refine isE_ok rfl (fun _ h => h) h5 ?_
  refine isE_ok rfl (fun _ h => h) h6 ?_
  refine isE_ok rfl (fun _ h => h) h7 ?_
  refine ⟨by show 3 ≤ sizeLine; rw [sizeLine_eq]; decide, fun l2 hl2 => ?_⟩
  have n1 := Pu.Same.new (H := H) (o := .lst [.bl k1, .bl k2, .bl k3, .bl k4]) hl1
  have n2 := Pu.Same.new (o := .lst [.bl k5, .bl false, .bl false]) hl2
  refine .inr (.inl ⟨l1, l2, _, _, rfl, rfl, n2 _ _ upd_same, upd_same, by show 7 ≤ sizeLine; rw [sizeLine_eq]; decide, fun l3 hl3 => ?_⟩)
  obtain ⟨n3, r3⟩ := new_lst (M := M0) (xs := [.bl k1, .bl k2, .bl k3, .bl k4, .bl k5, .bl false, .bl false]) (ds := [.bool k1, .bool k2, .bool k3, .bool k4, .bool k5, .bool false, .bool false]) (Ok.none _) hl3 (.cons (.bl _) (.cons (.bl _) (.cons (.bl _) (.cons (.bl _) (.cons (.bl _) (.cons (.bl _) (.cons (.bl _) .nil)))))))
  have n13 := L2.Same.trans n1 n2
  refine z_name ?_
  dsimp only
  have sl : ∀ {H' : Hp}, Same _ H' → SlD M0 H' [some (.ref p.1), some (.ref l3)] [none, some (.list [.bool k1, .bool k2, .bool k3, .bool k4, .bool k5, .bool false, .bool false])] := fun s' => .no _ (.yes (r3.same s') .nil)
  refine z_seq ?_
  refine z_if ?_
  refine isE_ok rfl (fun _ h => h) hV ?_
  refine ⟨_, rfl, ?_⟩
  refine iteF ?_
  refine tpt_ok (b := false) (Ok.none _) (sl (L2.Same.refl _)) ((ne_ev (x := 1) (y := 1) ((eOp_ev (eVar_get rfl) rfl).trans hc) rfl).trans rfl) fun H5 s5 => ?_
  refine iteF ?_
  dsimp only [tNext]
  refine z_ret ?_
  refine tp_ok (Ok.none _) (sl s5) hi fun v H6 s6 r6 => ?_
  cases r6
  exact q H6 (L2.Same.trans n13 (L2.Same.trans n3 (L2.Same.trans s5 s6)))

theorem ok_l_right {P : Program} {w : World} {K : PySem.W.Frag} {mg : Str → Option Value} {base : Heap} (T : Txt K mg) : FnOk P w K mg base CX0 10 T.f_l_right T.fd_l_right ["_law_plan"] (spF 1 M_l_right) := by
  have G_l_wrong := ok_l_wrong (P := P) (w := w) (base := base) T
  have G_l_alike := ok_l_alike (P := P) (w := w) (base := base) T 7
  have G_checked := ok_checked (P := P) (w := w) (base := base) T
  have XM : ExcC K T.C_TooMany := ⟨T.hg_TooMany, T.hk_TooMany, T.hs_TooMany, T.hd_TooMany, T.ha_TooMany, T.hn, T.ht, T.hm_TooMany⟩
  have XR : ExcC K T.C_NoCrew := ⟨T.hg_NoCrew, T.hk_NoCrew, T.hs_NoCrew, T.hd_NoCrew, T.ha_NoCrew, T.hn, T.ht, T.hm_NoCrew⟩
  have XT : ExcC K T.C_NoTask := ⟨T.hg_NoTask, T.hk_NoTask, T.hs_NoTask, T.hd_NoTask, T.ha_NoTask, T.hn, T.ht, T.hm_NoTask⟩
  have XE : ExcC K T.C_Early := ⟨T.hg_Early, T.hk_Early, T.hs_Early, T.hd_Early, T.ha_Early, T.hn, T.ht, T.hm_Early⟩
  have XW : ExcC K T.C_Twice := ⟨T.hg_Twice, T.hk_Twice, T.hs_Twice, T.hd_Twice, T.ha_Twice, T.hn, T.ht, T.hm_Twice⟩
  have KM := ok_l_kind (P := P) (w := w) (base := base) (wd := "many") T XM T.i_TooMany_VE T.i_TooMany_TooMany T.i_TooMany_NoCrew T.i_TooMany_NoTask T.i_TooMany_Early T.i_TooMany_Twice T.i_TooMany_NoWorker T.i_TooMany_NoStep (cnt_1 _ (by decide +kernel) rfl) (kind_ev (j := 0) _ (by decide +kernel) rfl rfl)
  have KC := ok_l_kind (P := P) (w := w) (base := base) (wd := "crew") T XR T.i_NoCrew_VE T.i_NoCrew_TooMany T.i_NoCrew_NoCrew T.i_NoCrew_NoTask T.i_NoCrew_Early T.i_NoCrew_Twice T.i_NoCrew_NoWorker T.i_NoCrew_NoStep (cnt_1 _ (by decide +kernel) rfl) (kind_ev (j := 1) _ (by decide +kernel) rfl rfl)
  have KT := ok_l_kind (P := P) (w := w) (base := base) (wd := "task") T XT T.i_NoTask_VE T.i_NoTask_TooMany T.i_NoTask_NoCrew T.i_NoTask_NoTask T.i_NoTask_Early T.i_NoTask_Twice T.i_NoTask_NoWorker T.i_NoTask_NoStep (cnt_1 _ (by decide +kernel) rfl) (kind_ev (j := 2) _ (by decide +kernel) rfl rfl)
  have KE := ok_l_kind (P := P) (w := w) (base := base) (wd := "early") T XE T.i_Early_VE T.i_Early_TooMany T.i_Early_NoCrew T.i_Early_NoTask T.i_Early_Early T.i_Early_Twice T.i_Early_NoWorker T.i_Early_NoStep (cnt_1 _ (by decide +kernel) rfl) (kind_ev (j := 3) _ (by decide +kernel) rfl rfl)
  have KW := ok_l_kind (P := P) (w := w) (base := base) (wd := "twice") T XW T.i_Twice_VE T.i_Twice_TooMany T.i_Twice_NoCrew T.i_Twice_NoTask T.i_Twice_Early T.i_Twice_Twice T.i_Twice_NoWorker T.i_Twice_NoStep (cnt_1 _ (by decide +kernel) rfl) (kind_ev (j := 4) _ (by decide +kernel) rfl rfl)
  refine T.F_l_right.ok sc_l_right (fun vs H Q E h => h.1) (fun cdv A outer s H vs Q E hr h => ⟨_, (pss_cons (ps_set (i := 1) sc_l_right.nd rfl (by first | exact Or.inl rfl | exact Or.inr rfl) (pd_tup (pda_cons (pd_lc rfl sc_l_right.nd (pd_ix (pd_name 0) pd_int) (blkOk_by (N := N_l_right) (sc := defScope s_l_right) (own := [("_law_row", 2)]) (by decide +kernel)) (fun _ _ _ _ _ => pg_name (i := 2) sc_l_right.nd rfl (Or.inl rfl)) (fun _ _ _ _ _ => ptsd_nil) (fun _ _ _ _ _ => (pd_callTy cr_list cs_list rfl T.z_list bt_list (pda_cons (pd_name 2) pda_nil)))) (pda_cons (pd_lc rfl sc_l_right.nd (pd_ix (pd_name 0) pd_int) (blkOk_by (N := N_l_right) (sc := defScope s_l_right) (own := [("_law_row", 2)]) (by decide +kernel)) (fun _ _ _ _ _ => pg_name (i := 2) sc_l_right.nd rfl (Or.inl rfl)) (fun _ _ _ _ _ => ptsd_nil) (fun _ _ _ _ _ => (pd_callTy cr_list cs_list rfl T.z_list bt_list (pda_cons (pd_name 2) pda_nil)))) pda_nil)))) (pss_cons (ps_set (i := 3) sc_l_right.nd rfl (by first | exact Or.inl rfl | exact Or.inr rfl) (pd_call G_l_wrong (hr.mono (by decide)) rfl T.m_l_wrong T.F_l_wrong.kp T.b_l_wrong pass0 (pda_cons (pd_ix (pd_name 0) pd_int) (pda_cons (pd_ix (pd_name 0) pd_int) pda_nil)) (es_len (es_len es_len0)))) (pss_cons (ps_try_as (i := 5) (ts := (fun a cls d => fun D σ H => ∃ Cw : Addr × Str, (cls = .ref Cw.1 ∧ d = none ∧ FnE P w K mg base 1 T.f_l_kind T.fd_l_kind ["_law_e"] Cw.1 Cw.2) ∧ (tRet (tAndV (tP (eOp oEq (eVar 1) (eVar 0))) (tOp (rEqD K) (fun σ H Q => σ[5]? = some (some (.ref a)) ∧ ∀ H1, Same H H1 → Q (.str Cw.2) H1) (tP (eVar 3))))) D σ H)) rfl rfl sc_l_right.nd rfl rfl ⟨rfl, by decide, .inl T.g_YardError⟩ takes0 (fun W pn xe tk _ => pss_one (ps_set (i := 4) sc_l_right.nd rfl (by first | exact Or.inl rfl | exact Or.inr rfl) (pe_callS G_checked (hr.mono (by decide)) rfl T.m_checked T.F_checked.kp T.b_checked (fun σ => passAt tk σ) (pa_cons (pd_name 1) pa_nil)))) (fun a oe cls d pn hz hf => pss_ex (fun Cw hC => by
      obtain ⟨hc, hd, FE⟩ := hC
      subst hc hd
      exact (pss_one (ps_ret (pe_and (pd_cmp (op_eqD hr.units) os_eq (pd_name 1) (pd_name 0) (nomark _)) (pe_one (pe_cmpR (op_eqD hr.units) (pe_callE (i := 5) FE (hr.mono (by decide)) hz hf rfl T.m_l_kind T.F_l_kind.kp T.b_l_kind rfl (by first | exact Or.inl rfl | exact Or.inr (Or.inl rfl) | exact Or.inr (Or.inr rfl))) (pd_name 3) (nomark _))))))))) (pss_cons (ps_if (PW.pt (pw_or (ptd_cmp (op_neD hr.units) os_ne (pd_name 3) pd_str (nomark _)) (pw_or (ptd_cmp (op_neD hr.units) os_ne (pd_name 1) (pd_name 0) (nomark _)) (pw_or1 (pt_not (pt_val (pe_call G_l_alike (hr.mono (by decide)) rfl T.m_l_alike T.F_l_alike.kp T.b_l_alike .nil pass0 (pa_cons (pv 4) (pa_cons (pd_name 0) pa_nil))))))))) (pss_one (ps_ret pd_bl)) pss_nil) (pss_cons (ps_set (i := 6) sc_l_right.nd rfl (by first | exact Or.inl rfl | exact Or.inr rfl) (pe_op or_addD (pe_ix ix_D (pv 4) pd_int (fun _ _ => rfl)) (pe_ix ix_D (pv 4) pd_int (fun _ _ => rfl)))) (pss_cons (ps_for PassesOwn.never rfl (pi_range1 rfl T.z_range (pa_cons (pe_callB cr_len rfl T.z_len bt_len (pa_cons (pv 6) pa_nil)) pa_nil)) (pg_name (i := 7) sc_l_right.nd rfl (by first | exact Or.inl rfl | exact Or.inr rfl)) (pss_one (ps_expr (pe_bm PySem.F.plainAttrs_list PySem.F.slot_list_append PySem.F.type_list_append mt_append (pe_ix ix_D (pv 6) (pd_name 7) (fun _ _ => rfl)) (pa_cons (pd_name 7) pa_nil))))) (pss_cons (ps_expr (pe_bm PySem.F.plainAttrs_list PySem.F.slot_list_append PySem.F.type_list_append mt_append (pe_ix ix_D (pv 4) pd_int (fun _ _ => rfl)) (pa_cons (pd_lst pda_nil) pa_nil))) (pss_cons (ps_expr (pe_bm PySem.F.plainAttrs_list PySem.F.slot_list_append PySem.F.type_list_append mt_append (pe_ix ix_D (pv 4) pd_int (fun _ _ => rfl)) (pa_cons (pd_lst pda_nil) pa_nil))) (pss_cons (ps_set (i := 8) sc_l_right.nd rfl (by first | exact Or.inl rfl | exact Or.inr rfl) (pd_op or_addD os_add (pd_ix (pd_name 0) pd_int) (pd_ix (pd_name 0) pd_int))) (pss_one (ps_ret (pd_and (pd_cmp (op_eqD hr.units) os_eq (pd_name 1) (pd_name 0) (nomark _)) (pd_one (pd_callB (cr_all rfl) cs_all rfl T.z_all bt_all (pda_cons (pd_lcR rfl T.z_range rfl sc_l_right.nd (pd_callB cr_len cs_len rfl T.z_len bt_len (pda_cons (pd_name 6) pda_nil)) (blkOk_by (N := N_l_right) (sc := defScope s_l_right) (own := [("_law_k", 7)]) (by decide +kernel)) (fun _ _ _ _ _ => pg_name (i := 7) sc_l_right.nd rfl (Or.inl rfl)) (fun _ _ _ _ _ => ptsd_nil) (fun _ _ _ _ _ => (pd_cmp (op_eqD hr.units) os_eq (pd_ix (pd_name 6) (pd_name 7)) (pd_op or_addD os_add (pd_ix (pd_name 8) (pd_name 7)) (pd_lst (pda_cons (pd_name 7) pda_nil))) (nomark _)))) pda_nil))))))))))))))), ?_⟩)
  obtain ⟨hl, M, l, d, ok, r, e, q⟩ := h
  obtain ⟨b, st, rfl, sz, rfl⟩ := M_right_of e
  obtain ⟨z1, z2, z3, z4⟩ := id sz
  cases r with
  | cons rp0 r =>
    cases r
    rename_i vp
    have rp : Rp M0 H vp (encPI b st) := rp0.mono (fun a o _ z => ⟨fun y => y, z⟩) _ _
    have sl0 : ∀ {H' : Hp} {x1 x2 x3 x4 x5 x6 x7 x8 : Option V}, Same H H' → SlD M0 H' [some vp, x1, x2, x3, x4, x5, x6, x7, x8] [some (encPI b st), none, none, none, none, none, none, none, none] := fun s' =>
      .yes (rp.same s') (.no _ (.no _ (.no _ (.no _ (.no _ (.no _ (.no _ (.no _ .nil))))))))
    have gp := good_I3 sz (by omega)
    -- given
    refine z_seq ?_
    refine z_asg ?_
    refine tp_ok (Ok.none H) (sl0 (L2.Same.refl _)) (copyP_ev rfl rfl (by omega) (by omega)) fun vg H1 s1 rg => ?_
    refine z_name ?_
    dsimp only
    -- due
    refine z_seq ?_
    refine z_asg ?_
    have i0 : ∀ {ds : Sl}, ds[0]? = some (some (encPI b st)) → eOp oIx (eVar 0) (eC (.int 0)) ds = some (encLLI b) := fun h => by rw [eOp_ev (eVar_get h) rfl]; exact oIx0
    have i1 : ∀ {ds : Sl}, ds[0]? = some (some (encPI b st)) → eOp oIx (eVar 0) (eC (.int 1)) ds = some (encLLI st) := fun h => by rw [eOp_ev (eVar_get h) rfl]; exact oIx1
    refine tp_ok (Ok.none H1) (sl0 s1) ((q_call (q_cons (i0 rfl) (q_cons (i1 rfl) q_nil))).trans (wrong_ev sz (by omega))) fun vd H2 s2 rd => ?_
    cases rd
    refine z_name ?_
    dsimp only
    have s02 := L2.Same.trans s1 s2
    have sl2 : ∀ {H' : Hp} {x2 x4 x5 x6 x7 x8 : Option V}, Same H2 H' → SlD M0 H' [some vp, some vg, x2, some (.str (wrongL b st)), x4, x5, x6, x7, x8] [some (encPI b st), some (encPI b st), none, some (.str (wrongL b st)), none, none, none, none, none] := fun s' =>
      .yes (rp.same (L2.Same.trans s02 s')) (.yes (rg.same (L2.Same.trans s2 s')) (.no _ (.yes (.str _) (.no _ (.no _ (.no _ (.no _ (.no _ .nil))))))))
    -- the try
    refine z_seq ?_
    refine z_asg ?_
    refine tp_ok (Ok.none H2) (sl2 (L2.Same.refl _)) (eVar_get (i := 1) (d := encPI b st) rfl) fun vg2 H3 s3 rg2 => ?_
    refine ⟨vg2, b, st, rfl, rg2, sz, fun hw g lb ls ab asr H4 pa => ?_, fun hw H4 s4 => ?_⟩
    · obtain ⟨s34, g0, nb, nsr, Rb, Rs, dis, gne, hg⟩ := pa
      have s24 := L2.Same.trans s3 s34
      have s04 := L2.Same.trans s02 s24
      refine z_name ?_
      dsimp only
      have sl4 : ∀ {H' : Hp} {x2 x4 x5 x6 x7 x8 : Option V}, Same H2 H' → SlD M0 H' [some vp, some vg, x2, some (.str (wrongL b st)), x4, x5, x6, x7, x8] [some (encPI b st), some (encPI b st), none, some (.str ""), none, none, none, none, none] := fun {H' x2 x4 x5 x6 x7 x8} s' => by
        have z := sl2 (x2 := x2) (x4 := x4) (x5 := x5) (x6 := x6) (x7 := x7) (x8 := x8) s'
        rw [hw] at z
        rw [hw]
        exact z
      -- the test
      refine z_seq ?_
      refine z_if ?_
      have t1 : bT (eOp oNe (eVar 3) (eC (.str ""))) [some (encPI b st), some (encPI b st), none, some (.str ""), none, none, none, none, none] = some false := bT_of (by rw [eOp_ev (eVar_get rfl) rfl]; exact ne_empty)
      refine tpt_ok (Ok.none H4) (sl4 s24) t1 fun H5 s5 => ?_
      refine iteF ?_
      have t2 : bT (eOp oNe (eVar 1) (eVar 0)) [some (encPI b st), some (encPI b st), none, some (.str ""), none, none, none, none, none] = some false := bT_of (by
        rw [eOp_ev (eVar_get rfl) (eVar_get rfl)]
        exact oNe_g (k := true) gp gp (by omega) (by omega) ⟨fun _ => rfl, fun _ => rfl⟩)
      refine tpt_ok (Ok.none H5) (sl4 (L2.Same.trans s24 s5)) t2 fun H6 s6 => ?_
      refine iteF ?_
      have s46 := L2.Same.trans s5 s6
      refine ⟨_, rfl, ?_⟩
      refine tp_ok (Ok.none H6) (sl4 (L2.Same.trans s24 s46)) (eVar_get (i := 0) (d := encPI b st) rfl) fun va H7 s7 ra => ?_
      have s47 := L2.Same.trans s46 s7
      have rf : ∀ {H' : Hp}, Same H4 H' → Rp M0 H' (.ref g) (encPI b st) := fun s' => (Rp.tup hg (fun z => z) (.cons (rowsI_rp Rb (fun z => z) fun _ _ z => z) (.cons (rowsI_rp Rs (fun z => z) fun _ _ z => z) .nil)) : Rp M0 H4 (.ref g) (encPI b st)).same s'
      refine ⟨rfl, M0, _, _, Ok.none _, .cons (rf s47) (.cons ra .nil), alike_ok 7 _ (good_mono gp (by omega)), fun v8 H8 s8 r8 => ?_⟩
      cases r8
      refine ⟨true, rfl, ?_⟩
      refine iteF ?_
      dsimp only [tNext]
      have s48 := L2.Same.trans s47 s8
      have s28 := L2.Same.trans s24 s48
      -- rows
      refine z_seq ?_
      refine z_asg ?_
      refine z_op ?_
      refine ⟨_, rfl, ?_⟩
      refine tp_int (i := 0) (Ok.none H8) (SlD.nones _) rfl fun H9 s9 => ?_
      refine .inr ⟨g, _, _, .ref lb, rfl, rfl, SqT.of (s9 _ _ (s48 _ _ hg)), at_of (j := 0) rfl rfl, ?_⟩
      refine ⟨_, rfl, ?_⟩
      refine tp_int (i := 1) (Ok.none H9) (SlD.nones _) rfl fun H10 s10 => ?_
      have s410 := L2.Same.trans s48 (L2.Same.trans s9 s10)
      refine .inr ⟨g, _, _, .ref ls, rfl, rfl, SqT.of (s410 _ _ hg), at_of (j := 1) rfl rfl, ?_⟩
      have lab : ab.length = b.length := by rw [Rb.len, List.length_map]
      have las : asr.length = st.length := by rw [Rs.len, List.length_map]
      refine .inr (.inl ⟨lb, ls, _, _, rfl, rfl, s410 _ _ Rb.top, s410 _ _ Rs.top, by rw [List.length_map, List.length_map, sizeLine_eq]; omega, fun rl hrl => ?_⟩)
      refine z_name ?_
      dsimp only
      have R0 : Rows (upd H10 rl (.lst (ab.map V.ref ++ asr.map V.ref))) rl (ab ++ asr) ((curK (b ++ st) 0).map vI) := rows_cat (Rb.same fun x o _ e => s410 x o e) (Rs.same fun x o _ e => s410 x o e) dis hrl
      have sU : Same H10 (upd H10 rl (.lst (ab.map V.ref ++ asr.map V.ref))) := Pu.Same.new hrl
      have hRl : (b ++ st).length = b.length + st.length := List.length_append
      have s210 := L2.Same.trans s24 s410
      have newA : ∀ x, x ∈ ab ++ asr → H2 x = none ∧ x ≠ lb ∧ x ≠ ls ∧ x ≠ g := fun x hx => by
        rcases List.mem_append.mp hx with hx | hx
        · exact ⟨s3.free (nb.2 x hx), fun e => (List.nodup_cons.mp Rb.nd).1 (e ▸ hx), (dis x (.inr hx)).1, fun e => gne.2.1 (e ▸ hx)⟩
        · exact ⟨s3.free (nsr.2 x hx), fun e => (dis lb (.inl rfl)).2 (e ▸ hx), fun e => (List.nodup_cons.mp Rs.nd).1 (e ▸ hx), fun e => gne.2.2.2 (e ▸ hx)⟩
      -- each its place behind it
      refine z_seq ?_
      refine ⟨_, rfl, ⟨rl, _, rfl, .inl (SqL.of upd_same), ?_⟩⟩
      have len0 : ((ab.map V.ref ++ asr.map V.ref).length : Int) = ((b ++ st).length : Int) := by rw [List.length_append, List.length_map, List.length_map, hRl]; omega
      rw [len0]
      refine ⟨((b ++ st).length : Int), rfl, by omega, by omega, for_range (lo := 0) (n := ((b ++ st).length : Int).toNat) (fun j σ' G => ∃ x7 : Option V, σ' = [some vp, some vg, none, some (.str (wrongL b st)), some (.ref g), none, some (.ref rl), x7, none] ∧ Rows G rl (ab ++ asr) ((curK (b ++ st) j).map vI) ∧ Same H2 G ∧ G lb = some (.lst (ab.map V.ref)) ∧ G ls = some (.lst (asr.map V.ref)) ∧ G g = some (.tup [.ref lb, .ref ls])) ⟨_, rfl, R0, L2.Same.trans s210 sU, sU _ _ (s410 _ _ Rb.top), sU _ _ (s410 _ _ Rs.top), sU _ _ (s410 _ _ hg)⟩ (fun j σ' G hj hP => ?_) (fun σ' G hP => ?_)⟩
      · obtain ⟨x7, rfl, RG, sG, hlb, hls, hgg⟩ := hP
        rw [Int.toNat_natCast] at hj
        rw [Int.zero_add]
        refine z_name ?_
        dsimp only
        obtain ⟨r, hr1⟩ : ∃ r, (b ++ st)[j]? = some r := ⟨(b ++ st)[j], List.getElem?_eq_getElem hj⟩
        have hrl1 : r.length ≤ 1000 := (List.mem_append.mp (List.mem_of_getElem? hr1)).elim (z3 r) (z4 r)
        have hlt : j < ((curK (b ++ st) j).map vI).length := by rw [List.length_map, curK_len (by omega)]; exact hj
        obtain ⟨aj, rj, e1, e2, e3, e4⟩ := RG.at (i := j) hlt
        rw [List.getElem?_map, curK_at hr1] at e2
        cases e2
        have sl7 : ∀ {G' : Hp} {x4 x5 x6 : Option V}, SlD M0 G' [some vp, some vg, none, some (.str (wrongL b st)), x4, x5, x6, some (.int (j : Int)), none] [none, none, none, none, none, none, none, some (.int (j : Int)), none] := fun {G' x4 x5 x6} => .no _ (.no _ (.no _ (.no _ (.no _ (.no _ (.no _ (.yes (.int _) (.no _ .nil))))))))
        refine z_drop ?_
        refine ⟨_, rfl, ?_⟩
        refine tp_int (i := (j : Int)) (Ok.none G) sl7 (eVar_get rfl) fun G2 t2 => ?_
        have RG2 : Rows G2 rl (ab ++ asr) ((curK (b ++ st) j).map vI) := RG.same fun x o _ e => t2 x o e
        refine .inl ⟨rl, _, _, .ref aj, rfl, rfl, SqL.of RG2.top, at_of (j := j) rfl (by rw [List.getElem?_map, e1]; rfl), .inl ⟨rfl, _, SqL.of (t2 _ _ e3)⟩, ?_⟩
        refine tp_int (i := (j : Int)) (Ok.none G2) sl7 (eVar_get rfl) fun G3 t3 => ?_
        have t23 := L2.Same.trans t2 t3
        refine ⟨aj, _, _, rfl, rfl, t23 _ _ e3, by rw [vI_len, sizeLine_eq]; omega, ?_⟩
        have RG3 : Rows G3 rl (ab ++ asr) ((curK (b ++ st) j).map vI) := RG.same fun x o _ e => t23 x o e
        have R4 := RG3.set (r := vI r ++ [.int (j : Int)]) e1
        have ev : vI r ++ [V.int (j : Int)] = vI (r ++ [(j : Int)]) := by unfold vI; rw [List.map_append]; rfl
        rw [ev, ← List.map_set, curK_set hr1] at R4
        obtain ⟨na, nlb, nls, ng⟩ := newA aj (List.mem_of_getElem? e1)
        refine ⟨_, rfl, by rw [ev]; exact R4, Pu.Same.mut (L2.Same.trans sG t23) na, by rw [upd_ne nlb.symm]; exact t23 _ _ hlb, by rw [upd_ne nls.symm]; exact t23 _ _ hls, by rw [upd_ne ng.symm]; exact t23 _ _ hgg⟩
      · obtain ⟨x7, rfl, RG, sG, hlb, hls, hgg⟩ := hP
        rw [Int.toNat_natCast, curK_all] at RG
        dsimp only
        have rlb : rl ≠ lb := fun e => by
          have z := RG.nd
          have t0 := RG.top
          rw [e, hlb] at t0
          injection t0 with t0
          injection t0 with t0
          have := congrArg List.length t0
          rw [List.length_map, List.length_map, List.length_append] at this
          have z5 : asr = [] := List.length_eq_zero_iff.mp (by omega)
          rw [e, s410 _ _ Rb.top] at hrl
          cases hrl
        have rls : rl ≠ ls := fun e => by
          rw [e, s410 _ _ Rs.top] at hrl
          cases hrl
        have lbH : H2 lb = none := s3.free nb.1
        have lsH : H2 ls = none := s3.free nsr.1
        have lbs : lb ≠ ls := (dis lb (.inl rfl)).1
        have nlA : ∀ x, x ∈ ab ++ asr → x ≠ lb ∧ x ≠ ls := fun x hx => ⟨(newA x hx).2.1, (newA x hx).2.2.1⟩
        -- found[0].append([])
        refine z_seq ?_
        refine z_drop ?_
        refine ⟨_, rfl, ?_⟩
        refine tp_int (i := 0) (Ok.none G) (SlD.nones _) rfl fun G2 t2 => ?_
        refine .inr ⟨g, _, _, .ref lb, rfl, rfl, SqT.of (t2 _ _ hgg), at_of (j := 0) rfl rfl, .inl ⟨rfl, _, SqL.of (t2 _ _ hlb)⟩, ?_⟩
        refine tp_ok (Ok.none G2) (SlD.nones _) (show eLst esNil _ = some (encLI []) from q_lst q_nil (by show 0 ≤ 1000; decide)) fun ve G3 t3 re => ?_
        have t23 := L2.Same.trans t2 t3
        refine ⟨lb, _, _, rfl, rfl, t23 _ _ hlb, by rw [List.length_map, sizeLine_eq]; omega, ?_⟩
        dsimp only
        have sG3 : Same H2 (upd G3 lb (.lst (ab.map V.ref ++ [ve]))) := Pu.Same.mut (L2.Same.trans sG t23) lbH
        have RG3 : Rows (upd G3 lb (.lst (ab.map V.ref ++ [ve]))) rl (ab ++ asr) ((addK (b ++ st)).map vI) := RG.same fun x o hx e => by
          rw [upd_ne (by rcases hx with rfl | hx; exact rlb; exact (nlA x hx).1)]
          exact t23 x o e
        have hls3 : (upd G3 lb (.lst (ab.map V.ref ++ [ve]))) ls = some (.lst (asr.map V.ref)) := by rw [upd_ne lbs.symm]; exact t23 _ _ hls
        have hg3 : (upd G3 lb (.lst (ab.map V.ref ++ [ve]))) g = some (.tup [.ref lb, .ref ls]) := by rw [upd_ne gne.1]; exact t23 _ _ hgg
        generalize upd G3 lb (.lst (ab.map V.ref ++ [ve])) = G4 at sG3 RG3 hls3 hg3 ⊢
        -- found[1].append([])
        refine z_seq ?_
        refine z_drop ?_
        refine ⟨_, rfl, ?_⟩
        refine tp_int (i := 1) (Ok.none G4) (SlD.nones _) rfl fun G5 t5 => ?_
        refine .inr ⟨g, _, _, .ref ls, rfl, rfl, SqT.of (t5 _ _ hg3), at_of (j := 1) rfl rfl, .inl ⟨rfl, _, SqL.of (t5 _ _ hls3)⟩, ?_⟩
        refine tp_ok (Ok.none G5) (SlD.nones _) (show eLst esNil _ = some (encLI []) from q_lst q_nil (by show 0 ≤ 1000; decide)) fun ve2 G6 t6 re2 => ?_
        have t46 := L2.Same.trans t5 t6
        refine ⟨ls, _, _, rfl, rfl, t46 _ _ hls3, by rw [List.length_map, sizeLine_eq]; omega, ?_⟩
        dsimp only
        have sG6 : Same H2 (upd G6 ls (.lst (asr.map V.ref ++ [ve2]))) := Pu.Same.mut (L2.Same.trans sG3 t46) lsH
        have RG6 : Rows (upd G6 ls (.lst (asr.map V.ref ++ [ve2]))) rl (ab ++ asr) ((addK (b ++ st)).map vI) := RG3.same fun x o hx e => by
          rw [upd_ne (by rcases hx with rfl | hx; exact rls; exact (nlA x hx).2)]
          exact t46 x o e
        generalize upd G6 ls (.lst (asr.map V.ref ++ [ve2])) = G7 at sG6 RG6 ⊢
        -- kept
        refine z_seq ?_
        refine z_asg ?_
        have ek : ∀ {ds : Sl}, ds[0]? = some (some (encPI b st)) → eOp oAdd (eOp oIx (eVar 0) (eC (.int 0))) (eOp oIx (eVar 0) (eC (.int 1))) ds = some (encLLI (b ++ st)) := fun h => add_m (e := encLI) (i0 h) (i1 h) (by omega)
        refine tp_ok (Ok.none G7) (sl4 sG6) (ek rfl) fun vk G8 t8 rk => ?_
        refine z_name ?_
        dsimp only
        refine z_ret ?_
        have rrl : Rp M0 G8 (.ref rl) (encLLI (addK (b ++ st))) := (rowsI_rp (M := M0) RG6 (fun z => z) fun _ _ z => z).same t8
        have slE := ((sl4 (x2 := none) (x4 := some (.ref g)) (x5 := none) (x6 := some (.ref rl)) (x7 := x7) (x8 := some vk) (L2.Same.trans sG6 t8)).set 6 rrl).set 8 rk
        refine tp_ok (Ok.none G8) slE (last_ev1 sz rfl rfl rfl rfl rfl) fun v9 G9 t9 r9 => ?_
        cases r9
        exact q _ G9 (L2.Same.trans s02 (L2.Same.trans sG6 (L2.Same.trans t8 t9))) (.bl true)
    · have fin : ∀ (C : Addr) (wd : Str), wrongL b st = wd → PySem.W.exmOne K (.ref C) (.ref T.C_YardError) = some true → FnE P w K mg base 1 T.f_l_kind T.fd_l_kind ["_law_e"] C wd → oEq (.str wd) (.str wd) = some (.bool true) → ∀ (tsx : Addr → Value → Option Addr → TS) (D : Ends), (D.rt = Q) → (tsx = (fun a cls d => fun D σ H => ∃ Cw : Addr × Str, (cls = .ref Cw.1 ∧ d = none ∧ FnE P w K mg base 1 T.f_l_kind T.fd_l_kind ["_law_e"] Cw.1 Cw.2) ∧ (tRet (tAndV (tP (eOp oEq (eVar 1) (eVar 0))) (tOp (rEqD K) (fun σ H Q => σ[5]? = some (some (.ref a)) ∧ ∀ H1, Same H H1 → Q (.str Cw.2) H1) (tP (eVar 3))))) D σ H)) →
          wAs K (.ref T.C_YardError) 5 tsx (fun _ _ _ _ => False) D (.ref C) none [some vp, some vg, none, some (.str (wrongL b st)), none, none, none, none, none] H4 := by
        intro C wd hwd he FE hq tsx D hD htsx
        subst htsx
        refine ⟨true, he, fun _ a ha => ⟨(C, wd), ⟨rfl, rfl, FE⟩, ?_⟩, fun z => Bool.noConfusion z⟩
        have s24 := L2.Same.trans s3 s4
        refine z_ret ?_
        have t1 : eOp oEq (eVar 1) (eVar 0) [some (encPI b st), some (encPI b st), none, some (.str (wrongL b st)), none, none, none, none, none] = some (.bool true) := by
          rw [eOp_ev (eVar_get rfl) (eVar_get rfl)]
          exact oEq_g (k := true) gp gp (by omega) (by omega) ⟨fun _ => rfl, fun _ => rfl⟩
        refine tp_ok (Ok.none H4) (sl2 (x2 := none) (x4 := none) (x5 := some (.ref a)) (x6 := none) (x7 := none) (x8 := none) s24) t1 fun v5 H5 s5 r5 => ?_
        cases r5
        refine ⟨true, rfl, iteT ?_⟩
        refine z_op ?_
        refine ⟨rfl, fun H6 s6 => ?_⟩
        refine tp_ok (Ok.none H6) (sl2 (x2 := none) (x4 := none) (x5 := some (.ref a)) (x6 := none) (x7 := none) (x8 := none) (L2.Same.trans s24 (L2.Same.trans s5 s6))) (eVar_get (i := 3) (d := .str (wrongL b st)) rfl) fun v7 H7 s7 r7 => ?_
        rw [hwd] at r7
        refine os_eq M0 H7 _ _ (.str wd) (.str wd) (.bool true) _ (Ok.none _) (.str _) r7 hq fun v8 H8 s8 r8 => ?_
        cases r8
        show D.rt _ _
        rw [hD]
        exact q _ H8 (L2.Same.trans s02 (L2.Same.trans s24 (L2.Same.trans s5 (L2.Same.trans s6 (L2.Same.trans s7 s8))))) (.bl true)
      rcases wrong_words b st with h | h | h | h | h | h
      · exact absurd h hw
      · rw [show clsOf T.C_TooMany T.C_NoCrew T.C_NoTask T.C_Early T.C_Twice (wrongL b st) = T.C_TooMany by rw [h, cls_many]]
        refine fin _ "many" h T.e_TooMany KM (eq_self (by decide +kernel)) _ _ ?_ ?_ <;> rfl
      · rw [show clsOf T.C_TooMany T.C_NoCrew T.C_NoTask T.C_Early T.C_Twice (wrongL b st) = T.C_NoCrew by rw [h, cls_crew]]
        refine fin _ "crew" h T.e_NoCrew KC (eq_self (by decide +kernel)) _ _ ?_ ?_ <;> rfl
      · rw [show clsOf T.C_TooMany T.C_NoCrew T.C_NoTask T.C_Early T.C_Twice (wrongL b st) = T.C_NoTask by rw [h, cls_task]]
        refine fin _ "task" h T.e_NoTask KT (eq_self (by decide +kernel)) _ _ ?_ ?_ <;> rfl
      · rw [show clsOf T.C_TooMany T.C_NoCrew T.C_NoTask T.C_Early T.C_Twice (wrongL b st) = T.C_Early by rw [h, cls_early]]
        refine fin _ "early" h T.e_Early KE (eq_self (by decide +kernel)) _ _ ?_ ?_ <;> rfl
      · rw [show clsOf T.C_TooMany T.C_NoCrew T.C_NoTask T.C_Early T.C_Twice (wrongL b st) = T.C_Twice by rw [h, cls_twice]]
        refine fin _ "twice" h T.e_Twice KW (eq_self (by decide +kernel)) _ _ ?_ ?_ <;> rfl

theorem ok_l_cell_at {P : Program} {w : World} {K : PySem.W.Frag} {mg : Str → Option Value} {base : Heap} (T : Txt K mg) : FnOk P w K mg base CX0 1 T.f_l_cell_at T.fd_l_cell_at ["_law_script", "_law_k"] (spCellZ K) := by
  refine T.F_l_cell_at.ok sc_l_cell_at (fun vs H Q E h => ?_) (fun cdv A outer s H vs Q E hr h => ⟨_, (pss_cons (ps_if (pt_cmpR op_lt (pd_name 1) (pe_callB cr_len rfl T.z_len bt_len (pa_cons (pv 0) pa_nil)) (nomark _)) (pss_one (ps_ret (pe_ix ix_D (pv 0) (pd_name 1) (fun _ _ => rfl)))) pss_nil) (pss_one (ps_ret pd_int))), ?_⟩)
  · obtain ⟨a, ns, k, rfl, _⟩ := h
    rfl
  · obtain ⟨a, ns, k, rfl, hS, hk, q⟩ := h
    have s0 : ∀ {H1 : Hp}, SlD M0 H1 (start N_l_cell_at [.ref a, .int k]) [none, some (.int k)] := fun {H1} => .no _ (.yes (.int k) .nil)
    refine tp_int (i := k) (Ok.none H) s0 rfl fun H1 s1 => ?_
    refine ⟨_, rfl, a, _, rfl, .inl (s1.seq hS), _, _, rfl, rfl, _, rfl, ?_⟩
    rw [List.length_map]
    by_cases c : k < (ns.length : Int)
    · rw [decide_eq_true c]
      refine iteT ?_
      refine ⟨_, rfl, ?_⟩
      refine tp_int (i := k) (Ok.none H1) s0 rfl fun H2 s2 => ?_
      have hn : k.toNat < ns.length := by omega
      refine .inl ⟨a, _, k, .int ns[k.toNat], rfl, rfl, s2.seq (s1.seq hS), at_of (j := k.toNat) (by omega) (by rw [List.getElem?_map, List.getElem?_eq_getElem hn]; rfl), ?_⟩
      exact q _ _ (L2.Same.trans s1 s2)
    · rw [decide_eq_false c]
      refine iteF ?_
      refine tp_int (i := 0) (Ok.none H1) s0 rfl fun H2 s2 => ?_
      exact q _ _ (L2.Same.trans s1 s2)

theorem ok_l_plan_by {P : Program} {w : World} {K : PySem.W.Frag} {mg : Str → Option Value} {base : Heap} (T : Txt K mg) : FnOk P w K mg base CX0 2 T.f_l_plan_by T.fd_l_plan_by ["_law_script", "_law_first", "_law_most"] (spPlanZ K) := by
  have G_l_cell_at := ok_l_cell_at (P := P) (w := w) (base := base) T
  refine T.F_l_plan_by.ok sc_l_plan_by (fun vs H Q E h => ?_) (fun cdv A outer s H vs Q E hr h => ⟨_, (pss_cons (ps_set (i := 3) sc_l_plan_by.nd rfl (by first | exact Or.inl rfl | exact Or.inr rfl) (pe_call G_l_cell_at (hr.mono (by decide)) rfl T.m_l_cell_at T.F_l_cell_at.kp T.b_l_cell_at .nil pass0 (pa_cons (pv 0) (pa_cons (pd_name 1) pa_nil)))) (pss_cons (ps_set (i := 4) sc_l_plan_by.nd rfl (by first | exact Or.inl rfl | exact Or.inr rfl) (pd_op or_addD os_add pd_int (pd_op op_modN os_mod (pd_name 3) (pd_ix (pd_lst (pda_cons pd_int (pda_cons pd_int (pda_cons pd_int pda_nil)))) (pd_op op_modN os_mod (pd_op op_fdivN os_div (pd_name 3) pd_int) pd_int))))) (pss_cons (ps_set (i := 5) sc_l_plan_by.nd rfl (by first | exact Or.inl rfl | exact Or.inr rfl) (pd_op op_modN os_mod (pd_op op_fdivN os_div (pd_name 3) pd_int) (pd_op or_addD os_add (pd_name 2) pd_int))) (pss_cons (ps_setLc (i := 6) rfl sc_l_plan_by.nd rfl rfl (sw_true rfl rfl rfl (by decide +kernel)) (pi_range1 rfl T.z_range (pa_cons (pd_name 5) pa_nil)) (blkOk_by (N := N_l_plan_by) (sc := defScope s_l_plan_by) (own := [("_law_task", 7)]) (by decide +kernel)) (fun _ _ _ _ _ => pg_name (i := 7) sc_l_plan_by.nd rfl (Or.inl rfl)) (fun _ _ _ _ _ => pts_nil) (fun _ _ _ _ _ => (pe_lst pa_nil))) (pss_cons (ps_setLc (i := 8) rfl sc_l_plan_by.nd rfl rfl (sw_true rfl rfl rfl (by decide +kernel)) (pi_range1 rfl T.z_range (pa_cons (pd_name 4) pa_nil)) (blkOk_by (N := N_l_plan_by) (sc := defScope s_l_plan_by) (own := [("_law_worker", 9)]) (by decide +kernel)) (fun _ _ _ _ _ => pg_name (i := 9) sc_l_plan_by.nd rfl (Or.inl rfl)) (fun _ _ _ _ _ => pts_nil) (fun _ _ _ _ _ => (pe_lst pa_nil))) (pss_cons (ps_for PassesOwn.never rfl (pi_range1 rfl T.z_range (pa_cons (pd_name 5) pa_nil)) (pg_name (i := 7) sc_l_plan_by.nd rfl (by first | exact Or.inl rfl | exact Or.inr rfl)) (pss_cons (ps_set (i := 10) sc_l_plan_by.nd rfl (by first | exact Or.inl rfl | exact Or.inr rfl) (pe_op or_addD (pe_call G_l_cell_at (hr.mono (by decide)) rfl T.m_l_cell_at T.F_l_cell_at.kp T.b_l_cell_at .nil pass0 (pa_cons (pv 0) (pa_cons (pd_op or_addD os_add (pd_op or_addD os_add (pd_name 1) pd_int) (pd_name 7)) pa_nil))) (pd_op or_mulD os_mul (pd_name 7) (pd_op op_modN os_mod (pd_op op_fdivN os_div (pd_name 3) pd_int) pd_int)))) (pss_one (ps_if (PW.pt (ptd_and (ptd_cmp op_lt os_lt (pd_op op_modN os_mod (pd_name 10) pd_int) pd_int (nomark _)) (ptd_and1 (ptd_cmp op_gt os_gt (pd_name 7) pd_int (nomark _))))) (pss_one (ps_expr (pe_bm PySem.F.plainAttrs_list PySem.F.slot_list_append PySem.F.type_list_append mt_append (pe_ix ix_D (pv 6) (pd_op op_modN os_mod (pd_op op_fdivN os_div (pd_name 10) pd_int) (pd_name 7)) (fun _ _ => rfl)) (pa_cons (pd_name 7) pa_nil)))) (pss_one (ps_if (PW.pt (ptd_and (ptd_cmp (op_eqD hr.units) os_eq (pd_op op_modN os_mod (pd_name 10) pd_int) pd_int (nomark _)) (ptd_and1 (ptd_cmp op_gt os_gt (pd_name 7) pd_int (nomark _))))) (pss_one (ps_expr (pe_bm PySem.F.plainAttrs_list PySem.F.slot_list_insert PySem.F.type_list_insert mt_insert (pe_ix ix_D (pv 6) (pd_op op_sub os_sub (pd_name 7) pd_int) (fun _ _ => rfl)) (pa_cons pd_int (pa_cons (pd_name 7) pa_nil))))) (pss_one (ps_if (ptd_cmp (op_neD hr.units) os_ne (pd_op op_modN os_mod (pd_name 10) pd_int) pd_int (nomark _)) (pss_one (ps_expr (pe_bm PySem.F.plainAttrs_list PySem.F.slot_list_append PySem.F.type_list_append mt_append (pe_ix ix_D (pv 8) (pd_op op_modN os_mod (pd_op op_fdivN os_div (pd_name 10) pd_int) (pd_ix (pd_lst (pda_cons pd_int (pda_cons (pd_name 4) pda_nil))) (pd_op op_modN os_mod (pd_op op_fdivN os_div (pd_name 3) pd_int) pd_int))) (fun _ _ => rfl)) (pa_cons (pd_name 7) pa_nil)))) pss_nil)))))))) (pss_one (ps_ret (pe_tup (pa_cons (pv 6) (pa_cons (pv 8) pa_nil))))))))))), ?_⟩)
  · obtain ⟨a, ns, first, most, rfl, _⟩ := h
    rfl
  · obtain ⟨a, ns, first, most, rfl, hS, h0, hm, q⟩ := h
    -- cell
    refine ⟨_, rfl, tp_int (i := first) (Ok.none H) (ds := [none, some (.int first), none, none, none, none, none, none, none, none, none]) (.no _ (.yes (.int first) (.no _ (.no _ (.no _ (.no _ (.no _ (.no _ (.no _ (.no _ (.no _ .nil))))))))))) rfl fun H1 s1 => ?_⟩
    refine ⟨a, ns, first, rfl, s1.seq hS, h0, fun c H2 s2 => ?_⟩
    have s12 := L2.Same.trans s1 s2
    -- many, size
    obtain ⟨m, m1, m2, em⟩ := many_ev (ds := [none, none, some (.int (most : Int)), some (.int c), none, none, none, none, none, none, none]) (f := eVar 3) (c := c) rfl
    refine tp_int (Ok.none H2) (.no _ (.no _ (.yes (.int _) (.yes (.int c) (.no _ (.no _ (.no _ (.no _ (.no _ (.no _ (.no _ .nil))))))))))) em fun H3 s3 => ?_
    obtain ⟨n, n1, en⟩ := size_ev (ds := [none, none, some (.int (most : Int)), some (.int c), none, none, none, none, none, none, none]) (f := eVar 3) (g := eVar 2) (c := c) (most := most) rfl rfl
    refine tp_int (Ok.none H3) (.no _ (.no _ (.yes (.int _) (.yes (.int c) (.no _ (.no _ (.no _ (.no _ (.no _ (.no _ (.no _ .nil))))))))))) en fun H4 s4 => ?_
    -- brood
    refine tp_int (i := (n : Int)) (Ok.none H4) (ds := [none, none, none, none, none, some (.int (n : Int)), none, none, none, none, none]) (.no _ (.no _ (.no _ (.no _ (.no _ (.yes (.int _) (.no _ (.no _ (.no _ (.no _ (.no _ .nil))))))))))) rfl fun H5 s5 => ?_
    refine ⟨(n : Int), rfl, by omega, by omega, fun lb hlb => ?_⟩
    rw [Int.toNat_natCast]
    refine lc_empties hlb (by omega) fun H6 ab R6 s6 n6 => ?_
    have s46 := L2.Same.trans s5 s6
    have s06 := L2.Same.trans (L2.Same.trans (L2.Same.trans s12 s3) s4) s46
    have nb : New H lb ab := ⟨(L2.Same.trans (L2.Same.trans (L2.Same.trans s12 s3) s4) s5).free n6.1, fun x hx => (L2.Same.trans (L2.Same.trans (L2.Same.trans s12 s3) s4) s5).free (n6.2 x hx)⟩
    -- starts
    refine tp_int (i := (m : Int)) (Ok.none H6) (ds := [none, none, none, none, some (.int (m : Int)), none, none, none, none, none, none]) (.no _ (.no _ (.no _ (.no _ (.yes (.int _) (.no _ (.no _ (.no _ (.no _ (.no _ (.no _ .nil))))))))))) rfl fun H7 s7 => ?_
    refine ⟨(m : Int), rfl, by omega, by omega, fun ls hls => ?_⟩
    rw [Int.toNat_natCast]
    refine lc_empties hls (by omega) fun H8 asr R8 s8 n8 => ?_
    have s08 := L2.Same.trans (L2.Same.trans s06 s7) s8
    have nsr : New H ls asr := ⟨(L2.Same.trans s06 s7).free n8.1, fun x hx => (L2.Same.trans s06 s7).free (n8.2 x hx)⟩
    have R6' : Rows H7 lb ab (List.replicate n []) := R6.same fun x o _ e => s7 x o e
    have R6'' : Rows H8 lb ab (List.replicate n []) := R6'.same fun x o _ e => s8 x o e
    have dis : ∀ x, (x = lb ∨ x ∈ ab) → ¬ (x = ls ∨ x ∈ asr) := fun x hx hy => by
      have e7 : H7 x = none := by
        rcases hy with rfl | hy
        · exact n8.1
        · exact n8.2 x hy
      rcases hx with rfl | hx
      · rw [R6'.top] at e7; cases e7
      · obtain ⟨i, hi⟩ := List.mem_iff_getElem?.mp hx
        obtain ⟨r, _, h2⟩ := R6'.row i x hi
        rw [h2] at e7; cases e7
    -- the loop
    refine tp_int (i := (n : Int)) (Ok.none H8) (ds := [none, none, none, none, none, some (.int (n : Int)), none, none, none, none, none]) (.no _ (.no _ (.no _ (.no _ (.no _ (.yes (.int _) (.no _ (.no _ (.no _ (.no _ (.no _ .nil))))))))))) rfl fun H9 s9 => ?_
    refine ⟨(n : Int), rfl, by omega, by omega, for_range (lo := 0) (n := (n : Int).toNat) (fun i σ H' => ∃ (b sr : LL) (v7 v10 : Option V), σ = [some (.ref a), some (.int first), some (.int (most : Int)), some (.int c), some (.int (m : Int)), some (.int (n : Int)), some (.ref lb), v7, some (.ref ls), none, v10] ∧
      PlanAt i n m b sr ∧ Rows H' lb ab (b.map vN) ∧ Rows H' ls asr (sr.map vN) ∧ Same H H') ?_ (fun i σ H' hi hP => ?_) (fun σ H' hP => ?_)⟩
    · refine ⟨_, _, none, none, rfl, PlanAt.start n m, ?_, ?_, L2.Same.trans s08 s9⟩
      · rw [List.map_replicate]; exact R6''.same fun x o _ e => s9 x o e
      · rw [List.map_replicate]; exact R8.same fun x o _ e => s9 x o e
    · obtain ⟨b, sr, v7, v10, rfl, Pl, Rb, Rs, sH⟩ := hP
      rw [Int.toNat_natCast] at hi
      rw [Int.zero_add]
      -- way
      refine ⟨_, rfl, tp_int (i := first + 1 + (i : Int)) (Ok.none H') (ds := [none, some (.int first), none, none, none, none, none, some (.int (i : Int)), none, none, none]) (.no _ (.yes (.int first) (.no _ (.no _ (.no _ (.no _ (.no _ (.yes (.int _) (.no _ (.no _ (.no _ .nil))))))))))) rfl fun G1 t1 => ?_⟩
      refine ⟨a, ns, _, rfl, (L2.Same.trans sH t1).seq hS, by omega, fun c2 G2 t2 => ?_⟩
      have hmul : ∃ z : Int, eOp oMul (eVar 7) (eOp oMod (eOp oDiv (eVar 3) (eC (.int 30000))) (eC (.int 50))) [none, none, none, some (.int c), none, none, none, some (.int (i : Int)), none, none, none] = some (.int z) :=
        ⟨_, mul_ev rfl (mod_ev (div_ev rfl rfl (by decide) (by decide)) rfl (by decide)) (.inl (by omega))⟩
      obtain ⟨z, ez⟩ := hmul
      refine tp_int (Ok.none G2) (.no _ (.no _ (.no _ (.yes (.int c) (.no _ (.no _ (.no _ (.yes (.int _) (.no _ (.no _ (.no _ .nil))))))))))) ez fun G3 t3 => .inl ⟨_, _, rfl, rfl, ?_⟩
      have t03 := L2.Same.trans (L2.Same.trans t1 t2) t3
      have Rb3 : Rows G3 lb ab (b.map vN) := Rb.same fun x o _ e => t03 x o e
      have Rs3 : Rows G3 ls asr (sr.map vN) := Rs.same fun x o _ e => t03 x o e
      have sG3 := L2.Same.trans sH t03
      have slt : ∀ {G : Hp}, SlD M0 G [some (.ref a), some (.int first), some (.int (most : Int)), some (.int c), some (.int (m : Int)), some (.int (n : Int)), some (.ref lb), some (.int (i : Int)), some (.ref ls), none, some (.int (c2 + z))]
          [none, none, none, some (.int c), some (.int (m : Int)), none, none, some (.int (i : Int)), none, none, some (.int (c2 + z))] := fun {G} =>
        .no _ (.no _ (.no _ (.yes (.int c) (.yes (.int _) (.no _ (.no _ (.yes (.int _) (.no _ (.no _ (.yes (.int (c2 + z)) .nil))))))))))
      -- the first test
      refine tpt_ok (Ok.none G3) slt (and_ev (ds := [none, none, none, some (.int c), some (.int (m : Int)), none, none, some (.int (i : Int)), none, none, some (.int (c2 + z))]) (lt_ev (mod_ev rfl rfl (by decide)) rfl) (gt_ev rfl rfl)) fun G4 t4 => ?_
      have Rb4 : Rows G4 lb ab (b.map vN) := Rb3.same fun x o _ e => t4 x o e
      have Rs4 : Rows G4 ls asr (sr.map vN) := Rs3.same fun x o _ e => t4 x o e
      have sG4 := L2.Same.trans sG3 t4
      by_cases b1 : (decide ((c2 + z).fmod 5 < 2) && decide ((0 : Int) < (i : Int))) = true
      · refine if_true_of b1 ?_
        have i0 : 0 < i := by
          rw [Bool.and_eq_true, decide_eq_true_eq, decide_eq_true_eq] at b1
          omega
        obtain ⟨j, hj, ej⟩ := under_ev (ds := [none, none, none, some (.int c), some (.int (m : Int)), none, none, some (.int (i : Int)), none, none, some (.int (c2 + z))]) (f := eVar 10) (g := eVar 7) (w := c2 + z) (i := i) rfl rfl i0
        have hjb : j < b.length := by rw [Pl.bl]; omega
        obtain ⟨r, hr1⟩ : ∃ r, b[j]? = some r := ⟨b[j], List.getElem?_eq_getElem hjb⟩
        refine ⟨_, rfl, tp_int (Ok.none G4) slt ej fun G5 t5 => ?_⟩
        have Rb5 : Rows G5 lb ab (b.map vN) := Rb4.same fun x o _ e => t5 x o e
        obtain ⟨aj, rj, e1, e2, e3, e4⟩ := Rb5.at (i := j) (by rw [List.length_map]; exact hjb)
        rw [List.getElem?_map, hr1] at e2
        cases e2
        refine .inl ⟨lb, _, _, .ref aj, rfl, rfl, SqL.of Rb5.top, at_of (j := j) rfl (by rw [List.getElem?_map, e1]; rfl), .inl ⟨rfl, _, SqL.of e3⟩, ?_⟩
        refine tp_int (i := (i : Int)) (Ok.none G5) slt rfl fun G6 t6 => ?_
        have Rb6 : Rows G6 lb ab (b.map vN) := Rb5.same fun x o _ e => t6 x o e
        have hlen : (vN r).length < sizeLine := by
          have h1 : r.length ≤ i := by
            have h2 : r.Nodup := ((List.nodup_append.mp Pl.nd).1).sublist (List.sublist_flatten_of_mem (List.mem_of_getElem? hr1))
            have h3 := List.Nodup.length_le_of_subset h2 (l₂ := List.range i) (fun x hx => List.mem_range.mpr (Pl.inb j r x hr1 hx).2)
            rw [List.length_range] at h3
            exact h3
          unfold vN
          rw [List.length_map, sizeLine_eq]
          omega
        refine ⟨aj, _, _, rfl, rfl, t6 _ _ e3, hlen, ?_⟩
        have Rb7 := Rb6.set (r := vN r ++ [.int (i : Int)]) e1
        rw [vN_snoc, map_set_vN] at Rb7
        have haj := List.mem_of_getElem? e1
        refine ⟨_, _, _, _, rfl, Pl.brood hr1 hj (List.perm_append_comm (l₁ := r) (l₂ := [i])), ?_, ?_, ?_⟩
        · rw [vN_snoc]; exact Rb7
        · refine (Rs4.same fun x o _ e => (L2.Same.trans t5 t6) x o e).same fun x o hx e => ?_
          have hne : x ≠ aj := fun e' => dis aj (.inr haj) (by rw [← e']; exact hx)
          rw [upd_ne hne]
          exact e
        · exact Pu.Same.mut (L2.Same.trans (L2.Same.trans sG4 t5) t6) (nb.2 aj haj)
      · refine if_false_of (Bool.not_eq_true _ ▸ b1) ?_
        -- the second test
        refine tpt_ok (Ok.none G4) slt (and_ev (ds := [none, none, none, some (.int c), some (.int (m : Int)), none, none, some (.int (i : Int)), none, none, some (.int (c2 + z))]) (eq_ev (mod_ev rfl rfl (by decide)) rfl) (gt_ev rfl rfl)) fun G5 t5 => ?_
        have Rb5 : Rows G5 lb ab (b.map vN) := Rb4.same fun x o _ e => t5 x o e
        have Rs5 : Rows G5 ls asr (sr.map vN) := Rs4.same fun x o _ e => t5 x o e
        have sG5 := L2.Same.trans sG4 t5
        by_cases b2 : (((c2 + z).fmod 5 == 2) && decide ((0 : Int) < (i : Int))) = true
        · refine if_true_of b2 ?_
          have i0 : 0 < i := by
            rw [Bool.and_eq_true, decide_eq_true_eq] at b2
            omega
          have hjb : i - 1 < b.length := by rw [Pl.bl]; omega
          obtain ⟨r, hr1⟩ : ∃ r, b[i - 1]? = some r := ⟨b[i - 1], List.getElem?_eq_getElem hjb⟩
          refine ⟨_, rfl, tp_int (i := (i : Int) - 1) (Ok.none G5) slt rfl fun G6 t6 => ?_⟩
          have Rb6 : Rows G6 lb ab (b.map vN) := Rb5.same fun x o _ e => t6 x o e
          obtain ⟨aj, rj, e1, e2, e3, e4⟩ := Rb6.at (i := i - 1) (by rw [List.length_map]; exact hjb)
          rw [List.getElem?_map, hr1] at e2
          cases e2
          refine .inl ⟨lb, _, _, .ref aj, rfl, rfl, SqL.of Rb6.top, at_of (j := i - 1) (by omega) (by rw [List.getElem?_map, e1]; rfl), .inl ⟨rfl, _, SqL.of e3⟩, ?_⟩
          refine tp_int (i := 0) (Ok.none G6) slt rfl fun G7 t7 => ?_
          refine tp_int (i := (i : Int)) (Ok.none G7) slt rfl fun G8 t8 => ?_
          have t68 := L2.Same.trans t7 t8
          have hlen : (vN r).length < sizeLine := by
            have h1 : r.length ≤ i := by
              have h2 : r.Nodup := ((List.nodup_append.mp Pl.nd).1).sublist (List.sublist_flatten_of_mem (List.mem_of_getElem? hr1))
              have h3 := List.Nodup.length_le_of_subset h2 (l₂ := List.range i) (fun x hx => List.mem_range.mpr (Pl.inb _ r x hr1 hx).2)
              rw [List.length_range] at h3
              exact h3
            unfold vN
            rw [List.length_map, sizeLine_eq]
            omega
          refine ⟨aj, _, 0, _, rfl, rfl, t68 _ _ e3, hlen, by decide, by decide, ?_⟩
          have Rb8 : Rows G8 lb ab (b.map vN) := Rb6.same fun x o _ e => t68 x o e
          have Rb9 := Rb8.set (r := vN (i :: r)) e1
          rw [map_set_vN] at Rb9
          have haj := List.mem_of_getElem? e1
          refine ⟨_, _, _, _, rfl, Pl.brood hr1 (by omega) (List.Perm.refl (i :: r)), Rb9, ?_, ?_⟩
          · refine (Rs5.same fun x o _ e => (L2.Same.trans t6 t68) x o e).same fun x o hx e => ?_
            have hne : x ≠ aj := fun e' => dis aj (.inr haj) (by rw [← e']; exact hx)
            rw [upd_ne hne]
            exact e
          · exact Pu.Same.mut (L2.Same.trans (L2.Same.trans sG5 t6) t68) (nb.2 aj haj)
        · refine if_false_of (Bool.not_eq_true _ ▸ b2) ?_
          refine tpt_ok (Ok.none G5) slt (ne_ev (ds := [none, none, none, some (.int c), some (.int (m : Int)), none, none, some (.int (i : Int)), none, none, some (.int (c2 + z))]) (mod_ev rfl rfl (by decide)) rfl) fun G6 t6 => ?_
          have Rb6 : Rows G6 lb ab (b.map vN) := Rb5.same fun x o _ e => t6 x o e
          have Rs6 : Rows G6 ls asr (sr.map vN) := Rs5.same fun x o _ e => t6 x o e
          have sG6 := L2.Same.trans sG5 t6
          by_cases b3 : (!((c2 + z).fmod 25 == 23)) = true
          · refine if_true_of b3 ?_
            obtain ⟨j, hj, ej⟩ := deal_ev (ds := [none, none, none, some (.int c), some (.int (m : Int)), none, none, some (.int (i : Int)), none, none, some (.int (c2 + z))]) (f := eVar 10) (g := eVar 4) (k := eVar 3) (c := c) (w := c2 + z) (m := m) rfl rfl rfl m1
            have hjb : j < sr.length := by rw [Pl.sl]; omega
            obtain ⟨r, hr1⟩ : ∃ r, sr[j]? = some r := ⟨sr[j], List.getElem?_eq_getElem hjb⟩
            refine ⟨_, rfl, tp_int (Ok.none G6) slt ej fun G7 t7 => ?_⟩
            have Rs7 : Rows G7 ls asr (sr.map vN) := Rs6.same fun x o _ e => t7 x o e
            obtain ⟨aj, rj, e1, e2, e3, e4⟩ := Rs7.at (i := j) (by rw [List.length_map]; exact hjb)
            rw [List.getElem?_map, hr1] at e2
            cases e2
            refine .inl ⟨ls, _, _, .ref aj, rfl, rfl, SqL.of Rs7.top, at_of (j := j) rfl (by rw [List.getElem?_map, e1]; rfl), .inl ⟨rfl, _, SqL.of e3⟩, ?_⟩
            refine tp_int (i := (i : Int)) (Ok.none G7) slt rfl fun G8 t8 => ?_
            have hlen : (vN r).length < sizeLine := by
              have h1 : r.length ≤ i := by
                have h2 : r.Nodup := ((List.nodup_append.mp Pl.nd).2.1).sublist (List.sublist_flatten_of_mem (List.mem_of_getElem? hr1))
                have h3 := List.Nodup.length_le_of_subset h2 (l₂ := List.range i) (fun x hx => List.mem_range.mpr (Pl.ins j r x hr1 hx))
                rw [List.length_range] at h3
                exact h3
              unfold vN
              rw [List.length_map, sizeLine_eq]
              omega
            refine ⟨aj, _, _, rfl, rfl, t8 _ _ e3, hlen, ?_⟩
            have Rs8 : Rows G8 ls asr (sr.map vN) := Rs7.same fun x o _ e => t8 x o e
            have Rs9 := Rs8.set (r := vN r ++ [.int (i : Int)]) e1
            rw [vN_snoc, map_set_vN] at Rs9
            have haj := List.mem_of_getElem? e1
            refine ⟨_, _, _, _, rfl, Pl.row hr1 (List.perm_append_comm (l₁ := r) (l₂ := [i])), ?_, ?_, ?_⟩
            · refine (Rb6.same fun x o _ e => (L2.Same.trans t7 t8) x o e).same fun x o hx e => ?_
              have hne : x ≠ aj := fun e' => dis x hx (.inr (by rw [e']; exact haj))
              rw [upd_ne hne]
              exact e
            · rw [vN_snoc]; exact Rs9
            · exact Pu.Same.mut (L2.Same.trans (L2.Same.trans sG6 t7) t8) (nsr.2 aj haj)
          · refine if_false_of (Bool.not_eq_true _ ▸ b3) ?_
            exact ⟨_, _, _, _, rfl, Pl.none, Rb6, Rs6, sG6⟩
    · obtain ⟨b, sr, v7, v10, rfl, Pl, Rb, Rs, sH⟩ := hP
      rw [Int.toNat_natCast] at Pl
      refine ⟨_, rfl, _, rfl, by show 2 ≤ sizeLine; rw [sizeLine_eq]; decide, fun p hp => ?_⟩
      have sp := Pu.Same.new (o := .tup [.ref lb, .ref ls]) hp
      refine q b sr _ _ (Pl.ok n1 m1 m2) (L2.Same.trans sH sp) fun M ok => ?_
      have nbM := nb.not ok
      have nsM := nsr.not ok
      have Rb' : Rows (upd H' p (.tup [.ref lb, .ref ls])) lb ab (b.map vN) := Rb.same fun x o _ e => sp x o e
      have Rs' : Rows (upd H' p (.tup [.ref lb, .ref ls])) ls asr (sr.map vN) := Rs.same fun x o _ e => sp x o e
      exact .tup upd_same (fun m => ok p m (sH.free hp)) (.cons (rows_rp Rb' nbM.1 nbM.2) (.cons (rows_rp Rs' nsM.1 nsM.2) .nil))

theorem row_le {n : Nat} {b s : LL} (P : PlanOk n b s) : (∀ r ∈ b, r.length ≤ b.length) ∧ ∀ r ∈ s, r.length ≤ b.length := by
  refine ⟨fun r hr => ?_, fun r hr => ?_⟩
  · have h2 : r.Nodup := ((List.nodup_append.mp P.nd).1).sublist (List.sublist_flatten_of_mem hr)
    obtain ⟨j, hj⟩ := List.mem_iff_getElem?.mp hr
    have h3 := List.Nodup.length_le_of_subset h2 (l₂ := List.range b.length) (fun x hx => List.mem_range.mpr (P.inb j r x hj hx).2)
    rw [List.length_range] at h3
    exact h3
  · have h2 : r.Nodup := ((List.nodup_append.mp P.nd).2.1).sublist (List.sublist_flatten_of_mem hr)
    obtain ⟨j, hj⟩ := List.mem_iff_getElem?.mp hr
    have h3 := List.Nodup.length_le_of_subset h2 (l₂ := List.range b.length) (fun x hx => List.mem_range.mpr (P.ins j r x hj hx))
    rw [List.length_range] at h3
    exact h3
theorem sz_plan {b s : LL} (P : PlanOk 30 b s) : Sz 30 (toI b) (toI s) := by
  have hb := P.size
  have hs := P.m2
  have rl := row_le P
  refine ⟨by unfold toI; rw [List.length_map]; exact hb, by unfold toI; rw [List.length_map]; omega, fun r hr => ?_, fun r hr => ?_⟩
  · obtain ⟨r', h1, rfl⟩ := List.mem_map.mp hr
    have := rl.1 r' h1
    rw [List.length_map]; omega
  · obtain ⟨r', h1, rfl⟩ := List.mem_map.mp hr
    have := rl.2 r' h1
    rw [List.length_map]; omega
theorem sz_mono {m n : Nat} {b s : LI} (z : Sz m b s) (h : m ≤ n) : Sz n b s :=
  ⟨Nat.le_trans z.1 h, Nat.le_trans z.2.1 h, fun r hr => Nat.le_trans (z.2.2.1 r hr) h, fun r hr => Nat.le_trans (z.2.2.2 r hr) h⟩
theorem right_all {ds : Sl} {b s b2 s2 : LI} (z : Sz 1000 b s) (z2 : Sz 1000 b2 s2) (h1 : ds[1]? = some (some (encPI b s))) (h2 : ds[2]? = some (some (encPI b2 s2))) :
    eAnd (eCall M_l_right (esCons (eVar 2) esNil)) (eAnd (eCall M_l_right (esCons (eVar 1) esNil)) (eCall M_l_right (esCons (eVar 2) esNil))) ds = some (.bool true) := by
  have a1 : eCall M_l_right (esCons (eVar 1) esNil) ds = some (.bool true) := (q_call (q_cons (eVar_get h1) q_nil)).trans (M_right_ev z)
  have a2 : eCall M_l_right (esCons (eVar 2) esNil) ds = some (.bool true) := (q_call (q_cons (eVar_get h2) q_nil)).trans (M_right_ev z2)
  have t1 : bT (eCall M_l_right (esCons (eVar 1) esNil)) ds = some true := bT_of a1
  have t2 : bT (eCall M_l_right (esCons (eVar 2) esNil)) ds = some true := bT_of a2
  unfold eAnd
  rw [t2, Option.bind_some, if_pos rfl, t1, Option.bind_some, if_pos rfl, a2]
theorem ok_law {P : Program} {w : World} {K : PySem.W.Frag} {mg : Str → Option Value} {base : Heap} {f : Addr} {fd : FuncData} (T : Txt K mg) (F : Fun K "law" "law" s_law f fd) : FnOk P w K mg base CX0 12 f fd ["_law_script"] (spLawZ K) := by
  have G_l_cell_at := ok_l_cell_at (P := P) (w := w) (base := base) T
  have G_l_plan_by := ok_l_plan_by (P := P) (w := w) (base := base) T
  have G_l_changed := ok_l_changed (P := P) (w := w) (base := base) T
  have G_l_right := ok_l_right (P := P) (w := w) (base := base) T
  refine F.ok sc_law (fun vs H Q E h => ?_) (fun cdv A outer s H vs Q E hr h => ⟨_, (pss_cons (ps_set (i := 1) sc_law.nd rfl (by first | exact Or.inl rfl | exact Or.inr rfl) (pe_call G_l_plan_by (hr.mono (by decide)) rfl T.m_l_plan_by T.F_l_plan_by.kp T.b_l_plan_by .nil pass0 (pa_cons (pv 0) (pa_cons pd_int (pa_cons pd_int pa_nil))))) (pss_cons (ps_set (i := 2) sc_law.nd rfl (by first | exact Or.inl rfl | exact Or.inr rfl) (pd_name 1)) (pss_cons (ps_for PassesOwn.never rfl (pi_range1 rfl T.z_range (pa_cons (pe_op op_modN (pe_call G_l_cell_at (hr.mono (by decide)) rfl T.m_l_cell_at T.F_l_cell_at.kp T.b_l_cell_at .nil pass0 (pa_cons (pv 0) (pa_cons pd_int pa_nil))) pd_int) pa_nil)) (pg_name (i := 3) sc_law.nd rfl (by first | exact Or.inl rfl | exact Or.inr rfl)) (pss_one (ps_set (i := 2) sc_law.nd rfl (by first | exact Or.inl rfl | exact Or.inr rfl) (pe_call G_l_changed (hr.mono (by decide)) rfl T.m_l_changed T.F_l_changed.kp T.b_l_changed .nil pass0 (pa_cons (pd_name 2) (pa_cons (pe_call G_l_cell_at (hr.mono (by decide)) rfl T.m_l_cell_at T.F_l_cell_at.kp T.b_l_cell_at .nil pass0 (pa_cons (pv 0) (pa_cons (pd_op or_addD os_add pd_int (pd_name 3)) pa_nil))) (pa_cons (pe_call G_l_cell_at (hr.mono (by decide)) rfl T.m_l_cell_at T.F_l_cell_at.kp T.b_l_cell_at .nil pass0 (pa_cons (pv 0) (pa_cons (pd_op or_addD os_add pd_int (pd_name 3)) pa_nil))) pa_nil))))))) (pss_one (ps_ret (pd_and (pd_call G_l_right (hr.mono (by decide)) rfl T.m_l_right T.F_l_right.kp T.b_l_right pass0 (pda_cons (pd_name 2) pda_nil) (es_len es_len0)) (pd_and (pd_call G_l_right (hr.mono (by decide)) rfl T.m_l_right T.F_l_right.kp T.b_l_right pass0 (pda_cons (pd_name 1) pda_nil) (es_len es_len0)) (pd_one (pd_call G_l_right (hr.mono (by decide)) rfl T.m_l_right T.F_l_right.kp T.b_l_right pass0 (pda_cons (pd_name 2) pda_nil) (es_len es_len0)))))))))), ?_⟩)
  · obtain ⟨a, ns, rfl, _⟩ := h
    rfl
  · obtain ⟨a, ns, rfl, hS, hlen, q⟩ := h
    refine z_seq ?_
    refine z_asg ?_
    refine rd_plan (a := a) (ns := ns) (most := 30) rfl hS (by decide) (by decide) rfl fun b0 st0 v H1 Pl s1 fr => ?_
    have rp0 : Rp M0 H1 v (encP b0 st0) := fr M0 (Ok.none _)
    have z0 : Sz 30 (toI b0) (toI st0) := sz_plan Pl
    rw [encP_I] at rp0
    generalize toI b0 = b at rp0 z0
    generalize toI st0 = st at rp0 z0
    refine z_name ?_
    dsimp only
    have sl : ∀ {H' : Hp} {x0 x2 x3 : Option V}, Same H1 H' → SlD M0 H' [x0, some v, x2, x3] [none, some (encPI b st), none, none] := fun s' =>
      .no _ (.yes (rp0.same s') (.no _ (.no _ .nil)))
    -- plan
    refine z_seq ?_
    refine z_asg ?_
    refine tp_ok (Ok.none H1) (sl (L2.Same.refl _)) (eVar_get (i := 1) (d := encPI b st) rfl) fun v2 H2 s2 r2 => ?_
    refine z_name ?_
    dsimp only
    -- the changes
    refine z_seq ?_
    refine z_op ?_
    refine rd_cell (a := a) (ns := ns) rfl ((L2.Same.trans s1 s2).seq hS) (by decide) fun c H3 s3 => ?_
    refine rd_int fun H4 s4 => ?_
    refine os_mod M0 H4 _ _ (.int c) (.int 3) (.int (c.fmod 3)) _ (Ok.none _) (.int _) (.int _) rfl fun v5 H5 s5 r5 => ?_
    cases r5
    have r3 := fmod_rng (a := c) (b := 3) (by decide)
    have s25 := L2.Same.trans s3 (L2.Same.trans s4 s5)
    refine ⟨_, rfl, by omega, by omega, for_range (lo := 0) (n := (c.fmod 3).toNat) (fun i σ' H' => ∃ (b' s' : LI) (v2' : V) (x3 : Option V), σ' = [some (.ref a), some v, some v2', x3] ∧ Sz (30 + 201 * i) b' s' ∧ Rp M0 H' v2' (encPI b' s') ∧ Same H2 H') ⟨b, st, v2, _, rfl, z0, r2.same s25, s25⟩ (fun i σ' H' hi hP => ?_) (fun σ' H' hP => ?_)⟩
    · obtain ⟨b', s', v2', x3, rfl, z', r', t'⟩ := hP
      have hi2 : i < 2 := by omega
      refine z_name ?_
      dsimp only
      refine z_asg ?_
      have slA : ∀ {H'' : Hp} {x0 x1 : Option V}, Same H' H'' → SlD M0 H'' [x0, x1, some v2', some (.int (0 + (i : Int)))] [none, none, some (encPI b' s'), some (.int (0 + (i : Int)))] := fun t =>
        .no _ (.no _ (.yes (r'.same t) (.yes (.int _) .nil)))
      refine tp_ok (Ok.none H') (slA (L2.Same.refl _)) (eVar_get (i := 2) (d := encPI b' s') rfl) fun va Ha sa ra => ?_
      refine ⟨_, rfl, ?_⟩
      refine tp_int (i := 1 + (0 + (i : Int))) (Ok.none Ha) (slA sa) (add_ev (x := 1) (y := 0 + (i : Int)) rfl (eVar_get rfl)) fun Hb sb => ?_
      have sab := L2.Same.trans sa sb
      refine ⟨a, ns, 1 + (0 + (i : Int)), rfl, (L2.Same.trans s1 (L2.Same.trans s2 (L2.Same.trans t' sab))).seq hS, by omega, fun c1 Hc sc => ?_⟩
      have sac := L2.Same.trans sab sc
      refine ⟨_, rfl, ?_⟩
      refine tp_int (i := 3 + (0 + (i : Int))) (Ok.none Hc) (slA sac) (add_ev (x := 3) (y := 0 + (i : Int)) rfl (eVar_get rfl)) fun Hd sd => ?_
      have sad := L2.Same.trans sac sd
      refine ⟨a, ns, 3 + (0 + (i : Int)), rfl, (L2.Same.trans s1 (L2.Same.trans s2 (L2.Same.trans t' sad))).seq hS, by omega, fun c2 He se => ?_⟩
      have sae := L2.Same.trans sad se
      obtain ⟨b2, st2, ev, z2⟩ := changed_ev b' s' c1 c2 (n := 30 + 201 * i) (by omega) z'
      refine ⟨rfl, M0, _, _, Ok.none _, .cons (ra.same (L2.Same.trans sb (L2.Same.trans sc (L2.Same.trans sd se)))) (.cons (.int _) (.cons (.int _) .nil)), ev, fun v6 H6 s6 r6 => ?_⟩
      refine z_name ?_
      dsimp only
      exact ⟨b2, st2, v6, _, rfl, sz_mono z2 (by omega), r6, L2.Same.trans t' (L2.Same.trans sae s6)⟩
    · obtain ⟨b', s', v2', x3, rfl, z', r', t'⟩ := hP
      dsimp only
      refine z_ret ?_
      have slB : SlD M0 H' [some (.ref a), some v, some v2', x3] [none, some (encPI b st), some (encPI b' s'), none] :=
        .no _ (.yes (rp0.same (L2.Same.trans s2 t')) (.yes r' (.no _ .nil)))
      refine tp_ok (Ok.none H') slB (right_all (sz_mono z0 (by omega)) (sz_mono z' (by omega)) rfl rfl) fun v9 H9 s9 r9 => ?_
      cases r9
      exact q _
theorem all_mk {P : Program} {w : World} {K : PySem.W.Frag} {h : Heap} {mg : Str → Option Value} {fa f0 f1 f2 f3 f4 f5 f6 f7 f8 f9 f10 : Addr} (X : K.In h) (G : h.Ns mainGlobals mg) (hfa : mg "law" = some (.ref fa))
    {od0 an0 od1 an1 od2 an2 od3 an3 od4 an4 od5 an5 od6 an6 od7 an7 od8 an8 od9 an9 od10 an10 : Option Addr} {sl0 sl1 sl2 sl3 sl4 sl5 sl6 sl7 sl8 sl9 sl10 : Array (Option Value)} {oc0 kV0 dc0 pm0 cd0 ct0 oc1 kV1 dc1 pm1 cd1 ct1 oc2 kV2 dc2 pm2 cd2 ct2 oc3 kV3 dc3 pm3 cd3 ct3 oc4 kV4 dc4 pm4 cd4 ct4 oc5 kV5 dc5 pm5 cd5 ct5 oc6 kV6 dc6 pm6 cd6 ct6 oc7 kV7 dc7 pm7 cd7 ct7 oc8 kV8 dc8 pm8 cd8 ct8 oc9 kV9 dc9 pm9 cd9 ct9 oc10 kV10 dc10 pm10 cd10 ct10 : Value}
    (a0 : PySem.W.nsIn K mainGlobals "look_at" = some (some (.ref f0))) (l0 : K.lookup f0 = some ⟨oc0, od0, .func (PySem.W.fnOf "look_at" "look_at" (defArgs s_look_at) (defBody s_look_at) (defScope s_look_at) .none kV0 dc0 pm0 an0 cd0 ct0), sl0⟩) (c0 : PySem.W.codeIn K cd0 "look_at" = true) (k0 : PySem.W.keepIn K (.ref f0) = true)
    (a1 : PySem.W.nsIn K mainGlobals "checked" = some (some (.ref f1))) (l1 : K.lookup f1 = some ⟨oc1, od1, .func (PySem.W.fnOf "checked" "checked" (defArgs s_checked) (defBody s_checked) (defScope s_checked) .none kV1 dc1 pm1 an1 cd1 ct1), sl1⟩) (c1 : PySem.W.codeIn K cd1 "checked" = true) (k1 : PySem.W.keepIn K (.ref f1) = true)
    (a2 : PySem.W.nsIn K mainGlobals "_law_cell_at" = some (some (.ref f2))) (l2 : K.lookup f2 = some ⟨oc2, od2, .func (PySem.W.fnOf "_law_cell_at" "_law_cell_at" (defArgs s_l_cell_at) (defBody s_l_cell_at) (defScope s_l_cell_at) .none kV2 dc2 pm2 an2 cd2 ct2), sl2⟩) (c2 : PySem.W.codeIn K cd2 "_law_cell_at" = true) (k2 : PySem.W.keepIn K (.ref f2) = true)
    (a3 : PySem.W.nsIn K mainGlobals "_law_plan_by" = some (some (.ref f3))) (l3 : K.lookup f3 = some ⟨oc3, od3, .func (PySem.W.fnOf "_law_plan_by" "_law_plan_by" (defArgs s_l_plan_by) (defBody s_l_plan_by) (defScope s_l_plan_by) .none kV3 dc3 pm3 an3 cd3 ct3), sl3⟩) (c3 : PySem.W.codeIn K cd3 "_law_plan_by" = true) (k3 : PySem.W.keepIn K (.ref f3) = true)
    (a4 : PySem.W.nsIn K mainGlobals "_law_alike" = some (some (.ref f4))) (l4 : K.lookup f4 = some ⟨oc4, od4, .func (PySem.W.fnOf "_law_alike" "_law_alike" (defArgs s_l_alike) (defBody s_l_alike) (defScope s_l_alike) .none kV4 dc4 pm4 an4 cd4 ct4), sl4⟩) (c4 : PySem.W.codeIn K cd4 "_law_alike" = true) (k4 : PySem.W.keepIn K (.ref f4) = true)
    (a5 : PySem.W.nsIn K mainGlobals "_law_wrong" = some (some (.ref f5))) (l5 : K.lookup f5 = some ⟨oc5, od5, .func (PySem.W.fnOf "_law_wrong" "_law_wrong" (defArgs s_l_wrong) (defBody s_l_wrong) (defScope s_l_wrong) .none kV5 dc5 pm5 an5 cd5 ct5), sl5⟩) (c5 : PySem.W.codeIn K cd5 "_law_wrong" = true) (k5 : PySem.W.keepIn K (.ref f5) = true)
    (a6 : PySem.W.nsIn K mainGlobals "_law_put_in" = some (some (.ref f6))) (l6 : K.lookup f6 = some ⟨oc6, od6, .func (PySem.W.fnOf "_law_put_in" "_law_put_in" (defArgs s_l_put_in) (defBody s_l_put_in) (defScope s_l_put_in) .none kV6 dc6 pm6 an6 cd6 ct6), sl6⟩) (c6 : PySem.W.codeIn K cd6 "_law_put_in" = true) (k6 : PySem.W.keepIn K (.ref f6) = true)
    (a7 : PySem.W.nsIn K mainGlobals "_law_changed" = some (some (.ref f7))) (l7 : K.lookup f7 = some ⟨oc7, od7, .func (PySem.W.fnOf "_law_changed" "_law_changed" (defArgs s_l_changed) (defBody s_l_changed) (defScope s_l_changed) .none kV7 dc7 pm7 an7 cd7 ct7), sl7⟩) (c7 : PySem.W.codeIn K cd7 "_law_changed" = true) (k7 : PySem.W.keepIn K (.ref f7) = true)
    (a8 : PySem.W.nsIn K mainGlobals "_law_kind" = some (some (.ref f8))) (l8 : K.lookup f8 = some ⟨oc8, od8, .func (PySem.W.fnOf "_law_kind" "_law_kind" (defArgs s_l_kind) (defBody s_l_kind) (defScope s_l_kind) .none kV8 dc8 pm8 an8 cd8 ct8), sl8⟩) (c8 : PySem.W.codeIn K cd8 "_law_kind" = true) (k8 : PySem.W.keepIn K (.ref f8) = true)
    (a9 : PySem.W.nsIn K mainGlobals "_law_right" = some (some (.ref f9))) (l9 : K.lookup f9 = some ⟨oc9, od9, .func (PySem.W.fnOf "_law_right" "_law_right" (defArgs s_l_right) (defBody s_l_right) (defScope s_l_right) .none kV9 dc9 pm9 an9 cd9 ct9), sl9⟩) (c9 : PySem.W.codeIn K cd9 "_law_right" = true) (k9 : PySem.W.keepIn K (.ref f9) = true)
    (a10 : PySem.W.nsIn K mainGlobals "law" = some (some (.ref f10))) (l10 : K.lookup f10 = some ⟨oc10, od10, .func (PySem.W.fnOf "law" "law" (defArgs s_law) (defBody s_law) (defScope s_law) .none kV10 dc10 pm10 an10 cd10 ct10), sl10⟩) (c10 : PySem.W.codeIn K cd10 "law" = true) (k10 : PySem.W.keepIn K (.ref f10) = true)
    {t_MOST_TASKS : Nat} (g_MOST_TASKS : PySem.W.nsIn K mainGlobals "MOST_TASKS" = some (some (.int 200 t_MOST_TASKS)))
    {t_MOST_WORKERS : Nat} (g_MOST_WORKERS : PySem.W.nsIn K mainGlobals "MOST_WORKERS" = some (some (.int 12 t_MOST_WORKERS)))
    (z_ValueError : PySem.W.nsIn K mainGlobals "ValueError" = some none)
    (z_all : PySem.W.nsIn K mainGlobals "all" = some none)
    (z_bool : PySem.W.nsIn K mainGlobals "bool" = some none)
    (z_int : PySem.W.nsIn K mainGlobals "int" = some none)
    (z_isinstance : PySem.W.nsIn K mainGlobals "isinstance" = some none)
    (z_len : PySem.W.nsIn K mainGlobals "len" = some none)
    (z_list : PySem.W.nsIn K mainGlobals "list" = some none)
    (z_range : PySem.W.nsIn K mainGlobals "range" = some none)
    (z_str : PySem.W.nsIn K mainGlobals "str" = some none)
    (z_tuple : PySem.W.nsIn K mainGlobals "tuple" = some none)
    {C_YardError C_NoWorker C_NoStep C_TooMany C_NoCrew C_NoTask C_Early C_Twice : Addr}
    (g_YardError : PySem.W.nsIn K mainGlobals "YardError" = some (some (.ref C_YardError)))
    (g_NoWorker : PySem.W.nsIn K mainGlobals "NoWorker" = some (some (.ref C_NoWorker)))
    (g_NoStep : PySem.W.nsIn K mainGlobals "NoStep" = some (some (.ref C_NoStep)))
    (g_TooMany : PySem.W.nsIn K mainGlobals "TooMany" = some (some (.ref C_TooMany)))
    (g_NoCrew : PySem.W.nsIn K mainGlobals "NoCrew" = some (some (.ref C_NoCrew)))
    (g_NoTask : PySem.W.nsIn K mainGlobals "NoTask" = some (some (.ref C_NoTask)))
    (g_Early : PySem.W.nsIn K mainGlobals "Early" = some (some (.ref C_Early)))
    (g_Twice : PySem.W.nsIn K mainGlobals "Twice" = some (some (.ref C_Twice)))
    (ic_YardError : PySem.W.isClsIn K C_YardError = true)
    (t_YardError : PySem.W.typeIn K (.ref C_YardError) = some (.type "type"))
    (ic_NoWorker : PySem.W.isClsIn K C_NoWorker = true)
    (t_NoWorker : PySem.W.typeIn K (.ref C_NoWorker) = some (.type "type"))
    (ic_NoStep : PySem.W.isClsIn K C_NoStep = true)
    (t_NoStep : PySem.W.typeIn K (.ref C_NoStep) = some (.type "type"))
    (ic_TooMany : PySem.W.isClsIn K C_TooMany = true)
    (t_TooMany : PySem.W.typeIn K (.ref C_TooMany) = some (.type "type"))
    (ic_NoCrew : PySem.W.isClsIn K C_NoCrew = true)
    (t_NoCrew : PySem.W.typeIn K (.ref C_NoCrew) = some (.type "type"))
    (ic_NoTask : PySem.W.isClsIn K C_NoTask = true)
    (t_NoTask : PySem.W.typeIn K (.ref C_NoTask) = some (.type "type"))
    (ic_Early : PySem.W.isClsIn K C_Early = true)
    (t_Early : PySem.W.typeIn K (.ref C_Early) = some (.type "type"))
    (ic_Twice : PySem.W.isClsIn K C_Twice = true)
    (t_Twice : PySem.W.typeIn K (.ref C_Twice) = some (.type "type"))
    (bY : PySem.W.subIn K (.ref C_YardError) (.type "BaseException") = some true)
    (dY : PySem.W.hasDictIn K C_YardError = true)
    (x_TooMany : PySem.W.excIn K C_TooMany [.type "ValueError", .type "Exception", .type "BaseException", .type "object"] "ValueError.__new__" = true)
    (k_TooMany : PySem.W.keepIn K (.ref C_TooMany) = true)
    (hg_TooMany : PySem.W.findIn K (.ref C_TooMany) "__getattribute__" = some (some (.builtin "BaseException.__getattribute__")))
    (hk_TooMany : PySem.W.findIn K (.ref C_TooMany) "__getattr__" = some none)
    (hs_TooMany : PySem.W.subIn K (.ref C_TooMany) (.type "BaseException") = some true)
    (hd_TooMany : PySem.W.hasDictIn K C_TooMany = true)
    (ha_TooMany : PySem.W.findIn K (.ref C_TooMany) "__class__" = some (some (.builtin "object.__class__")))
    (hm_TooMany : PySem.W.mroIn K C_TooMany (.type "object") = some true)
    (s_TooMany_YardError : PySem.W.subIn K (.ref C_TooMany) (.ref C_YardError) = some true)
    (s_TooMany_NoWorker : PySem.W.subIn K (.ref C_TooMany) (.ref C_NoWorker) = some false)
    (s_TooMany_NoStep : PySem.W.subIn K (.ref C_TooMany) (.ref C_NoStep) = some false)
    (s_TooMany_TooMany : PySem.W.subIn K (.ref C_TooMany) (.ref C_TooMany) = some true)
    (s_TooMany_NoCrew : PySem.W.subIn K (.ref C_TooMany) (.ref C_NoCrew) = some false)
    (s_TooMany_NoTask : PySem.W.subIn K (.ref C_TooMany) (.ref C_NoTask) = some false)
    (s_TooMany_Early : PySem.W.subIn K (.ref C_TooMany) (.ref C_Early) = some false)
    (s_TooMany_Twice : PySem.W.subIn K (.ref C_TooMany) (.ref C_Twice) = some false)
    (s_TooMany_VE : PySem.W.subIn K (.ref C_TooMany) (.type "ValueError") = some true)
    (x_NoCrew : PySem.W.excIn K C_NoCrew [.type "ValueError", .type "Exception", .type "BaseException", .type "object"] "ValueError.__new__" = true)
    (k_NoCrew : PySem.W.keepIn K (.ref C_NoCrew) = true)
    (hg_NoCrew : PySem.W.findIn K (.ref C_NoCrew) "__getattribute__" = some (some (.builtin "BaseException.__getattribute__")))
    (hk_NoCrew : PySem.W.findIn K (.ref C_NoCrew) "__getattr__" = some none)
    (hs_NoCrew : PySem.W.subIn K (.ref C_NoCrew) (.type "BaseException") = some true)
    (hd_NoCrew : PySem.W.hasDictIn K C_NoCrew = true)
    (ha_NoCrew : PySem.W.findIn K (.ref C_NoCrew) "__class__" = some (some (.builtin "object.__class__")))
    (hm_NoCrew : PySem.W.mroIn K C_NoCrew (.type "object") = some true)
    (s_NoCrew_YardError : PySem.W.subIn K (.ref C_NoCrew) (.ref C_YardError) = some true)
    (s_NoCrew_NoWorker : PySem.W.subIn K (.ref C_NoCrew) (.ref C_NoWorker) = some false)
    (s_NoCrew_NoStep : PySem.W.subIn K (.ref C_NoCrew) (.ref C_NoStep) = some false)
    (s_NoCrew_TooMany : PySem.W.subIn K (.ref C_NoCrew) (.ref C_TooMany) = some false)
    (s_NoCrew_NoCrew : PySem.W.subIn K (.ref C_NoCrew) (.ref C_NoCrew) = some true)
    (s_NoCrew_NoTask : PySem.W.subIn K (.ref C_NoCrew) (.ref C_NoTask) = some false)
    (s_NoCrew_Early : PySem.W.subIn K (.ref C_NoCrew) (.ref C_Early) = some false)
    (s_NoCrew_Twice : PySem.W.subIn K (.ref C_NoCrew) (.ref C_Twice) = some false)
    (s_NoCrew_VE : PySem.W.subIn K (.ref C_NoCrew) (.type "ValueError") = some true)
    (x_NoTask : PySem.W.excIn K C_NoTask [.type "ValueError", .type "Exception", .type "BaseException", .type "object"] "ValueError.__new__" = true)
    (k_NoTask : PySem.W.keepIn K (.ref C_NoTask) = true)
    (hg_NoTask : PySem.W.findIn K (.ref C_NoTask) "__getattribute__" = some (some (.builtin "BaseException.__getattribute__")))
    (hk_NoTask : PySem.W.findIn K (.ref C_NoTask) "__getattr__" = some none)
    (hs_NoTask : PySem.W.subIn K (.ref C_NoTask) (.type "BaseException") = some true)
    (hd_NoTask : PySem.W.hasDictIn K C_NoTask = true)
    (ha_NoTask : PySem.W.findIn K (.ref C_NoTask) "__class__" = some (some (.builtin "object.__class__")))
    (hm_NoTask : PySem.W.mroIn K C_NoTask (.type "object") = some true)
    (s_NoTask_YardError : PySem.W.subIn K (.ref C_NoTask) (.ref C_YardError) = some true)
    (s_NoTask_NoWorker : PySem.W.subIn K (.ref C_NoTask) (.ref C_NoWorker) = some false)
    (s_NoTask_NoStep : PySem.W.subIn K (.ref C_NoTask) (.ref C_NoStep) = some false)
    (s_NoTask_TooMany : PySem.W.subIn K (.ref C_NoTask) (.ref C_TooMany) = some false)
    (s_NoTask_NoCrew : PySem.W.subIn K (.ref C_NoTask) (.ref C_NoCrew) = some false)
    (s_NoTask_NoTask : PySem.W.subIn K (.ref C_NoTask) (.ref C_NoTask) = some true)
    (s_NoTask_Early : PySem.W.subIn K (.ref C_NoTask) (.ref C_Early) = some false)
    (s_NoTask_Twice : PySem.W.subIn K (.ref C_NoTask) (.ref C_Twice) = some false)
    (s_NoTask_VE : PySem.W.subIn K (.ref C_NoTask) (.type "ValueError") = some true)
    (x_Early : PySem.W.excIn K C_Early [.type "ValueError", .type "Exception", .type "BaseException", .type "object"] "ValueError.__new__" = true)
    (k_Early : PySem.W.keepIn K (.ref C_Early) = true)
    (hg_Early : PySem.W.findIn K (.ref C_Early) "__getattribute__" = some (some (.builtin "BaseException.__getattribute__")))
    (hk_Early : PySem.W.findIn K (.ref C_Early) "__getattr__" = some none)
    (hs_Early : PySem.W.subIn K (.ref C_Early) (.type "BaseException") = some true)
    (hd_Early : PySem.W.hasDictIn K C_Early = true)
    (ha_Early : PySem.W.findIn K (.ref C_Early) "__class__" = some (some (.builtin "object.__class__")))
    (hm_Early : PySem.W.mroIn K C_Early (.type "object") = some true)
    (s_Early_YardError : PySem.W.subIn K (.ref C_Early) (.ref C_YardError) = some true)
    (s_Early_NoWorker : PySem.W.subIn K (.ref C_Early) (.ref C_NoWorker) = some false)
    (s_Early_NoStep : PySem.W.subIn K (.ref C_Early) (.ref C_NoStep) = some false)
    (s_Early_TooMany : PySem.W.subIn K (.ref C_Early) (.ref C_TooMany) = some false)
    (s_Early_NoCrew : PySem.W.subIn K (.ref C_Early) (.ref C_NoCrew) = some false)
    (s_Early_NoTask : PySem.W.subIn K (.ref C_Early) (.ref C_NoTask) = some false)
    (s_Early_Early : PySem.W.subIn K (.ref C_Early) (.ref C_Early) = some true)
    (s_Early_Twice : PySem.W.subIn K (.ref C_Early) (.ref C_Twice) = some false)
    (s_Early_VE : PySem.W.subIn K (.ref C_Early) (.type "ValueError") = some true)
    (x_Twice : PySem.W.excIn K C_Twice [.type "ValueError", .type "Exception", .type "BaseException", .type "object"] "ValueError.__new__" = true)
    (k_Twice : PySem.W.keepIn K (.ref C_Twice) = true)
    (hg_Twice : PySem.W.findIn K (.ref C_Twice) "__getattribute__" = some (some (.builtin "BaseException.__getattribute__")))
    (hk_Twice : PySem.W.findIn K (.ref C_Twice) "__getattr__" = some none)
    (hs_Twice : PySem.W.subIn K (.ref C_Twice) (.type "BaseException") = some true)
    (hd_Twice : PySem.W.hasDictIn K C_Twice = true)
    (ha_Twice : PySem.W.findIn K (.ref C_Twice) "__class__" = some (some (.builtin "object.__class__")))
    (hm_Twice : PySem.W.mroIn K C_Twice (.type "object") = some true)
    (s_Twice_YardError : PySem.W.subIn K (.ref C_Twice) (.ref C_YardError) = some true)
    (s_Twice_NoWorker : PySem.W.subIn K (.ref C_Twice) (.ref C_NoWorker) = some false)
    (s_Twice_NoStep : PySem.W.subIn K (.ref C_Twice) (.ref C_NoStep) = some false)
    (s_Twice_TooMany : PySem.W.subIn K (.ref C_Twice) (.ref C_TooMany) = some false)
    (s_Twice_NoCrew : PySem.W.subIn K (.ref C_Twice) (.ref C_NoCrew) = some false)
    (s_Twice_NoTask : PySem.W.subIn K (.ref C_Twice) (.ref C_NoTask) = some false)
    (s_Twice_Early : PySem.W.subIn K (.ref C_Twice) (.ref C_Early) = some false)
    (s_Twice_Twice : PySem.W.subIn K (.ref C_Twice) (.ref C_Twice) = some true)
    (s_Twice_VE : PySem.W.subIn K (.ref C_Twice) (.type "ValueError") = some true)
    (hn : PySem.W.specialIn K (.builtin "object.__class__") "__get__" = some (some (.builtin "getset_descriptor.__get__")))
    (ht : PySem.W.takesIn K (.builtin "object.__class__") = some true)
    : ∃ fd : FuncData, (∀ (s : Shared) (v : Value), BindsTo s fd ⟨[v], []⟩ [("_law_script", v)]) ∧ ∀ base : Heap, K.In base → base.Ns mainGlobals mg → FnOk P w K mg base CX0 12 fa fd ["_law_script"] (spLawZ K) := by
  have e := hfa.symm.trans (PySem.W.mg_of X G a10)
  cases e
  have F0 := fun_mk (st := s_look_at) l0 c0 k0
  have F1 := fun_mk (st := s_checked) l1 c1 k1
  have F2 := fun_mk (st := s_l_cell_at) l2 c2 k2
  have F3 := fun_mk (st := s_l_plan_by) l3 c3 k3
  have F4 := fun_mk (st := s_l_alike) l4 c4 k4
  have F5 := fun_mk (st := s_l_wrong) l5 c5 k5
  have F6 := fun_mk (st := s_l_put_in) l6 c6 k6
  have F7 := fun_mk (st := s_l_changed) l7 c7 k7
  have F8 := fun_mk (st := s_l_kind) l8 c8 k8
  have F9 := fun_mk (st := s_l_right) l9 c9 k9
  have F10 := fun_mk (st := s_law) l10 c10 k10
  have b0 := F0.binds (ps := ["task", "tasks", "seen"]) fun _ _ _ _ _ _ us hl => match us, hl with | [_, _, _], _ => rfl
  have b1 := F1.binds (ps := ["plan"]) fun _ _ _ _ _ _ us hl => match us, hl with | [_], _ => rfl
  have b2 := F2.binds (ps := ["_law_script", "_law_k"]) fun _ _ _ _ _ _ us hl => match us, hl with | [_, _], _ => rfl
  have b3 := F3.binds (ps := ["_law_script", "_law_first", "_law_most"]) fun _ _ _ _ _ _ us hl => match us, hl with | [_, _, _], _ => rfl
  have b4 := F4.binds (ps := ["_law_found", "_law_due"]) fun _ _ _ _ _ _ us hl => match us, hl with | [_, _], _ => rfl
  have b5 := F5.binds (ps := ["_law_brood", "_law_starts"]) fun _ _ _ _ _ _ us hl => match us, hl with | [_, _], _ => rfl
  have b6 := F6.binds (ps := ["_law_lists", "_law_cell", "_law_task"]) fun _ _ _ _ _ _ us hl => match us, hl with | [_, _, _], _ => rfl
  have b7 := F7.binds (ps := ["_law_plan", "_law_cell", "_law_some"]) fun _ _ _ _ _ _ us hl => match us, hl with | [_, _, _], _ => rfl
  have b8 := F8.binds (ps := ["_law_e"]) fun _ _ _ _ _ _ us hl => match us, hl with | [_], _ => rfl
  have b9 := F9.binds (ps := ["_law_plan"]) fun _ _ _ _ _ _ us hl => match us, hl with | [_], _ => rfl
  let T : Txt K mg := { f_look_at := f0, fd_look_at := _, F_look_at := F0, m_look_at := PySem.W.mg_of X G a0, b_look_at := b0, f_checked := f1, fd_checked := _, F_checked := F1, m_checked := PySem.W.mg_of X G a1, b_checked := b1, f_l_cell_at := f2, fd_l_cell_at := _, F_l_cell_at := F2, m_l_cell_at := PySem.W.mg_of X G a2, b_l_cell_at := b2, f_l_plan_by := f3, fd_l_plan_by := _, F_l_plan_by := F3, m_l_plan_by := PySem.W.mg_of X G a3, b_l_plan_by := b3, f_l_alike := f4, fd_l_alike := _, F_l_alike := F4, m_l_alike := PySem.W.mg_of X G a4, b_l_alike := b4, f_l_wrong := f5, fd_l_wrong := _, F_l_wrong := F5, m_l_wrong := PySem.W.mg_of X G a5, b_l_wrong := b5, f_l_put_in := f6, fd_l_put_in := _, F_l_put_in := F6, m_l_put_in := PySem.W.mg_of X G a6, b_l_put_in := b6, f_l_changed := f7, fd_l_changed := _, F_l_changed := F7, m_l_changed := PySem.W.mg_of X G a7, b_l_changed := b7, f_l_kind := f8, fd_l_kind := _, F_l_kind := F8, m_l_kind := PySem.W.mg_of X G a8, b_l_kind := b8, f_l_right := f9, fd_l_right := _, F_l_right := F9, m_l_right := PySem.W.mg_of X G a9, b_l_right := b9, t_MOST_TASKS := t_MOST_TASKS, g_MOST_TASKS := PySem.W.mg_of X G g_MOST_TASKS, t_MOST_WORKERS := t_MOST_WORKERS, g_MOST_WORKERS := PySem.W.mg_of X G g_MOST_WORKERS, z_ValueError := PySem.W.mg_none_of X G z_ValueError, z_all := PySem.W.mg_none_of X G z_all, z_bool := PySem.W.mg_none_of X G z_bool, z_int := PySem.W.mg_none_of X G z_int, z_isinstance := PySem.W.mg_none_of X G z_isinstance, z_len := PySem.W.mg_none_of X G z_len, z_list := PySem.W.mg_none_of X G z_list, z_range := PySem.W.mg_none_of X G z_range, z_str := PySem.W.mg_none_of X G z_str, z_tuple := PySem.W.mg_none_of X G z_tuple, C_YardError := C_YardError, C_NoWorker := C_NoWorker, C_NoStep := C_NoStep, C_TooMany := C_TooMany, C_NoCrew := C_NoCrew, C_NoTask := C_NoTask, C_Early := C_Early, C_Twice := C_Twice, g_YardError := PySem.W.mg_of X G g_YardError, g_NoWorker := PySem.W.mg_of X G g_NoWorker, g_NoStep := PySem.W.mg_of X G g_NoStep, g_TooMany := PySem.W.mg_of X G g_TooMany, g_NoCrew := PySem.W.mg_of X G g_NoCrew, g_NoTask := PySem.W.mg_of X G g_NoTask, g_Early := PySem.W.mg_of X G g_Early, g_Twice := PySem.W.mg_of X G g_Twice, x_TooMany := x_TooMany, k_TooMany := k_TooMany, t_TooMany := t_TooMany, hg_TooMany := hg_TooMany, hk_TooMany := hk_TooMany, hs_TooMany := hs_TooMany, hd_TooMany := hd_TooMany, ha_TooMany := ha_TooMany, hm_TooMany := hm_TooMany, i_TooMany_YardError := Pu.kit_ref ic_YardError t_YardError s_TooMany_TooMany s_TooMany_YardError, i_TooMany_NoWorker := Pu.kit_ref ic_NoWorker t_NoWorker s_TooMany_TooMany s_TooMany_NoWorker, i_TooMany_NoStep := Pu.kit_ref ic_NoStep t_NoStep s_TooMany_TooMany s_TooMany_NoStep, i_TooMany_TooMany := Pu.kit_ref ic_TooMany t_TooMany s_TooMany_TooMany s_TooMany_TooMany, i_TooMany_NoCrew := Pu.kit_ref ic_NoCrew t_NoCrew s_TooMany_TooMany s_TooMany_NoCrew, i_TooMany_NoTask := Pu.kit_ref ic_NoTask t_NoTask s_TooMany_TooMany s_TooMany_NoTask, i_TooMany_Early := Pu.kit_ref ic_Early t_Early s_TooMany_TooMany s_TooMany_Early, i_TooMany_Twice := Pu.kit_ref ic_Twice t_Twice s_TooMany_TooMany s_TooMany_Twice, i_TooMany_VE := Pu.kit_VE s_TooMany_VE, e_TooMany := PySem.W.exm_ref bY dY t_YardError s_TooMany_YardError, x_NoCrew := x_NoCrew, k_NoCrew := k_NoCrew, t_NoCrew := t_NoCrew, hg_NoCrew := hg_NoCrew, hk_NoCrew := hk_NoCrew, hs_NoCrew := hs_NoCrew, hd_NoCrew := hd_NoCrew, ha_NoCrew := ha_NoCrew, hm_NoCrew := hm_NoCrew, i_NoCrew_YardError := Pu.kit_ref ic_YardError t_YardError s_NoCrew_NoCrew s_NoCrew_YardError, i_NoCrew_NoWorker := Pu.kit_ref ic_NoWorker t_NoWorker s_NoCrew_NoCrew s_NoCrew_NoWorker, i_NoCrew_NoStep := Pu.kit_ref ic_NoStep t_NoStep s_NoCrew_NoCrew s_NoCrew_NoStep, i_NoCrew_TooMany := Pu.kit_ref ic_TooMany t_TooMany s_NoCrew_NoCrew s_NoCrew_TooMany, i_NoCrew_NoCrew := Pu.kit_ref ic_NoCrew t_NoCrew s_NoCrew_NoCrew s_NoCrew_NoCrew, i_NoCrew_NoTask := Pu.kit_ref ic_NoTask t_NoTask s_NoCrew_NoCrew s_NoCrew_NoTask, i_NoCrew_Early := Pu.kit_ref ic_Early t_Early s_NoCrew_NoCrew s_NoCrew_Early, i_NoCrew_Twice := Pu.kit_ref ic_Twice t_Twice s_NoCrew_NoCrew s_NoCrew_Twice, i_NoCrew_VE := Pu.kit_VE s_NoCrew_VE, e_NoCrew := PySem.W.exm_ref bY dY t_YardError s_NoCrew_YardError, x_NoTask := x_NoTask, k_NoTask := k_NoTask, t_NoTask := t_NoTask, hg_NoTask := hg_NoTask, hk_NoTask := hk_NoTask, hs_NoTask := hs_NoTask, hd_NoTask := hd_NoTask, ha_NoTask := ha_NoTask, hm_NoTask := hm_NoTask, i_NoTask_YardError := Pu.kit_ref ic_YardError t_YardError s_NoTask_NoTask s_NoTask_YardError, i_NoTask_NoWorker := Pu.kit_ref ic_NoWorker t_NoWorker s_NoTask_NoTask s_NoTask_NoWorker, i_NoTask_NoStep := Pu.kit_ref ic_NoStep t_NoStep s_NoTask_NoTask s_NoTask_NoStep, i_NoTask_TooMany := Pu.kit_ref ic_TooMany t_TooMany s_NoTask_NoTask s_NoTask_TooMany, i_NoTask_NoCrew := Pu.kit_ref ic_NoCrew t_NoCrew s_NoTask_NoTask s_NoTask_NoCrew, i_NoTask_NoTask := Pu.kit_ref ic_NoTask t_NoTask s_NoTask_NoTask s_NoTask_NoTask, i_NoTask_Early := Pu.kit_ref ic_Early t_Early s_NoTask_NoTask s_NoTask_Early, i_NoTask_Twice := Pu.kit_ref ic_Twice t_Twice s_NoTask_NoTask s_NoTask_Twice, i_NoTask_VE := Pu.kit_VE s_NoTask_VE, e_NoTask := PySem.W.exm_ref bY dY t_YardError s_NoTask_YardError, x_Early := x_Early, k_Early := k_Early, t_Early := t_Early, hg_Early := hg_Early, hk_Early := hk_Early, hs_Early := hs_Early, hd_Early := hd_Early, ha_Early := ha_Early, hm_Early := hm_Early, i_Early_YardError := Pu.kit_ref ic_YardError t_YardError s_Early_Early s_Early_YardError, i_Early_NoWorker := Pu.kit_ref ic_NoWorker t_NoWorker s_Early_Early s_Early_NoWorker, i_Early_NoStep := Pu.kit_ref ic_NoStep t_NoStep s_Early_Early s_Early_NoStep, i_Early_TooMany := Pu.kit_ref ic_TooMany t_TooMany s_Early_Early s_Early_TooMany, i_Early_NoCrew := Pu.kit_ref ic_NoCrew t_NoCrew s_Early_Early s_Early_NoCrew, i_Early_NoTask := Pu.kit_ref ic_NoTask t_NoTask s_Early_Early s_Early_NoTask, i_Early_Early := Pu.kit_ref ic_Early t_Early s_Early_Early s_Early_Early, i_Early_Twice := Pu.kit_ref ic_Twice t_Twice s_Early_Early s_Early_Twice, i_Early_VE := Pu.kit_VE s_Early_VE, e_Early := PySem.W.exm_ref bY dY t_YardError s_Early_YardError, x_Twice := x_Twice, k_Twice := k_Twice, t_Twice := t_Twice, hg_Twice := hg_Twice, hk_Twice := hk_Twice, hs_Twice := hs_Twice, hd_Twice := hd_Twice, ha_Twice := ha_Twice, hm_Twice := hm_Twice, i_Twice_YardError := Pu.kit_ref ic_YardError t_YardError s_Twice_Twice s_Twice_YardError, i_Twice_NoWorker := Pu.kit_ref ic_NoWorker t_NoWorker s_Twice_Twice s_Twice_NoWorker, i_Twice_NoStep := Pu.kit_ref ic_NoStep t_NoStep s_Twice_Twice s_Twice_NoStep, i_Twice_TooMany := Pu.kit_ref ic_TooMany t_TooMany s_Twice_Twice s_Twice_TooMany, i_Twice_NoCrew := Pu.kit_ref ic_NoCrew t_NoCrew s_Twice_Twice s_Twice_NoCrew, i_Twice_NoTask := Pu.kit_ref ic_NoTask t_NoTask s_Twice_Twice s_Twice_NoTask, i_Twice_Early := Pu.kit_ref ic_Early t_Early s_Twice_Twice s_Twice_Early, i_Twice_Twice := Pu.kit_ref ic_Twice t_Twice s_Twice_Twice s_Twice_Twice, i_Twice_VE := Pu.kit_VE s_Twice_VE, e_Twice := PySem.W.exm_ref bY dY t_YardError s_Twice_YardError, hn := hn, ht := ht }
  exact ⟨_, fun s v => .of_eq rfl, fun base _ _ => ok_law T F10⟩
end Law
open PySem PySem.W PyProof.Rows
set_option maxRecDepth 100000 in
set_option maxHeartbeats 0 in
theorem PySem.Challenge.cw_stealyard_k01_plans_checked_holds : PySem.Challenge.rw_stealyard_k01_plans_checked.Holds := by
  w_on; o_law; k_head; (case hw => w_witness2)
  k_fill
  refine L2.walk_of (l := PySem.Challenge.rw_stealyard_k01_plans_checked) (n := 63) (k := 12) (x := "_law_script") (CX := fun _ => L2.CX0) (sp := fun w => Pu.spLawZ _) rfl (by decide) rfl ⟨rfl, by decide, by decide⟩ (fun w h Y => PySem.W.kIn_of Y) ?F (fun _ _ a ns hl _ hS => ⟨a, ns, rfl, hS, hl, fun _ => rfl⟩) (fun _ _ _ _ _ h => h)
  case F =>
    intro w mg fa h KX G hmg
    refine' Law.all_mk KX G hmg ?a0 ?l0 ?c0 ?k0 ?a1 ?l1 ?c1 ?k1 ?a2 ?l2 ?c2 ?k2 ?a3 ?l3 ?c3 ?k3 ?a4 ?l4 ?c4 ?k4 ?a5 ?l5 ?c5 ?k5 ?a6 ?l6 ?c6 ?k6 ?a7 ?l7 ?c7 ?k7 ?a8 ?l8 ?c8 ?k8 ?a9 ?l9 ?c9 ?k9 ?a10 ?l10 ?c10 ?k10 ?g_MOST_TASKS ?g_MOST_WORKERS ?z_ValueError ?z_all ?z_bool ?z_int ?z_isinstance ?z_len ?z_list ?z_range ?z_str ?z_tuple ?g_YardError ?g_NoWorker ?g_NoStep ?g_TooMany ?g_NoCrew ?g_NoTask ?g_Early ?g_Twice ?ic_YardError ?t_YardError ?ic_NoWorker ?t_NoWorker ?ic_NoStep ?t_NoStep ?ic_TooMany ?t_TooMany ?ic_NoCrew ?t_NoCrew ?ic_NoTask ?t_NoTask ?ic_Early ?t_Early ?ic_Twice ?t_Twice ?bY ?dY ?x_TooMany ?k_TooMany ?hg_TooMany ?hk_TooMany ?hs_TooMany ?hd_TooMany ?ha_TooMany ?hm_TooMany ?s_TooMany_YardError ?s_TooMany_NoWorker ?s_TooMany_NoStep ?s_TooMany_TooMany ?s_TooMany_NoCrew ?s_TooMany_NoTask ?s_TooMany_Early ?s_TooMany_Twice ?s_TooMany_VE ?x_NoCrew ?k_NoCrew ?hg_NoCrew ?hk_NoCrew ?hs_NoCrew ?hd_NoCrew ?ha_NoCrew ?hm_NoCrew ?s_NoCrew_YardError ?s_NoCrew_NoWorker ?s_NoCrew_NoStep ?s_NoCrew_TooMany ?s_NoCrew_NoCrew ?s_NoCrew_NoTask ?s_NoCrew_Early ?s_NoCrew_Twice ?s_NoCrew_VE ?x_NoTask ?k_NoTask ?hg_NoTask ?hk_NoTask ?hs_NoTask ?hd_NoTask ?ha_NoTask ?hm_NoTask ?s_NoTask_YardError ?s_NoTask_NoWorker ?s_NoTask_NoStep ?s_NoTask_TooMany ?s_NoTask_NoCrew ?s_NoTask_NoTask ?s_NoTask_Early ?s_NoTask_Twice ?s_NoTask_VE ?x_Early ?k_Early ?hg_Early ?hk_Early ?hs_Early ?hd_Early ?ha_Early ?hm_Early ?s_Early_YardError ?s_Early_NoWorker ?s_Early_NoStep ?s_Early_TooMany ?s_Early_NoCrew ?s_Early_NoTask ?s_Early_Early ?s_Early_Twice ?s_Early_VE ?x_Twice ?k_Twice ?hg_Twice ?hk_Twice ?hs_Twice ?hd_Twice ?ha_Twice ?hm_Twice ?s_Twice_YardError ?s_Twice_NoWorker ?s_Twice_NoStep ?s_Twice_TooMany ?s_Twice_NoCrew ?s_Twice_NoTask ?s_Twice_Early ?s_Twice_Twice ?s_Twice_VE ?hn ?ht
    (case a0 => k_is)
    (case l0 => k_is)
    (case c0 => k_is)
    (case k0 => k_is)
    (case a1 => k_is)
    (case l1 => k_is)
    (case c1 => k_is)
    (case k1 => k_is)
    (case a2 => k_is)
    (case l2 => k_is)
    (case c2 => k_is)
    (case k2 => k_is)
    (case a3 => k_is)
    (case l3 => k_is)
    (case c3 => k_is)
    (case k3 => k_is)
    (case a4 => k_is)
    (case l4 => k_is)
    (case c4 => k_is)
    (case k4 => k_is)
    (case a5 => k_is)
    (case l5 => k_is)
    (case c5 => k_is)
    (case k5 => k_is)
    (case a6 => k_is)
    (case l6 => k_is)
    (case c6 => k_is)
    (case k6 => k_is)
    (case a7 => k_is)
    (case l7 => k_is)
    (case c7 => k_is)
    (case k7 => k_is)
    (case a8 => k_is)
    (case l8 => k_is)
    (case c8 => k_is)
    (case k8 => k_is)
    (case a9 => k_is)
    (case l9 => k_is)
    (case c9 => k_is)
    (case k9 => k_is)
    (case a10 => k_is)
    (case l10 => k_is)
    (case c10 => k_is)
    (case k10 => k_is)
    (case g_MOST_TASKS => k_is)
    (case g_MOST_WORKERS => k_is)
    (case z_ValueError => k_is)
    (case z_all => k_is)
    (case z_bool => k_is)
    (case z_int => k_is)
    (case z_isinstance => k_is)
    (case z_len => k_is)
    (case z_list => k_is)
    (case z_range => k_is)
    (case z_str => k_is)
    (case z_tuple => k_is)
    (case g_YardError => k_is)
    (case g_NoWorker => k_is)
    (case g_NoStep => k_is)
    (case g_TooMany => k_is)
    (case g_NoCrew => k_is)
    (case g_NoTask => k_is)
    (case g_Early => k_is)
    (case g_Twice => k_is)
    (case ic_YardError => k_is)
    (case t_YardError => k_is)
    (case ic_NoWorker => k_is)
    (case t_NoWorker => k_is)
    (case ic_NoStep => k_is)
    (case t_NoStep => k_is)
    (case ic_TooMany => k_is)
    (case t_TooMany => k_is)
    (case ic_NoCrew => k_is)
    (case t_NoCrew => k_is)
    (case ic_NoTask => k_is)
    (case t_NoTask => k_is)
    (case ic_Early => k_is)
    (case t_Early => k_is)
    (case ic_Twice => k_is)
    (case t_Twice => k_is)
    (case bY => k_is)
    (case dY => k_is)
    (case x_TooMany => k_exc)
    (case k_TooMany => k_is)
    (case hg_TooMany => k_is)
    (case hk_TooMany => k_is)
    (case hs_TooMany => k_is)
    (case hd_TooMany => k_is)
    (case ha_TooMany => k_is)
    (case hm_TooMany => k_is)
    (case s_TooMany_YardError => k_is)
    (case s_TooMany_NoWorker => k_is)
    (case s_TooMany_NoStep => k_is)
    (case s_TooMany_TooMany => k_is)
    (case s_TooMany_NoCrew => k_is)
    (case s_TooMany_NoTask => k_is)
    (case s_TooMany_Early => k_is)
    (case s_TooMany_Twice => k_is)
    (case s_TooMany_VE => k_is)
    (case x_NoCrew => k_exc)
    (case k_NoCrew => k_is)
    (case hg_NoCrew => k_is)
    (case hk_NoCrew => k_is)
    (case hs_NoCrew => k_is)
    (case hd_NoCrew => k_is)
    (case ha_NoCrew => k_is)
    (case hm_NoCrew => k_is)
    (case s_NoCrew_YardError => k_is)
    (case s_NoCrew_NoWorker => k_is)
    (case s_NoCrew_NoStep => k_is)
    (case s_NoCrew_TooMany => k_is)
    (case s_NoCrew_NoCrew => k_is)
    (case s_NoCrew_NoTask => k_is)
    (case s_NoCrew_Early => k_is)
    (case s_NoCrew_Twice => k_is)
    (case s_NoCrew_VE => k_is)
    (case x_NoTask => k_exc)
    (case k_NoTask => k_is)
    (case hg_NoTask => k_is)
    (case hk_NoTask => k_is)
    (case hs_NoTask => k_is)
    (case hd_NoTask => k_is)
    (case ha_NoTask => k_is)
    (case hm_NoTask => k_is)
    (case s_NoTask_YardError => k_is)
    (case s_NoTask_NoWorker => k_is)
    (case s_NoTask_NoStep => k_is)
    (case s_NoTask_TooMany => k_is)
    (case s_NoTask_NoCrew => k_is)
    (case s_NoTask_NoTask => k_is)
    (case s_NoTask_Early => k_is)
    (case s_NoTask_Twice => k_is)
    (case s_NoTask_VE => k_is)
    (case x_Early => k_exc)
    (case k_Early => k_is)
    (case hg_Early => k_is)
    (case hk_Early => k_is)
    (case hs_Early => k_is)
    (case hd_Early => k_is)
    (case ha_Early => k_is)
    (case hm_Early => k_is)
    (case s_Early_YardError => k_is)
    (case s_Early_NoWorker => k_is)
    (case s_Early_NoStep => k_is)
    (case s_Early_TooMany => k_is)
    (case s_Early_NoCrew => k_is)
    (case s_Early_NoTask => k_is)
    (case s_Early_Early => k_is)
    (case s_Early_Twice => k_is)
    (case s_Early_VE => k_is)
    (case x_Twice => k_exc)
    (case k_Twice => k_is)
    (case hg_Twice => k_is)
    (case hk_Twice => k_is)
    (case hs_Twice => k_is)
    (case hd_Twice => k_is)
    (case ha_Twice => k_is)
    (case hm_Twice => k_is)
    (case s_Twice_YardError => k_is)
    (case s_Twice_NoWorker => k_is)
    (case s_Twice_NoStep => k_is)
    (case s_Twice_TooMany => k_is)
    (case s_Twice_NoCrew => k_is)
    (case s_Twice_NoTask => k_is)
    (case s_Twice_Early => k_is)
    (case s_Twice_Twice => k_is)
    (case s_Twice_VE => k_is)
    (case hn => k_is)
    (case ht => k_is)
