import PyProof.Rows.All
import Wide.All
import OpenK.AllK
import Wide.FinOn
import HandS.ForMost
import HandS.IsInst
import HandS.TupAny
import HandS.Deep
import HandS.SortInts
import HandS.Conv
import HandS.Style
import HandS.More
import HandS.ForExc
import HandS.ExcIs
import PySem.Challenge.RW_stealyard_k10_events_right
set_option Elab.async false
set_option linter.all false
set_option maxRecDepth 100000
set_option maxHeartbeats 2000000
set_option autoImplicit false
/-! Pu: pure data (PyData) held by the heap, expressions and statements as plain functions of it. -/
namespace Pu
open PySem PySem.Spec PyProof.Rows L2

abbrev D := PyData
abbrev Sl := List (Option D)
abbrev MS := Addr → Prop
abbrev St := L2.St
def lim : Nat := 1000000
theorem lim_le : lim ≤ sizeLine := by rw [sizeLine_eq]; decide

mutual
/-- v stands for the datum d, no object of M on the way -/
inductive Rp (M : MS) (H : Hp) : V → D → Prop
  | non : Rp M H .non .none
  | bl (b : Bool) : Rp M H (.bl b) (.bool b)
  | int (i : Int) : Rp M H (.int i) (.int i)
  | str (x : Str) : Rp M H (.str x) (.str x)
  | lst {a : Addr} {xs : List V} {ds : List D} : H a = some (.lst xs) → ¬ M a → RpAll M H xs ds → Rp M H (.ref a) (.list ds)
  | tup {a : Addr} {xs : List V} {ds : List D} : H a = some (.tup xs) → ¬ M a → RpAll M H xs ds → Rp M H (.ref a) (.tuple ds)
inductive RpAll (M : MS) (H : Hp) : List V → List D → Prop
  | nil : RpAll M H [] []
  | cons {v : V} {vs : List V} {d : D} {ds : List D} : Rp M H v d → RpAll M H vs ds → RpAll M H (v :: vs) (d :: ds)
end

mutual
theorem Rp.mono {M M' : MS} {H H' : Hp} (k : ∀ a o, ¬ M a → H a = some o → ¬ M' a ∧ H' a = some o) : ∀ (d : D) (v : V), Rp M H v d → Rp M' H' v d
  | .none, _, h => by cases h; exact .non
  | .bool b, _, h => by cases h; exact .bl b
  | .int i, _, h => by cases h; exact .int i
  | .str x, _, h => by cases h; exact .str x
  | .list ds, _, h => by
    cases h with
    | lst e n r => exact .lst (k _ _ n e).2 (k _ _ n e).1 (RpAll.mono k ds _ r)
  | .tuple ds, _, h => by
    cases h with
    | tup e n r => exact .tup (k _ _ n e).2 (k _ _ n e).1 (RpAll.mono k ds _ r)
  | .dict _, _, h => by cases h
theorem RpAll.mono {M M' : MS} {H H' : Hp} (k : ∀ a o, ¬ M a → H a = some o → ¬ M' a ∧ H' a = some o) : ∀ (ds : List D) (vs : List V), RpAll M H vs ds → RpAll M' H' vs ds
  | [], _, h => by cases h; exact .nil
  | d :: ds, _, h => by
    cases h with
    | cons h1 h2 => exact .cons (Rp.mono k d _ h1) (RpAll.mono k ds _ h2)
end
mutual
theorem Rp.dp {K : PySem.W.Frag} {M : MS} {H : Hp} : ∀ (d : D) (v : V), Rp M H v d → Dp K H v d
  | .none, _, h => by cases h; exact .non
  | .bool b, _, h => by cases h; exact .bl b
  | .int i, _, h => by cases h; exact .int i
  | .str x, _, h => by cases h; exact .str x
  | .list ds, _, h => by
    cases h with
    | lst e n r => exact .lst (SqL.of e) (RpAll.dp ds _ r)
  | .tuple ds, _, h => by
    cases h with
    | tup e n r => exact .tup (SqT.of e) (RpAll.dp ds _ r)
  | .dict _, _, h => by cases h
theorem RpAll.dp {K : PySem.W.Frag} {M : MS} {H : Hp} : ∀ (ds : List D) (vs : List V), RpAll M H vs ds → DpAll K H vs ds
  | [], _, h => by cases h; exact .nil
  | d :: ds, _, h => by
    cases h with
    | cons h1 h2 => exact .cons (Rp.dp d _ h1) (RpAll.dp ds _ h2)
end

theorem Same.new {H : Hp} {p : Addr} {o : HO} (h : H p = none) : Same H (upd H p o) := fun a u e => by
  rw [upd_ne (ne_of_none e h)]
  exact e

section
variable {M : MS} {H H' : Hp} {v x y : V} {vs ws : List V} {d e : D} {ds es : List D}
theorem Rp.same (h : Rp M H v d) (s : Same H H') : Rp M H' v d := h.mono (fun a o n q => ⟨n, s a o q⟩) d v
theorem RpAll.same (h : RpAll M H vs ds) (s : Same H H') : RpAll M H' vs ds := h.mono (fun a o n q => ⟨n, s a o q⟩) ds vs
theorem RpAll.length (h : RpAll M H vs ds) : vs.length = ds.length := by
  induction ds generalizing vs with
  | nil => cases h; rfl
  | cons d ds ih => cases h with | cons h1 h2 => rw [List.length_cons, List.length_cons, ih h2]
theorem RpAll.get (h : RpAll M H vs ds) {i : Nat} (g : ds[i]? = some d) : ∃ v, vs[i]? = some v ∧ Rp M H v d := by
  induction ds generalizing vs i with
  | nil => simp at g
  | cons d0 ds ih =>
    cases h with
    | cons h1 h2 =>
      cases i with
      | zero => simp at g; subst g; exact ⟨_, rfl, h1⟩
      | succ i => obtain ⟨w, e1, e2⟩ := ih h2 (i := i) (by simpa using g); exact ⟨w, by simpa using e1, e2⟩
theorem RpAll.get' (h : RpAll M H vs ds) {i : Nat} (g : vs[i]? = some v) : ∃ d, ds[i]? = some d ∧ Rp M H v d := by
  have hl := h.length
  have hi : i < vs.length := (List.getElem?_eq_some_iff.mp g).1
  have e : ds[i]? = some (ds[i]'(by omega)) := List.getElem?_eq_getElem (by omega)
  obtain ⟨w, e1, e2⟩ := h.get e
  rw [g] at e1; cases e1
  exact ⟨_, e, e2⟩
theorem RpAll.append (h : RpAll M H vs ds) (h' : RpAll M H ws es) : RpAll M H (vs ++ ws) (ds ++ es) := by
  induction ds generalizing vs with
  | nil => cases h; exact h'
  | cons d ds ih => cases h with | cons h1 h2 => exact .cons h1 (ih h2)
theorem RpAll.take (h : RpAll M H vs ds) : ∀ n, RpAll M H (vs.take n) (ds.take n) := by
  induction ds generalizing vs with
  | nil => cases h; intro n; simp; exact .nil
  | cons d ds ih =>
    cases h with
    | cons h1 h2 =>
      intro n
      cases n with
      | zero => exact .nil
      | succ n => exact .cons h1 (ih h2 n)
theorem RpAll.drop (h : RpAll M H vs ds) : ∀ n, RpAll M H (vs.drop n) (ds.drop n) := by
  induction ds generalizing vs with
  | nil => cases h; intro n; simp; exact .nil
  | cons d ds ih =>
    cases h with
    | cons h1 h2 =>
      intro n
      cases n with
      | zero => exact .cons h1 h2
      | succ n => exact ih h2 n
theorem RpAll.flat (h : RpAll M H vs ds) : ∀ k : Nat, RpAll M H (List.replicate k vs).flatten (List.replicate k ds).flatten
  | 0 => .nil
  | k + 1 => by rw [List.replicate_succ, List.replicate_succ, List.flatten_cons, List.flatten_cons]; exact h.append (RpAll.flat h k)
theorem RpAll.snoc (h : RpAll M H vs ds) (h' : Rp M H v d) : RpAll M H (vs ++ [v]) (ds ++ [d]) := h.append (.cons h' .nil)
theorem RpAll.ints {ns : List Int} (h : RpAll M H vs (ns.map .int)) : vs = ns.map .int := by
  induction ns generalizing vs with
  | nil => cases h; rfl
  | cons n ns ih => cases h with | cons h1 h2 => cases h1; rw [ih h2]; rfl
theorem RpAll.of_ints (ns : List Int) : RpAll M H (ns.map .int) (ns.map .int) := by
  induction ns with
  | nil => exact .nil
  | cons n ns ih => exact .cons (.int n) ih
theorem RpAll.bls {ns : List Bool} (h : RpAll M H vs (ns.map .bool)) : vs = ns.map .bl := by
  induction ns generalizing vs with
  | nil => cases h; rfl
  | cons n ns ih => cases h with | cons h1 h2 => cases h1; rw [ih h2]; rfl
end

def Ok (M : MS) (H : Hp) : Prop := ∀ a, M a → H a ≠ none
theorem Ok.none (H : Hp) : Ok (fun _ => False) H := fun _ h => h.elim
theorem Ok.same {M : MS} {H H' : Hp} (o : Ok M H) (s : Same H H') : Ok M H' := fun a m => by
  cases h : H a with
  | none => exact absurd h (o a m)
  | some u => rw [s a u h]; simp
/-- slots as data; none: not told -/
structure SlD (M : MS) (H : Hp) (σ : St) (ds : Sl) : Prop where
  len : σ.length = ds.length
  get : ∀ (i : Nat) (d : D), ds[i]? = some (some d) → ∃ v, σ[i]? = some (some v) ∧ Rp M H v d
theorem SlD.same {M : MS} {H H' : Hp} {σ : St} {ds : Sl} (h : SlD M H σ ds) (s : Same H H') : SlD M H' σ ds := ⟨h.len, fun i d g => by
  obtain ⟨v, e, r⟩ := h.get i d g
  exact ⟨v, e, r.same s⟩⟩
theorem SlD.mono {M M' : MS} {H H' : Hp} {σ : St} {ds : Sl} (k : ∀ a o, ¬ M a → H a = some o → ¬ M' a ∧ H' a = some o) (h : SlD M H σ ds) : SlD M' H' σ ds := ⟨h.len, fun i d g => by
  obtain ⟨v, e, r⟩ := h.get i d g
  exact ⟨v, e, r.mono k d v⟩⟩
theorem SlD.set {M : MS} {H : Hp} {σ : St} {ds : Sl} {v : V} {d : D} (h : SlD M H σ ds) (i : Nat) (r : Rp M H v d) : SlD M H (σ.set i (some v)) (ds.set i (some d)) := ⟨by rw [List.length_set, List.length_set]; exact h.len, fun j e g => by
  by_cases hj : i = j
  · subst hj
    by_cases hi : i < ds.length
    · rw [List.getElem?_set_self hi] at g
      cases g
      exact ⟨v, List.getElem?_set_self (by rw [h.len]; exact hi), r⟩
    · rw [List.getElem?_eq_none (by simpa using hi)] at g; cases g
  · rw [List.getElem?_set_ne hj] at g ⊢
    exact h.get j e g⟩
theorem SlD.unset {M : MS} {H : Hp} {σ : St} {ds : Sl} (h : SlD M H σ ds) (i : Nat) (w : Option V) : SlD M H (σ.set i w) (ds.set i none) := ⟨by rw [List.length_set, List.length_set]; exact h.len, fun j e g => by
  by_cases hj : i = j
  · subst hj
    by_cases hi : i < ds.length
    · rw [List.getElem?_set_self hi] at g; cases g
    · rw [List.getElem?_eq_none (by simpa using hi)] at g; cases g
  · rw [List.getElem?_set_ne hj] at g ⊢
    exact h.get j e g⟩
theorem SlD.start {M : MS} {H : Hp} {vs : List V} {ds : List D} (h : RpAll M H vs ds) (N : List Str) : SlD M H (start N vs) (ds.map some ++ List.replicate (N.length - ds.length) none) := by
  have hl := h.length
  refine ⟨by unfold L2.start; simp [hl], fun i d g => ?_⟩
  have hi : i < ds.length := by
    by_cases hi : i < ds.length
    · exact hi
    · rw [List.getElem?_append_right (by simpa using hi), List.getElem?_replicate] at g
      split at g <;> cases g
  rw [List.getElem?_append_left (by simpa using hi), List.getElem?_map] at g
  cases e : ds[i]? with
  | none => rw [e] at g; cases g
  | some d' =>
    rw [e] at g
    cases g
    obtain ⟨v, e1, e2⟩ := h.get e
    refine ⟨v, ?_, e2⟩
    unfold L2.start
    rw [List.getElem?_append_left (by rw [List.length_map, hl]; exact hi), List.getElem?_map, e1]
    rfl

/-! ### readings that are functions -/
def tP (f : Sl → Option D) : TE := fun σ H Q => ∃ (M : MS) (ds : Sl) (d : D), Ok M H ∧ SlD M H σ ds ∧ f ds = some d ∧ ∀ v H', Same H H' → Rp M H' v d → Q v H'
def tPA (f : Sl → Option (List D)) : TA := fun σ H Q => ∃ (M : MS) (ds : Sl) (l : List D), Ok M H ∧ SlD M H σ ds ∧ f ds = some l ∧ ∀ vs H', Same H H' → RpAll M H' vs l → Q vs H'
def tPT (f : Sl → Option Bool) : TT := fun σ H Q => ∃ (M : MS) (ds : Sl) (b : Bool), Ok M H ∧ SlD M H σ ds ∧ f ds = some b ∧ ∀ H', Same H H' → Q b H'
def tPO (f : Sl → Option (Option Int)) : TO := fun σ H Q => ∃ (M : MS) (ds : Sl) (b : Option Int), Ok M H ∧ SlD M H σ ds ∧ f ds = some b ∧ ∀ H', Same H H' → Q b H'

section
variable {X : Cx} {e : Expr} {t t' : TE}
theorem pe_of (h : PE X e t) (k : ∀ σ H Q, t' σ H Q → t σ H Q) : PE X e t' := ⟨fun pins s σ H Q I q => h.run pins s σ H Q I (k σ H Q q)⟩
theorem pa_of {es : List Expr} {t t' : TA} (h : PA X es t) (k : ∀ σ H Q, t' σ H Q → t σ H Q) : PA X es t' := ⟨fun pos pins s σ H Q I q => h.run pos pins s σ H Q I (k σ H Q q)⟩
theorem pt_of {t t' : TT} (h : PT X e t) (k : ∀ σ H Q, t' σ H Q → t σ H Q) : PT X e t' := ⟨fun pins s σ H Q I q => h.run pins s σ H Q I (k σ H Q q)⟩
theorem pw_of {t t' : TT} (h : PW X e t) (k : ∀ σ H Q, t' σ H Q → t σ H Q) : PW X e t' := ⟨fun wh pins s σ H Q I q => h.run wh pins s σ H Q I (k σ H Q q)⟩
theorem po_of {e : Option Expr} {t t' : TO} (h : PO X e t) (k : ∀ σ H Q, t' σ H Q → t σ H Q) : PO X e t' := ⟨fun pins s σ H Q I q => h.run pins s σ H Q I (k σ H Q q)⟩
theorem ps_of {st : Stmt} {t t' : TS} (h : PS X st t) (k : ∀ D σ H, t' D σ H → t D σ H) : PS X st t' := ⟨fun pins s σ H D I q => h.run pins s σ H D I (k D σ H q)⟩
theorem pss_of {st : List Stmt} {t t' : TS} (h : PSs X st t) (k : ∀ D σ H, t' D σ H → t D σ H) : PSs X st t' := ⟨fun pins s σ H D I q => h.run pins s σ H D I (k D σ H q)⟩
end

/-! ### names and constants -/
def eVar (i : Nat) : Sl → Option D := fun ds => (ds[i]?).join
def eC (d : D) : Sl → Option D := fun _ => some d
section
variable {X : Cx} {e : Expr} {pos : Pos}
theorem pd_name (i : Nat) {x : Str} {pos : Pos} (hN : X.N[i]? = some x := by rfl) (hv : Vis X.env.scope x := by first | exact Or.inl rfl | exact Or.inr (Or.inl rfl) | exact Or.inr (Or.inr rfl)) (hd : (x == ("__debug__" : Str)) = false := by decide)
    (hcd : (x == ("__classdict__" : Str)) = false := by decide) : PE X (.Name x pos) (tP (eVar i)) := pe_of (pe_var hN hv hd hcd) fun σ H Q ⟨M, ds, d, o, s, e, q⟩ => by
  have e' : ds[i]? = some (some d) := by
    unfold eVar at e
    cases h : ds[i]? with
    | none => rw [h] at e; cases e
    | some u => rw [h] at e; cases u with
      | none => cases e
      | some d' => cases e; rfl
  obtain ⟨v, h1, h2⟩ := s.get i d e'
  exact ⟨v, h1, q v H (Same.refl H) h2⟩
theorem pd_c {v : V} {d : D} (h : PE X e (tC v)) (r : ∀ M H, Rp M H v d) : PE X e (tP (eC d)) := pe_of h fun σ H Q ⟨M, ds, d', o, s, e, q⟩ => by
  cases e
  exact q v H (Same.refl H) (r M H)
theorem pd_int {i j pos} : PE X (.Constant (.int i) j pos) (tP (eC (.int i))) := pd_c pe_int fun _ _ => .int i
theorem pd_bl {b j pos} : PE X (.Constant (.bool b) j pos) (tP (eC (.bool b))) := pd_c pe_bl fun _ _ => .bl b
theorem pd_non {j pos} : PE X (.Constant .none j pos) (tP (eC .none)) := pd_c pe_non fun _ _ => .non
theorem pd_str {x j pos} : PE X (.Constant (.str x) j pos) (tP (eC (.str x))) := pd_c pe_str fun _ _ => .str x
end

/-! ### operators -/
def OpS (r : R2) (o : D → D → Option D) : Prop := ∀ (M : MS) (H : Hp) (x y : V) (dx dy d : D) (Q : VK), Ok M H → Rp M H x dx → Rp M H y dy → o dx dy = some d → (∀ v H', Same H H' → Rp M H' v d → Q v H') → r x y H Q
def eOp (o : D → D → Option D) (f g : Sl → Option D) : Sl → Option D := fun ds => (f ds).bind fun x => (g ds).bind fun y => o x y
def UnS (r : V → Hp → VK → Prop) (o : D → Option D) : Prop := ∀ (M : MS) (H : Hp) (x : V) (dx d : D) (Q : VK), Ok M H → Rp M H x dx → o dx = some d → (∀ v H', Same H H' → Rp M H' v d → Q v H') → r x H Q
def eUn (o : D → Option D) (f : Sl → Option D) : Sl → Option D := fun ds => (f ds).bind o
theorem bind_some {α β : Type} {x : Option α} {f : α → Option β} {b : β} (h : x.bind f = some b) : ∃ a, x = some a ∧ f a = some b := by
  cases x with
  | none => cases h
  | some a => exact ⟨a, rfl, h⟩
theorem tOp_of {r : R2} {o : D → D → Option D} {f g : Sl → Option D} (hs : OpS r o) : ∀ σ H Q, tP (eOp o f g) σ H Q → tOp r (tP f) (tP g) σ H Q := fun σ H Q ⟨M, ds, d, ok, s, e, q⟩ => by
  obtain ⟨x, e1, e⟩ := bind_some e
  obtain ⟨y, e2, e3⟩ := bind_some e
  refine ⟨M, ds, x, ok, s, e1, fun v H1 s1 r1 => ⟨M, ds, y, ok.same s1, s.same s1, e2, fun w H2 s2 r2 => ?_⟩⟩
  exact hs M H2 v w x y d Q ((ok.same s1).same s2) (r1.same s2) r2 e3 fun u H3 s3 r3 => q u H3 ((s1.trans s2).trans s3) r3
theorem tUn_of {r : V → Hp → VK → Prop} {o : D → Option D} {f : Sl → Option D} (hs : UnS r o) : ∀ σ H Q, tP (eUn o f) σ H Q → tUn r (tP f) σ H Q := fun σ H Q ⟨M, ds, d, ok, s, e, q⟩ => by
  obtain ⟨x, e1, e3⟩ := bind_some e
  exact ⟨M, ds, x, ok, s, e1, fun v H1 s1 r1 => hs M H1 v x d Q (ok.same s1) r1 e3 fun u H3 s3 r3 => q u H3 (s1.trans s3) r3⟩
section
variable {X : Cx} {a b c : Expr} {f g h : Sl → Option D} {pos : Pos}
theorem pd_op {op : Operator} {r : R2} {o : D → D → Option D} (ho : OpR X (binaryOp op) r) (hs : OpS r o) (ha : PE X a (tP f)) (hb : PE X b (tP g)) : PE X (.BinOp a op b pos) (tP (eOp o f g)) := pe_of (pe_op ho ha hb) (tOp_of hs)
theorem pd_cmp {op : CmpOp} {r : R2} {o : D → D → Option D} (ho : OpR X (compareOp op) r) (hs : OpS r o) (ha : PE X a (tP f)) (hb : PE X b (tP g)) (hm : behindInMarks op b = false) : PE X (.Compare a [op] [b] pos) (tP (eOp o f g)) := pe_of (pe_cmpR ho ha hb hm) (tOp_of hs)
theorem pd_un {op : UnaryOp} {r : V → Hp → VK → Prop} {o : D → Option D} (ho : UnR X (unaryOp op) r) (hs : UnS r o) (ha : PE X a (tP f)) : PE X (.UnaryOp op a pos) (tP (eUn o f)) := pe_of (pe_un ho ha) (tUn_of hs)
/-- a test: the answer must be a truth value -/
def bT (f : Sl → Option D) : Sl → Option Bool := fun ds => (f ds).bind fun d => match d with
  | .bool b => some b
  | _ => none
theorem bT_some {ds : Sl} {k : Bool} (e : bT f ds = some k) : f ds = some (.bool k) := by
  obtain ⟨d, e1, e2⟩ := bind_some e
  rw [e1]
  split at e2
  · cases e2; rfl
  · cases e2
theorem ptd_cmp {op : CmpOp} {r : R2} {o : D → D → Option D} (ho : OpR X (compareOp op) r) (hs : OpS r o) (ha : PE X a (tP f)) (hb : PE X b (tP g)) (hm : behindInMarks op b = false) : PT X (.Compare a [op] [b] pos) (tPT (bT (eOp o f g))) :=
  pt_of (pt_cmpR ho ha hb hm) fun σ H Q ⟨M, ds, k, ok, s, e, q⟩ => tOp_of hs σ H _ ⟨M, ds, .bool k, ok, s, bT_some e, fun v H' s' r => by cases r; exact ⟨k, rfl, q H' s'⟩⟩
theorem ptd_val {e : Expr} (h : PE X e (tP f)) (he : ∀ whole, isTrue e X.env whole = (do let v ← whole; standAt e.pos; holding [v] (truthy v)) := by intro _; rfl) : PT X e (tPT (bT f)) :=
  pt_of (pt_val h he) fun σ H Q ⟨M, ds, k, ok, s, e, q⟩ => ⟨M, ds, .bool k, ok, s, bT_some e, fun v H' s' r => by cases r; exact ⟨k, rfl, q H' s'⟩⟩
/-- a op b op' c -/
def eChain (o o' : D → D → Option D) (f g h : Sl → Option D) : Sl → Option D := fun ds => (f ds).bind fun x => (g ds).bind fun y => (o x y).bind fun k => match k with
  | .bool true => (h ds).bind fun z => o' y z
  | .bool false => some (.bool false)
  | _ => none
theorem chain_of {r r' : R2} {o o' : D → D → Option D} (hs : OpS r o) (hs' : OpS r' o') : ∀ σ H Q, tP (eChain o o' f g h) σ H Q → tChain r r' (tP f) (tP g) (tP h) σ H Q := fun σ H Q ⟨M, ds, d, ok, s, e, q⟩ => by
  obtain ⟨x, e1, e⟩ := bind_some e
  obtain ⟨y, e2, e⟩ := bind_some e
  obtain ⟨k, e3, e⟩ := bind_some e
  refine ⟨M, ds, x, ok, s, e1, fun v H1 s1 r1 => ⟨M, ds, y, ok.same s1, s.same s1, e2, fun w H2 s2 r2 => ?_⟩⟩
  refine hs M H2 v w x y k _ ((ok.same s1).same s2) (r1.same s2) r2 e3 fun u H3 s3 r3 => ?_
  have ss := (s1.trans s2).trans s3
  split at e
  · cases r3
    refine ⟨true, rfl, ?_⟩
    rw [if_pos rfl]
    obtain ⟨z, e4, e5⟩ := bind_some e
    exact ⟨M, ds, z, ok.same ss, s.same ss, e4, fun t H4 s4 r4 => hs' M H4 w t y z d Q ((ok.same ss).same s4) ((r2.same s3).same s4) r4 e5 fun u H5 s5 r5 => q u H5 ((ss.trans s4).trans s5) r5⟩
  · cases r3
    cases e
    refine ⟨false, rfl, ?_⟩
    rw [if_neg Bool.false_ne_true]
    exact q _ H3 ss (.bl false)
  · cases e
end
end Pu

set_option Elab.async false
set_option linter.all false
set_option maxRecDepth 100000
set_option maxHeartbeats 2000000
set_option autoImplicit false
/-! Pu2: the operators' functions. -/
namespace Pu
open PySem PySem.Spec PyProof.Rows L2

theorem new_lst {M : MS} {H : Hp} {p : Addr} {xs : List V} {ds : List D} (ok : Ok M H) (hp : H p = none) (r : RpAll M H xs ds) : Same H (upd H p (.lst xs)) ∧ Rp M (upd H p (.lst xs)) (.ref p) (.list ds) :=
  ⟨Same.new hp, .lst upd_same (fun m => ok p m hp) (r.same (Same.new hp))⟩
theorem new_tup {M : MS} {H : Hp} {p : Addr} {xs : List V} {ds : List D} (ok : Ok M H) (hp : H p = none) (r : RpAll M H xs ds) : Same H (upd H p (.tup xs)) ∧ Rp M (upd H p (.tup xs)) (.ref p) (.tuple ds) :=
  ⟨Same.new hp, .tup upd_same (fun m => ok p m hp) (r.same (Same.new hp))⟩
/-! ### arithmetic -/
def oAdd : D → D → Option D
  | .int a, .int b => some (.int (a + b))
  | .list a, .list b => if a.length + b.length ≤ lim then some (.list (a ++ b)) else none
  | .tuple a, .tuple b => if a.length + b.length ≤ lim then some (.tuple (a ++ b)) else none
  | _, _ => none
def oSub : D → D → Option D
  | .int a, .int b => some (.int (a - b))
  | _, _ => none
def oMul : D → D → Option D
  | .int a, .int b => if (-(2 ^ 64) < a ∧ a < 2 ^ 64) ∨ (-(2 ^ 64) < b ∧ b < 2 ^ 64) then some (.int (a * b)) else none
  | .list a, .int k => if -(2 ^ 63) ≤ k ∧ k < 2 ^ 63 ∧ a.length * k.toNat ≤ lim then some (.list (List.replicate k.toNat a).flatten) else none
  | _, _ => none
def oMod : D → D → Option D
  | .int a, .int b => if b = 0 then none else some (.int (a.fmod b))
  | _, _ => none
def oDiv : D → D → Option D
  | .int a, .int b => if b = 0 ∨ ¬ b.natAbs < 1073741824 then none else some (.int (a.fdiv b))
  | _, _ => none
def oPow : D → D → Option D
  | .int a, .int b => if 0 ≤ b ∧ b ≤ 1000000 ∧ a.natAbs < 2 ^ 64 then some (.int (a ^ b.toNat)) else none
  | _, _ => none
def oNeg : D → Option D
  | .int a => some (.int (-a))
  | _ => none
def rAddD (K : PySem.W.Frag) : R2 := fun x y H Q => rI0 (fun i j => .int (i + j)) x y H Q ∨ rCat x y H Q ∨ rCatA K x y H Q
def rMulD : R2 := fun x y H Q => rI CMul (fun i j => .int (i * j)) x y H Q ∨ rRep x y H Q
section
variable {X : Cx}
theorem or_addD : OpR X (binaryOp .Add) (rAddD X.K) := OpR.or op_add (OpR.or op_cat op_catA)
theorem or_mulD : OpR X (binaryOp .Mult) rMulD := OpR.or op_mul op_rep
end
theorem os_add {K : PySem.W.Frag} : OpS (rAddD K) oAdd := by
  intro M H x y dx dy d Q ok rx ry e q
  unfold oAdd at e
  split at e
  · cases e
    cases rx
    cases ry
    exact .inl ⟨_, _, rfl, rfl, q _ H (Same.refl H) (.int _)⟩
  · split at e
    · rename_i hz
      cases e
      cases rx with
      | lst e1 n1 r1 =>
        cases ry with
        | lst e2 n2 r2 =>
          refine .inr (.inl ⟨_, _, _, _, rfl, rfl, e1, e2, ?_, fun p hp => ?_⟩)
          · rw [r1.length, r2.length]; exact Nat.le_trans hz lim_le
          · have z := new_lst ok hp (r1.append r2)
            exact q _ _ z.1 z.2
    · cases e
  · split at e
    · rename_i hz
      cases e
      cases rx with
      | tup e1 n1 r1 =>
        cases ry with
        | tup e2 n2 r2 =>
          refine .inr (.inr ⟨_, _, _, _, rfl, rfl, SqT.of e1, SqT.of e2, ?_, fun h => ?_, fun _ h => ?_, fun _ _ p hp => ?_⟩)
          · rw [r1.length, r2.length]; exact Nat.le_trans hz lim_le
          · subst h; cases r1; exact q _ H (Same.refl H) (.tup e2 n2 r2)
          · subst h; cases r2; rw [List.append_nil] at q; exact q _ H (Same.refl H) (.tup e1 n1 r1)
          · have z := new_tup ok hp (r1.append r2)
            exact q _ _ z.1 z.2
    · cases e
  · cases e
theorem os_sub : OpS (rI0 fun i j => .int (i - j)) oSub := by
  intro M H x y dx dy d Q ok rx ry e q
  unfold oSub at e
  split at e
  · cases e
    cases rx
    cases ry
    exact ⟨_, _, rfl, rfl, q _ H (Same.refl H) (.int _)⟩
  · cases e
theorem os_mul : OpS rMulD oMul := by
  intro M H x y dx dy d Q ok rx ry e q
  unfold oMul at e
  split at e
  · split at e
    · rename_i hz
      cases e
      cases rx
      cases ry
      exact .inl ⟨_, _, rfl, rfl, hz, q _ H (Same.refl H) (.int _)⟩
    · cases e
  · rename_i k
    split at e
    · rename_i hz
      cases e
      cases ry
      cases rx with
      | lst e1 n1 r1 =>
        refine .inr ⟨_, _, _, rfl, rfl, e1, hz.1, hz.2.1, ?_, fun p hp => ?_⟩
        · rw [r1.length]; exact Nat.le_trans hz.2.2 lim_le
        · have z := new_lst ok hp (r1.flat k.toNat)
          exact q _ _ z.1 z.2
    · cases e
  · cases e
theorem os_mod : OpS (rI (fun _ j => j ≠ 0) fun i j => .int (i.fmod j)) oMod := by
  intro M H x y dx dy d Q ok rx ry e q
  unfold oMod at e
  split at e
  · split at e
    · cases e
    · rename_i hz
      cases e
      cases rx
      cases ry
      exact ⟨_, _, rfl, rfl, hz, q _ H (Same.refl H) (.int _)⟩
  · cases e
theorem os_div : OpS (rI CDivN fun i j => .int (i.fdiv j)) oDiv := by
  intro M H x y dx dy d Q ok rx ry e q
  unfold oDiv at e
  split at e
  · split at e
    · cases e
    · rename_i hz
      cases e
      cases rx
      cases ry
      exact ⟨_, _, rfl, rfl, ⟨fun h => hz (.inl h), Decidable.not_not.mp fun h => hz (.inr h)⟩, q _ H (Same.refl H) (.int _)⟩
  · cases e
theorem os_pow : OpS (rI CPow fun i j => .int (i ^ j.toNat)) oPow := by
  intro M H x y dx dy d Q ok rx ry e q
  unfold oPow at e
  split at e
  · split at e
    · rename_i hz
      cases e
      cases rx
      cases ry
      exact ⟨_, _, rfl, rfl, hz, q _ H (Same.refl H) (.int _)⟩
    · cases e
  · cases e
theorem us_neg : UnS (rU fun i => .int (-i)) oNeg := by
  intro M H x dx d Q ok rx e q
  unfold oNeg at e
  split at e
  · cases e
    cases rx
    exact ⟨_, rfl, q _ H (Same.refl H) (.int _)⟩
  · cases e

/-! ### comparisons -/
def oLt : D → D → Option D
  | .int a, .int b => some (.bool (decide (a < b)))
  | _, _ => none
def oLe : D → D → Option D
  | .int a, .int b => some (.bool (decide (a ≤ b)))
  | _, _ => none
def oGt : D → D → Option D
  | .int a, .int b => some (.bool (decide (b < a)))
  | _, _ => none
def oGe : D → D → Option D
  | .int a, .int b => some (.bool (decide (b ≤ a)))
  | _, _ => none
def oEq : D → D → Option D := fun a b => if SeqAt.shaped a = true ∧ SeqAt.shaped b = true then some (.bool (PyData.eqv a b)) else none
def oNe : D → D → Option D := fun a b => if SeqAt.shaped a = true ∧ SeqAt.shaped b = true then some (.bool (!PyData.eqv a b)) else none
def isNon : D → Bool
  | .none => true
  | _ => false
/-- x is None -/
def oIs : D → D → Option D
  | a, .none => some (.bool (isNon a))
  | _, _ => none
def oIsnt : D → D → Option D
  | a, .none => some (.bool (!isNon a))
  | _, _ => none
def oIn : D → D → Option D
  | a, .list b => if SeqAt.shaped a = true ∧ SeqAt.shaped (.list b) = true then some (.bool (b.any fun z => PyData.eqv z a)) else none
  | _, _ => none
def oNotIn : D → D → Option D
  | a, .list b => if SeqAt.shaped a = true ∧ SeqAt.shaped (.list b) = true then some (.bool (!b.any fun z => PyData.eqv z a)) else none
  | _, _ => none
theorem os_lt : OpS (rI0 fun i j => .bl (decide (i < j))) oLt := by
  intro M H x y dx dy d Q ok rx ry e q
  unfold oLt at e
  split at e
  · cases e; cases rx; cases ry
    exact ⟨_, _, rfl, rfl, q _ H (Same.refl H) (.bl _)⟩
  · cases e
theorem os_le : OpS (rI0 fun i j => .bl (decide (i ≤ j))) oLe := by
  intro M H x y dx dy d Q ok rx ry e q
  unfold oLe at e
  split at e
  · cases e; cases rx; cases ry
    exact ⟨_, _, rfl, rfl, q _ H (Same.refl H) (.bl _)⟩
  · cases e
theorem os_gt : OpS (rI0 fun i j => .bl (decide (j < i))) oGt := by
  intro M H x y dx dy d Q ok rx ry e q
  unfold oGt at e
  split at e
  · cases e; cases rx; cases ry
    exact ⟨_, _, rfl, rfl, q _ H (Same.refl H) (.bl _)⟩
  · cases e
theorem os_ge : OpS (rI0 fun i j => .bl (decide (j ≤ i))) oGe := by
  intro M H x y dx dy d Q ok rx ry e q
  unfold oGe at e
  split at e
  · cases e; cases rx; cases ry
    exact ⟨_, _, rfl, rfl, q _ H (Same.refl H) (.bl _)⟩
  · cases e
theorem os_eq {K : PySem.W.Frag} : OpS (rEqD K) oEq := by
  intro M H x y dx dy d Q ok rx ry e q
  unfold oEq at e
  split at e
  · rename_i hz
    cases e
    exact ⟨dx, dy, rx.dp, ry.dp, hz.1, hz.2, q _ H (Same.refl H) (.bl _)⟩
  · cases e
theorem os_ne {K : PySem.W.Frag} : OpS (rNeD K) oNe := by
  intro M H x y dx dy d Q ok rx ry e q
  unfold oNe at e
  split at e
  · rename_i hz
    cases e
    exact ⟨dx, dy, rx.dp, ry.dp, hz.1, hz.2, q _ H (Same.refl H) (.bl _)⟩
  · cases e
theorem isNon_V {M : MS} {H : Hp} {x : V} {d : D} (r : Rp M H x d) : decide (x = .non) = isNon d := by
  cases r <;> first | rfl | exact decide_eq_false (fun z => nomatch z)
theorem os_is : OpS (fun x y H Q => y = .non ∧ Q (.bl (decide (x = .non))) H) oIs := by
  intro M H x y dx dy d Q ok rx ry e q
  unfold oIs at e
  split at e
  · cases e; cases ry
    refine ⟨rfl, ?_⟩
    rw [isNon_V rx]
    exact q _ H (Same.refl H) (.bl _)
  · cases e
theorem os_isnt : OpS (fun x y H Q => y = .non ∧ Q (.bl (!decide (x = .non))) H) oIsnt := by
  intro M H x y dx dy d Q ok rx ry e q
  unfold oIsnt at e
  split at e
  · cases e; cases ry
    refine ⟨rfl, ?_⟩
    rw [isNon_V rx]
    exact q _ H (Same.refl H) (.bl _)
  · cases e
theorem os_in {K : PySem.W.Frag} : OpS (rInD K) oIn := by
  intro M H x y dx dy d Q ok rx ry e q
  unfold oIn at e
  split at e
  · split at e
    · rename_i hz
      cases e
      exact ⟨_, _, rx.dp, ry.dp, hz.1, hz.2, q _ H (Same.refl H) (.bl _)⟩
    · cases e
  · cases e
theorem os_notIn {K : PySem.W.Frag} : OpS (rNotInD K) oNotIn := by
  intro M H x y dx dy d Q ok rx ry e q
  unfold oNotIn at e
  split at e
  · split at e
    · rename_i hz
      cases e
      exact ⟨_, _, rx.dp, ry.dp, hz.1, hz.2, q _ H (Same.refl H) (.bl _)⟩
    · cases e
  · cases e

/-! ### items and slices -/
def oIx : D → D → Option D
  | .list a, .int i => atI a i
  | .tuple a, .int i => atI a i
  | _, _ => none
theorem RpAll.atI {M : MS} {H : Hp} {vs : List V} {ds : List D} {d : D} {i : Int} (h : RpAll M H vs ds) (e : L2.atI ds i = some d) : ∃ v, L2.atI vs i = some v ∧ Rp M H v d := by
  unfold L2.atI at e ⊢
  obtain ⟨j, e1, e2⟩ := bind_some e
  obtain ⟨v, e3, r⟩ := h.get e2
  refine ⟨v, ?_, r⟩
  rw [h.length, e1]
  exact e3
def rIxD (K : PySem.W.Frag) : R2 := fun x y H Q => rIxL K x y H Q ∨ rIxT K x y H Q
theorem ix_D {X : Cx} : IxR X (rIxD X.K) := ix_list.or ix_tup
theorem os_ix {K : PySem.W.Frag} : OpS (rIxD K) oIx := by
  intro M H x y dx dy d Q ok rx ry e q
  unfold oIx at e
  split at e
  · cases ry
    cases rx with
    | lst e1 n1 r1 =>
      obtain ⟨v, e2, r⟩ := r1.atI e
      exact .inl ⟨_, _, _, v, rfl, rfl, SqL.of e1, e2, q v H (Same.refl H) r⟩
  · cases ry
    cases rx with
    | tup e1 n1 r1 =>
      obtain ⟨v, e2, r⟩ := r1.atI e
      exact .inr ⟨_, _, _, v, rfl, rfl, SqT.of e1, e2, q v H (Same.refl H) r⟩
  · cases e
def cutD (xs : List D) (lo hi : Option Int) : List D := (xs.drop (HT.sIx xs.length 0 lo)).take (HT.sIx xs.length xs.length hi - HT.sIx xs.length 0 lo)
theorem RpAll.cut {M : MS} {H : Hp} {vs : List V} {ds : List D} (h : RpAll M H vs ds) (lo hi : Option Int) : RpAll M H (cutV vs lo hi) (cutD ds lo hi) := by
  unfold cutV cutD
  rw [h.length]
  exact (h.drop _).take _
def oSl (lo hi : Option Int) : D → Option D
  | .list a => some (.list (cutD a lo hi))
  | .tuple a => some (.tuple (cutD a lo hi))
  | _ => none
def rSlD (K : PySem.W.Frag) : V → Option Int → Option Int → Hp → VK → Prop := fun x lo hi H Q => rSlL K x lo hi H Q ∨ rSlA K x lo hi H Q
theorem sl_D {X : Cx} : SlR X (rSlD X.K) := sl_list.or sl_tupA
theorem cut_whole {ds : List D} {lo hi : Option Int} (h : HT.sIx ds.length 0 lo = 0 ∧ HT.sIx ds.length ds.length hi = ds.length) : cutD ds lo hi = ds := by
  unfold cutD
  rw [h.1, h.2]
  simp
def ePart (f : Sl → Option D) : Sl → Option (Option Int) := fun ds => (f ds).bind fun d => match d with
  | .int i => some (some i)
  | _ => none
def eNoPart : Sl → Option (Option Int) := fun _ => some none
def eSl (f : Sl → Option D) (lo hi : Sl → Option (Option Int)) : Sl → Option D := fun ds => (f ds).bind fun x => (lo ds).bind fun l => (hi ds).bind fun h => oSl l h x
section
variable {X : Cx} {a b c : Expr} {f g h : Sl → Option D} {pos p2 : Pos} {lo hi : Option Expr} {l u : Sl → Option (Option Int)}
theorem pd_ix (ha : PE X a (tP f)) (hb : PE X b (tP g)) (hs : PlainIx b := by exact fun _ _ => rfl) : PE X (.Subscript a b pos) (tP (eOp oIx f g)) := pe_of (pe_ix ix_D ha hb hs) (tOp_of os_ix)
theorem po_p (he : PE X a (tP f)) : PO X (some a) (tPO (ePart f)) := po_of (po_some he) fun σ H Q ⟨M, ds, d, ok, s, e, q⟩ => by
  obtain ⟨x, e1, e2⟩ := bind_some e
  split at e2
  · cases e2
    exact ⟨M, ds, _, ok, s, e1, fun v H' s' r => by cases r; exact ⟨_, rfl, q H' s'⟩⟩
  · cases e2
theorem po_n : PO X none (tPO eNoPart) := po_of po_none fun σ H Q ⟨M, ds, d, ok, s, e, q⟩ => by
  cases e
  exact q H (Same.refl H)
theorem pd_sl (ha : PE X a (tP f)) (hl : PO X lo (tPO l)) (hu : PO X hi (tPO u)) : PE X (.Subscript a (.Slice lo hi none p2) pos) (tP (eSl f l u)) := pe_of (pe_slice sl_D ha hl hu) fun σ H Q ⟨M, ds, d, ok, s, e, q⟩ => by
  obtain ⟨x, e1, e⟩ := bind_some e
  obtain ⟨i, e2, e⟩ := bind_some e
  obtain ⟨j, e3, e⟩ := bind_some e
  refine ⟨M, ds, x, ok, s, e1, fun v H1 s1 r1 => ⟨M, ds, i, ok.same s1, s.same s1, e2, fun H2 s2 => ⟨M, ds, j, (ok.same s1).same s2, (s.same s1).same s2, e3, fun H3 s3 => ?_⟩⟩⟩
  have ok3 := ((ok.same s1).same s2).same s3
  have r3 := (r1.same s2).same s3
  have ss := (s1.trans s2).trans s3
  unfold oSl at e
  split at e
  · cases e
    cases r3 with
    | lst e1 n1 r1 =>
      refine .inl ⟨_, _, rfl, SqL.of e1, fun p hp => ?_⟩
      have z := new_lst ok3 hp (r1.cut i j)
      exact q _ _ (ss.trans z.1) z.2
  · cases e
    cases r3 with
    | tup e1 n1 r1 =>
      refine .inr ⟨_, _, rfl, SqT.of e1, fun w => ?_, fun _ p hp => ?_⟩
      · rw [r1.length] at w
        rw [cut_whole w] at q
        exact q _ _ ss (.tup e1 n1 r1)
      · have z := new_tup ok3 hp (r1.cut i j)
        exact q _ _ (ss.trans z.1) z.2
  · cases e
end

/-! ### displays, arguments -/
def esNil : Sl → Option (List D) := fun _ => some []
def esCons (f : Sl → Option D) (g : Sl → Option (List D)) : Sl → Option (List D) := fun ds => (f ds).bind fun x => (g ds).bind fun l => some (x :: l)
def eTup (g : Sl → Option (List D)) : Sl → Option D := fun ds => (g ds).bind fun l => if l.length ≤ lim then some (.tuple l) else none
def eLst (g : Sl → Option (List D)) : Sl → Option D := fun ds => (g ds).bind fun l => if l.length ≤ lim then some (.list l) else none
section
variable {X : Cx} {e : Expr} {es : List Expr} {f : Sl → Option D} {g : Sl → Option (List D)} {pos : Pos}
theorem pda_nil : PA X [] (tPA esNil) := pa_of pa_nil fun σ H Q ⟨M, ds, d, ok, s, e, q⟩ => by
  cases e
  exact q _ H (Same.refl H) .nil
theorem pda_cons (ha : PE X e (tP f)) (hr : PA X es (tPA g)) (hs : starEach (e :: es) X.env = (false, eval e X.env) :: starEach es X.env := by rfl) : PA X (e :: es) (tPA (esCons f g)) := pa_of (pa_cons ha hr hs) fun σ H Q ⟨M, ds, d, ok, s, e, q⟩ => by
  obtain ⟨x, e1, e⟩ := bind_some e
  obtain ⟨l, e2, e⟩ := bind_some e
  cases e
  exact ⟨M, ds, x, ok, s, e1, fun v H1 s1 r1 => ⟨M, ds, l, ok.same s1, s.same s1, e2, fun vs H2 s2 r2 => q _ H2 (s1.trans s2) (.cons (r1.same s2) r2)⟩⟩
theorem pd_tup {k : Nat} (h : PA X es (tPA g)) : PE X (.Tuple es k pos) (tP (eTup g)) := pe_of (pe_tup h) fun σ H Q ⟨M, ds, d, ok, s, e, q⟩ => by
  obtain ⟨l, e1, e⟩ := bind_some e
  split at e
  · rename_i hz
    cases e
    refine ⟨M, ds, l, ok, s, e1, fun vs H1 s1 r1 => ⟨by rw [r1.length]; exact Nat.le_trans hz lim_le, fun p hp => ?_⟩⟩
    have s2 := Same.new (o := .tup vs) hp
    exact q _ _ (s1.trans s2) (.tup upd_same (fun m => ok.same s1 p m hp) (r1.same s2))
  · cases e
theorem pd_lst (h : PA X es (tPA g)) : PE X (.List es pos) (tP (eLst g)) := pe_of (pe_lst h) fun σ H Q ⟨M, ds, d, ok, s, e, q⟩ => by
  obtain ⟨l, e1, e⟩ := bind_some e
  split at e
  · rename_i hz
    cases e
    refine ⟨M, ds, l, ok, s, e1, fun vs H1 s1 r1 => ⟨by rw [r1.length]; exact Nat.le_trans hz lim_le, fun p hp => ?_⟩⟩
    have s2 := Same.new (o := .lst vs) hp
    exact q _ _ (s1.trans s2) (.lst upd_same (fun m => ok.same s1 p m hp) (r1.same s2))
  · cases e
end

/-! ### truth values -/
def bAnd (f g : Sl → Option Bool) : Sl → Option Bool := fun ds => (f ds).bind fun b => if b = true then g ds else some false
def bOr (f g : Sl → Option Bool) : Sl → Option Bool := fun ds => (f ds).bind fun b => if b = true then some true else g ds
def bNot (f : Sl → Option Bool) : Sl → Option Bool := fun ds => (f ds).bind fun b => some (!b)
def eAnd (f g : Sl → Option D) : Sl → Option D := fun ds => (bT f ds).bind fun b => if b = true then g ds else some (.bool false)
def eOr (f g : Sl → Option D) : Sl → Option D := fun ds => (bT f ds).bind fun b => if b = true then some (.bool true) else g ds
def eNot (f : Sl → Option D) : Sl → Option D := fun ds => (bT f ds).bind fun b => some (.bool (!b))
section
variable {X : Cx} {a b : Expr} {rest : List Expr} {f g : Sl → Option D} {p q : Sl → Option Bool} {pos : Pos}
theorem ptd_and1 (ha : PT X a (tPT p)) : PW X (.BoolOp .And [a] pos) (tPT p) := pw_and1 ha
theorem ptd_or1 (ha : PT X a (tPT p)) : PW X (.BoolOp .Or [a] pos) (tPT p) := pw_or1 ha
theorem ptd_and (ha : PT X a (tPT p)) (hb : PW X (.BoolOp .And (b :: rest) pos) (tPT q)) : PW X (.BoolOp .And (a :: b :: rest) pos) (tPT (bAnd p q)) := pw_of (pw_and ha hb) fun σ H Q ⟨M, ds, d, ok, s, e, k⟩ => by
  obtain ⟨x, e1, e⟩ := bind_some e
  refine ⟨M, ds, x, ok, s, e1, fun H1 s1 => ?_⟩
  cases x with
  | true =>
    rw [if_pos rfl] at e ⊢
    exact ⟨M, ds, d, ok.same s1, s.same s1, e, fun H2 s2 => k H2 (s1.trans s2)⟩
  | false =>
    rw [if_neg Bool.false_ne_true] at e ⊢
    cases e
    exact k H1 s1
theorem ptd_or (ha : PT X a (tPT p)) (hb : PW X (.BoolOp .Or (b :: rest) pos) (tPT q)) : PW X (.BoolOp .Or (a :: b :: rest) pos) (tPT (bOr p q)) := pw_of (pw_or ha hb) fun σ H Q ⟨M, ds, d, ok, s, e, k⟩ => by
  obtain ⟨x, e1, e⟩ := bind_some e
  refine ⟨M, ds, x, ok, s, e1, fun H1 s1 => ?_⟩
  cases x with
  | true =>
    rw [if_pos rfl] at e ⊢
    cases e
    exact k H1 s1
  | false =>
    rw [if_neg Bool.false_ne_true] at e ⊢
    exact ⟨M, ds, d, ok.same s1, s.same s1, e, fun H2 s2 => k H2 (s1.trans s2)⟩
theorem ptd_not (ha : PT X a (tPT p)) : PT X (.UnaryOp .Not a pos) (tPT (bNot p)) := pt_of (pt_not ha) fun σ H Q ⟨M, ds, d, ok, s, e, k⟩ => by
  obtain ⟨x, e1, e⟩ := bind_some e
  cases e
  exact ⟨M, ds, x, ok, s, e1, k⟩
theorem pd_one {op : BoolOp} (h : PE X a (tP f)) : PE X (.BoolOp op [a] pos) (tP f) := pe_one h
theorem pd_and (ha : PE X a (tP f)) (hb : PE X (.BoolOp .And (b :: rest) pos) (tP g)) : PE X (.BoolOp .And (a :: b :: rest) pos) (tP (eAnd f g)) := pe_of (pe_and ha hb) fun σ H Q ⟨M, ds, d, ok, s, e, k⟩ => by
  obtain ⟨x, e1, e⟩ := bind_some e
  refine ⟨M, ds, .bool x, ok, s, bT_some e1, fun v H1 s1 r => ?_⟩
  cases r
  refine ⟨x, rfl, ?_⟩
  cases x with
  | true =>
    rw [if_pos rfl] at e ⊢
    exact ⟨M, ds, d, ok.same s1, s.same s1, e, fun v H2 s2 => k v H2 (s1.trans s2)⟩
  | false =>
    rw [if_neg Bool.false_ne_true] at e ⊢
    cases e
    exact k _ H1 s1 (.bl _)
theorem pd_or (ha : PE X a (tP f)) (hb : PE X (.BoolOp .Or (b :: rest) pos) (tP g)) : PE X (.BoolOp .Or (a :: b :: rest) pos) (tP (eOr f g)) := pe_of (pe_or ha hb) fun σ H Q ⟨M, ds, d, ok, s, e, k⟩ => by
  obtain ⟨x, e1, e⟩ := bind_some e
  refine ⟨M, ds, .bool x, ok, s, bT_some e1, fun v H1 s1 r => ?_⟩
  cases r
  refine ⟨x, rfl, ?_⟩
  cases x with
  | true =>
    rw [if_pos rfl] at e ⊢
    cases e
    exact k _ H1 s1 (.bl _)
  | false =>
    rw [if_neg Bool.false_ne_true] at e ⊢
    exact ⟨M, ds, d, ok.same s1, s.same s1, e, fun v H2 s2 => k v H2 (s1.trans s2)⟩
theorem pd_not (ha : PE X a (tP f)) : PE X (.UnaryOp .Not a pos) (tP (eNot f)) := pe_of (pe_not ha) fun σ H Q ⟨M, ds, d, ok, s, e, k⟩ => by
  obtain ⟨x, e1, e⟩ := bind_some e
  cases e
  exact ⟨M, ds, .bool x, ok, s, bT_some e1, fun v H1 s1 r => by cases r; exact ⟨x, rfl, k _ H1 s1 (.bl _)⟩⟩
end

/-! ### calls -/
def CallS (r : List V → Hp → VK → Prop) (o : List D → Option D) : Prop := ∀ (M : MS) (H : Hp) (vs : List V) (l : List D) (d : D) (Q : VK), Ok M H → RpAll M H vs l → o l = some d → (∀ v H', Same H H' → Rp M H' v d → Q v H') → r vs H Q
def eCall (o : List D → Option D) (g : Sl → Option (List D)) : Sl → Option D := fun ds => (g ds).bind o
/-- a def's promise by a function of data; n arguments -/
def spF (n : Nat) (F : List D → Option D) : Sp := fun vs H Q _ => vs.length = n ∧ ∃ (M : MS) (l : List D) (d : D), Ok M H ∧ RpAll M H vs l ∧ F l = some d ∧ ∀ v H', Same H H' → Rp M H' v d → Q v H'
section
variable {X : Cx} {x : Str} {p pos : Pos} {e : Expr} {es : List Expr} {g : Sl → Option (List D)} {id T : String} {r : List V → Hp → VK → Prop} {o : List D → Option D}
theorem tCB_of (hs : CallS r o) : ∀ σ H Q, tP (eCall o g) σ H Q → tCB r (tPA g) σ H Q := fun σ H Q ⟨M, ds, d, ok, s, e, q⟩ => by
  obtain ⟨l, e1, e2⟩ := bind_some e
  exact ⟨M, ds, l, ok, s, e1, fun vs H1 s1 r1 => hs M H1 vs l d Q (ok.same s1) r1 e2 fun v H2 s2 r2 => q v H2 (s1.trans s2) r2⟩
theorem pd_callB (hc : CallR X (.builtin id) r) (hs : CallS r o) (hg : Gl X x) (hm : X.mg x = none) (hv : bootBuiltins x = some (.builtin id)) (ha : PA X (e :: es) (tPA g)) (hn : x ≠ "__name__" := by decide) (hdb : (x == ("__debug__" : Str)) = false := by decide)
    (he : starEach (e :: es) X.env = (false, eval e X.env) :: starEach es X.env := by rfl) (hpl : (backTo pos (starEach es X.env)).any (·.1) = false := by rfl) : PE X (.Call (.Name x p) (e :: es) [] pos) (tP (eCall o g)) := pe_of (pe_callB hc hg hm hv ha hn hdb he hpl) (tCB_of hs)
theorem pd_callTy (hc : CallR X (.type T) r) (hs : CallS r o) (hg : Gl X x) (hm : X.mg x = none) (hv : bootBuiltins x = some (.type T)) (ha : PA X (e :: es) (tPA g)) (hn : x ≠ "__name__" := by decide) (hdb : (x == ("__debug__" : Str)) = false := by decide)
    (he : starEach (e :: es) X.env = (false, eval e X.env) :: starEach es X.env := by rfl) (hpl : (backTo pos (starEach es X.env)).any (·.1) = false := by rfl) : PE X (.Call (.Name x p) (e :: es) [] pos) (tP (eCall o g)) := pe_of (pe_callTy hc hg hm hv ha hn hdb he hpl) (tCB_of hs)
theorem pd_call {CX : CXT} {k n : Nat} {f : Addr} {fd : FuncData} {ps : List Str} {E : XK} (F : FnOk X.prog X.w X.K X.mg X.base CX k f fd ps (spF n o)) (hr : Room k X.A) (hg : Gl X x) (hm : X.mg x = some (.ref f)) (hk : PySem.W.keepIn X.K (.ref f) = true) (hb : Binds X.K fd ps []) (hx : Passes CX X E)
    (ha : PA X (e :: es) (tPA g)) (hl : ∀ ds l, g ds = some l → l.length = n) (hdb : (x == ("__debug__" : Str)) = false := by decide) (he : starEach (e :: es) X.env = (false, eval e X.env) :: starEach es X.env := by rfl) (hpl : (backTo pos (starEach es X.env)).any (·.1) = false := by rfl) :
    PE X (.Call (.Name x p) (e :: es) [] pos) (tP (eCall o g)) := pe_of (pe_call F hr hg hm hk hb .nil hx ha hdb he hpl) fun σ H Q ⟨M, ds, d, ok, s, e, q⟩ => by
  obtain ⟨l, e1, e2⟩ := bind_some e
  refine ⟨M, ds, l, ok, s, e1, fun vs H1 s1 r1 => ?_⟩
  show spF n o (vs ++ []) H1 Q E
  rw [List.append_nil]
  exact ⟨by rw [r1.length]; exact hl ds l e1, M, l, d, ok.same s1, r1, e2, fun v H2 s2 r2 => q v H2 (s1.trans s2) r2⟩
end
theorem es_len0 : ∀ ds l, esNil ds = some l → l.length = 0 := fun _ _ e => by cases e; rfl
theorem es_len {f : Sl → Option D} {g : Sl → Option (List D)} {n : Nat} (h : ∀ ds l, g ds = some l → l.length = n) : ∀ ds l, esCons f g ds = some l → l.length = n + 1 := fun ds l e => by
  obtain ⟨x, _, e⟩ := bind_some e
  obtain ⟨r, e2, e⟩ := bind_some e
  cases e
  rw [List.length_cons, h ds r e2]
end Pu

set_option Elab.async false
set_option linter.all false
set_option maxRecDepth 100000
set_option maxHeartbeats 2000000
set_option autoImplicit false
/-! Pu3: built-ins, isinstance, comprehensions, statements, defs. -/
namespace Pu
open PySem PySem.Spec PyProof.Rows L2

/-! ### built-ins by name -/
def oLen : List D → Option D
  | [.list a] => some (.int a.length)
  | [.tuple a] => some (.int a.length)
  | _ => none
def rLen (K : PySem.W.Frag) : List V → Hp → VK → Prop := fun xs H Q => ∃ p ys, xs = [.ref p] ∧ (SqL K H p ys ∨ SqT K H p ys) ∧ Q (.int ys.length) H
theorem cs_len {K : PySem.W.Frag} : CallS (rLen K) oLen := by
  intro M H vs l d Q ok r e q
  unfold oLen at e
  split at e
  · cases e
    cases r with
    | cons r1 r2 =>
      cases r2
      cases r1 with
      | lst e1 n1 r1 => exact ⟨_, _, rfl, .inl (SqL.of e1), by rw [r1.length]; exact q _ H (Same.refl H) (.int _)⟩
  · cases e
    cases r with
    | cons r1 r2 =>
      cases r2
      cases r1 with
      | tup e1 n1 r1 => exact ⟨_, _, rfl, .inr (SqT.of e1), by rw [r1.length]; exact q _ H (Same.refl H) (.int _)⟩
  · cases e
theorem cr_len {X : Cx} : CallR X (.builtin "len") (rLen X.K) := call_len_seq
def oList : List D → Option D
  | [.list a] => some (.list a)
  | [.tuple a] => some (.list a)
  | _ => none
def rList (K : PySem.W.Frag) : List V → Hp → VK → Prop := fun xs H Q => ∃ p ys, xs = [.ref p] ∧ (SqL K H p ys ∨ SqT K H p ys) ∧ ∀ l, H l = none → Q (.ref l) (upd H l (.lst ys))
theorem cs_list {K : PySem.W.Frag} : CallS (rList K) oList := by
  intro M H vs l d Q ok r e q
  unfold oList at e
  split at e
  · cases e
    cases r with
    | cons r1 r2 =>
      cases r2
      cases r1 with
      | lst e1 n1 r1 => exact ⟨_, _, rfl, .inl (SqL.of e1), fun p hp => q _ _ (new_lst ok hp r1).1 (new_lst ok hp r1).2⟩
  · cases e
    cases r with
    | cons r1 r2 =>
      cases r2
      cases r1 with
      | tup e1 n1 r1 => exact ⟨_, _, rfl, .inr (SqT.of e1), fun p hp => q _ _ (new_lst ok hp r1).1 (new_lst ok hp r1).2⟩
  · cases e
theorem cr_list {X : Cx} : CallR X (.type "list") (rList X.K) := call_list_of
def oTuple : List D → Option D
  | [.list a] => some (.tuple a)
  | [.tuple a] => some (.tuple a)
  | _ => none
def rTuple (K : PySem.W.Frag) : List V → Hp → VK → Prop := fun xs H Q => ∃ p ys, xs = [.ref p] ∧ ((SqL K H p ys ∧ ∀ l, H l = none → Q (.ref l) (upd H l (.tup ys))) ∨ (SqT K H p ys ∧ Q (.ref p) H))
theorem cs_tuple {K : PySem.W.Frag} : CallS (rTuple K) oTuple := by
  intro M H vs l d Q ok r e q
  unfold oTuple at e
  split at e
  · cases e
    cases r with
    | cons r1 r2 =>
      cases r2
      cases r1 with
      | lst e1 n1 r1 => exact ⟨_, _, rfl, .inl ⟨SqL.of e1, fun p hp => q _ _ (new_tup ok hp r1).1 (new_tup ok hp r1).2⟩⟩
  · cases e
    cases r with
    | cons r1 r2 =>
      cases r2
      cases r1 with
      | tup e1 n1 r1 => exact ⟨_, _, rfl, .inr ⟨SqT.of e1, q _ H (Same.refl H) (.tup e1 n1 r1)⟩⟩
  · cases e
theorem cr_tuple {X : Cx} : CallR X (.type "tuple") (rTuple X.K) := call_tuple_of
def oInt : List D → Option D
  | [.int a] => some (.int a)
  | [.bool b] => some (.int (if b then 1 else 0))
  | _ => none
def rInt : List V → Hp → VK → Prop := fun xs H Q => (∃ i, xs = [.int i] ∧ Q (.int i) H) ∨ ∃ k, xs = [.bl k] ∧ Q (.int (if k then 1 else 0)) H
theorem cs_int : CallS rInt oInt := by
  intro M H vs l d Q ok r e q
  unfold oInt at e
  split at e
  · cases e
    cases r with
    | cons r1 r2 => cases r2; cases r1; exact .inl ⟨_, rfl, q _ H (Same.refl H) (.int _)⟩
  · cases e
    cases r with
    | cons r1 r2 => cases r2; cases r1; exact .inr ⟨_, rfl, q _ H (Same.refl H) (.int _)⟩
  · cases e
theorem cr_int {X : Cx} : CallR X (.type "int") rInt := call_int1
def oMax : List D → Option D
  | [.int a, .int b] => some (.int (if b > a then b else a))
  | _ => none
def rMax2 : List V → Hp → VK → Prop := fun xs H Q => ∃ i j, xs = [.int i, .int j] ∧ Q (.int (if j > i then j else i)) H
theorem cs_max : CallS rMax2 oMax := by
  intro M H vs l d Q ok r e q
  unfold oMax at e
  split at e
  · cases e
    cases r with
    | cons r1 r2 =>
      cases r2 with
      | cons r2 r3 => cases r3; cases r1; cases r2; exact ⟨_, _, rfl, q _ H (Same.refl H) (.int _)⟩
  · cases e
theorem cr_max2 {X : Cx} (hc : X.calm = true) : CallR X (.builtin "max") rMax2 := call_max2 hc
def blsOf : List D → Option (List Bool)
  | [] => some []
  | .bool b :: r => (blsOf r).bind fun l => some (b :: l)
  | _ => none
theorem blsOf_map : ∀ {l : List D} {bs : List Bool}, blsOf l = some bs → l = bs.map .bool
  | [], _, e => by cases e; rfl
  | .bool b :: r, bs, e => by
    obtain ⟨l, e1, e2⟩ := bind_some e
    cases e2
    rw [blsOf_map e1]; rfl
  | .none :: _, _, e => by cases e
  | .int _ :: _, _, e => by cases e
  | .str _ :: _, _, e => by cases e
  | .list _ :: _, _, e => by cases e
  | .tuple _ :: _, _, e => by cases e
  | .dict _ :: _, _, e => by cases e
def oAll : List D → Option D
  | [.list a] => (blsOf a).bind fun bs => some (.bool (bs.all id))
  | _ => none
theorem cs_all {K : PySem.W.Frag} : CallS (rAll K) oAll := by
  intro M H vs l d Q ok r e q
  unfold oAll at e
  split at e
  · obtain ⟨bs, e1, e2⟩ := bind_some e
    cases e2
    have e3 := blsOf_map e1
    subst e3
    cases r with
    | cons r1 r2 =>
      cases r2
      cases r1 with
      | lst e1 n1 r1 =>
        have e4 := r1.bls
        subst e4
        exact ⟨_, bs, rfl, SqL.of e1, q _ H (Same.refl H) (.bl _)⟩
  · cases e
def intsOf : List D → Option (List Int)
  | [] => some []
  | .int b :: r => (intsOf r).bind fun l => some (b :: l)
  | _ => none
theorem intsOf_map : ∀ {l : List D} {bs : List Int}, intsOf l = some bs → l = bs.map .int
  | [], _, e => by cases e; rfl
  | .int b :: r, bs, e => by
    obtain ⟨l, e1, e2⟩ := bind_some e
    cases e2
    rw [intsOf_map e1]; rfl
  | .none :: _, _, e => by cases e
  | .bool _ :: _, _, e => by cases e
  | .str _ :: _, _, e => by cases e
  | .list _ :: _, _, e => by cases e
  | .tuple _ :: _, _, e => by cases e
  | .dict _ :: _, _, e => by cases e
theorem intsOf_ints (ns : List Int) : intsOf (ns.map .int) = some ns := by
  induction ns with
  | nil => rfl
  | cons n ns ih => show ((intsOf (ns.map .int)).bind fun l => some (n :: l)) = _; rw [ih]; rfl
theorem blsOf_bls (ns : List Bool) : blsOf (ns.map .bool) = some ns := by
  induction ns with
  | nil => rfl
  | cons n ns ih => show ((blsOf (ns.map .bool)).bind fun l => some (n :: l)) = _; rw [ih]; rfl
/-! sorted of ints -/
def isort (ns : List Int) : List Int := ns.mergeSort (fun a b => decide (a ≤ b))
theorem sorted_one : ∀ {a b : List Int}, a.Perm b → a.Pairwise (· ≤ ·) → b.Pairwise (· ≤ ·) → a = b := by
  intro a b p ha hb
  exact List.Perm.eq_of_pairwise (le := (· ≤ ·)) (fun x y _ _ h1 h2 => Int.le_antisymm h1 h2) ha hb p
theorem isort_perm (ns : List Int) : (isort ns).Perm ns := List.mergeSort_perm ns _
theorem isort_sorted (ns : List Int) : (isort ns).Pairwise (· ≤ ·) := by
  have h := List.pairwise_mergeSort (le := fun (a b : Int) => decide (a ≤ b)) (fun a b c h1 h2 => by simp at *; omega) (fun a b => by simp; omega) ns
  exact h.imp fun h => by simpa using h
theorem isort_eq {a b : List Int} (p : a.Perm b) (h : a.Pairwise (· ≤ ·)) : a = isort b := sorted_one (p.trans (isort_perm b).symm) h (isort_sorted b)
def oSorted : List D → Option D
  | [.list a] => (intsOf a).bind fun ns => some (.list ((isort ns).map .int))
  | _ => none
theorem cs_sorted {K : PySem.W.Frag} : CallS (rSortedI K) oSorted := by
  intro M H vs l d Q ok r e q
  unfold oSorted at e
  split at e
  · obtain ⟨bs, e1, e2⟩ := bind_some e
    cases e2
    have e3 := intsOf_map e1
    subst e3
    cases r with
    | cons r1 r2 =>
      cases r2
      cases r1 with
      | lst e1 n1 r1 =>
        have e4 := r1.ints
        subst e4
        refine ⟨_, bs, rfl, SqL.of e1, ?_⟩
        intro ns' p hq hs hp
        have e5 := isort_eq hq hs
        subst e5
        exact q _ _ (new_lst ok hp (RpAll.of_ints _)).1 (new_lst ok hp (RpAll.of_ints _)).2
  · cases e

/-! ### isinstance -/
def tyD : D → String
  | .none => "NoneType"
  | .bool _ => "bool"
  | .int _ => "int"
  | .str _ => "str"
  | .list _ => "list"
  | .tuple _ => "tuple"
  | .dict _ => "dict"
theorem tyx_of {K : PySem.W.Frag} {M : MS} {H : Hp} {v : V} {d : D} (r : Rp M H v d) : TyX K H v (.type (tyD d)) := by
  cases r with
  | non => exact .base .non
  | bl b => exact .base (.bl b)
  | int i => exact .base (.int i)
  | str x => exact .base (.str x)
  | lst e _ _ => exact .base (.lst e)
  | tup e _ _ => exact .base (.tup e)
def kOf (d : D) : Nat := match d with
  | .none => 0
  | .bool _ => 1
  | .int _ => 2
  | .str _ => 3
  | .list _ => 4
  | .tuple _ => 5
  | .dict _ => 6
/-- isinstance(x, T) for one built-in class T: told by the kind -/
def eIs (T : String) (f : Sl → Option D) : Sl → Option D := fun ds => (f ds).bind fun d => (kitB (tyD d) T).bind fun b => some (.bool b)
/-- isinstance(x, (T1, T2)) -/
def eIs2 (T U : String) (f : Sl → Option D) : Sl → Option D := fun ds => (f ds).bind fun d => (kitB (tyD d) T).bind fun b => (kitB (tyD d) U).bind fun c => some (.bool (b || c))
section
variable {X : Cx} {e c c2 : Expr} {f : Sl → Option D} {p pos p2 : Pos} {k : Nat} {T U : String}
theorem pd_isi (hg : Gl X "isinstance") (hm : X.mg "isinstance" = none) (he : PE X e (tP f)) (hc : PE X c (tC (.ty T)))
    (hs : starEach (e :: [c]) X.env = (false, eval e X.env) :: starEach [c] X.env := by rfl) (hs2 : starEach (c :: []) X.env = (false, eval c X.env) :: starEach [] X.env := by rfl) (hpl : (backTo pos (starEach [c] X.env)).any (·.1) = false := by rfl) :
    PE X (.Call (.Name "isinstance" p) [e, c] [] pos) (tP (eIs T f)) := pe_of (pe_callB call_isi hg hm (by decide +kernel) (pa_cons he (pa_cons hc pa_nil hs2) hs) (by decide) (by decide) hs hpl) fun σ H Q ⟨M, ds, d, ok, s, e, q⟩ => by
  obtain ⟨x, e1, e⟩ := bind_some e
  obtain ⟨b, e2, e⟩ := bind_some e
  cases e
  exact ⟨M, ds, x, ok, s, e1, fun v H1 s1 r1 => ⟨v, .ty T, .type (tyD x), .type T, b, rfl, .ty T, tyx_of r1, kit_ty e2, q _ H1 s1 (.bl b)⟩⟩
theorem pd_isi2 (hg : Gl X "isinstance") (hm : X.mg "isinstance" = none) (he : PE X e (tP f)) (hc : PE X c (tC (.ty T))) (hc2 : PE X c2 (tC (.ty U)))
    (hs : starEach (e :: [.Tuple [c, c2] k p2]) X.env = (false, eval e X.env) :: starEach [.Tuple [c, c2] k p2] X.env := by rfl) (hs2 : starEach (.Tuple [c, c2] k p2 :: []) X.env = (false, eval (.Tuple [c, c2] k p2) X.env) :: starEach [] X.env := by rfl)
    (hs3 : starEach (c :: [c2]) X.env = (false, eval c X.env) :: starEach [c2] X.env := by rfl) (hs4 : starEach (c2 :: []) X.env = (false, eval c2 X.env) :: starEach [] X.env := by rfl)
    (hpl : (backTo pos (starEach [.Tuple [c, c2] k p2] X.env)).any (·.1) = false := by rfl) :
    PE X (.Call (.Name "isinstance" p) [e, .Tuple [c, c2] k p2] [] pos) (tP (eIs2 T U f)) := pe_of (pe_callB call_isiT hg hm (by decide +kernel) (pa_cons he (pa_cons (pe_tup (pa_cons hc (pa_cons hc2 pa_nil hs4) hs3)) pa_nil hs2) hs) (by decide) (by decide) hs hpl) fun σ H Q ⟨M, ds, d, ok, s, e, q⟩ => by
  obtain ⟨x, e1, e⟩ := bind_some e
  obtain ⟨b, e2, e⟩ := bind_some e
  obtain ⟨b', e3, e⟩ := bind_some e
  cases e
  refine ⟨M, ds, x, ok, s, e1, fun v H1 s1 r1 => ⟨by show 2 ≤ sizeLine; rw [sizeLine_eq]; decide, fun tp htp => ?_⟩⟩
  have s2 := Same.new (o := .tup [.ty T, .ty U]) htp
  refine ⟨v, tp, [.ty T, .ty U], .type (tyD x), [.type T, .type U], b || b', rfl, upd_same, .cons (.ty T) (.cons (.ty U) .nil), tyx_of (r1.same s2), ?_, q _ _ (s1.trans s2) (.bl _)⟩
  refine kitAny_cons (kit_ty e2) (fun hb => ?_) (fun hb => by rw [hb]; rfl)
  subst hb
  refine kitAny_cons (kit_ty e3) (fun hb => ?_) (fun hb => by rw [hb]; rfl)
  subst hb
  exact kitAny_nil
end

/-! ### statements -/
inductive Out where
  | nx (ds : Sl)
  | rt (d : D)
  | bk (ds : Sl)
  | ct (ds : Sl)
abbrev S := Sl → Option Out
/-- what must hold of an end -/
def Aft (E : Ends) (M : MS) (H : Hp) : Out → Prop
  | .nx ds => ∀ σ H', Same H H' → SlD M H' σ ds → E.nx σ H'
  | .bk ds => ∀ σ H', Same H H' → SlD M H' σ ds → E.bk σ H'
  | .ct ds => ∀ σ H', Same H H' → SlD M H' σ ds → E.ct σ H'
  | .rt d => ∀ v H', Same H H' → Rp M H' v d → E.rt v H'
theorem Aft.same {E : Ends} {M : MS} {H H' : Hp} {o : Out} (h : Aft E M H o) (s : Same H H') : Aft E M H' o := by
  cases o <;> exact fun a H2 s2 r => h a H2 (s.trans s2) r
def tS (f : S) : TS := fun E σ H => ∃ (M : MS) (ds : Sl) (o : Out), Ok M H ∧ SlD M H σ ds ∧ f ds = some o ∧ Aft E M H o
def sNx : S := fun ds => some (.nx ds)
def sSeq (f g : S) : S := fun ds => (f ds).bind fun o => match o with
  | .nx ds' => g ds'
  | .rt d => some (.rt d)
  | .bk ds' => some (.bk ds')
  | .ct ds' => some (.ct ds')
def sIf (c : Sl → Option Bool) (f g : S) : S := fun ds => (c ds).bind fun b => if b = true then f ds else g ds
def sRet (f : Sl → Option D) : S := fun ds => (f ds).bind fun d => some (.rt d)
def sSet (i : Nat) (f : Sl → Option D) : S := fun ds => (f ds).bind fun d => some (.nx (ds.set i (some d)))
def sDrop (f : Sl → Option D) : S := fun ds => (f ds).bind fun _ => some (.nx ds)
def setAll : List Nat → List D → Sl → Option Sl
  | [], [], ds => some ds
  | i :: is, d :: l, ds => setAll is l (ds.set i (some d))
  | _, _, _ => none
/-- a, b, .. = e -/
def gTupD (is : List Nat) (d : D) (ds : Sl) : Option Sl := match d with
  | .tuple l => setAll is l ds
  | _ => none
def gNameD (i : Nat) (d : D) (ds : Sl) : Option Sl := some (ds.set i (some d))
def sUnp (is : List Nat) (f : Sl → Option D) : S := fun ds => (f ds).bind fun d => (gTupD is d ds).bind fun ds' => some (.nx ds')
def sNever : S := fun _ => none
section
variable {X : Cx} {st : Stmt} {rest : List Stmt} {e c : Expr} {a b : List Stmt} {f g : S} {h : Sl → Option D} {p : Sl → Option Bool} {pos : Pos}
theorem psd_nil : PSs X [] (tS sNx) := pss_of pss_nil fun E σ H ⟨M, ds, o, ok, s, e, q⟩ => by
  cases e
  exact q σ H (Same.refl H) s
theorem psd_cons (h1 : PS X st (tS f)) (h2 : PSs X rest (tS g)) : PSs X (st :: rest) (tS (sSeq f g)) := pss_of (pss_cons h1 h2) fun E σ H ⟨M, ds, o, ok, s, e, q⟩ => by
  obtain ⟨o1, e1, e2⟩ := bind_some e
  refine ⟨M, ds, o1, ok, s, e1, ?_⟩
  cases o1 with
  | nx ds' => exact fun σ' H' s' r => ⟨M, ds', o, ok.same s', r, e2, q.same s'⟩
  | rt d => cases e2; exact q
  | bk d => cases e2; exact q
  | ct d => cases e2; exact q
theorem psd_one (h1 : PS X st (tS f)) : PSs X [st] (tS f) := pss_one h1
theorem psd_pass : PS X (.Pass pos) (tS sNx) := ps_of ps_pass fun E σ H ⟨M, ds, o, ok, s, e, q⟩ => by
  cases e
  exact q σ H (Same.refl H) s
theorem psd_never : PS X st (tS sNever) := ps_of ps_never fun E σ H ⟨M, ds, o, ok, s, e, q⟩ => by cases e
theorem pssd_never : PSs X a (tS sNever) := pss_of pss_never fun E σ H ⟨M, ds, o, ok, s, e, q⟩ => by cases e
theorem psd_if (hc : PT X c (tPT p)) (ha : PSs X a (tS f)) (hb : PSs X b (tS g)) : PS X (.If c a b pos) (tS (sIf p f g)) := ps_of (ps_if hc ha hb) fun E σ H ⟨M, ds, o, ok, s, e, q⟩ => by
  obtain ⟨k, e1, e2⟩ := bind_some e
  refine ⟨M, ds, k, ok, s, e1, fun H1 s1 => ?_⟩
  cases k with
  | true =>
    rw [if_pos rfl] at e2 ⊢
    exact ⟨M, ds, o, ok.same s1, s.same s1, e2, q.same s1⟩
  | false =>
    rw [if_neg Bool.false_ne_true] at e2 ⊢
    exact ⟨M, ds, o, ok.same s1, s.same s1, e2, q.same s1⟩
theorem psd_ret (he : PE X e (tP h)) : PS X (.Return (some e) pos) (tS (sRet h)) := ps_of (ps_ret he) fun E σ H ⟨M, ds, o, ok, s, e, q⟩ => by
  obtain ⟨d, e1, e2⟩ := bind_some e
  cases e2
  exact ⟨M, ds, d, ok, s, e1, fun v H' s' r => q v H' s' r⟩
theorem psd_drop (he : PE X e (tP h)) (hs : swapsWith e none pos.line X.env = pure false := by rfl) : PS X (.Expr e pos) (tS (sDrop h)) := ps_of (ps_expr he hs) fun E σ H ⟨M, ds, o, ok, s, e, q⟩ => by
  obtain ⟨d, e1, e2⟩ := bind_some e
  cases e2
  exact ⟨M, ds, d, ok, s, e1, fun v H' s' r => q σ H' s' (s.same s')⟩
theorem psd_doc {x : Str} {j : Nat} {p1 : Pos} : PS X (.Expr (.Constant (.str x) j p1) pos) (tS sNx) := ps_of ps_doc fun E σ H ⟨M, ds, o, ok, s, e, q⟩ => by
  cases e
  exact q σ H (Same.refl H) s
theorem asg_of {i : Nat} : ∀ E σ H, tS (sSet i h) E σ H → tAsg (tP h) (gName i) E σ H := fun E σ H ⟨M, ds, o, ok, s, e, q⟩ => by
  obtain ⟨d, e1, e2⟩ := bind_some e
  cases e2
  exact ⟨M, ds, d, ok, s, e1, fun v H' s' r => q _ H' s' ((s.same s').set i r)⟩
theorem psd_set {i : Nat} {x : Str} {pos' : Pos} (hN : X.N.Nodup) (hi : X.N[i]? = some x) (hx : Loc X.env.scope x) (he : PE X e (tP h)) (hs : swapsWith e (some (.Name x pos')) pos.line X.env = pure false := by rfl) (hf : X.fn x = true ∨ X.env.scope.names.lookup x = some .local := by first | exact .inl rfl | exact .inr rfl | assumption) :
    PS X (.Assign [.Name x pos'] e pos) (tS (sSet i h)) := ps_of (ps_set hN hi hx he hs hf) asg_of
end
/-- targets -/
def PGD (X : Cx) (tg : Expr) (g : TG) (G : D → Sl → Option Sl) : Prop := PG X tg g ∧ ∀ (M : MS) (H : Hp) (σ : St) (ds ds' : Sl) (v : V) (d : D) (Q : St → Hp → Prop), Ok M H → SlD M H σ ds → Rp M H v d → G d ds = some ds' → (∀ σ' , SlD M H σ' ds' → Q σ' H) → g v σ H Q
def TgsD (g : TGs) (is : List Nat) : Prop := ∀ (M : MS) (H : Hp) (σ : St) (ds ds' : Sl) (vs : List V) (l : List D) (Q : St → Hp → Prop), SlD M H σ ds → RpAll M H vs l → setAll is l ds = some ds' → (∀ σ' , SlD M H σ' ds' → Q σ' H) → g vs σ H Q
theorem tgs_nil : TgsD gNil [] := fun M H σ ds ds' vs l Q s r e q => by
  cases l with
  | nil => cases r; cases e; exact ⟨rfl, q σ s⟩
  | cons => cases e
theorem tgs_cons {i : Nat} {is : List Nat} {u : TGs} (h : TgsD u is) : TgsD (gCons (gName i) u) (i :: is) := fun M H σ ds ds' vs l Q s r e q => by
  cases l with
  | nil => cases e
  | cons d l =>
    cases r with
    | cons r1 r2 => exact ⟨_, _, rfl, h M H _ _ ds' _ l Q (s.set i r1) r2 e q⟩
theorem setAll_len : ∀ {is : List Nat} {l : List D} {ds ds' : Sl}, setAll is l ds = some ds' → l.length = is.length
  | [], [], _, _, _ => rfl
  | i :: is, d :: l, ds, ds', e => by rw [List.length_cons, List.length_cons, setAll_len (is := is) e]
  | [], _ :: _, _, _, e => by cases e
  | _ :: _, [], _, _, e => by cases e
section
variable {X : Cx} {e tg : Expr} {es : List Expr} {h : Sl → Option D} {g : TG} {G : D → Sl → Option Sl} {pos : Pos}
theorem pgd_name {i : Nat} {x : Str} (hN : X.N.Nodup) (hi : X.N[i]? = some x) (hx : Loc X.env.scope x) (hf : X.fn x = true ∨ X.env.scope.names.lookup x = some .local := by first | exact .inl rfl | exact .inr rfl | assumption) : PGD X (.Name x pos) (gName i) (gNameD i) :=
  ⟨pg_name hN hi hx hf, fun M H σ ds ds' v d Q ok s r e q => by cases e; exact q _ (s.set i r)⟩
theorem pgd_tup {k n : Nat} {u : TGs} {is : List Nat} (hc : X.calm = true) (hp : PGs X es u) (hu : TgsD u is) (hl : is.length = n) (hn : (assignEach es X.env).length = n := by rfl) (hst : (assignEach es X.env).findIdx? (·.1) = none := by rfl) : PGD X (.Tuple es k pos) (gTup X.K n u) (gTupD is) :=
  ⟨pg_tup hc hp hn hst, fun M H σ ds ds' v d Q ok s r e q => by
    cases r with
    | tup e1 n1 r1 => exact ⟨_, _, rfl, SqT.of e1, by rw [r1.length, setAll_len e, hl], hu M H σ ds ds' _ _ Q s r1 e q⟩
    | _ => cases e⟩
theorem psd_unp {is : List Nat} (he : PE X e (tP h)) (hg : PGD X tg g (gTupD is)) (hs : swapsWithSole [tg] e pos.line X.env = pure false := by rfl) (hw : swappedStores [tg] e X.env = pure none := by rfl)
    (h1 : (assignEach [tg] X.env).map (·.2) = [assign tg X.env] := by rfl) : PS X (.Assign [tg] e pos) (tS (sUnp is h)) := ps_of (ps_asg he hg.1 hs hw h1) fun E σ H ⟨M, ds, o, ok, s, e, q⟩ => by
  obtain ⟨d, e1, e2⟩ := bind_some e
  obtain ⟨ds', e3, e4⟩ := bind_some e2
  cases e4
  exact ⟨M, ds, d, ok, s, e1, fun v H' s' r => hg.2 M H' σ ds ds' v d _ (ok.same s') (s.same s') r e3 fun σ' r' => q σ' H' s' r'⟩
end

/-! ### loops and comprehensions -/
def itemsD : D → Option (List D)
  | .list l => some l
  | .tuple l => some l
  | _ => none
def eItems (f : Sl → Option D) : Sl → Option (List D) := fun ds => (f ds).bind itemsD
/-- range(n) -/
def rngD (n : Int) : List D := (List.range n.toNat).map fun (i : Nat) => .int i
def eRng (f : Sl → Option D) : Sl → Option (List D) := fun ds => (f ds).bind fun d => match d with
  | .int n => if n ≤ 1000000 ∧ -1000000 ≤ n then some (rngD n) else none
  | _ => none
def loopD (G : D → Sl → Option Sl) (f : S) : List D → S
  | [], ds => some (.nx ds)
  | d :: l, ds => (G d ds).bind fun ds1 => (f ds1).bind fun o => match o with
    | .nx ds2 => loopD G f l ds2
    | .ct ds2 => loopD G f l ds2
    | .bk ds2 => some (.nx ds2)
    | .rt r => some (.rt r)
def sFor (it : Sl → Option (List D)) (G : D → Sl → Option Sl) (f : S) : S := fun ds => (it ds).bind fun l => loopD G f l ds
/-- one turn of a loop -/
theorem loop_turn {E : Ends} {M : MS} {H0 H : Hp} {G : D → Sl → Option Sl} {f : S} {g : TG} {l : List D} {o : Out} {i : Nat} {d : D} {v : V} {σ : St} {ds : Sl} {Pv : Nat → St → Hp → Prop}
    (hP : ∀ j σ H, (∃ ds, SlD M H σ ds ∧ Same H0 H ∧ loopD G f (l.drop j) ds = some o) → Pv j σ H) (hg : ∀ (H : Hp) (σ : St) (ds ds' : Sl) (v : V) (d : D) (Q : St → Hp → Prop), Ok M H → SlD M H σ ds → Rp M H v d → G d ds = some ds' → (∀ σ' , SlD M H σ' ds' → Q σ' H) → g v σ H Q)
    (ok : Ok M H0) (q : Aft E M H0 o) (hd : l[i]? = some d) (s : SlD M H σ ds) (hs : Same H0 H) (e : loopD G f (l.drop i) ds = some o) (r : Rp M H v d) :
    g v σ H fun σ2 H2 => tS f { E with nx := Pv (i + 1), ct := Pv (i + 1), bk := E.nx } σ2 H2 := by
  have hi : i < l.length := (List.getElem?_eq_some_iff.mp hd).1
  have e0 : l.drop i = d :: l.drop (i + 1) := by
    rw [List.drop_eq_getElem_cons hi, (List.getElem?_eq_some_iff.mp hd).2]
  rw [e0] at e
  obtain ⟨ds1, e1, e2⟩ := bind_some e
  obtain ⟨o1, e3, e4⟩ := bind_some e2
  refine hg H σ ds ds1 v d _ (ok.same hs) s r e1 fun σ' s' => ⟨M, ds1, o1, ok.same hs, s', e3, ?_⟩
  cases o1 with
  | nx ds2 => exact fun σ3 H3 s3 r3 => hP _ _ _ ⟨ds2, r3, hs.trans s3, e4⟩
  | ct ds2 => exact fun σ3 H3 s3 r3 => hP _ _ _ ⟨ds2, r3, hs.trans s3, e4⟩
  | bk ds2 => cases e4; exact fun σ3 H3 s3 r3 => q σ3 H3 (hs.trans s3) r3
  | rt d2 => cases e4; exact fun σ3 H3 s3 r3 => q σ3 H3 (hs.trans s3) r3
theorem loop_end {E : Ends} {M : MS} {H0 H : Hp} {G : D → Sl → Option Sl} {f : S} {l : List D} {o : Out} {σ : St} (q : Aft E M H0 o) (n : Nat) (hn : n = l.length) (p : ∃ ds, SlD M H σ ds ∧ Same H0 H ∧ loopD G f (l.drop n) ds = some o) : E.nx σ H := by
  obtain ⟨ds, s, hs, e⟩ := p
  subst hn
  rw [List.drop_length] at e
  cases e
  exact q σ H hs s
def iSeq (K : PySem.W.Frag) (f : Sl → Option D) : TI := fun σ H R => iList K (tP f) σ H R ∨ iTup K (tP f) σ H R
section
variable {X : Cx} {tg iter : Expr} {body : List Stmt} {f : S} {h : Sl → Option D} {g : TG} {G : D → Sl → Option Sl} {pos p : Pos}
theorem pi_seq (he : PE X iter (tP h)) : PI X tg iter (iSeq X.K h) := ⟨fun pins s σ H R I q => q.elim (fun q => (pi_list he).run pins s σ H R I q) fun q => (pi_tup he).run pins s σ H R I q⟩
theorem rpAll_at {M : MS} {H : Hp} {xs : List V} {l : List D} (r : RpAll M H xs l) {i : Nat} {x : V} (h : xs[i]? = some x) : ∃ d, l[i]? = some d ∧ Rp M H x d := r.get' h
theorem psd_for (he : PE X iter (tP h)) (hg : PGD X tg g G) (hb : PSs X body (tS f)) (hc : X.calm = true := by rfl) (hp : PassesOwn (model X.prog X.w) X.A X.env X.xe := by exact PassesOwn.never) (hs : ∀ x, foldedSetIterable iter X.env x = pure x := by intro _; rfl) :
    PS X (.For tg iter body [] pos) (tS (sFor (eItems h) G f)) := ps_of (ps_for hp hc (pi_seq he) hg.1 hb hs) fun E σ H ⟨M, ds, o, ok, s, e, q⟩ => by
  obtain ⟨l, e1, e2⟩ := bind_some e
  obtain ⟨d, e3, e4⟩ := bind_some e1
  unfold itemsD at e4
  split at e4
  · cases e4
    refine .inl ⟨M, ds, _, ok, s, e3, fun v H1 s1 r1 => ?_⟩
    cases r1 with
    | lst a1 n1 r1 =>
      have q1 := q.same s1
      have ok1 := ok.same s1
      refine ⟨_, rfl, ⟨_, SqL.of a1⟩, for_list (fun i σ' H' => ∃ ds', SlD M H' σ' ds' ∧ Same H1 H' ∧ loopD G f (l.drop i) ds' = some o) ⟨ds, s.same s1, Same.refl H1, e2⟩ (fun i σ' H' _ ⟨ds', s', hs, _⟩ => SqL.of (hs _ _ a1)) (fun i x σ' H' hx ⟨ds', s', hs, e'⟩ => ?_) (fun σ' H' p => loop_end q1 _ r1.length p)⟩
      obtain ⟨d, hd, r⟩ := r1.get' hx
      exact loop_turn (E := E) (fun _ _ _ z => z) (hg.2 M) ok1 q1 hd s' hs e' (r.same hs)
  · cases e4
    refine .inr ⟨M, ds, _, ok, s, e3, fun v H1 s1 r1 => ?_⟩
    cases r1 with
    | tup a1 n1 r1 =>
      have q1 := q.same s1
      have ok1 := ok.same s1
      refine ⟨_, rfl, ⟨_, SqT.of a1⟩, for_tup (fun i σ' H' => ∃ ds', SlD M H' σ' ds' ∧ Same H1 H' ∧ loopD G f (l.drop i) ds' = some o) ⟨ds, s.same s1, Same.refl H1, e2⟩ (fun i σ' H' _ ⟨ds', s', hs, _⟩ => SqT.of (hs _ _ a1)) (fun i x σ' H' hx ⟨ds', s', hs, e'⟩ => ?_) (fun σ' H' p => loop_end q1 _ r1.length p)⟩
      obtain ⟨d, hd, r⟩ := r1.get' hx
      exact loop_turn (E := E) (fun _ _ _ z => z) (hg.2 M) ok1 q1 hd s' hs e' (r.same hs)
  · cases e4
theorem rngD_length (n : Int) : (rngD n).length = n.toNat := by unfold rngD; rw [List.length_map, List.length_range]
theorem rngD_get {n : Int} {i : Nat} (h : i < n.toNat) : (rngD n)[i]? = some (.int (i : Int)) := by
  unfold rngD
  rw [List.getElem?_map, List.getElem?_range h]
  rfl
theorem ints1 {M : MS} {H : Hp} {vs : List V} {n : Int} (r : RpAll M H vs [.int n]) : vs = [.int n] := r.ints (ns := [n])
theorem psd_forR {n : Expr} {pos2 : Pos} (hgl : Gl X "range") (hm : X.mg "range" = none) (he : PE X n (tP h)) (hg : PGD X tg g G) (hb : PSs X body (tS f)) (hc : X.calm = true := by rfl) (hp : PassesOwn (model X.prog X.w) X.A X.env X.xe := by exact PassesOwn.never)
    (ha1 : starEach (n :: []) X.env = (false, eval n X.env) :: starEach [] X.env := by rfl) (hr : starEach [n] X.env = [(false, eval n X.env)] := by rfl) (hs : ∀ x, foldedSetIterable (.Call (.Name "range" p) [n] [] pos) X.env x = pure x := by intro _; rfl) :
    PS X (.For tg (.Call (.Name "range" p) [n] [] pos) body [] pos2) (tS (sFor (eRng h) G f)) := ps_of (ps_for hp hc (pi_range1 hgl hm (pa_cons he pa_nil ha1) hr) hg.1 hb hs) fun E σ H ⟨M, ds, o, ok, s, e, q⟩ => by
  obtain ⟨l, e1, e2⟩ := bind_some e
  obtain ⟨d, e3, e4⟩ := bind_some e1
  split at e4
  · split at e4
    · rename_i k hk
      cases e4
      refine ⟨M, ds, _, ok, s, e3, fun v H1 s1 r1 => ?_⟩
      cases r1
      have q1 := q.same s1
      have ok1 := ok.same s1
      refine ⟨_, rfl, by omega, by omega, for_range (lo := 0) (n := k.toNat) (fun i σ' H' => ∃ ds', SlD M H' σ' ds' ∧ Same H1 H' ∧ loopD G f ((rngD k).drop i) ds' = some o) ⟨ds, s.same s1, Same.refl H1, e2⟩ (fun i σ' H' hi ⟨ds', s', hs, e'⟩ => ?_) (fun σ' H' p => loop_end q1 _ (rngD_length k).symm p)⟩
      rw [Int.zero_add]
      exact loop_turn (E := E) (fun _ _ _ z => z) (hg.2 M) ok1 q1 (rngD_get hi) s' hs e' (.int _)
    · cases e4
  · cases e4
end
/-- [e for x in l if c] -/
def lcD (i : Nat) (c : Sl → Option Bool) (e : Sl → Option D) : List D → Sl → Option (List D)
  | [], _ => some []
  | d :: l, ds => (c (ds.set i (some d))).bind fun b => if b = true then (e (ds.set i (some d))).bind fun y => (lcD i c e l ds).bind fun r => some (y :: r) else lcD i c e l ds
def bYes : Sl → Option Bool := fun _ => some true
def eLc (i : Nat) (it : Sl → Option (List D)) (c : Sl → Option Bool) (e : Sl → Option D) : Sl → Option D := fun ds => (it ds).bind fun l => if l.length ≤ lim then (lcD i c e l (ds.set i none)).bind fun r => some (.list r) else none
structure LcI (M : MS) (H1 : Hp) (Dl : Addr) (i : Nat) (c : Sl → Option Bool) (e : Sl → Option D) (ds : Sl) (l : List D) (r : List D) (j : Nat) (H : Hp) : Prop where
  ex : ∃ acc dacc rest, H Dl = some (.lst acc) ∧ RpAll (fun a => M a ∨ a = Dl) H acc dacc ∧ acc.length ≤ j ∧ lcD i c e (l.drop j) (ds.set i none) = some rest ∧ r = dacc ++ rest
  sm : Same H1 H
theorem set_set3 {α : Type} (l : List α) (i : Nat) (a b : α) : (l.set i a).set i b = l.set i b := by simp
theorem lc_turn {M : MS} {H1 H : Hp} {Dl : Addr} {i : Nat} {c : Sl → Option Bool} {e : Sl → Option D} {ds : Sl} {l r : List D} {j : Nat} {σ : St} {d : D} {v : V} (ok : Ok M H1) (hD : H1 Dl = none) (s : SlD M H1 σ ds) (I : LcI M H1 Dl i c e ds l r j H) (hd : l[j]? = some d) (hz : l.length ≤ lim) (rv : Rp M H1 v d) :
    gName i v (wipe σ [i]) H fun σ2 H2 => wipe σ2 [i] = wipe σ [i] ∧ tPT c σ2 H2 fun b H3 =>
      if b = true then tP e σ2 H3 fun y H4 => ∃ acc, H4 Dl = some (.lst acc) ∧ acc.length < sizeLine ∧ LcI M H1 Dl i c e ds l r (j + 1) (upd H4 Dl (.lst (acc ++ [y]))) else LcI M H1 Dl i c e ds l r (j + 1) H3 := by
  obtain ⟨⟨acc, dacc, rest, h1, h2, h3, h4, h5⟩, sm⟩ := I
  have hi : j < l.length := (List.getElem?_eq_some_iff.mp hd).1
  have e0 : l.drop j = d :: l.drop (j + 1) := by
    rw [List.drop_eq_getElem_cons hi, (List.getElem?_eq_some_iff.mp hd).2]
  rw [e0] at h4
  obtain ⟨b, e1, e2⟩ := bind_some h4
  have okD : ∀ {H' : Hp}, Same H H' → Ok (fun a => M a ∨ a = Dl) H' := fun {H'} s' a m => by
    rcases m with m | rfl
    · exact (ok.same (sm.trans s')) a m
    · rw [s' _ _ h1]; simp
  have frame : ∀ a o, ¬ M a → H1 a = some o → ¬ (M a ∨ a = Dl) ∧ H a = some o := fun a o n q => ⟨fun z => z.elim n fun z => (by rw [z, hD] at q; cases q), sm a o q⟩
  have sD : SlD (fun a => M a ∨ a = Dl) H ((wipe σ [i]).set i (some v)) ((ds.set i none).set i (some d)) := by
    have z := ((s.unset i none).mono frame).set i (rv.mono frame d v)
    exact z
  refine ⟨?_, _, _, b, okD (Same.refl H), sD, e1, fun H3 s3 => ?_⟩
  · show ((σ.set i none).set i (some v)).set i none = σ.set i none
    rw [set_set3, set_set3]
  · cases b with
    | false =>
      rw [if_neg Bool.false_ne_true] at e2 ⊢
      exact ⟨⟨acc, dacc, rest, s3 _ _ h1, h2.same s3, by omega, e2, h5⟩, sm.trans s3⟩
    | true =>
      rw [if_pos rfl] at e2 ⊢
      obtain ⟨y, e3, e4⟩ := bind_some e2
      obtain ⟨r', e5, e6⟩ := bind_some e4
      cases e6
      refine ⟨_, _, y, okD s3, sD.same s3, e3, fun w H4 s4 rw_ => ?_⟩
      have s34 := s3.trans s4
      have fr : ∀ a o, ¬ (M a ∨ a = Dl) → H4 a = some o → ¬ (M a ∨ a = Dl) ∧ (upd H4 Dl (.lst (acc ++ [w]))) a = some o := fun a o n q => ⟨n, by rw [upd_ne fun z => n (.inr z)]; exact q⟩
      refine ⟨acc, s34 _ _ h1, Nat.lt_of_lt_of_le (by omega : acc.length < lim) lim_le, ⟨acc ++ [w], dacc ++ [y], r', upd_same, ((h2.same s34).snoc rw_).mono fr _ _, by rw [List.length_append]; simp; omega, e5, by rw [h5, List.append_assoc]; rfl⟩, fun a o q => ?_⟩
      rw [upd_ne (ne_of_none q hD)]
      exact s34 _ _ (sm _ _ q)
theorem lc_fin {M : MS} {H1 H : Hp} {Dl : Addr} {i n : Nat} {c : Sl → Option Bool} {e : Sl → Option D} {ds : Sl} {l r : List D} (hn : n = l.length) (ok : Ok M H1) (hD : H1 Dl = none) (I : LcI M H1 Dl i c e ds l r n H) : Same H1 H ∧ Rp M H (.ref Dl) (.list r) := by
  obtain ⟨⟨acc, dacc, rest, h1, h2, h3, h4, h5⟩, sm⟩ := I
  subst hn
  rw [List.drop_length] at h4
  cases h4
  rw [List.append_nil] at h5
  subst h5
  exact ⟨sm, .lst h1 (fun m => ok Dl m hD) (h2.mono (fun a o n q => ⟨fun z => n (.inl z), q⟩) _ _)⟩
section
variable {X : Cx} {elt tg iter : Expr} {ifs : List Expr} {scope : Scope} {own : List (Str × Nat)} {pos p pos2 : Pos} {i : Nat} {h e : Sl → Option D} {c : Sl → Option Bool}
theorem lc_seq_of {vs : List Nat} (hv : vs = [i]) : ∀ σ H Q, tP (eLc i (eItems h) c e) σ H Q → tLc (iSeq X.K h) (gName i) (tPT c) (tP e) vs σ H Q := fun σ H Q ⟨M, ds, d, ok, s, e0, q⟩ => by
  subst hv
  obtain ⟨l, e1, e2⟩ := bind_some e0
  obtain ⟨d0, e3, e4⟩ := bind_some e1
  split at e2
  · rename_i hz
    obtain ⟨r, e5, e6⟩ := bind_some e2
    cases e6
    unfold itemsD at e4
    split at e4
    · cases e4
      refine .inl ⟨M, ds, _, ok, s, e3, fun v H1 s1 r1 => ?_⟩
      cases r1 with
      | lst a1 n1 r1 =>
        refine ⟨_, rfl, ⟨_, SqL.of a1⟩, fun Dl hD => lc_list (LcI M H1 Dl i c e ds l r) ⟨⟨[], [], r, upd_same, .nil, Nat.zero_le _, e5, rfl⟩, Same.new hD⟩ (fun j H' _ I => SqL.of (I.sm _ _ a1)) (fun j x H' hx I => ?_) (fun H' I => ?_)⟩
        · obtain ⟨d, hd, rx⟩ := r1.get' hx
          exact lc_turn (ok.same s1) hD (s.same s1) I hd hz rx
        · have z := lc_fin r1.length (ok.same s1) hD I
          exact q _ H' (s1.trans z.1) z.2
    · cases e4
      refine .inr ⟨M, ds, _, ok, s, e3, fun v H1 s1 r1 => ?_⟩
      cases r1 with
      | tup a1 n1 r1 =>
        refine ⟨_, rfl, ⟨_, SqT.of a1⟩, fun Dl hD => lc_tup (LcI M H1 Dl i c e ds l r) ⟨⟨[], [], r, upd_same, .nil, Nat.zero_le _, e5, rfl⟩, Same.new hD⟩ (fun j H' _ I => SqT.of (I.sm _ _ a1)) (fun j x H' hx I => ?_) (fun H' I => ?_)⟩
        · obtain ⟨d, hd, rx⟩ := r1.get' hx
          exact lc_turn (ok.same s1) hD (s.same s1) I hd hz rx
        · have z := lc_fin r1.length (ok.same s1) hD I
          exact q _ H' (s1.trans z.1) z.2
    · cases e4
  · cases e2
theorem lc_rng_of {vs : List Nat} (hv : vs = [i]) : ∀ σ H Q, tP (eLc i (eRng h) c e) σ H Q → tLc (iRng1 (tCons (tP h) tNil)) (gName i) (tPT c) (tP e) vs σ H Q := fun σ H Q ⟨M, ds, d, ok, s, e0, q⟩ => by
  subst hv
  obtain ⟨l, e1, e2⟩ := bind_some e0
  obtain ⟨d0, e3, e4⟩ := bind_some e1
  split at e2
  · rename_i hz
    obtain ⟨r, e5, e6⟩ := bind_some e2
    cases e6
    split at e4
    · split at e4
      · rename_i k hk
        cases e4
        refine ⟨M, ds, _, ok, s, e3, fun v H1 s1 r1 => ?_⟩
        cases r1
        refine ⟨_, rfl, by omega, by omega, fun Dl hD => lc_range (lo := 0) (n := k.toNat) (LcI M H1 Dl i c e ds (rngD k) r) ⟨⟨[], [], r, upd_same, .nil, Nat.zero_le _, e5, rfl⟩, Same.new hD⟩ (fun j H' hj I => ?_) (fun H' I => ?_)⟩
        · rw [Int.zero_add]
          exact lc_turn (ok.same s1) hD (s.same s1) I (rngD_get hj) hz (.int _)
        · have z := lc_fin (rngD_length k).symm (ok.same s1) hD I
          exact q _ H' (s1.trans z.1) z.2
      · cases e4
    · cases e4
  · cases e2
theorem ptsd_nil : PTs X [] (tPT bYes) := ⟨fun pins s σ H Q I ⟨M, ds, b, ok, sl, e, q⟩ => pts_nil.run pins s σ H Q I (by cases e; exact q H (Same.refl H))⟩
theorem pd_lc (hc : X.calm = true) (hN : X.N.Nodup) (hi : PE X iter (tP h)) (ok : BlkOk X.N X.env.scope scope own)
    (hg : ∀ (s : Shared) (H : Hp) (C : Addr) (cl : List (Str × Addr)) (fp : List Addr), PG (X.blk s H scope (compEnvC scope cl C X.env) fp) tg (gName i)) (ht : ∀ (s : Shared) (H : Hp) (C : Addr) (cl : List (Str × Addr)) (fp : List Addr), PTs (X.blk s H scope (compEnvC scope cl C X.env) fp) ifs (tPT c))
    (he : ∀ (s : Shared) (H : Hp) (C : Addr) (cl : List (Str × Addr)) (fp : List Addr), PE (X.blk s H scope (compEnvC scope cl C X.env) fp) elt (tP e)) (hv : own.map (·.2) = [i] := by rfl) (hs : ∀ x, foldedSetIterable iter X.env x = pure x := by intro _; rfl) :
    PE X (.ListComp elt [⟨tg, iter, ifs, 0⟩] scope pos) (tP (eLc i (eItems h) c e)) := pe_of (pe_lc hc hN (pi_seq hi) ok hg ht he hs) (lc_seq_of hv)
theorem pd_lcR {n : Expr} (hgl : Gl X "range") (hm : X.mg "range" = none) (hc : X.calm = true) (hN : X.N.Nodup) (hi : PE X n (tP h)) (ok : BlkOk X.N X.env.scope scope own)
    (hg : ∀ (s : Shared) (H : Hp) (C : Addr) (cl : List (Str × Addr)) (fp : List Addr), PG (X.blk s H scope (compEnvC scope cl C X.env) fp) tg (gName i)) (ht : ∀ (s : Shared) (H : Hp) (C : Addr) (cl : List (Str × Addr)) (fp : List Addr), PTs (X.blk s H scope (compEnvC scope cl C X.env) fp) ifs (tPT c))
    (he : ∀ (s : Shared) (H : Hp) (C : Addr) (cl : List (Str × Addr)) (fp : List Addr), PE (X.blk s H scope (compEnvC scope cl C X.env) fp) elt (tP e)) (hv : own.map (·.2) = [i] := by rfl)
    (ha1 : starEach (n :: []) X.env = (false, eval n X.env) :: starEach [] X.env := by rfl) (hr : starEach [n] X.env = [(false, eval n X.env)] := by rfl) (hs : ∀ x, foldedSetIterable (.Call (.Name "range" p) [n] [] pos) X.env x = pure x := by intro _; rfl) :
    PE X (.ListComp elt [⟨tg, .Call (.Name "range" p) [n] [] pos, ifs, 0⟩] scope pos2) (tP (eLc i (eRng h) c e)) := pe_of (pe_lc hc hN (pi_range1 hgl hm (pa_cons hi pa_nil ha1) hr) ok hg ht he hs) (lc_rng_of hv)
/-- y = [..] -/
theorem psd_setLc {j : Nat} {y : Str} {py spos : Pos} (hc : X.calm = true) (hN : X.N.Nodup) (hy : X.N[j]? = some y) (hyl : X.env.scope.names.lookup y = some .local)
    (hsw : swapsWith (.ListComp elt [⟨tg, iter, ifs, 0⟩] scope pos) (some (.Name y py)) spos.line X.env = pure true) (hi : PE X iter (tP h)) (ok : BlkOk X.N X.env.scope scope own)
    (hg : ∀ (s : Shared) (H : Hp) (C : Addr) (cl : List (Str × Addr)) (fp : List Addr), PG (X.blk s H scope (compEnvC scope cl C X.env) fp) tg (gName i)) (ht : ∀ (s : Shared) (H : Hp) (C : Addr) (cl : List (Str × Addr)) (fp : List Addr), PTs (X.blk s H scope (compEnvC scope cl C X.env) fp) ifs (tPT c))
    (he : ∀ (s : Shared) (H : Hp) (C : Addr) (cl : List (Str × Addr)) (fp : List Addr), PE (X.blk s H scope (compEnvC scope cl C X.env) fp) elt (tP e)) (hv : own.map (·.2) = [i] := by rfl) (hs : ∀ x, foldedSetIterable iter X.env x = pure x := by intro _; rfl) :
    PS X (.Assign [.Name y py] (.ListComp elt [⟨tg, iter, ifs, 0⟩] scope pos) spos) (tS (sSet j (eLc i (eItems h) c e))) := ps_of (ps_setLc hc hN hy hyl hsw (pi_seq hi) ok hg ht he hs) fun E σ H q => by
  have z := asg_of E σ H q
  exact lc_seq_of hv σ H _ z
theorem psd_setLcR {j : Nat} {y : Str} {py spos : Pos} {n : Expr} (hgl : Gl X "range") (hm : X.mg "range" = none) (hc : X.calm = true) (hN : X.N.Nodup) (hy : X.N[j]? = some y) (hyl : X.env.scope.names.lookup y = some .local)
    (hsw : swapsWith (.ListComp elt [⟨tg, .Call (.Name "range" p) [n] [] pos, ifs, 0⟩] scope pos2) (some (.Name y py)) spos.line X.env = pure true) (hi : PE X n (tP h)) (ok : BlkOk X.N X.env.scope scope own)
    (hg : ∀ (s : Shared) (H : Hp) (C : Addr) (cl : List (Str × Addr)) (fp : List Addr), PG (X.blk s H scope (compEnvC scope cl C X.env) fp) tg (gName i)) (ht : ∀ (s : Shared) (H : Hp) (C : Addr) (cl : List (Str × Addr)) (fp : List Addr), PTs (X.blk s H scope (compEnvC scope cl C X.env) fp) ifs (tPT c))
    (he : ∀ (s : Shared) (H : Hp) (C : Addr) (cl : List (Str × Addr)) (fp : List Addr), PE (X.blk s H scope (compEnvC scope cl C X.env) fp) elt (tP e)) (hv : own.map (·.2) = [i] := by rfl)
    (ha1 : starEach (n :: []) X.env = (false, eval n X.env) :: starEach [] X.env := by rfl) (hr : starEach [n] X.env = [(false, eval n X.env)] := by rfl) (hs : ∀ x, foldedSetIterable (.Call (.Name "range" p) [n] [] pos) X.env x = pure x := by intro _; rfl) :
    PS X (.Assign [.Name y py] (.ListComp elt [⟨tg, .Call (.Name "range" p) [n] [] pos, ifs, 0⟩] scope pos2) spos) (tS (sSet j (eLc i (eRng h) c e))) := ps_of (ps_setLc hc hN hy hyl hsw (pi_range1 hgl hm (pa_cons hi pa_nil ha1) hr) ok hg ht he hs) fun E σ H q => by
  have z := asg_of E σ H q
  exact lc_rng_of hv σ H _ z
end

/-! ### a def -/
/-- a body's value from its arguments; n names -/
def runF (n : Nat) (f : S) : List D → Option D := fun l => (f (l.map some ++ List.replicate (n - l.length) none)).bind fun o => match o with
  | .rt d => some d
  | .nx _ => some .none
  | _ => none
theorem ok_fun {P : Program} {w : World} {K : PySem.W.Frag} {mg : Str → Option Value} {base : Heap} {x qual : Str} {st : Stmt} {f : Addr} {fd : FuncData} {N ps : List Str} {k n : Nat} {F : S} (hF : Fun K x qual st f fd) (sc : FnScope N ps (defScope st)) (hn : ps.length = n)
    (hb : ∀ (cdv : Value) (A : Around) (outer : List Env) (s : Shared) (H : Hp) (E : XK), Room k (A.deeper (envOfC qual (defScope st) s.heap.objs.size f cdv)) → PSs (cxOf CX0 P w K mg base N qual (defScope st) f cdv A outer s H E).nox (defBody st) (tS F)) :
    FnOk P w K mg base CX0 (k + 1) f fd ps (spF n (runF N.length F)) := by
  refine hF.ok sc (fun vs H Q E h => h.1.trans hn.symm) fun cdv A outer s H vs Q E hr h => ⟨tS F, hb cdv A outer s H E hr, ?_⟩
  obtain ⟨hl, M, l, d, ok, r, e, q⟩ := h
  obtain ⟨o, e1, e2⟩ := bind_some e
  refine ⟨M, _, o, ok, SlD.start r N, e1, ?_⟩
  cases o with
  | rt d' => cases e2; exact q
  | nx ds => cases e2; exact fun σ H' s' _ => q _ H' s' .non
  | bk ds => cases e2
  | ct ds => cases e2
/-- a promise by a lesser function -/
theorem FnOk.le {P : Program} {w : World} {K : PySem.W.Frag} {mg : Str → Option Value} {base : Heap} {CX : CXT} {k n : Nat} {f : Addr} {fd : FuncData} {ps : List Str} {F G : List D → Option D} (h : FnOk P w K mg base CX k f fd ps (spF n F)) (hg : ∀ l d, l.length = n → G l = some d → F l = some d) :
    FnOk P w K mg base CX k f fd ps (spF n G) := h.imp fun vs H Q E ⟨hl, M, l, d, ok, r, e, q⟩ => ⟨hl, M, l, d, ok, r, hg l d (r.length.symm.trans hl) e, q⟩
end Pu

set_option Elab.async false
set_option linter.all false
set_option maxRecDepth 100000
set_option maxHeartbeats 2000000
set_option autoImplicit false
/-! Pu4: chains, identity, the boot's names. -/
namespace Pu
open PySem PySem.Spec PyProof.Rows L2

section
variable {X : Cx} {a b c : Expr} {f g h : Sl → Option D} {pos : Pos}
theorem pd_chain {op op' : CmpOp} {r r' : R2} {o o' : D → D → Option D} (ho : OpR X (compareOp op) r) (hs : OpS r o) (ho' : OpR X (compareOp op') r') (hs' : OpS r' o') (ha : PE X a (tP f)) (hb : PE X b (tP g)) (hc : PE X c (tP h))
    (hm : lastMarks [op, op'] [b, c] = false := by with_unfolding_all rfl) : PE X (.Compare a [op, op'] [b, c] pos) (tP (eChain o o' f g h)) := pe_of (pe_chain ho ho' ha hb hc hm) (chain_of hs hs')
theorem ptd_chain {op op' : CmpOp} {r r' : R2} {o o' : D → D → Option D} (ho : OpR X (compareOp op) r) (hs : OpS r o) (ho' : OpR X (compareOp op') r') (hs' : OpS r' o') (ha : PE X a (tP f)) (hb : PE X b (tP g)) (hc : PE X c (tP h))
    (hm : lastMarks [op, op'] [b, c] = false := by with_unfolding_all rfl) : PT X (.Compare a [op, op'] [b, c] pos) (tPT (bT (eChain o o' f g h))) :=
  pt_of (pt_chain ho ho' ha hb hc hm) fun σ H Q ⟨M, ds, k, ok, s, e, q⟩ => chain_of hs hs' σ H _ ⟨M, ds, .bool k, ok, s, bT_some e, fun v H' s' r => by cases r; exact ⟨k, rfl, q H' s'⟩⟩
end
/-- x is None, x is True -/
def oIsA : D → D → Option D
  | a, .none => some (.bool (isNon a))
  | .bool a, .bool b => some (.bool (decide (a = b)))
  | _, _ => none
def oIsntA : D → D → Option D
  | a, .none => some (.bool (!isNon a))
  | .bool a, .bool b => some (.bool (!decide (a = b)))
  | _, _ => none
def rIsA : R2 := fun x y H Q => (y = .non ∧ Q (.bl (decide (x = .non))) H) ∨ rIsB x y H Q
def rIsntA : R2 := fun x y H Q => (y = .non ∧ Q (.bl (!decide (x = .non))) H) ∨ rNotB x y H Q
theorem op_isA {X : Cx} : OpR X (compareOp .Is) rIsA := op_isN.or op_isBl
theorem op_isntA {X : Cx} : OpR X (compareOp .IsNot) rIsntA := op_notN.or op_notBl
theorem os_isA : OpS rIsA oIsA := by
  intro M H x y dx dy d Q ok rx ry e q
  unfold oIsA at e
  split at e
  · cases e; cases ry
    refine .inl ⟨rfl, ?_⟩
    rw [isNon_V rx]
    exact q _ H (Same.refl H) (.bl _)
  · cases e; cases ry; cases rx
    exact .inr ⟨_, _, rfl, rfl, q _ H (Same.refl H) (.bl _)⟩
  · cases e
theorem os_isntA : OpS rIsntA oIsntA := by
  intro M H x y dx dy d Q ok rx ry e q
  unfold oIsntA at e
  split at e
  · cases e; cases ry
    refine .inl ⟨rfl, ?_⟩
    rw [isNon_V rx]
    exact q _ H (Same.refl H) (.bl _)
  · cases e; cases ry; cases rx
    exact .inr ⟨_, _, rfl, rfl, q _ H (Same.refl H) (.bl _)⟩
  · cases e
/-! in: a list at any depth, a tuple of flat things -/
def flatD : D → Bool
  | .none => true
  | .bool _ => true
  | .int _ => true
  | .str _ => true
  | _ => false
theorem flat_of {M : MS} {H : Hp} {v : V} {d : D} (r : Rp M H v d) (f : flatD d = true) : flatV v = true := by
  cases r <;> first | rfl | (exact Bool.noConfusion f)
theorem eqV_of {M : MS} {H : Hp} {v w : V} {d e : D} (r : Rp M H v d) (q : Rp M H w e) (f : flatD d = true) (g : flatD e = true) : eqV v w = PyData.eqv d e := by
  cases r <;> cases q <;> first | rfl | (exact Bool.noConfusion f) | (exact Bool.noConfusion g) | (simp [eqV, PyData.eqv]; done)
theorem flats_of {M : MS} {H : Hp} : ∀ {vs : List V} {ds : List D}, RpAll M H vs ds → ds.all flatD = true → vs.all flatV = true
  | _, [], r, _ => by cases r; rfl
  | _, d :: ds, r, f => by
    cases r with
    | cons r1 r2 =>
      rw [List.all_cons, Bool.and_eq_true] at f
      rw [List.all_cons, flat_of r1 f.1, flats_of r2 f.2]; rfl
theorem inV_of {M : MS} {H : Hp} {v : V} {d : D} (r : Rp M H v d) (f : flatD d = true) : ∀ {vs : List V} {ds : List D}, RpAll M H vs ds → ds.all flatD = true → inV v vs = ds.any fun z => PyData.eqv z d
  | _, [], q, _ => by cases q; rfl
  | _, e :: ds, q, g => by
    cases q with
    | cons q1 q2 =>
      rw [List.all_cons, Bool.and_eq_true] at g
      have ih := inV_of r f q2 g.2
      unfold inV at ih ⊢
      rw [List.any_cons, List.any_cons, ih, eqV_of q1 r g.1 f]
def oInA : D → D → Option D
  | a, .list b => if SeqAt.shaped a = true ∧ SeqAt.shaped (.list b) = true then some (.bool (b.any fun z => PyData.eqv z a)) else none
  | a, .tuple b => if flatD a = true ∧ b.all flatD = true then some (.bool (b.any fun z => PyData.eqv z a)) else none
  | _, _ => none
def rInA (K : PySem.W.Frag) : R2 := fun x y H Q => rInD K x y H Q ∨ rIn K false x y H Q
theorem op_inA {X : Cx} (hu : X.A.units + 65 < cLine) : OpR X (compareOp .In) (rInA X.K) := (op_inD hu).or op_in_seq
theorem os_inA {K : PySem.W.Frag} : OpS (rInA K) oInA := by
  intro M H x y dx dy d Q ok rx ry e q
  unfold oInA at e
  split at e
  · split at e
    · rename_i hz
      cases e
      exact .inl ⟨_, _, rx.dp, ry.dp, hz.1, hz.2, q _ H (Same.refl H) (.bl _)⟩
    · cases e
  · split at e
    · rename_i hz
      cases e
      cases ry with
      | tup e1 n1 r1 =>
        refine .inr ⟨_, _, rfl, .inr (SqT.of e1), flat_of rx hz.1, flats_of r1 hz.2, ?_⟩
        rw [if_neg Bool.false_ne_true, inV_of rx hz.1 r1 hz.2]
        exact q _ H (Same.refl H) (.bl _)
    · cases e
  · cases e
theorem room65 {k : Nat} {A : Around} (r : Room k A) : A.units + 65 < cLine := by have := r.un; omega

theorem bt_len : bootBuiltins "len" = some (.builtin "len") := by decide +kernel
theorem bt_all : bootBuiltins "all" = some (.builtin "all") := by decide +kernel
theorem bt_max : bootBuiltins "max" = some (.builtin "max") := by decide +kernel
theorem bt_sum : bootBuiltins "sum" = some (.builtin "sum") := by decide +kernel
theorem bt_sorted : bootBuiltins "sorted" = some (.builtin "sorted") := by decide +kernel
theorem bt_isinstance : bootBuiltins "isinstance" = some (.builtin "isinstance") := by decide +kernel
theorem bt_list : bootBuiltins "list" = some (.type "list") := by decide +kernel
theorem bt_tuple : bootBuiltins "tuple" = some (.type "tuple") := by decide +kernel
theorem bt_int : bootBuiltins "int" = some (.type "int") := by decide +kernel
theorem bt_str : bootBuiltins "str" = some (.type "str") := by decide +kernel
theorem bt_bool : bootBuiltins "bool" = some (.type "bool") := by decide +kernel
/-- a def that is never called so -/
theorem ok_void {P : Program} {w : World} {K : PySem.W.Frag} {mg : Str → Option Value} {base : Heap} {CX : CXT} {k n : Nat} {f : Addr} {fd : FuncData} {ps : List Str} : FnOk P w K mg base CX k f fd ps (spF n fun _ => none) :=
  ⟨fun vs H Q E h => (by obtain ⟨_, _, _, _, _, _, e, _⟩ := h; cases e), fun A outer s H args us vs Q E _ _ _ _ h => (by obtain ⟨_, _, _, _, _, _, e, _⟩ := h; cases e)⟩
section
variable {X : Cx} {pos : Pos} {T : String} {x : Str}
theorem pe_ty (hg : Gl X x) (hm : X.mg x = none) (hv : bootBuiltins x = some (.type T)) (hn : x ≠ "__name__" := by decide) (hd : (x == ("__debug__" : Str)) = false := by decide) : PE X (.Name x pos) (tC (.ty T)) := pe_bltn hg hm hv rfl hn hd
end
end Pu

set_option Elab.async false
set_option linter.all false
set_option maxRecDepth 100000
set_option autoImplicit false
/-! Fs: the defs as functions (printed by gen.py) -/
namespace Pu
open PySem PySem.Spec PyProof.Rows L2

def F_put_in : S := (sRet (eOp oAdd (eOp oAdd (eSl (eVar 0) eNoPart (ePart (eVar 1))) (eTup (esCons (eVar 2) esNil))) (eSl (eVar 0) (ePart (eOp oAdd (eVar 1) (eC (.int 1)))) eNoPart)))
def M_put_in : List D → Option D := runF 3 F_put_in

def F_advanced : S := (sSeq (sUnp [2, 3, 4] (eVar 0)) (sSeq (sIf (bT (eOp oNe (eVar 2) (eVar 1))) (sRet (eTup (esCons (eVar 0) (esCons (eC (.bool false)) esNil)))) sNx) (sRet (eTup (esCons (eTup (esCons (eOp oAdd (eVar 2) (eC (.int 1))) (esCons (eVar 3) (esCons (eVar 4) esNil)))) (esCons (eC (.bool true)) esNil))))))
def M_advanced : List D → Option D := runF 5 F_advanced

def F_rested : S := (sRet (eTup (esCons (eTup (esCons (eC (.str "rests")) esNil)) (esCons (eTup (esCons (eC (.str "rests")) (esCons (eVar 0) esNil))) esNil))))
def M_rested : List D → Option D := runF 1 F_rested

def F_own_looked : S := (sSeq (sUnp [2, 3, 4] (eVar 1)) (sSeq (sIf (bT (eOp oLt (eVar 2) (eVar 3))) (sRet (eTup (esCons (eTup (esCons (eC (.str "holds")) (esCons (eOp oIx (eVar 4) (eVar 3)) (esCons (eC (.int 0)) esNil)))) (esCons (eTup (esCons (eC (.str "own")) (esCons (eVar 0) (esCons (eOp oIx (eVar 4) (eVar 3)) esNil)))) esNil)))) sNx) (sSeq (sIf (bT (eOp oEq (eVar 2) (eVar 3))) (sRet (eTup (esCons (eTup (esCons (eC (.str "last")) (esCons (eVar 2) esNil))) (esCons (eC .none) esNil)))) sNx) (sRet (eTup (esCons (eTup (esCons (eC (.str "mends")) (esCons (eOp oAdd (eVar 3) (eC (.int 1))) (esCons (eC .none) esNil)))) (esCons (eC .none) esNil)))))))
def M_own_looked : List D → Option D := runF 5 F_own_looked

def F_own_step : S := (sSeq (sUnp [4, 5, 6] (eVar 1)) (sSeq (sIf (bT (eOp oEq (eOp oIx (eVar 2) (eC (.int 0))) (eC (.str "free")))) (sRet (eTup (esCons (eTup (esCons (eVar 4) (esCons (eOp oSub (eVar 5) (eC (.int 1))) (esCons (eVar 6) esNil)))) (esCons (eTup (esCons (eC (.str "lowered")) esNil)) (esCons (eC .none) esNil))))) sNx) (sSeq (sIf (bT (eOp oEq (eOp oIx (eVar 2) (eC (.int 0))) (eC (.str "lowered")))) (sSeq (sUnp [7, 8] (eCall M_own_looked (esCons (eVar 0) (esCons (eVar 1) esNil)))) (sRet (eTup (esCons (eVar 1) (esCons (eVar 7) (esCons (eVar 8) esNil)))))) sNx) (sSeq (sIf (bT (eOp oEq (eOp oIx (eVar 2) (eC (.int 0))) (eC (.str "last")))) (sSeq (sUnp [1, 9] (eCall M_advanced (esCons (eVar 1) (esCons (eOp oIx (eVar 2) (eC (.int 1))) esNil)))) (sSeq (sIf (bT (eVar 9)) (sSeq (sSet 10 (eOp oIx (eVar 6) (eOp oIx (eVar 2) (eC (.int 1))))) (sRet (eTup (esCons (eVar 1) (esCons (eTup (esCons (eC (.str "mends")) (esCons (eOp oAdd (eOp oIx (eVar 2) (eC (.int 1))) (eC (.int 1))) (esCons (eVar 10) esNil)))) (esCons (eTup (esCons (eC (.str "own")) (esCons (eVar 0) (esCons (eVar 10) esNil)))) esNil)))))) sNx) (sRet (eTup (esCons (eVar 1) (esCons (eTup (esCons (eC (.str "mends")) (esCons (eOp oAdd (eOp oIx (eVar 2) (eC (.int 1))) (eC (.int 1))) (esCons (eC .none) esNil)))) (esCons (eC .none) esNil))))))) sNx) (sSeq (sSet 1 (eTup (esCons (eVar 4) (esCons (eOp oIx (eVar 2) (eC (.int 1))) (esCons (eVar 6) esNil))))) (sSeq (sIf (bT (eOp oIsntA (eOp oIx (eVar 2) (eC (.int 2))) (eC .none))) (sRet (eTup (esCons (eVar 1) (esCons (eTup (esCons (eC (.str "holds")) (esCons (eOp oIx (eVar 2) (eC (.int 2))) (esCons (eC (.int 0)) esNil)))) (esCons (eC .none) esNil))))) sNx) (sSeq (sIf (bT (eOp oEq (eVar 3) (eC (.int 1)))) (sSeq (sUnp [7, 8] (eCall M_rested (esCons (eVar 0) esNil))) (sRet (eTup (esCons (eVar 1) (esCons (eVar 7) (esCons (eVar 8) esNil)))))) sNx) (sRet (eTup (esCons (eVar 1) (esCons (eTup (esCons (eC (.str "looks")) (esCons (eC (.int 1)) esNil))) (esCons (eC .none) esNil))))))))))))
def M_own_step : List D → Option D := runF 11 F_own_step

def F_other_step : S := (sSeq (sUnp [5, 6] (eSl (eVar 3) eNoPart (ePart (eC (.int 2))))) (sSeq (sIf (bT (eOp oEq (eVar 5) (eC (.str "looks")))) (sRet (eTup (esCons (eVar 2) (esCons (eTup (esCons (eC (.str "seen")) (esCons (eVar 6) (esCons (eOp oIx (eVar 2) (eC (.int 0))) esNil)))) (esCons (eC .none) esNil))))) sNx) (sSeq (sIf (bT (eOp oEq (eVar 5) (eC (.str "reads")))) (sRet (eTup (esCons (eVar 2) (esCons (eTup (esCons (eC (.str "tries")) (esCons (eVar 6) (esCons (eOp oIx (eVar 3) (eC (.int 2))) (esCons (eOp oIx (eOp oIx (eVar 2) (eC (.int 2))) (eOp oIx (eVar 3) (eC (.int 2)))) esNil))))) (esCons (eC .none) esNil))))) sNx) (sSeq (sIf (bT (eOp oEq (eVar 5) (eC (.str "tries")))) (sSeq (sUnp [2, 7] (eCall M_advanced (esCons (eVar 2) (esCons (eOp oIx (eVar 3) (eC (.int 2))) esNil)))) (sSeq (sIf (bT (eVar 7)) (sRet (eTup (esCons (eVar 2) (esCons (eTup (esCons (eC (.str "holds")) (esCons (eOp oIx (eVar 3) (eC (.int 3))) (esCons (eC (.int 0)) esNil)))) (esCons (eTup (esCons (eC (.str "taken")) (esCons (eVar 0) (esCons (eVar 1) (esCons (eOp oIx (eVar 3) (eC (.int 3))) esNil))))) esNil))))) sNx) (sRet (eTup (esCons (eVar 2) (esCons (eTup (esCons (eC (.str "looks")) (esCons (eVar 6) esNil))) (esCons (eC .none) esNil))))))) sNx) (sSeq (sIf (bT (eOp oLt (eOp oIx (eVar 3) (eC (.int 2))) (eOp oIx (eVar 2) (eC (.int 1))))) (sRet (eTup (esCons (eVar 2) (esCons (eTup (esCons (eC (.str "reads")) (esCons (eVar 6) (esCons (eOp oIx (eVar 3) (eC (.int 2))) esNil)))) (esCons (eC .none) esNil))))) sNx) (sSeq (sIf (bT (eOp oLt (eOp oAdd (eVar 6) (eC (.int 1))) (eVar 4))) (sRet (eTup (esCons (eVar 2) (esCons (eTup (esCons (eC (.str "looks")) (esCons (eOp oAdd (eVar 6) (eC (.int 1))) esNil))) (esCons (eC .none) esNil))))) sNx) (sSeq (sUnp [8, 9] (eCall M_rested (esCons (eVar 0) esNil))) (sRet (eTup (esCons (eVar 2) (esCons (eVar 8) (esCons (eVar 9) esNil))))))))))))
def M_other_step : List D → Option D := runF 10 F_other_step

def F_task_step : S := (sSeq (sUnp [4, 5, 6] (eVar 1)) (sSeq (sUnp [7, 8, 9] (eVar 2)) (sSeq (sIf (bT (eOp oEq (eVar 7) (eC (.str "wrote")))) (sRet (eTup (esCons (eTup (esCons (eVar 4) (esCons (eOp oAdd (eVar 5) (eC (.int 1))) (esCons (eVar 6) esNil)))) (esCons (eTup (esCons (eC (.str "holds")) (esCons (eVar 8) (esCons (eOp oAdd (eVar 9) (eC (.int 1))) esNil)))) (esCons (eTup (esCons (eC (.str "put")) (esCons (eVar 0) (esCons (eOp oIx (eOp oIx (eVar 3) (eVar 8)) (eVar 9)) esNil)))) esNil))))) sNx) (sSeq (sIf (bT (eOp oLt (eVar 9) (eCall oLen (esCons (eOp oIx (eVar 3) (eVar 8)) esNil)))) (sRet (eTup (esCons (eTup (esCons (eVar 4) (esCons (eVar 5) (esCons (eCall M_put_in (esCons (eVar 6) (esCons (eVar 5) (esCons (eOp oIx (eOp oIx (eVar 3) (eVar 8)) (eVar 9)) esNil)))) esNil)))) (esCons (eTup (esCons (eC (.str "wrote")) (esCons (eVar 8) (esCons (eVar 9) esNil)))) (esCons (eC .none) esNil))))) sNx) (sRet (eTup (esCons (eVar 1) (esCons (eTup (esCons (eC (.str "free")) esNil)) (esCons (eTup (esCons (eC (.str "done")) (esCons (eVar 0) (esCons (eVar 8) esNil)))) esNil)))))))))
def M_task_step : List D → Option D := runF 10 F_task_step

def F_stepped : S := (sSeq (sUnp [3, 4] (eVar 1)) (sSeq (sIf (bNot (bT (eChain oLe oLt (eC (.int 0)) (eVar 2) (eCall oLen (esCons (eVar 4) esNil))))) sNever sNx) (sSeq (sSet 5 (eOp oIx (eVar 4) (eVar 2))) (sSeq (sSet 6 (eVar 2)) (sSeq (sIf (bT (eOp oEq (eOp oIx (eVar 5) (eC (.int 0))) (eC (.str "rests")))) sNever sNx) (sSeq (sIf (bT (eOp oInA (eOp oIx (eVar 5) (eC (.int 0))) (eTup (esCons (eC (.str "free")) (esCons (eC (.str "lowered")) (esCons (eC (.str "last")) (esCons (eC (.str "mends")) esNil))))))) (sUnp [7, 8, 9] (eCall M_own_step (esCons (eVar 2) (esCons (eOp oIx (eVar 3) (eVar 2)) (esCons (eVar 5) (esCons (eCall oLen (esCons (eVar 3) esNil)) esNil)))))) (sIf (bT (eOp oInA (eOp oIx (eVar 5) (eC (.int 0))) (eTup (esCons (eC (.str "holds")) (esCons (eC (.str "wrote")) esNil))))) (sUnp [7, 8, 9] (eCall M_task_step (esCons (eVar 2) (esCons (eOp oIx (eVar 3) (eVar 2)) (esCons (eVar 5) (esCons (eOp oIx (eVar 0) (eC (.int 0))) esNil)))))) (sSeq (sSet 6 (eOp oMod (eOp oAdd (eVar 2) (eOp oIx (eVar 5) (eC (.int 1)))) (eCall oLen (esCons (eVar 3) esNil)))) (sUnp [7, 8, 9] (eCall M_other_step (esCons (eVar 2) (esCons (eVar 6) (esCons (eOp oIx (eVar 3) (eVar 6)) (esCons (eVar 5) (esCons (eCall oLen (esCons (eVar 3) esNil)) esNil)))))))))) (sRet (eTup (esCons (eTup (esCons (eCall M_put_in (esCons (eVar 3) (esCons (eVar 6) (esCons (eVar 7) esNil)))) (esCons (eCall M_put_in (esCons (eVar 4) (esCons (eVar 2) (esCons (eVar 8) esNil)))) esNil))) (esCons (eVar 9) esNil))))))))))
def M_stepped : List D → Option D := runF 10 F_stepped

def F_l_weaving_by : S := (sSeq (sSet 2 (eLst esNil)) (sSeq (sFor (eItems (eVar 0)) (gNameD 3) (sIf (bT (eOp oEq (eOp oMod (eVar 3) (eC (.int 7))) (eC (.int 6)))) (sSet 2 (eOp oAdd (eVar 2) (eLc 4 (eRng (eVar 1)) bYes (eOp oMod (eOp oAdd (eVar 4) (eOp oDiv (eVar 3) (eC (.int 7)))) (eVar 1))))) (sIf (bT (eOp oEq (eOp oMod (eVar 3) (eC (.int 7))) (eC (.int 5)))) (sSet 2 (eOp oAdd (eVar 2) (eOp oMul (eLst (esCons (eOp oMod (eOp oDiv (eVar 3) (eC (.int 7))) (eVar 1)) esNil)) (eOp oAdd (eC (.int 1)) (eOp oMod (eOp oDiv (eOp oDiv (eVar 3) (eC (.int 7))) (eVar 1)) (eC (.int 30))))))) (sSet 2 (eOp oAdd (eVar 2) (eOp oMul (eLst (esCons (eOp oMod (eOp oDiv (eVar 3) (eC (.int 7))) (eVar 1)) esNil)) (eOp oAdd (eC (.int 1)) (eOp oMod (eVar 3) (eC (.int 7)))))))))) (sRet (eVar 2))))
def M_l_weaving_by : List D → Option D := runF 5 F_l_weaving_by

def F_l_alike (rec : List D → Option D) : S := (sSeq (sIf (bT (eIs2 "tuple" "list" (eVar 1))) (sSeq (sIf (bOr (bNot (bT (eIs2 "tuple" "list" (eVar 0)))) (bT (eOp oNe (eIs "tuple" (eVar 0)) (eIs "tuple" (eVar 1))))) (sRet (eC (.bool false))) sNx) (sSeq (sIf (bT (eOp oNe (eCall oLen (esCons (eVar 0) esNil)) (eCall oLen (esCons (eVar 1) esNil)))) (sRet (eC (.bool false))) sNx) (sRet (eCall oAll (esCons (eLc 2 (eRng (eCall oLen (esCons (eVar 1) esNil))) bYes (eCall rec (esCons (eOp oIx (eVar 0) (eVar 2)) (esCons (eOp oIx (eVar 1) (eVar 2)) esNil)))) esNil))))) sNx) (sSeq (sIf (bT (eIs "str" (eVar 1))) (sRet (eAnd (eIs "str" (eVar 0)) (eOp oEq (eVar 0) (eVar 1)))) sNx) (sSeq (sIf (bT (eOp oIsA (eVar 1) (eC .none))) (sRet (eOp oIsA (eVar 0) (eC .none))) sNx) (sRet (eAnd (eIs "int" (eVar 0)) (eAnd (eNot (eIs "bool" (eVar 0))) (eOp oEq (eVar 0) (eVar 1))))))))
def M_l_alike : Nat → List D → Option D
  | 0 => fun _ => none
  | n + 1 => runF 3 (F_l_alike (M_l_alike n))

def F_l_due_own : S := (sSeq (sUnp [4, 5, 6] (eVar 0)) (sSeq (sIf (bT (eOp oEq (eOp oIx (eVar 1) (eC (.int 0))) (eC (.str "free")))) (sRet (eTup (esCons (eTup (esCons (eVar 4) (esCons (eOp oSub (eVar 5) (eC (.int 1))) (esCons (eVar 6) esNil)))) (esCons (eTup (esCons (eC (.str "lowered")) esNil)) (esCons (eC .none) esNil))))) sNx) (sSeq (sIf (bAnd (bT (eOp oEq (eOp oIx (eVar 1) (eC (.int 0))) (eC (.str "lowered")))) (bT (eOp oLt (eVar 4) (eVar 5)))) (sRet (eTup (esCons (eVar 0) (esCons (eTup (esCons (eC (.str "holds")) (esCons (eOp oIx (eVar 6) (eVar 5)) (esCons (eC (.int 0)) esNil)))) (esCons (eTup (esCons (eC (.str "own")) (esCons (eVar 2) (esCons (eOp oIx (eVar 6) (eVar 5)) esNil)))) esNil))))) sNx) (sSeq (sIf (bT (eOp oEq (eOp oIx (eVar 1) (eC (.int 0))) (eC (.str "lowered")))) (sRet (eTup (esCons (eVar 0) (esCons (eOp oIx (eLst (esCons (eTup (esCons (eC (.str "mends")) (esCons (eOp oAdd (eVar 5) (eC (.int 1))) (esCons (eC .none) esNil)))) (esCons (eTup (esCons (eC (.str "last")) (esCons (eVar 4) esNil))) esNil))) (eCall oInt (esCons (eOp oEq (eVar 4) (eVar 5)) esNil))) (esCons (eC .none) esNil))))) sNx) (sSeq (sIf (bAnd (bT (eOp oEq (eOp oIx (eVar 1) (eC (.int 0))) (eC (.str "last")))) (bT (eOp oEq (eVar 4) (eOp oIx (eVar 1) (eC (.int 1)))))) (sSeq (sSet 7 (eOp oIx (eVar 6) (eVar 4))) (sRet (eTup (esCons (eTup (esCons (eOp oAdd (eVar 4) (eC (.int 1))) (esCons (eVar 5) (esCons (eVar 6) esNil)))) (esCons (eTup (esCons (eC (.str "mends")) (esCons (eOp oAdd (eVar 4) (eC (.int 1))) (esCons (eVar 7) esNil)))) (esCons (eTup (esCons (eC (.str "own")) (esCons (eVar 2) (esCons (eVar 7) esNil)))) esNil)))))) sNx) (sSeq (sIf (bT (eOp oEq (eOp oIx (eVar 1) (eC (.int 0))) (eC (.str "last")))) (sRet (eTup (esCons (eVar 0) (esCons (eTup (esCons (eC (.str "mends")) (esCons (eOp oAdd (eOp oIx (eVar 1) (eC (.int 1))) (eC (.int 1))) (esCons (eC .none) esNil)))) (esCons (eC .none) esNil))))) sNx) (sSeq (sSet 0 (eTup (esCons (eVar 4) (esCons (eOp oIx (eVar 1) (eC (.int 1))) (esCons (eVar 6) esNil))))) (sSeq (sIf (bT (eOp oIsntA (eOp oIx (eVar 1) (eC (.int 2))) (eC .none))) (sRet (eTup (esCons (eVar 0) (esCons (eTup (esCons (eC (.str "holds")) (esCons (eOp oIx (eVar 1) (eC (.int 2))) (esCons (eC (.int 0)) esNil)))) (esCons (eC .none) esNil))))) sNx) (sSeq (sIf (bT (eOp oEq (eVar 3) (eC (.int 1)))) (sRet (eTup (esCons (eVar 0) (esCons (eTup (esCons (eC (.str "rests")) esNil)) (esCons (eTup (esCons (eC (.str "rests")) (esCons (eVar 2) esNil))) esNil))))) sNx) (sRet (eTup (esCons (eVar 0) (esCons (eTup (esCons (eC (.str "looks")) (esCons (eC (.int 1)) esNil))) (esCons (eC .none) esNil))))))))))))))
def M_l_due_own : List D → Option D := runF 8 F_l_due_own

def F_l_due_other : S := (sSeq (sUnp [5, 6, 7] (eVar 0)) (sSeq (sIf (bT (eOp oEq (eOp oIx (eVar 1) (eC (.int 0))) (eC (.str "looks")))) (sRet (eTup (esCons (eVar 0) (esCons (eTup (esCons (eC (.str "seen")) (esCons (eOp oIx (eVar 1) (eC (.int 1))) (esCons (eVar 5) esNil)))) (esCons (eC .none) esNil))))) sNx) (sSeq (sIf (bT (eOp oEq (eOp oIx (eVar 1) (eC (.int 0))) (eC (.str "reads")))) (sRet (eTup (esCons (eVar 0) (esCons (eTup (esCons (eC (.str "tries")) (esCons (eOp oIx (eVar 1) (eC (.int 1))) (esCons (eOp oIx (eVar 1) (eC (.int 2))) (esCons (eOp oIx (eVar 7) (eOp oIx (eVar 1) (eC (.int 2)))) esNil))))) (esCons (eC .none) esNil))))) sNx) (sSeq (sIf (bAnd (bT (eOp oEq (eOp oIx (eVar 1) (eC (.int 0))) (eC (.str "tries")))) (bT (eOp oEq (eVar 5) (eOp oIx (eVar 1) (eC (.int 2)))))) (sRet (eTup (esCons (eTup (esCons (eOp oAdd (eVar 5) (eC (.int 1))) (esCons (eVar 6) (esCons (eVar 7) esNil)))) (esCons (eTup (esCons (eC (.str "holds")) (esCons (eOp oIx (eVar 1) (eC (.int 3))) (esCons (eC (.int 0)) esNil)))) (esCons (eTup (esCons (eC (.str "taken")) (esCons (eVar 2) (esCons (eVar 3) (esCons (eOp oIx (eVar 1) (eC (.int 3))) esNil))))) esNil))))) sNx) (sSeq (sIf (bT (eOp oEq (eOp oIx (eVar 1) (eC (.int 0))) (eC (.str "tries")))) (sRet (eTup (esCons (eVar 0) (esCons (eTup (esCons (eC (.str "looks")) (esCons (eOp oIx (eVar 1) (eC (.int 1))) esNil))) (esCons (eC .none) esNil))))) sNx) (sSeq (sIf (bT (eOp oLt (eOp oIx (eVar 1) (eC (.int 2))) (eVar 6))) (sRet (eTup (esCons (eVar 0) (esCons (eTup (esCons (eC (.str "reads")) (esCons (eOp oIx (eVar 1) (eC (.int 1))) (esCons (eOp oIx (eVar 1) (eC (.int 2))) esNil)))) (esCons (eC .none) esNil))))) sNx) (sSeq (sIf (bT (eOp oEq (eOp oAdd (eOp oIx (eVar 1) (eC (.int 1))) (eC (.int 1))) (eVar 4))) (sRet (eTup (esCons (eVar 0) (esCons (eTup (esCons (eC (.str "rests")) esNil)) (esCons (eTup (esCons (eC (.str "rests")) (esCons (eVar 2) esNil))) esNil))))) sNx) (sRet (eTup (esCons (eVar 0) (esCons (eTup (esCons (eC (.str "looks")) (esCons (eOp oAdd (eOp oIx (eVar 1) (eC (.int 1))) (eC (.int 1))) esNil))) (esCons (eC .none) esNil))))))))))))
def M_l_due_other : List D → Option D := runF 8 F_l_due_other

def F_l_due_task : S := (sSeq (sUnp [4, 5, 6] (eVar 1)) (sSeq (sIf (bT (eOp oEq (eOp oIx (eVar 2) (eC (.int 0))) (eC (.str "wrote")))) (sRet (eTup (esCons (eTup (esCons (eVar 4) (esCons (eOp oAdd (eVar 5) (eC (.int 1))) (esCons (eVar 6) esNil)))) (esCons (eTup (esCons (eC (.str "holds")) (esCons (eOp oIx (eVar 2) (eC (.int 1))) (esCons (eOp oAdd (eOp oIx (eVar 2) (eC (.int 2))) (eC (.int 1))) esNil)))) (esCons (eTup (esCons (eC (.str "put")) (esCons (eVar 3) (esCons (eOp oIx (eVar 0) (eOp oIx (eVar 2) (eC (.int 2)))) esNil)))) esNil))))) sNx) (sSeq (sIf (bT (eOp oEq (eOp oIx (eVar 2) (eC (.int 2))) (eCall oLen (esCons (eVar 0) esNil)))) (sRet (eTup (esCons (eVar 1) (esCons (eTup (esCons (eC (.str "free")) esNil)) (esCons (eTup (esCons (eC (.str "done")) (esCons (eVar 3) (esCons (eOp oIx (eVar 2) (eC (.int 1))) esNil)))) esNil))))) sNx) (sSeq (sSet 6 (eOp oAdd (eOp oAdd (eSl (eVar 6) eNoPart (ePart (eVar 5))) (eTup (esCons (eOp oIx (eVar 0) (eOp oIx (eVar 2) (eC (.int 2)))) esNil))) (eSl (eVar 6) (ePart (eOp oAdd (eVar 5) (eC (.int 1)))) eNoPart))) (sRet (eTup (esCons (eTup (esCons (eVar 4) (esCons (eVar 5) (esCons (eVar 6) esNil)))) (esCons (eTup (esCons (eC (.str "wrote")) (esCons (eOp oIx (eVar 2) (eC (.int 1))) (esCons (eOp oIx (eVar 2) (eC (.int 2))) esNil)))) (esCons (eC .none) esNil)))))))))
def M_l_due_task : List D → Option D := runF 7 F_l_due_task

def F_l_due : S := (sSeq (sSet 3 (eOp oIx (eOp oIx (eVar 1) (eC (.int 1))) (eVar 2))) (sSeq (sSet 4 (eCall oLen (esCons (eOp oIx (eVar 1) (eC (.int 0))) esNil))) (sSeq (sIf (bT (eOp oInA (eOp oIx (eVar 3) (eC (.int 0))) (eLst (esCons (eC (.str "looks")) (esCons (eC (.str "seen")) (esCons (eC (.str "reads")) (esCons (eC (.str "tries")) esNil))))))) (sSeq (sSet 5 (eOp oMod (eOp oAdd (eVar 2) (eOp oIx (eVar 3) (eC (.int 1)))) (eVar 4))) (sRet (eOp oAdd (eTup (esCons (eVar 5) esNil)) (eCall M_l_due_other (esCons (eOp oIx (eOp oIx (eVar 1) (eC (.int 0))) (eVar 5)) (esCons (eVar 3) (esCons (eVar 2) (esCons (eVar 5) (esCons (eVar 4) esNil))))))))) sNx) (sSeq (sIf (bT (eOp oInA (eOp oIx (eVar 3) (eC (.int 0))) (eLst (esCons (eC (.str "holds")) (esCons (eC (.str "wrote")) esNil))))) (sRet (eOp oAdd (eTup (esCons (eVar 2) esNil)) (eCall M_l_due_task (esCons (eOp oIx (eOp oIx (eVar 0) (eC (.int 0))) (eOp oIx (eVar 3) (eC (.int 1)))) (esCons (eOp oIx (eOp oIx (eVar 1) (eC (.int 0))) (eVar 2)) (esCons (eVar 3) (esCons (eVar 2) esNil))))))) sNx) (sRet (eOp oAdd (eTup (esCons (eVar 2) esNil)) (eCall M_l_due_own (esCons (eOp oIx (eOp oIx (eVar 1) (eC (.int 0))) (eVar 2)) (esCons (eVar 3) (esCons (eVar 2) (esCons (eVar 4) esNil)))))))))))
def M_l_due : List D → Option D := runF 6 F_l_due

def F_started : S := (sSeq (sSet 1 (eCall oTuple (esCons (eLc 2 (eItems (eOp oIx (eVar 0) (eC (.int 1)))) bYes (eTup (esCons (eC (.int 0)) (esCons (eCall oLen (esCons (eVar 2) esNil)) (esCons (eCall oTuple (esCons (eVar 2) esNil)) esNil))))) esNil))) (sRet (eTup (esCons (eVar 1) (esCons (eCall oTuple (esCons (eLc 2 (eItems (eVar 1)) bYes (eTup (esCons (eC (.str "free")) esNil))) esNil)) esNil)))))
def M_started : List D → Option D := runF 3 F_started

def F_is_over : S := (sRet (eCall oAll (esCons (eLc 1 (eItems (eOp oIx (eVar 0) (eC (.int 1)))) bYes (eOp oEq (eOp oIx (eVar 1) (eC (.int 0))) (eC (.str "rests")))) esNil)))
def M_is_over : List D → Option D := runF 2 F_is_over

end Pu

set_option Elab.async false
set_option linter.all false
set_option maxRecDepth 100000
set_option maxHeartbeats 2000000
set_option autoImplicit false
/-! Ha: helps for readings by hand: slots, rows of one's own, loops. -/
namespace Pu
open PySem PySem.Spec PyProof.Rows L2

section
variable {M : MS} {H : Hp} {σ : St} {ds : Sl} {v : V} {d : D} {o : Option V}
theorem SlD.nil : SlD M H [] [] := ⟨rfl, fun i d g => by simp at g⟩
theorem SlD.no (o : Option V) (h : SlD M H σ ds) : SlD M H (o :: σ) (none :: ds) := ⟨by rw [List.length_cons, List.length_cons, h.len], fun i d g => by
  cases i with
  | zero => simp at g
  | succ i => simpa using h.get i d (by simpa using g)⟩
theorem SlD.yes (r : Rp M H v d) (h : SlD M H σ ds) : SlD M H (some v :: σ) (some d :: ds) := ⟨by rw [List.length_cons, List.length_cons, h.len], fun i d' g => by
  cases i with
  | zero => simp at g; subst g; exact ⟨v, by simp, r⟩
  | succ i => simpa using h.get i d' (by simpa using g)⟩
/-- a function's reading, met -/
theorem tp_ok {f : Sl → Option D} {Q : VK} (ok : Ok M H) (s : SlD M H σ ds) (e : f ds = some d) (q : ∀ v H', Same H H' → Rp M H' v d → Q v H') : tP f σ H Q := ⟨M, ds, d, ok, s, e, q⟩
/-- .. of a whole number -/
theorem tp_int {f : Sl → Option D} {Q : VK} {i : Int} (ok : Ok M H) (s : SlD M H σ ds) (e : f ds = some (.int i)) (q : ∀ H', Same H H' → Q (.int i) H') : tP f σ H Q := ⟨M, ds, _, ok, s, e, fun v H' s' r => by cases r; exact q H' s'⟩
theorem tpt_ok {f : Sl → Option Bool} {b : Bool} {Q : Bool → Hp → Prop} (ok : Ok M H) (s : SlD M H σ ds) (e : f ds = some b) (q : ∀ H', Same H H' → Q b H') : tPT f σ H Q := ⟨M, ds, b, ok, s, e, q⟩
end
theorem if_true_of {c : Bool} {A B : Prop} (hc : c = true) (h : A) : if c = true then A else B := by
  rw [if_pos hc]
  exact h
theorem if_false_of {c : Bool} {A B : Prop} (hc : c = false) (h : B) : if c = true then A else B := by
  rw [hc, if_neg Bool.false_ne_true]
  exact h
abbrev M0 : MS := fun _ => False
mutual
def nolist : D → Bool
  | .list _ => false
  | .tuple l => nolists l
  | .dict _ => false
  | .none => true
  | .bool _ => true
  | .int _ => true
  | .str _ => true
def nolists : List D → Bool
  | [] => true
  | d :: l => nolist d && nolists l
end
mutual
theorem Rp.nolist {M M' : MS} {H : Hp} (k : ∀ a, M' a → ∀ xs, H a ≠ some (.tup xs)) : ∀ (d : D) (v : V), nolist d = true → Rp M H v d → Rp M' H v d
  | .none, _, _, h => by cases h; exact .non
  | .bool b, _, _, h => by cases h; exact .bl b
  | .int i, _, _, h => by cases h; exact .int i
  | .str x, _, _, h => by cases h; exact .str x
  | .list ds, _, n, h => by cases n
  | .tuple ds, _, n, h => by
    cases h with
    | tup e m r => exact .tup e (fun z => k _ z _ e) (RpAll.nolist k ds _ n r)
  | .dict _, _, _, h => by cases h
theorem RpAll.nolist {M M' : MS} {H : Hp} (k : ∀ a, M' a → ∀ xs, H a ≠ some (.tup xs)) : ∀ (ds : List D) (vs : List V), nolists ds = true → RpAll M H vs ds → RpAll M' H vs ds
  | [], _, _, h => by cases h; exact .nil
  | d :: ds, _, n, h => by
    cases h with
    | cons h1 h2 =>
      have n' : (Pu.nolist d && nolists ds) = true := n
      rw [Bool.and_eq_true] at n'
      exact .cons (Rp.nolist k d _ n'.1 h1) (RpAll.nolist k ds _ n'.2 h2)
end

/-! ### one reading at a time -/
section
variable {t u : TS} {te ta tb : TE} {tr : TA} {g : TG} {D : Ends} {σ : St} {H : Hp} {Q : VK} {c : TT}
theorem z_seq (h : t { D with nx := u D } σ H) : tSeq t u D σ H := h
theorem z_asg (h : te σ H fun x H1 => g x σ H1 D.nx) : tAsg te g D σ H := h
theorem z_name {i : Nat} {v : V} {R : St → Hp → Prop} (h : R (σ.set i (some v)) H) : gName i v σ H R := h
theorem z_tup (h : tr σ H fun xs H1 => xs.length ≤ sizeLine ∧ ∀ p, H1 p = none → Q (.ref p) (upd H1 p (.tup xs))) : tTup tr σ H Q := h
theorem z_cons {R : List V → Hp → Prop} (h : te σ H fun x H1 => tr σ H1 fun xs H2 => R (x :: xs) H2) : tCons te tr σ H R := h
theorem z_ret (h : te σ H D.rt) : tRet te D σ H := h
theorem z_drop (h : te σ H fun _ H1 => D.nx σ H1) : tDrop te D σ H := h
theorem z_if (h : c σ H fun b H1 => if b = true then t D σ H1 else u D σ H1) : tIfS c t u D σ H := h
theorem z_op {r : R2} (h : ta σ H fun x H1 => tb σ H1 fun y H2 => r x y H2 Q) : tOp r ta tb σ H Q := h
end
/-! ### the script's cells -/
/-- any whole number, at a place from 0 on -/
def spCellZ (K : PySem.W.Frag) : Sp := fun vs H Q _ => ∃ (a : Addr) (ns : List Int) (k : Int), vs = [.ref a, .int k] ∧ SqL K H a (ns.map V.int) ∧ 0 ≤ k ∧ ∀ (c : Int) (H' : Hp), Same H H' → Q (.int c) H'

/-! ### a list of lists of one's own: at l the list of the rows at as, whose contents are rs (as values) -/
structure Rows (H : Hp) (l : Addr) (as : List Addr) (rs : List (List V)) : Prop where
  top : H l = some (.lst (as.map V.ref))
  nd : (l :: as).Nodup
  len : as.length = rs.length
  row : ∀ (i : Nat) (a : Addr), as[i]? = some a → ∃ r, rs[i]? = some r ∧ H a = some (.lst r)
theorem Rows.same {H H' : Hp} {l : Addr} {as : List Addr} {rs : List (List V)} (R : Rows H l as rs) (k : ∀ a o, (a = l ∨ a ∈ as) → H a = some o → H' a = some o) : Rows H' l as rs :=
  ⟨k _ _ (.inl rfl) R.top, R.nd, R.len, fun i a h => by
    obtain ⟨r, h1, h2⟩ := R.row i a h
    exact ⟨r, h1, k _ _ (.inr (List.mem_of_getElem? h)) h2⟩⟩
theorem Rows.at {H : Hp} {l : Addr} {as : List Addr} {rs : List (List V)} (R : Rows H l as rs) {i : Nat} (hi : i < rs.length) : ∃ a r, as[i]? = some a ∧ rs[i]? = some r ∧ H a = some (.lst r) ∧ a ≠ l := by
  have h : as[i]? = some (as[i]'(by rw [R.len]; exact hi)) := List.getElem?_eq_getElem _
  obtain ⟨r, h1, h2⟩ := R.row i _ h
  refine ⟨_, r, h, h1, h2, fun e => ?_⟩
  have := (List.nodup_cons.mp R.nd).1
  exact this (by rw [← e]; exact List.mem_of_getElem? h)
/-- a row changes -/
theorem Rows.set {H : Hp} {l a : Addr} {as : List Addr} {rs : List (List V)} {i : Nat} {r : List V} (R : Rows H l as rs) (h : as[i]? = some a) : Rows (upd H a (.lst r)) l as (rs.set i r) := by
  have ha := List.mem_of_getElem? h
  have hl : l ≠ a := fun e => (List.nodup_cons.mp R.nd).1 (e ▸ ha)
  refine ⟨by rw [upd_ne hl]; exact R.top, R.nd, by rw [List.length_set]; exact R.len, fun j b hb => ?_⟩
  by_cases hj : i = j
  · subst hj
    rw [h] at hb; cases hb
    obtain ⟨r0, h1, _⟩ := R.row i a h
    exact ⟨r, List.getElem?_set_self (List.getElem?_eq_some_iff.mp h1).1 |>.trans rfl, upd_same⟩
  · have hab : b ≠ a := fun e => hj (nd_ix (List.nodup_cons.mp R.nd).2 h (e ▸ hb))
    obtain ⟨r0, h1, h2⟩ := R.row j b hb
    exact ⟨r0, by rw [List.getElem?_set_ne hj]; exact h1, by rw [upd_ne hab]; exact h2⟩
/-- rows of data, with nothing of M -/
theorem Rows.rp {M : MS} {H : Hp} {l : Addr} {as : List Addr} {rs : List (List V)} {dss : List (List D)} (R : Rows H l as rs) (hl : ¬ M l) (ha : ∀ a ∈ as, ¬ M a) (hd : dss.length = rs.length) (hr : ∀ (i : Nat) (r : List V) (ds : List D), rs[i]? = some r → dss[i]? = some ds → RpAll M H r ds) :
    Rp M H (.ref l) (.list (dss.map .list)) := by
  refine .lst R.top hl ?_
  have key : ∀ (as : List Addr) (rs : List (List V)) (dss : List (List D)), as.length = rs.length → dss.length = rs.length → (∀ a ∈ as, ¬ M a) → (∀ (i : Nat) (a : Addr), as[i]? = some a → ∃ r, rs[i]? = some r ∧ H a = some (.lst r)) →
      (∀ (i : Nat) (r : List V) (ds : List D), rs[i]? = some r → dss[i]? = some ds → RpAll M H r ds) → RpAll M H (as.map V.ref) (dss.map .list) := by
    intro as
    induction as with
    | nil =>
      intro rs dss h1 h2 _ _ _
      have : dss = [] := List.length_eq_zero_iff.mp (by rw [h2, ← h1]; rfl)
      subst this
      exact .nil
    | cons a as ih =>
      intro rs dss h1 h2 h3 h4 h5
      cases rs with
      | nil => cases h1
      | cons r rs =>
        cases dss with
        | nil => cases h2
        | cons ds dss =>
          obtain ⟨r', e1, e2⟩ := h4 0 a rfl
          have e1' : r = r' := by simpa using e1
          subst e1'
          refine .cons (.lst e2 (h3 a List.mem_cons_self) (h5 0 r ds rfl rfl)) (ih rs dss (by simpa using h1) (by simpa using h2) (fun b hb => h3 b (List.mem_cons_of_mem _ hb)) (fun i b hb => ?_) fun i r' ds' h6 h7 => ?_)
          · obtain ⟨q, q1, q2⟩ := h4 (i + 1) b (by simpa using hb)
            exact ⟨q, by simpa using q1, q2⟩
          · exact h5 (i + 1) r' ds' (by simpa using h6) (by simpa using h7)
  exact key as rs dss R.len hd ha R.row hr

theorem Rows.nil {H : Hp} {l : Addr} (h : H l = some (.lst [])) : Rows H l [] [] := ⟨h, by simp, rfl, fun i a h => by simp at h⟩
theorem Rows.push {H : Hp} {l p : Addr} {as : List Addr} {rs : List (List V)} {r : List V} (R : Rows H l as rs) (hp : H p = none) : Rows (upd (upd H p (.lst r)) l (.lst (as.map V.ref ++ [.ref p]))) l (as ++ [p]) (rs ++ [r]) := by
  have hlp : p ≠ l := fun e => by rw [e, R.top] at hp; cases hp
  have hap : ∀ a ∈ as, a ≠ p := fun a ha e => by
    obtain ⟨i, hi⟩ := List.mem_iff_getElem?.mp ha
    obtain ⟨r, _, h2⟩ := R.row i a hi
    rw [e, hp] at h2; cases h2
  have hal : ∀ a ∈ as, a ≠ l := fun a ha e => (List.nodup_cons.mp R.nd).1 (e ▸ ha)
  refine ⟨by rw [upd_same, List.map_append]; rfl, ?_, by rw [List.length_append, List.length_append, R.len]; rfl, fun i a h => ?_⟩
  · have h1 := List.nodup_cons.mp R.nd
    refine List.nodup_cons.mpr ⟨fun m => ?_, ?_⟩
    · rcases List.mem_append.mp m with m | m
      · exact h1.1 m
      · exact hlp (List.mem_singleton.mp m).symm
    · refine List.nodup_append.mpr ⟨h1.2, by simp, fun a ha b hb => ?_⟩
      rw [List.mem_singleton.mp hb]
      exact hap a ha
  · by_cases hi : i < as.length
    · rw [List.getElem?_append_left hi] at h
      have ha := List.mem_of_getElem? h
      obtain ⟨r', h1, h2⟩ := R.row i a h
      refine ⟨r', ?_, by rw [upd_ne (hal a ha), upd_ne (hap a ha)]; exact h2⟩
      rw [List.getElem?_append_left (by rw [← R.len]; exact hi)]
      exact h1
    · have e : i = as.length := by
        have := (List.getElem?_eq_some_iff.mp h).1
        rw [List.length_append] at this
        simp at this
        omega
      subst e
      rw [List.getElem?_append_right (Nat.le_refl _)] at h
      simp at h
      subst h
      refine ⟨r, ?_, by rw [upd_ne hlp]; exact upd_same⟩
      rw [R.len, List.getElem?_append_right (Nat.le_refl _)]
      simp
/-- rows that were not there in H0 -/
def New (H0 : Hp) (l : Addr) (as : List Addr) : Prop := H0 l = none ∧ ∀ a ∈ as, H0 a = none
theorem New.push {H0 H : Hp} {l p : Addr} {as : List Addr} (n : New H0 l as) (s : Same H0 H) (hp : H p = none) : New H0 l (as ++ [p]) := ⟨n.1, fun a ha => by
  rcases List.mem_append.mp ha with h | h
  · exact n.2 a h
  · rw [List.mem_singleton.mp h]; exact s.free hp⟩
theorem Same.mut {H H' : Hp} {p : Addr} {o : HO} (e : Same H H') (h : H p = none) : Same H (upd H' p o) := fun a u ha => by
  rw [upd_ne (ne_of_none ha h)]
  exact e a u ha
/-- [[] for x in range(n)] -/
theorem lc_empties {i : Nat} {σ : St} {H1 : Hp} {Dl : Addr} {n : Nat} {Qd : Hp → Prop} (hD : H1 Dl = none) (hn : n ≤ 100000)
    (k : ∀ H as, Rows H Dl as (List.replicate n []) → Same H1 H → New H1 Dl as → Qd H) :
    ∃ W : Nat → Nat → Hp → Prop, (∃ m, W 0 m (upd H1 Dl (.lst []))) ∧ ∀ j m H, W j m H →
      ((Itr 0 n).stop j H ∧ Qd H) ∨ ((Itr 0 n).go j H ∧ ∃ Nx : Hp → Prop, (∀ H', Nx H' → ∃ m', m' < m ∧ W (j + 1) m' H') ∧ ∀ x H', (Itr 0 n).yld j H x H' → gName i x (wipe σ [i]) H' fun σ2 H2 => wipe σ2 [i] = wipe σ [i] ∧ tYes σ2 H2 fun b H3 =>
        if b = true then tLst tNil σ2 H3 fun y H4 => ∃ acc, H4 Dl = some (.lst acc) ∧ acc.length < sizeLine ∧ Nx (upd H4 Dl (.lst (acc ++ [y]))) else Nx H3) := by
  refine lc_range (te := tLst tNil) (tt := tYes) (lo := 0) (n := n) (fun j H => ∃ as, Rows H Dl as (List.replicate j []) ∧ Same H1 H ∧ New H1 Dl as) ⟨[], Rows.nil upd_same, Same.new hD, hD, fun a h => by simp at h⟩ (fun j H hj hP => ?_) (fun H ⟨as, R, s, nw⟩ => k H as R s nw)
  obtain ⟨as, R, s, nw⟩ := hP
  refine ⟨?_, ?_⟩
  · show ((σ.set i none).set i _).set i none = σ.set i none
    rw [set_set3, set_set3]
  · dsimp only [tYes]
    rw [if_pos rfl]
    refine ⟨Nat.zero_le _, fun p hp => ⟨as.map V.ref, ?_, ?_, as ++ [p], ?_, ?_, nw.push s hp⟩⟩
    · rw [upd_ne (ne_of_none R.top hp)]; exact R.top
    · rw [List.length_map, R.len, List.length_replicate, sizeLine_eq]; omega
    · have z := R.push (r := []) hp
      rw [List.replicate_succ']
      exact z
    · exact Pu.Same.mut (L2.Same.trans s (Pu.Same.new hp)) hD

end Pu

set_option Elab.async false
set_option linter.all false
set_option maxRecDepth 100000
set_option maxHeartbeats 2000000
set_option autoImplicit false
/-! Plan: plans as plain lists; what the law's builder keeps. -/
namespace Pu
open PySem

abbrev LL := List (List Nat)
/-- behind i tasks, of n, for m workers -/
structure PlanAt (i n m : Nat) (b s : LL) : Prop where
  bl : b.length = n
  sl : s.length = m
  inb : ∀ (p : Nat) (l : List Nat) (c : Nat), b[p]? = some l → c ∈ l → p < c ∧ c < i
  ins : ∀ (p : Nat) (l : List Nat) (c : Nat), s[p]? = some l → c ∈ l → c < i
  nd : (b.flatten ++ s.flatten).Nodup
structure PlanOk (most : Nat) (b s : LL) : Prop where
  size : b.length ≤ most
  m1 : 1 ≤ s.length
  m2 : s.length ≤ 12
  inb : ∀ (p : Nat) (l : List Nat) (c : Nat), b[p]? = some l → c ∈ l → p < c ∧ c < b.length
  ins : ∀ (p : Nat) (l : List Nat) (c : Nat), s[p]? = some l → c ∈ l → c < b.length
  nd : (b.flatten ++ s.flatten).Nodup
theorem mem_flat {l : LL} {c : Nat} (h : c ∈ l.flatten) : ∃ (p : Nat) (r : List Nat), l[p]? = some r ∧ c ∈ r := by
  obtain ⟨r, h1, h2⟩ := List.mem_flatten.mp h
  obtain ⟨p, hp⟩ := List.mem_iff_getElem?.mp h1
  exact ⟨p, r, hp, h2⟩
theorem PlanAt.start (n m : Nat) : PlanAt 0 n m (List.replicate n []) (List.replicate m []) := by
  refine ⟨by simp, by simp, fun p l c h hc => ?_, fun p l c h hc => ?_, by simp⟩
  · rw [List.getElem?_replicate] at h
    split at h <;> cases h
    cases hc
  · rw [List.getElem?_replicate] at h
    split at h <;> cases h
    cases hc
theorem PlanAt.lt {i n m : Nat} {b s : LL} (P : PlanAt i n m b s) : ∀ c ∈ b.flatten ++ s.flatten, c < i := fun c hc => by
  rcases List.mem_append.mp hc with h | h
  · obtain ⟨p, r, h1, h2⟩ := mem_flat h
    exact (P.inb p r c h1 h2).2
  · obtain ⟨p, r, h1, h2⟩ := mem_flat h
    exact P.ins p r c h1 h2
theorem flat_set {l : LL} {j : Nat} {r r' : List Nat} {x : Nat} (h : l[j]? = some r) (hr : r'.Perm (x :: r)) : (l.set j r').flatten.Perm (x :: l.flatten) := by
  induction l generalizing j with
  | nil => simp at h
  | cons a l ih =>
    cases j with
    | zero =>
      simp at h
      subst h
      show (r' ++ l.flatten).Perm (x :: (a ++ l.flatten))
      exact hr.append_right l.flatten
    | succ j =>
      have z := ih (j := j) (by simpa using h)
      show (a ++ (l.set j r').flatten).Perm (x :: (a ++ l.flatten))
      exact (z.append_left a).trans List.perm_middle
theorem PlanAt.put {i n m : Nat} {b s b' s' : LL} (P : PlanAt i n m b s) (hb : b'.length = b.length) (hs : s'.length = s.length) (hp : (b'.flatten ++ s'.flatten).Perm (i :: (b.flatten ++ s.flatten)))
    (h1 : ∀ (p : Nat) (l : List Nat) (c : Nat), b'[p]? = some l → c ∈ l → (p < c ∧ c < i) ∨ (p < i ∧ c = i)) (h2 : ∀ (p : Nat) (l : List Nat) (c : Nat), s'[p]? = some l → c ∈ l → c < i + 1) : PlanAt (i + 1) n m b' s' :=
  ⟨hb.trans P.bl, hs.trans P.sl, fun p l c h hc => by rcases h1 p l c h hc with q | q <;> omega, fun p l c h hc => h2 p l c h hc,
    hp.nodup_iff.mpr (List.nodup_cons.mpr ⟨fun h => absurd (P.lt i h) (Nat.lt_irrefl _), P.nd⟩)⟩
theorem PlanAt.brood {i n m j : Nat} {b s : LL} {r r' : List Nat} (P : PlanAt i n m b s) (hj : b[j]? = some r) (hi : j < i) (hr : r'.Perm (i :: r)) : PlanAt (i + 1) n m (b.set j r') s := by
  refine P.put (by simp) rfl (List.Perm.append_right s.flatten (flat_set hj hr)) (fun p l c h hc => ?_) fun p l c h hc => Nat.lt_succ_of_lt (P.ins p l c h hc)
  rw [List.getElem?_set] at h
  split at h
  · rename_i e
    split at h
    · cases h
      rcases List.mem_cons.mp (hr.mem_iff.mp hc) with q | q
      · exact .inr ⟨e ▸ hi, q⟩
      · exact .inl (by subst e; exact P.inb _ r c hj q)
    · cases h
  · exact .inl (P.inb p l c h hc)
theorem PlanAt.row {i n m j : Nat} {b s : LL} {r r' : List Nat} (P : PlanAt i n m b s) (hj : s[j]? = some r) (hr : r'.Perm (i :: r)) : PlanAt (i + 1) n m b (s.set j r') := by
  refine P.put rfl (by simp) ((List.Perm.append_left b.flatten (flat_set hj hr)).trans List.perm_middle) (fun p l c h hc => .inl (P.inb p l c h hc)) fun p l c h hc => ?_
  rw [List.getElem?_set] at h
  split at h
  · split at h
    · cases h
      rcases List.mem_cons.mp (hr.mem_iff.mp hc) with q | q
      · omega
      · exact Nat.lt_succ_of_lt (P.ins j r c hj q)
    · cases h
  · exact Nat.lt_succ_of_lt (P.ins p l c h hc)
theorem PlanAt.none {i n m : Nat} {b s : LL} (P : PlanAt i n m b s) : PlanAt (i + 1) n m b s :=
  ⟨P.bl, P.sl, fun p l c h hc => by have := P.inb p l c h hc; omega, fun p l c h hc => Nat.lt_succ_of_lt (P.ins p l c h hc), P.nd⟩
theorem PlanAt.ok {n m most : Nat} {b s : LL} (P : PlanAt n n m b s) (h1 : n ≤ most) (h2 : 1 ≤ m) (h3 : m ≤ 12) : PlanOk most b s :=
  ⟨by rw [P.bl]; exact h1, by rw [P.sl]; exact h2, by rw [P.sl]; exact h3, fun p l c h hc => by rw [P.bl]; exact P.inb p l c h hc, fun p l c h hc => by rw [P.bl]; exact P.ins p l c h hc, P.nd⟩
/-! as data -/
def encN (l : List Nat) : List D := l.map fun (n : Nat) => .int (n : Int)
def encL (l : List Nat) : D := .list (encN l)
def encLL (l : LL) : D := .list (l.map encL)
def encP (b s : LL) : D := .tuple [encLL b, encLL s]
def vN (l : List Nat) : List L2.V := l.map fun (n : Nat) => .int (n : Int)
theorem rpN {M : MS} {H : L2.Hp} : ∀ l : List Nat, RpAll M H (vN l) (encN l)
  | [] => .nil
  | n :: l => .cons (.int n) (rpN l)

/-! the builder's promise -/
def spPlanZ (K : PySem.W.Frag) : L2.Sp := fun vs H Q _ => ∃ (a : Addr) (ns : List Int) (first : Int) (most : Nat), vs = [.ref a, .int first, .int (most : Int)] ∧ L2.SqL K H a (ns.map L2.V.int) ∧ 0 ≤ first ∧ most ≤ 200 ∧
  ∀ (b s : LL) (v : L2.V) (H' : L2.Hp), PlanOk most b s → L2.Same H H' → (∀ M : MS, Ok M H → Rp M H' v (encP b s)) → Q v H'
theorem rows_rp {M : MS} {H : L2.Hp} {l : Addr} {as : List Addr} {b : LL} (R : Rows H l as (b.map vN)) (hl : ¬ M l) (ha : ∀ a ∈ as, ¬ M a) : Rp M H (.ref l) (encLL b) := by
  have z := R.rp (dss := b.map encN) hl ha (by simp) (fun i r ds h1 h2 => by
    rw [List.getElem?_map] at h1 h2
    cases e : b[i]? with
    | none => rw [e] at h1; cases h1
    | some x => rw [e] at h1 h2; cases h1; cases h2; exact rpN x)
  rw [List.map_map] at z
  exact z
theorem New.not {M : MS} {H : L2.Hp} {l : Addr} {as : List Addr} (n : New H l as) (ok : Ok M H) : ¬ M l ∧ ∀ a ∈ as, ¬ M a := ⟨fun m => ok l m n.1, fun a ha m => ok a m (n.2 a ha)⟩

/-! the builder's numbers -/
theorem fmod_rng {a b : Int} (h : 0 < b) : 0 ≤ a.fmod b ∧ a.fmod b < b := by
  rw [Int.fmod_eq_emod_of_nonneg a (Int.le_of_lt h)]
  exact ⟨Int.emod_nonneg a (by omega), Int.emod_lt_of_pos a h⟩
theorem eVar_get {ds : Sl} {i : Nat} {d : D} (h : ds[i]? = some (some d)) : eVar i ds = some d := by unfold eVar; rw [h]; rfl
theorem eOp_ev {o : D → D → Option D} {f g : Sl → Option D} {ds : Sl} {x y : D} (hf : f ds = some x) (hg : g ds = some y) : eOp o f g ds = o x y := by unfold eOp; rw [hf, hg]; rfl
theorem mod_ev {f g : Sl → Option D} {ds : Sl} {x y : Int} (hf : f ds = some (.int x)) (hg : g ds = some (.int y)) (hy : 0 < y) : eOp oMod f g ds = some (.int (x.fmod y)) := by
  rw [eOp_ev hf hg]
  show (if y = 0 then none else some (PyData.int (x.fmod y))) = _
  rw [if_neg (by omega)]
theorem div_ev {f g : Sl → Option D} {ds : Sl} {x y : Int} (hf : f ds = some (.int x)) (hg : g ds = some (.int y)) (hy : 0 < y) (hy2 : y < 1073741824) : eOp oDiv f g ds = some (.int (x.fdiv y)) := by
  rw [eOp_ev hf hg]
  show (if y = 0 ∨ ¬ y.natAbs < 1073741824 then none else some (PyData.int (x.fdiv y))) = _
  rw [if_neg (by omega)]
theorem add_ev {f g : Sl → Option D} {ds : Sl} {x y : Int} (hf : f ds = some (.int x)) (hg : g ds = some (.int y)) : eOp oAdd f g ds = some (.int (x + y)) := by
  rw [eOp_ev hf hg]; rfl
theorem sub_ev {f g : Sl → Option D} {ds : Sl} {x y : Int} (hf : f ds = some (.int x)) (hg : g ds = some (.int y)) : eOp oSub f g ds = some (.int (x - y)) := by
  rw [eOp_ev hf hg]; rfl
theorem mul_ev {f g : Sl → Option D} {ds : Sl} {x y : Int} (hf : f ds = some (.int x)) (hg : g ds = some (.int y)) (h : (-(2 ^ 64) < x ∧ x < 2 ^ 64) ∨ (-(2 ^ 64) < y ∧ y < 2 ^ 64)) : eOp oMul f g ds = some (.int (x * y)) := by
  rw [eOp_ev hf hg]
  show (if (-(2 ^ 64) < x ∧ x < 2 ^ 64) ∨ (-(2 ^ 64) < y ∧ y < 2 ^ 64) then some (PyData.int (x * y)) else none) = _
  rw [if_pos h]
theorem lt_ev {f g : Sl → Option D} {ds : Sl} {x y : Int} (hf : f ds = some (.int x)) (hg : g ds = some (.int y)) : bT (eOp oLt f g) ds = some (decide (x < y)) := by
  unfold bT; rw [eOp_ev hf hg]; rfl
theorem gt_ev {f g : Sl → Option D} {ds : Sl} {x y : Int} (hf : f ds = some (.int x)) (hg : g ds = some (.int y)) : bT (eOp oGt f g) ds = some (decide (y < x)) := by
  unfold bT; rw [eOp_ev hf hg]; rfl
theorem sh_int (x : Int) : SeqAt.shaped (.int x) = true := rfl
theorem eqv_int (x y : Int) : PyData.eqv (.int x) (.int y) = (x == y) := by simp [PyData.eqv]
theorem oEq_int (x y : Int) : oEq (.int x) (.int y) = some (.bool (x == y)) := by
  unfold oEq
  rw [if_pos ⟨sh_int x, sh_int y⟩, eqv_int]
theorem oNe_int (x y : Int) : oNe (.int x) (.int y) = some (.bool (!(x == y))) := by
  unfold oNe
  rw [if_pos ⟨sh_int x, sh_int y⟩, eqv_int]
theorem eq_ev {f g : Sl → Option D} {ds : Sl} {x y : Int} (hf : f ds = some (.int x)) (hg : g ds = some (.int y)) : bT (eOp oEq f g) ds = some (x == y) := by
  unfold bT; rw [eOp_ev hf hg, oEq_int]; rfl
theorem ne_ev {f g : Sl → Option D} {ds : Sl} {x y : Int} (hf : f ds = some (.int x)) (hg : g ds = some (.int y)) : bT (eOp oNe f g) ds = some (!(x == y)) := by
  unfold bT; rw [eOp_ev hf hg, oNe_int]; rfl
theorem and_ev {f g : Sl → Option Bool} {ds : Sl} {x y : Bool} (hf : f ds = some x) (hg : g ds = some y) : bAnd f g ds = some (x && y) := by
  unfold bAnd; rw [hf]
  show (if x = true then g ds else some false) = _
  rw [hg]
  cases x <;> rfl
theorem atI_3 {α : Type} (a b c : α) (r : Int) (h0 : 0 ≤ r) (h1 : r < 3) : ∃ x, L2.atI [a, b, c] r = some x ∧ (x = a ∨ x = b ∨ x = c) := by
  have h : r = 0 ∨ r = 1 ∨ r = 2 := by omega
  rcases h with rfl | rfl | rfl
  · exact ⟨a, rfl, .inl rfl⟩
  · exact ⟨b, rfl, .inr (.inl rfl)⟩
  · exact ⟨c, rfl, .inr (.inr rfl)⟩
theorem atI_2 {α : Type} (a b : α) (r : Int) (h0 : 0 ≤ r) (h1 : r < 2) : ∃ x, L2.atI [a, b] r = some x ∧ (x = a ∨ x = b) := by
  have h : r = 0 ∨ r = 1 := by omega
  rcases h with rfl | rfl
  · exact ⟨a, rfl, .inl rfl⟩
  · exact ⟨b, rfl, .inr rfl⟩
/-- 1 + cell % [4, 4, 12][cell // 48 % 3] -/
theorem many_ev {ds : Sl} {f : Sl → Option D} {c : Int} (h : f ds = some (.int c)) : ∃ m : Nat, 1 ≤ m ∧ m ≤ 12 ∧
    eOp oAdd (eC (.int 1)) (eOp oMod f (eOp oIx (eLst (esCons (eC (.int 4)) (esCons (eC (.int 4)) (esCons (eC (.int 12)) esNil)))) (eOp oMod (eOp oDiv f (eC (.int 48))) (eC (.int 3))))) ds = some (.int (m : Int)) := by
  have e1 : eOp oMod (eOp oDiv f (eC (.int 48))) (eC (.int 3)) ds = some (.int ((c.fdiv 48).fmod 3)) := mod_ev (div_ev h rfl (by decide) (by decide)) rfl (by decide)
  have r1 := fmod_rng (a := c.fdiv 48) (b := 3) (by decide)
  have e2 : eLst (esCons (eC (.int 4)) (esCons (eC (.int 4)) (esCons (eC (.int 12)) esNil))) ds = some (.list [.int 4, .int 4, .int 12]) := rfl
  obtain ⟨x, e3, hx⟩ := atI_3 (PyData.int 4) (.int 4) (.int 12) _ r1.1 r1.2
  have e4 : eOp oIx (eLst (esCons (eC (.int 4)) (esCons (eC (.int 4)) (esCons (eC (.int 12)) esNil)))) (eOp oMod (eOp oDiv f (eC (.int 48))) (eC (.int 3))) ds = some x := by
    rw [eOp_ev e2 e1]; exact e3
  obtain ⟨y, hy, h0, h12⟩ : ∃ y : Int, x = .int y ∧ 0 < y ∧ y ≤ 12 := by
    rcases hx with rfl | rfl | rfl
    · exact ⟨4, rfl, by decide, by decide⟩
    · exact ⟨4, rfl, by decide, by decide⟩
    · exact ⟨12, rfl, by decide, by decide⟩
  subst hy
  have r2 := fmod_rng (a := c) h0
  refine ⟨(1 + c.fmod y).toNat, by omega, by omega, ?_⟩
  rw [add_ev rfl (mod_ev h e4 h0)]
  congr 2
  omega
/-- cell // 144 % (most + 1) -/
theorem size_ev {ds : Sl} {f g : Sl → Option D} {c : Int} {most : Nat} (h : f ds = some (.int c)) (hm : g ds = some (.int (most : Int))) : ∃ n : Nat, n ≤ most ∧ eOp oMod (eOp oDiv f (eC (.int 144))) (eOp oAdd g (eC (.int 1))) ds = some (.int (n : Int)) := by
  have r := fmod_rng (a := c.fdiv 144) (b := (most : Int) + 1) (by omega)
  refine ⟨((c.fdiv 144).fmod ((most : Int) + 1)).toNat, by omega, ?_⟩
  rw [mod_ev (div_ev h rfl (by decide) (by decide)) (add_ev hm rfl) (by omega)]
  congr 2
  omega
/-- way // 25 % [1, many][cell // 4000 % 2] -/
theorem deal_ev {ds : Sl} {f g k : Sl → Option D} {c w : Int} {m : Nat} (h : f ds = some (.int w)) (hm : g ds = some (.int (m : Int))) (hc : k ds = some (.int c)) (m1 : 1 ≤ m) :
    ∃ j : Nat, j < m ∧ eOp oMod (eOp oDiv f (eC (.int 25))) (eOp oIx (eLst (esCons (eC (.int 1)) (esCons g esNil))) (eOp oMod (eOp oDiv k (eC (.int 4000))) (eC (.int 2)))) ds = some (.int (j : Int)) := by
  have e1 : eOp oMod (eOp oDiv k (eC (.int 4000))) (eC (.int 2)) ds = some (.int ((c.fdiv 4000).fmod 2)) := mod_ev (div_ev hc rfl (by decide) (by decide)) rfl (by decide)
  have r1 := fmod_rng (a := c.fdiv 4000) (b := 2) (by decide)
  have e2 : eLst (esCons (eC (.int 1)) (esCons g esNil)) ds = some (.list [.int 1, .int (m : Int)]) := by
    unfold eLst esCons
    rw [hm]
    rfl
  obtain ⟨x, e3, hx⟩ := atI_2 (PyData.int 1) (.int (m : Int)) _ r1.1 r1.2
  have e4 : eOp oIx (eLst (esCons (eC (.int 1)) (esCons g esNil))) (eOp oMod (eOp oDiv k (eC (.int 4000))) (eC (.int 2))) ds = some x := by
    rw [eOp_ev e2 e1]; exact e3
  obtain ⟨y, hy, h0, h12⟩ : ∃ y : Int, x = .int y ∧ 0 < y ∧ y ≤ m := by
    rcases hx with rfl | rfl
    · exact ⟨1, rfl, by decide, by omega⟩
    · exact ⟨m, rfl, by omega, by omega⟩
  subst hy
  have r2 := fmod_rng (a := w.fdiv 25) h0
  refine ⟨((w.fdiv 25).fmod y).toNat, by omega, ?_⟩
  rw [mod_ev (div_ev h rfl (by decide) (by decide)) e4 h0]
  congr 2
  omega
/-- way // 5 % task -/
theorem under_ev {ds : Sl} {f g : Sl → Option D} {w : Int} {i : Nat} (h : f ds = some (.int w)) (hi : g ds = some (.int (i : Int))) (h0 : 0 < i) : ∃ j : Nat, j < i ∧ eOp oMod (eOp oDiv f (eC (.int 5))) g ds = some (.int (j : Int)) := by
  have r := fmod_rng (a := w.fdiv 5) (b := (i : Int)) (by omega)
  refine ⟨((w.fdiv 5).fmod (i : Int)).toNat, by omega, ?_⟩
  rw [mod_ev (div_ev h rfl (by decide) (by decide)) hi (by omega)]
  congr 2
  omega
theorem map_set_vN (b : LL) (j : Nat) (r : List Nat) : (b.map vN).set j (vN r) = (b.set j r).map vN := by rw [List.map_set]
theorem vN_snoc (r : List Nat) (i : Nat) : vN r ++ [.int (i : Int)] = vN (r ++ [i]) := by unfold vN; rw [List.map_append]; rfl

section
open L2
theorem vN_rp {M : MS} {H : Hp} {xs : List V} {l : List Nat} (r : RpAll M H xs (encN l)) : xs = vN l := by
  have e : encN l = (l.map fun (n : Nat) => (n : Int)).map .int := by unfold encN; rw [List.map_map]; rfl
  rw [e] at r
  rw [r.ints, List.map_map]; rfl
/-- [list(x) for x in rows], each told as new -/
theorem lc_copy {K : PySem.W.Frag} {M : MS} {σ : St} {ds : Sl} {f : Sl → Option D} {b : LL} {H : Hp} {Q : VK} {i : Nat} (ok : Ok M H) (s : SlD M H σ ds) (e : f ds = some (encLL b)) (hi : i < σ.length) (hz : b.length ≤ 100000)
    (q : ∀ H' Dl as, Rows H' Dl as (b.map vN) → Same H H' → New H Dl as → Q (.ref Dl) H') : tLc (iSeq K f) (gName i) tYes (tCB (rList K) (tCons (tVar i) tNil)) [i] σ H Q := by
  refine .inl (tp_ok ok s e fun v H1 s1 r1 => ?_)
  cases r1 with
  | lst a1 n1 r1 =>
    rename_i a xs
    have hlen : xs.length = b.length := by rw [r1.length, List.length_map]
    refine ⟨a, rfl, ⟨_, SqL.of a1⟩, fun Dl hD => lc_list (te := tCB (rList K) (tCons (tVar i) tNil)) (tt := tYes) (fun j H' => ∃ as, Rows H' Dl as ((b.take j).map vN) ∧ Same H1 H' ∧ New H1 Dl as) ⟨[], Rows.nil upd_same, Pu.Same.new hD, hD, fun a h => by simp at h⟩ (fun j H' _ ⟨_, _, s', _⟩ => SqL.of (s' _ _ a1)) (fun j x H' hx hP => ?_) (fun H' hP => ?_)⟩
    · obtain ⟨as, R, s', nw⟩ := hP
      refine ⟨?_, ?_⟩
      · show ((σ.set i none).set i _).set i none = σ.set i none
        rw [set_set3, set_set3]
      · dsimp only [tYes]
        rw [if_pos rfl]
        obtain ⟨d, hd, rx⟩ := r1.get' hx
        rw [List.getElem?_map] at hd
        cases hb : b[j]? with
        | none => rw [hb] at hd; cases hd
        | some l =>
          rw [hb] at hd
          cases hd
          cases rx with
          | lst e2 n2 r2 =>
            rename_i p ws
            have ew := vN_rp r2
            subst ew
            refine ⟨.ref p, ?_, p, vN l, rfl, .inl (SqL.of (s' _ _ e2)), fun p2 hp2 => ⟨as.map V.ref, ?_, ?_, as ++ [p2], ?_, ?_, nw.push s' hp2⟩⟩
            · exact List.getElem?_set_self (by rw [wipe_length]; exact hi)
            · rw [upd_ne (ne_of_none R.top hp2)]; exact R.top
            · have := (List.getElem?_eq_some_iff.mp hb).1
              rw [List.length_map, R.len, List.length_map, List.length_take, sizeLine_eq]; omega
            · have z := R.push (r := vN l) hp2
              have e3 : (b.take (j + 1)).map vN = (b.take j).map vN ++ [vN l] := by
                rw [List.take_add_one, hb, List.map_append]; rfl
              rw [e3]
              exact z
            · exact Pu.Same.mut (L2.Same.trans s' (Pu.Same.new hp2)) hD
    · obtain ⟨as, R, s', nw⟩ := hP
      rw [hlen, List.take_length] at R
      exact q H' Dl as R (L2.Same.trans s1 s') ⟨s1.free nw.1, fun x hx => s1.free (nw.2 x hx)⟩
end
end Pu

set_option Elab.async false
set_option linter.all false
set_option maxRecDepth 100000
set_option maxHeartbeats 2000000
set_option autoImplicit false
/-! St: states, yards, events as plain data; what the pure defs give of them. -/
namespace Pu
open PySem

/-! ### a function's value, step by step -/
theorem lcD_map {i : Nat} {c : Sl → Option Bool} {e : Sl → Option D} {g : D → D} : ∀ {l : List D} {ds : Sl}, (∀ d ∈ l, c (ds.set i (some d)) = some true ∧ e (ds.set i (some d)) = some (g d)) → lcD i c e l ds = some (l.map g)
  | [], _, _ => rfl
  | d :: l, ds, h => by
    have h1 := h d List.mem_cons_self
    have h2 := lcD_map (l := l) (ds := ds) fun x hx => h x (List.mem_cons_of_mem _ hx)
    unfold lcD
    simp only [h1.1, h1.2, h2, Option.bind_some, if_true, List.map_cons]
theorem lc_map {i : Nat} {it : Sl → Option (List D)} {c : Sl → Option Bool} {e : Sl → Option D} {g : D → D} {l : List D} {ds : Sl} (h0 : it ds = some l) (hl : l.length ≤ lim) (h : ∀ d ∈ l, c ((ds.set i none).set i (some d)) = some true ∧ e ((ds.set i none).set i (some d)) = some (g d)) : eLc i it c e ds = some (.list (l.map g)) := by
  unfold eLc
  simp only [h0, Option.bind_some, if_pos hl, lcD_map h]
theorem kb1 : L2.kitB "tuple" "tuple" = some true := by decide +kernel
theorem kb2 : L2.kitB "tuple" "list" = some false := by decide +kernel
theorem kb3 : L2.kitB "list" "tuple" = some false := by decide +kernel
theorem kb4 : L2.kitB "list" "list" = some true := by decide +kernel
theorem kb5 : L2.kitB "str" "tuple" = some false := by decide +kernel
theorem kb6 : L2.kitB "str" "list" = some false := by decide +kernel
theorem kb7 : L2.kitB "str" "str" = some true := by decide +kernel
theorem kb8 : L2.kitB "int" "tuple" = some false := by decide +kernel
theorem kb9 : L2.kitB "int" "list" = some false := by decide +kernel
theorem kb10 : L2.kitB "int" "str" = some false := by decide +kernel
theorem kb11 : L2.kitB "int" "int" = some true := by decide +kernel
theorem kb12 : L2.kitB "int" "bool" = some false := by decide +kernel
theorem kb13 : L2.kitB "NoneType" "tuple" = some false := by decide +kernel
theorem kb14 : L2.kitB "NoneType" "list" = some false := by decide +kernel
theorem kb15 : L2.kitB "NoneType" "str" = some false := by decide +kernel
/-- data that a law compares -/
def good : Nat → D → Prop
  | 0, _ => False
  | n + 1, .tuple l => l.length ≤ 1000000 ∧ ∀ x ∈ l, good n x
  | n + 1, .list l => l.length ≤ 1000000 ∧ ∀ x ∈ l, good n x
  | _ + 1, .int _ => True
  | _ + 1, .str x => SeqAt.shaped (.str x) = true
  | _ + 1, .none => True
  | _ + 1, _ => False
theorem eqv_str (x : Str) : PyData.eqv (.str x) (.str x) = true := by simp [PyData.eqv]
theorem oAll_true (n : Nat) : oAll [.list (List.replicate n (.bool true))] = some (.bool true) := by
  have e : List.replicate n (PyData.bool true) = (List.replicate n true).map .bool := by rw [List.map_replicate]
  show ((blsOf (List.replicate n (.bool true))).bind fun bs => some (PyData.bool (bs.all id))) = _
  rw [e, blsOf_bls]
  show some (PyData.bool ((List.replicate n true).all id)) = _
  congr 2
  simp
/-- a body's end -/
def endD : Out → Option D
  | .rt d => some d
  | .nx _ => some .none
  | _ => none
theorem alike_succ (n : Nat) (d e : D) : M_l_alike (n + 1) [d, e] = (F_l_alike (M_l_alike n) [some d, some e, none]).bind endD := by
  show ((F_l_alike (M_l_alike n)) [some d, some e, none]).bind _ = _
  congr 1
theorem alike_seq {rec : List D → Option D} {l : List D} (hl : l.length ≤ 1000000) (h : ∀ x ∈ l, rec [x, x] = some (.bool true)) (d : D) (hd : d = .tuple l ∨ d = .list l) :
    eCall oAll (esCons (eLc 2 (eRng (eCall oLen (esCons (eVar 1) esNil))) bYes (eCall rec (esCons (eOp oIx (eVar 0) (eVar 2)) (esCons (eOp oIx (eVar 1) (eVar 2)) esNil)))) esNil) [some d, some d, none] = some (.bool true) := by
  have hlen : eCall oLen (esCons (eVar 1) esNil) [some d, some d, none] = some (.int (l.length : Int)) := by rcases hd with rfl | rfl <;> rfl
  have hit : eRng (eCall oLen (esCons (eVar 1) esNil)) [some d, some d, none] = some (rngD (l.length : Int)) := by
    unfold eRng
    rw [hlen]
    show (if (l.length : Int) ≤ 1000000 ∧ -1000000 ≤ (l.length : Int) then some (rngD (l.length : Int)) else none) = _
    rw [if_pos (by omega)]
  have hlc : eLc 2 (eRng (eCall oLen (esCons (eVar 1) esNil))) bYes (eCall rec (esCons (eOp oIx (eVar 0) (eVar 2)) (esCons (eOp oIx (eVar 1) (eVar 2)) esNil))) [some d, some d, none] = some (.list ((rngD (l.length : Int)).map fun _ => .bool true)) := by
    refine lc_map hit (by rw [rngD_length]; unfold lim; omega) fun x hx => ⟨rfl, ?_⟩
    unfold rngD at hx
    obtain ⟨k, hk, rfl⟩ := List.mem_map.mp hx
    have hk' : k < l.length := by simpa using hk
    have hx : L2.atI l (k : Int) = some l[k] := L2.atI_nat (List.getElem?_eq_getElem hk')
    have e1 : oIx d (.int (k : Int)) = some l[k] := by rcases hd with rfl | rfl <;> exact hx
    show ((oIx d (.int (k : Int))).bind fun x => ((oIx d (.int (k : Int))).bind fun y => some [y]).bind fun r => some (x :: r)).bind rec = _
    rw [e1]
    exact h _ (List.getElem_mem hk')
  show (((eLc 2 (eRng (eCall oLen (esCons (eVar 1) esNil))) bYes (eCall rec (esCons (eOp oIx (eVar 0) (eVar 2)) (esCons (eOp oIx (eVar 1) (eVar 2)) esNil))) [some d, some d, none]).bind fun x => some [x])).bind oAll = _
  rw [hlc]
  show oAll [.list ((rngD (l.length : Int)).map fun _ => .bool true)] = _
  rw [List.map_const', rngD_length]
  exact oAll_true _
theorem alike_ok : ∀ (n : Nat) (d : D), good n d → M_l_alike n [d, d] = some (.bool true)
  | 0, _, h => h.elim
  | n + 1, d, h => by
    have seq : ∀ (l : List D), (d = .tuple l ∨ d = .list l) → (l.length ≤ 1000000 ∧ ∀ x ∈ l, good n x) → M_l_alike (n + 1) [d, d] = some (.bool true) := fun l hd hg => by
      have z := alike_seq (rec := M_l_alike n) hg.1 (fun x hx => alike_ok n x (hg.2 x hx)) d hd
      rw [alike_succ]
      have hI : bT (eIs2 "tuple" "list" (eVar 1)) [some d, some d, none] = some true := by
        rcases hd with rfl | rfl
        · simp [bT, eIs2, eVar, tyD, kb1, kb2]
        · simp [bT, eIs2, eVar, tyD, kb3, kb4]
      have hI0 : bT (eIs2 "tuple" "list" (eVar 0)) [some d, some d, none] = some true := by
        rcases hd with rfl | rfl
        · simp [bT, eIs2, eVar, tyD, kb1, kb2]
        · simp [bT, eIs2, eVar, tyD, kb3, kb4]
      have hK : bT (eOp oNe (eIs "tuple" (eVar 0)) (eIs "tuple" (eVar 1))) [some d, some d, none] = some false := by
        rcases hd with rfl | rfl
        · have e : eIs "tuple" (eVar 0) [some (.tuple l), some (.tuple l), none] = some (.bool true) := by simp [eIs, eVar, tyD, kb1]
          have e' : eIs "tuple" (eVar 1) [some (.tuple l), some (.tuple l), none] = some (.bool true) := by simp [eIs, eVar, tyD, kb1]
          unfold bT
          rw [eOp_ev e e']; rfl
        · have e : eIs "tuple" (eVar 0) [some (.list l), some (.list l), none] = some (.bool false) := by simp [eIs, eVar, tyD, kb3]
          have e' : eIs "tuple" (eVar 1) [some (.list l), some (.list l), none] = some (.bool false) := by simp [eIs, eVar, tyD, kb3]
          unfold bT
          rw [eOp_ev e e']; rfl
      have hlen0 : eCall oLen (esCons (eVar 0) esNil) [some d, some d, none] = some (.int (l.length : Int)) := by rcases hd with rfl | rfl <;> rfl
      have hlen : eCall oLen (esCons (eVar 1) esNil) [some d, some d, none] = some (.int (l.length : Int)) := by rcases hd with rfl | rfl <;> rfl
      have hL : bT (eOp oNe (eCall oLen (esCons (eVar 0) esNil)) (eCall oLen (esCons (eVar 1) esNil))) [some d, some d, none] = some false := by
        rw [ne_ev hlen0 hlen]; simp
      simp only [F_l_alike, sSeq, sIf, bOr, bNot, hI, hI0, hK, hL, sNx, sRet, endD, z, Option.bind_some, if_true, Bool.not_true, Bool.false_eq_true, if_false]
    match d, h with
    | .tuple l, h => exact seq l (.inl rfl) h
    | .list l, h => exact seq l (.inr rfl) h
    | .int i, _ =>
      rw [alike_succ]
      simp [F_l_alike, sSeq, sIf, bT, eIs2, eIs, eVar, tyD, kb8, kb9, kb10, kb11, kb12, sNx, sRet, endD, eAnd, eNot, eOp, oEq_int, oIsA, eC, isNon]
    | .str x, hs =>
      rw [alike_succ]
      have hs : SeqAt.shaped (.str x) = true := hs
      simp [F_l_alike, sSeq, sIf, bT, eIs2, eIs, eVar, tyD, kb5, kb6, kb7, sNx, sRet, endD, eAnd, eNot, eOp, oEq, hs, eqv_str, eC]
    | .none, _ =>
      rw [alike_succ]
      simp [F_l_alike, sSeq, sIf, bT, eIs2, eIs, eVar, tyD, kb13, kb14, kb15, sNx, sRet, endD, eAnd, eNot, eOp, oIsA, eC, isNon]
    | .bool _, h => exact h.elim
    | .dict _, h => exact h.elim
end Pu

set_option Elab.async false
set_option linter.all false
set_option maxRecDepth 100000
set_option maxHeartbeats 4000000
set_option autoImplicit false
/-! Ev: the states, the yards, the events; a step as a plain function; what the pure defs give. -/
namespace Pu
open PySem

inductive W where
  | free | lowered | last (h : Int) | mends (t : Int) (task : Option Nat) | looks (k : Int) | seen (k h : Int) | reads (k h : Int) | tries (k h : Int) (t : Nat) | holds (t n : Nat) | wrote (t n : Nat) | rests
  deriving DecidableEq
structure Row where
  head : Int
  tail : Int
  places : List Nat
structure Yard where
  rows : List Row
  states : List W
inductive Evt where
  | own (w t : Nat) | taken (w o t : Nat) | put (w t : Nat) | done (w t : Nat) | rests (w : Nat)
  deriving DecidableEq
def encT : Option Nat → D
  | none => .none
  | some t => .int (t : Int)
def encS : W → D
  | .free => .tuple [.str "free"]
  | .lowered => .tuple [.str "lowered"]
  | .last h => .tuple [.str "last", .int h]
  | .mends t x => .tuple [.str "mends", .int t, encT x]
  | .looks k => .tuple [.str "looks", .int k]
  | .seen k h => .tuple [.str "seen", .int k, .int h]
  | .reads k h => .tuple [.str "reads", .int k, .int h]
  | .tries k h t => .tuple [.str "tries", .int k, .int h, .int (t : Int)]
  | .holds t n => .tuple [.str "holds", .int (t : Int), .int (n : Int)]
  | .wrote t n => .tuple [.str "wrote", .int (t : Int), .int (n : Int)]
  | .rests => .tuple [.str "rests"]
def encR (r : Row) : D := .tuple [.int r.head, .int r.tail, .tuple (encN r.places)]
def encY (y : Yard) : D := .tuple [.tuple (y.rows.map encR), .tuple (y.states.map encS)]
def encE : Evt → D
  | .own w t => .tuple [.str "own", .int (w : Int), .int (t : Int)]
  | .taken w o t => .tuple [.str "taken", .int (w : Int), .int (o : Int), .int (t : Int)]
  | .put w t => .tuple [.str "put", .int (w : Int), .int (t : Int)]
  | .done w t => .tuple [.str "done", .int (w : Int), .int (t : Int)]
  | .rests w => .tuple [.str "rests", .int (w : Int)]
def encO : Option Evt → D
  | none => .none
  | some e => encE e

theorem sh_free : SeqAt.shaped (.str "free") = true := by decide +kernel
theorem sh_lowered : SeqAt.shaped (.str "lowered") = true := by decide +kernel
theorem sh_last : SeqAt.shaped (.str "last") = true := by decide +kernel
theorem sh_mends : SeqAt.shaped (.str "mends") = true := by decide +kernel
theorem sh_looks : SeqAt.shaped (.str "looks") = true := by decide +kernel
theorem sh_seen : SeqAt.shaped (.str "seen") = true := by decide +kernel
theorem sh_reads : SeqAt.shaped (.str "reads") = true := by decide +kernel
theorem sh_tries : SeqAt.shaped (.str "tries") = true := by decide +kernel
theorem sh_holds : SeqAt.shaped (.str "holds") = true := by decide +kernel
theorem sh_wrote : SeqAt.shaped (.str "wrote") = true := by decide +kernel
theorem sh_rests : SeqAt.shaped (.str "rests") = true := by decide +kernel
theorem sh_own : SeqAt.shaped (.str "own") = true := by decide +kernel
theorem sh_taken : SeqAt.shaped (.str "taken") = true := by decide +kernel
theorem sh_put : SeqAt.shaped (.str "put") = true := by decide +kernel
theorem sh_done : SeqAt.shaped (.str "done") = true := by decide +kernel
theorem eqv_strs (a b : Str) : PyData.eqv (.str a) (.str b) = decide (a = b) := by
  simp [PyData.eqv]
  by_cases h : a = b <;> simp [h]
theorem oEq_str {a b : Str} (ha : SeqAt.shaped (.str a) = true) (hb : SeqAt.shaped (.str b) = true) : oEq (.str a) (.str b) = some (.bool (decide (a = b))) := by
  unfold oEq
  rw [if_pos ⟨ha, hb⟩, eqv_strs]
theorem oIx0 {d : D} {l : List D} : oIx (.tuple (d :: l)) (.int 0) = some d := by
  show L2.atI (d :: l) ((0 : Nat) : Int) = some d
  exact L2.atI_nat rfl
theorem oIx1 {d e : D} {l : List D} : oIx (.tuple (e :: d :: l)) (.int 1) = some d := by
  show L2.atI (e :: d :: l) ((1 : Nat) : Int) = some d
  exact L2.atI_nat rfl
theorem oIx2 {d e f : D} {l : List D} : oIx (.tuple (e :: f :: d :: l)) (.int 2) = some d := by
  show L2.atI (e :: f :: d :: l) ((2 : Nat) : Int) = some d
  exact L2.atI_nat rfl
theorem oIx3 {d e f g : D} {l : List D} : oIx (.tuple (e :: f :: g :: d :: l)) (.int 3) = some d := by
  show L2.atI (e :: f :: g :: d :: l) ((3 : Nat) : Int) = some d
  exact L2.atI_nat rfl
/-! places by a whole number from 0 on -/
def at? {α : Type} (l : List α) (i : Int) : Option α := if 0 ≤ i then l[i.toNat]? else none
theorem at?_some {α : Type} {l : List α} {i : Int} {x : α} (h : at? l i = some x) : 0 ≤ i ∧ l[i.toNat]? = some x := by
  unfold at? at h
  split at h
  · exact ⟨by assumption, h⟩
  · cases h
theorem at?_nat {α : Type} {l : List α} {i : Nat} : at? l (i : Int) = l[i]? := by
  unfold at?
  rw [if_pos (by omega), Int.toNat_natCast]
theorem ix_at {l : List D} {i : Int} {x : D} (h : at? l i = some x) : oIx (.tuple l) (.int i) = some x := by
  obtain ⟨h0, h1⟩ := at?_some h
  have e : i = ((i.toNat : Nat) : Int) := by omega
  show L2.atI l i = some x
  rw [e]
  exact L2.atI_nat h1
theorem ixL_at {l : List D} {i : Int} {x : D} (h : at? l i = some x) : oIx (.list l) (.int i) = some x := by
  obtain ⟨h0, h1⟩ := at?_some h
  have e : i = ((i.toNat : Nat) : Int) := by omega
  show L2.atI l i = some x
  rw [e]
  exact L2.atI_nat h1
theorem at?_map {α β : Type} {f : α → β} {l : List α} {i : Int} {x : α} (h : at? l i = some x) : at? (l.map f) i = some (f x) := by
  obtain ⟨h0, h1⟩ := at?_some h
  unfold at?
  rw [if_pos h0, List.getElem?_map, h1]; rfl
theorem ix_places {l : List Nat} {i : Int} {t : Nat} (h : at? l i = some t) : oIx (.tuple (encN l)) (.int i) = some (.int (t : Int)) := ix_at (at?_map h)
theorem put_in_ev (l : List D) (k : Nat) (x : D) (h : l.length + 1 ≤ lim) : M_put_in [.tuple l, .int (k : Int), x] = some (.tuple (l.take k ++ [x] ++ l.drop (k + 1))) := by
  have hu : M_put_in [.tuple l, .int (k : Int), x] = (F_put_in [some (.tuple l), some (.int (k : Int)), some x]).bind endD := rfl
  rw [hu]
  have e1 : cutD l none (some (k : Int)) = l.take k := by
    unfold cutD
    rw [HT.sIx_none, HT.sIx_nat, List.drop_zero, Nat.sub_zero]
    rcases Nat.le_total k l.length with q | q
    · rw [Nat.min_eq_left q]
    · rw [Nat.min_eq_right q, List.take_of_length_le (Nat.le_refl _), List.take_of_length_le q]
  have e2 : cutD l (some ((k : Int) + 1)) none = l.drop (k + 1) := by
    unfold cutD
    have e : ((k : Int) + 1) = ((k + 1 : Nat) : Int) := by omega
    rw [HT.sIx_none, e, HT.sIx_nat]
    rcases Nat.le_total (k + 1) l.length with q | q
    · rw [Nat.min_eq_left q, List.take_of_length_le (by rw [List.length_drop]; exact Nat.le_refl _)]
    · rw [Nat.min_eq_right q, List.drop_of_length_le (Nat.le_refl _), List.drop_of_length_le q, List.take_nil]
  have h1 : (l.take k).length + 1 ≤ lim := by rw [List.length_take]; omega
  have h2 : (l.take k ++ [x]).length + (l.drop (k + 1)).length ≤ lim := by rw [List.length_append, List.length_take, List.length_drop]; simp; omega
  have l1 : 1 ≤ lim := by decide
  simp only [List.length_append, List.length_singleton] at h2
  simp [F_put_in, sRet, eOp, eSl, eVar, eC, eNoPart, ePart, oSl, oAdd, eTup, esCons, esNil, e1, e2, endD, l1]
  rw [if_pos (by simpa using h1)]
  simp [oAdd]
  rw [if_pos (by simpa using h2)]
  rfl
def ownLooked (w : Nat) (r : Row) : Option (W × Option Evt) :=
  if r.head < r.tail then (at? r.places r.tail).map fun t => (.holds t 0, some (.own w t))
  else if r.head = r.tail then some (.last r.head, none) else some (.mends (r.tail + 1) none, none)
def ownStep (w : Nat) (r : Row) (s : W) (many : Nat) : Option (Row × W × Option Evt) := match s with
  | .free => some (⟨r.head, r.tail - 1, r.places⟩, .lowered, none)
  | .lowered => (ownLooked w r).map fun p => (r, p.1, p.2)
  | .last h => if r.head = h then (at? r.places h).map fun t => (⟨r.head + 1, r.tail, r.places⟩, .mends (h + 1) (some t), some (.own w t)) else some (r, .mends (h + 1) none, none)
  | .mends t x => match x with
    | some c => some (⟨r.head, t, r.places⟩, .holds c 0, none)
    | none => if many = 1 then some (⟨r.head, t, r.places⟩, .rests, some (.rests w)) else some (⟨r.head, t, r.places⟩, .looks 1, none)
  | _ => none
def otherStep (w o : Nat) (r : Row) (s : W) (many : Nat) : Option (Row × W × Option Evt) := match s with
  | .looks k => some (r, .seen k r.head, none)
  | .seen k h => if h < r.tail then some (r, .reads k h, none) else if k + 1 < (many : Int) then some (r, .looks (k + 1), none) else some (r, .rests, some (.rests w))
  | .reads k h => (at? r.places h).map fun t => (r, .tries k h t, none)
  | .tries k h t => if r.head = h then some (⟨r.head + 1, r.tail, r.places⟩, .holds t 0, some (.taken w o t)) else some (r, .looks k, none)
  | _ => none
def putIn (l : List Nat) (k : Nat) (x : Nat) : List Nat := l.take k ++ [x] ++ l.drop (k + 1)
def taskStep (b : LL) (w : Nat) (r : Row) (s : W) : Option (Row × W × Option Evt) := match s with
  | .wrote t n => (b[t]?).bind fun l => (l[n]?).map fun c => (⟨r.head, r.tail + 1, r.places⟩, .holds t (n + 1), some (.put w c))
  | .holds t n => (b[t]?).bind fun l => if n < l.length then (l[n]?).bind fun c => if 0 ≤ r.tail then some (⟨r.head, r.tail, putIn r.places r.tail.toNat c⟩, .wrote t n, none) else none else some (r, .free, some (.done w t))
  | _ => none
/-- the answer of a step at a row -/
def ans3 (p : Row × W × Option Evt) : D := .tuple [encR p.1, encS p.2.1, encO p.2.2]
theorem l2 : 2 ≤ lim := by decide
theorem l3 : 3 ≤ lim := by decide
theorem l4 : 4 ≤ lim := by decide
theorem l1 : 1 ≤ lim := by decide
theorem own_looked_ev {w : Nat} {r : Row} {p : W × Option Evt} (h : ownLooked w r = some p) : M_own_looked [.int (w : Int), encR r] = some (.tuple [encS p.1, encO p.2]) := by
  unfold ownLooked at h
  have hu : M_own_looked [.int (w : Int), encR r] = (F_own_looked [some (.int (w : Int)), some (encR r), none, none, none]).bind endD := rfl
  rw [hu]
  by_cases h1 : r.head < r.tail
  · rw [if_pos h1] at h
    cases ha : at? r.places r.tail with
    | none => rw [ha] at h; cases h
    | some t =>
      rw [ha] at h
      cases h
      have hi := ix_places ha
      simp [F_own_looked, sSeq, sIf, sUnp, gTupD, setAll, encR, bT, eOp, eVar, oLt, h1, hi, sRet, eTup, esCons, esNil, eC, l1, l2, l3, encS, encO, encE, endD]
  · rw [if_neg h1] at h
    by_cases h2 : r.head = r.tail
    · rw [if_pos h2] at h
      cases h
      simp [F_own_looked, sSeq, sIf, sUnp, gTupD, setAll, encR, bT, eOp, eVar, oLt, h1, h2, oEq_int, sNx, sRet, eTup, esCons, esNil, eC, l1, l2, l3, encS, encO, encE, endD]
    · rw [if_neg h2] at h
      cases h
      simp [F_own_looked, sSeq, sIf, sUnp, gTupD, setAll, encR, bT, eOp, eVar, oLt, h1, h2, oEq_int, sNx, sRet, eTup, esCons, esNil, eC, l1, l2, l3, encS, encO, encE, encT, oAdd, endD]
theorem advanced_ev (r : Row) (h : Int) : M_advanced [encR r, .int h] = some (.tuple [encR (if r.head = h then ⟨r.head + 1, r.tail, r.places⟩ else r), .bool (decide (r.head = h))]) := by
  have hu : M_advanced [encR r, .int h] = (F_advanced [some (encR r), some (.int h), none, none, none]).bind endD := rfl
  rw [hu]
  by_cases h1 : r.head = h
  · simp [F_advanced, sSeq, sIf, sUnp, gTupD, setAll, encR, bT, eOp, eVar, oNe_int, h1, sNx, sRet, eTup, esCons, esNil, eC, l2, l3, oAdd, endD]
  · simp [F_advanced, sSeq, sIf, sUnp, gTupD, setAll, encR, bT, eOp, eVar, oNe_int, h1, sNx, sRet, eTup, esCons, esNil, eC, l2, l3, oAdd, endD]
theorem rested_ev (w : Nat) : M_rested [.int (w : Int)] = some (.tuple [encS .rests, encE (.rests w)]) := by
  have hu : M_rested [.int (w : Int)] = (F_rested [some (.int (w : Int))]).bind endD := rfl
  rw [hu]
  simp [F_rested, sRet, eTup, esCons, esNil, eC, eVar, l1, l2, encS, encE, endD]
theorem word_ev {a b : Str} {l : List D} {f : Sl → Option D} {ds : Sl} (hf : f ds = some (.tuple (.str a :: l))) (ha : SeqAt.shaped (.str a) = true) (hb : SeqAt.shaped (.str b) = true) : bT (eOp oEq (eOp oIx f (eC (.int 0))) (eC (.str b))) ds = some (decide (a = b)) := by
  unfold bT
  rw [eOp_ev (eOp_ev hf rfl |>.trans oIx0) rfl, oEq_str ha hb]
  rfl
theorem own_step_ev {w many : Nat} {r : Row} {s : W} {p : Row × W × Option Evt} (h : ownStep w r s many = some p) : M_own_step [.int (w : Int), encR r, encS s, .int (many : Int)] = some (ans3 p) := by
  have hu : M_own_step [.int (w : Int), encR r, encS s, .int (many : Int)] = (F_own_step [some (.int (w : Int)), some (encR r), some (encS s), some (.int (many : Int)), none, none, none, none, none, none, none]).bind endD := rfl
  rw [hu]
  cases s with
  | free =>
    cases h
    simp (config := {decide := true}) [F_own_step, sSeq, sIf, sUnp, gTupD, setAll, encR, encS, encO, encE, encT, bT, eOp, eVar, eC, oIx0, oIx1, oIx2, oIx3, oEq_str, sh_free, sh_lowered, sh_last, sh_mends, sh_looks, sh_seen, sh_reads, sh_tries, sh_holds, sh_wrote, sh_rests, sNx, sSet, sRet, eTup, esCons, esNil, l1, l2, l3, l4, eCall, ans3, endD, oAdd, oSub, oLt, oEq_int, oIsntA, isNon, bAnd, bOr, bNot]
  | lowered =>
    cases ha : ownLooked w r with
    | none => dsimp only [ownStep] at h; rw [ha] at h; cases h
    | some q =>
      dsimp only [ownStep] at h; rw [ha] at h; cases h
      have z := own_looked_ev ha
      simp only [encR] at z
      simp (config := {decide := true}) [F_own_step, z, sSeq, sIf, sUnp, gTupD, setAll, encR, encS, encO, encE, encT, bT, eOp, eVar, eC, oIx0, oIx1, oIx2, oIx3, oEq_str, sh_free, sh_lowered, sh_last, sh_mends, sh_looks, sh_seen, sh_reads, sh_tries, sh_holds, sh_wrote, sh_rests, sNx, sSet, sRet, eTup, esCons, esNil, l1, l2, l3, l4, eCall, ans3, endD, oAdd, oSub, oLt, oEq_int, oIsntA, isNon, bAnd, bOr, bNot]
  | last h0 =>
    have z := advanced_ev r h0
    by_cases h1 : r.head = h0
    · cases ha : at? r.places h0 with
      | none => dsimp only [ownStep] at h; rw [if_pos h1, ha] at h; cases h
      | some t =>
        dsimp only [ownStep] at h; rw [if_pos h1, ha] at h; cases h
        have hi := ix_places ha
        rw [if_pos h1] at z
        simp only [encR] at z
        subst h1
        simp (config := {decide := true}) [F_own_step, z, hi, sSeq, sIf, sUnp, gTupD, setAll, encR, encS, encO, encE, encT, bT, eOp, eVar, eC, oIx0, oIx1, oIx2, oIx3, oEq_str, sh_free, sh_lowered, sh_last, sh_mends, sh_looks, sh_seen, sh_reads, sh_tries, sh_holds, sh_wrote, sh_rests, sNx, sSet, sRet, eTup, esCons, esNil, l1, l2, l3, l4, eCall, ans3, endD, oAdd, oSub, oLt, oEq_int, oIsntA, isNon, bAnd, bOr, bNot]
    · dsimp only [ownStep] at h; rw [if_neg h1] at h; cases h
      rw [if_neg h1] at z
      simp only [encR] at z
      simp (config := {decide := true}) [F_own_step, z, h1, sSeq, sIf, sUnp, gTupD, setAll, encR, encS, encO, encE, encT, bT, eOp, eVar, eC, oIx0, oIx1, oIx2, oIx3, oEq_str, sh_free, sh_lowered, sh_last, sh_mends, sh_looks, sh_seen, sh_reads, sh_tries, sh_holds, sh_wrote, sh_rests, sNx, sSet, sRet, eTup, esCons, esNil, l1, l2, l3, l4, eCall, ans3, endD, oAdd, oSub, oLt, oEq_int, oIsntA, isNon, bAnd, bOr, bNot]
  | mends t x =>
    cases x with
    | some c =>
      cases h
      simp (config := {decide := true}) [F_own_step, sSeq, sIf, sUnp, gTupD, setAll, encR, encS, encO, encE, encT, bT, eOp, eVar, eC, oIx0, oIx1, oIx2, oIx3, oEq_str, sh_free, sh_lowered, sh_last, sh_mends, sh_looks, sh_seen, sh_reads, sh_tries, sh_holds, sh_wrote, sh_rests, sNx, sSet, sRet, eTup, esCons, esNil, l1, l2, l3, l4, eCall, ans3, endD, oAdd, oSub, oLt, oEq_int, oIsntA, isNon, bAnd, bOr, bNot]
    | none =>
      have z := rested_ev w
      simp only [encS, encE] at z
      by_cases h1 : many = 1
      · dsimp only [ownStep] at h; rw [if_pos h1] at h; cases h
        subst h1
        simp (config := {decide := true}) [F_own_step, z, sSeq, sIf, sUnp, gTupD, setAll, encR, encS, encO, encE, encT, bT, eOp, eVar, eC, oIx0, oIx1, oIx2, oIx3, oEq_str, sh_free, sh_lowered, sh_last, sh_mends, sh_looks, sh_seen, sh_reads, sh_tries, sh_holds, sh_wrote, sh_rests, sNx, sSet, sRet, eTup, esCons, esNil, l1, l2, l3, l4, eCall, ans3, endD, oAdd, oSub, oLt, oEq_int, oIsntA, isNon, bAnd, bOr, bNot]
      · dsimp only [ownStep] at h; rw [if_neg h1] at h; cases h
        have h1' : ¬ ((many : Int) = 1) := by omega
        simp (config := {decide := true}) [F_own_step, z, h1', sSeq, sIf, sUnp, gTupD, setAll, encR, encS, encO, encE, encT, bT, eOp, eVar, eC, oIx0, oIx1, oIx2, oIx3, oEq_str, sh_free, sh_lowered, sh_last, sh_mends, sh_looks, sh_seen, sh_reads, sh_tries, sh_holds, sh_wrote, sh_rests, sNx, sSet, sRet, eTup, esCons, esNil, l1, l2, l3, l4, eCall, ans3, endD, oAdd, oSub, oLt, oEq_int, oIsntA, isNon, bAnd, bOr, bNot]
  | _ => cases h
theorem other_step_ev {w o many : Nat} {r : Row} {s : W} {p : Row × W × Option Evt} (h : otherStep w o r s many = some p) : M_other_step [.int (w : Int), .int (o : Int), encR r, encS s, .int (many : Int)] = some (ans3 p) := by
  have hu : M_other_step [.int (w : Int), .int (o : Int), encR r, encS s, .int (many : Int)] = (F_other_step [some (.int (w : Int)), some (.int (o : Int)), some (encR r), some (encS s), some (.int (many : Int)), none, none, none, none, none]).bind endD := rfl
  rw [hu]
  have cut2 : ∀ (a b : D) (l : List D), eSl (eVar 3) eNoPart (ePart (eC (.int 2))) [some (.int (w : Int)), some (.int (o : Int)), some (encR r), some (.tuple (a :: b :: l)), some (.int (many : Int)), none, none, none, none, none] = some (.tuple [a, b]) := fun a b l => by
    have e : cutD (a :: b :: l) none (some 2) = [a, b] := by
      unfold cutD
      rw [HT.sIx_none, show (2 : Int) = ((2 : Nat) : Int) from rfl, HT.sIx_nat]
      simp
    simp [eSl, eVar, eNoPart, ePart, eC, oSl, e]
  cases s with
  | looks k =>
    cases h
    have c := cut2 (.str "looks") (.int k) []
    simp only [encR] at c
    simp (config := {decide := true}) [F_other_step, c, sSeq, sIf, sUnp, gTupD, setAll, encR, encS, encO, encE, encT, bT, eOp, eVar, eC, oIx0, oIx1, oIx2, oIx3, oEq_str, sh_free, sh_lowered, sh_last, sh_mends, sh_looks, sh_seen, sh_reads, sh_tries, sh_holds, sh_wrote, sh_rests, sNx, sSet, sRet, eTup, esCons, esNil, l1, l2, l3, l4, eCall, ans3, endD, oAdd, oSub, oLt, oEq_int, oIsntA, isNon, bAnd, bOr, bNot]
  | seen k h0 =>
    have c := cut2 (.str "seen") (.int k) [.int h0]
    simp only [encR] at c
    dsimp only [otherStep] at h
    by_cases h1 : h0 < r.tail
    · rw [if_pos h1] at h; cases h
      simp (config := {decide := true}) [F_other_step, c, h1, sSeq, sIf, sUnp, gTupD, setAll, encR, encS, encO, encE, encT, bT, eOp, eVar, eC, oIx0, oIx1, oIx2, oIx3, oEq_str, sh_free, sh_lowered, sh_last, sh_mends, sh_looks, sh_seen, sh_reads, sh_tries, sh_holds, sh_wrote, sh_rests, sNx, sSet, sRet, eTup, esCons, esNil, l1, l2, l3, l4, eCall, ans3, endD, oAdd, oSub, oLt, oEq_int, oIsntA, isNon, bAnd, bOr, bNot]
    · rw [if_neg h1] at h
      by_cases h2 : k + 1 < (many : Int)
      · rw [if_pos h2] at h; cases h
        simp (config := {decide := true}) [F_other_step, c, h1, h2, sSeq, sIf, sUnp, gTupD, setAll, encR, encS, encO, encE, encT, bT, eOp, eVar, eC, oIx0, oIx1, oIx2, oIx3, oEq_str, sh_free, sh_lowered, sh_last, sh_mends, sh_looks, sh_seen, sh_reads, sh_tries, sh_holds, sh_wrote, sh_rests, sNx, sSet, sRet, eTup, esCons, esNil, l1, l2, l3, l4, eCall, ans3, endD, oAdd, oSub, oLt, oEq_int, oIsntA, isNon, bAnd, bOr, bNot]
      · rw [if_neg h2] at h; cases h
        have z := rested_ev w
        simp only [encS, encE] at z
        simp (config := {decide := true}) [F_other_step, c, h1, h2, z, sSeq, sIf, sUnp, gTupD, setAll, encR, encS, encO, encE, encT, bT, eOp, eVar, eC, oIx0, oIx1, oIx2, oIx3, oEq_str, sh_free, sh_lowered, sh_last, sh_mends, sh_looks, sh_seen, sh_reads, sh_tries, sh_holds, sh_wrote, sh_rests, sNx, sSet, sRet, eTup, esCons, esNil, l1, l2, l3, l4, eCall, ans3, endD, oAdd, oSub, oLt, oEq_int, oIsntA, isNon, bAnd, bOr, bNot]
  | reads k h0 =>
    have c := cut2 (.str "reads") (.int k) [.int h0]
    simp only [encR] at c
    dsimp only [otherStep] at h
    cases ha : at? r.places h0 with
    | none => rw [ha] at h; cases h
    | some t =>
      rw [ha] at h; cases h
      have hi := ix_places ha
      simp (config := {decide := true}) [F_other_step, c, hi, sSeq, sIf, sUnp, gTupD, setAll, encR, encS, encO, encE, encT, bT, eOp, eVar, eC, oIx0, oIx1, oIx2, oIx3, oEq_str, sh_free, sh_lowered, sh_last, sh_mends, sh_looks, sh_seen, sh_reads, sh_tries, sh_holds, sh_wrote, sh_rests, sNx, sSet, sRet, eTup, esCons, esNil, l1, l2, l3, l4, eCall, ans3, endD, oAdd, oSub, oLt, oEq_int, oIsntA, isNon, bAnd, bOr, bNot]
  | tries k h0 t0 =>
    have c := cut2 (.str "tries") (.int k) [.int h0, .int (t0 : Int)]
    simp only [encR] at c
    dsimp only [otherStep] at h
    have z := advanced_ev r h0
    by_cases h1 : r.head = h0
    · rw [if_pos h1] at h; cases h
      rw [if_pos h1] at z
      simp only [encR] at z
      subst h1
      simp (config := {decide := true}) [F_other_step, c, z, sSeq, sIf, sUnp, gTupD, setAll, encR, encS, encO, encE, encT, bT, eOp, eVar, eC, oIx0, oIx1, oIx2, oIx3, oEq_str, sh_free, sh_lowered, sh_last, sh_mends, sh_looks, sh_seen, sh_reads, sh_tries, sh_holds, sh_wrote, sh_rests, sNx, sSet, sRet, eTup, esCons, esNil, l1, l2, l3, l4, eCall, ans3, endD, oAdd, oSub, oLt, oEq_int, oIsntA, isNon, bAnd, bOr, bNot]
    · rw [if_neg h1] at h; cases h
      rw [if_neg h1] at z
      simp only [encR] at z
      simp (config := {decide := true}) [F_other_step, c, z, h1, sSeq, sIf, sUnp, gTupD, setAll, encR, encS, encO, encE, encT, bT, eOp, eVar, eC, oIx0, oIx1, oIx2, oIx3, oEq_str, sh_free, sh_lowered, sh_last, sh_mends, sh_looks, sh_seen, sh_reads, sh_tries, sh_holds, sh_wrote, sh_rests, sNx, sSet, sRet, eTup, esCons, esNil, l1, l2, l3, l4, eCall, ans3, endD, oAdd, oSub, oLt, oEq_int, oIsntA, isNon, bAnd, bOr, bNot]
  | _ => cases h
theorem brood_ev {b : LL} {t : Nat} {l : List Nat} (h : b[t]? = some l) : oIx (encLL b) (.int (t : Int)) = some (encL l) := by
  refine ixL_at ?_
  rw [at?_nat, List.getElem?_map, h]; rfl
theorem child_ev {l : List Nat} {n c : Nat} (h : l[n]? = some c) : oIx (encL l) (.int (n : Int)) = some (.int (c : Int)) := by
  refine ixL_at ?_
  unfold encN
  rw [at?_nat, List.getElem?_map, h]; rfl
theorem task_step_ev {b : LL} {w : Nat} {r : Row} {s : W} {p : Row × W × Option Evt} (h : taskStep b w r s = some p) (hz : r.places.length + 1 ≤ lim) : M_task_step [.int (w : Int), encR r, encS s, encLL b] = some (ans3 p) := by
  have hu : M_task_step [.int (w : Int), encR r, encS s, encLL b] = (F_task_step [some (.int (w : Int)), some (encR r), some (encS s), some (encLL b), none, none, none, none, none, none]).bind endD := rfl
  rw [hu]
  cases s with
  | wrote t n =>
    dsimp only [taskStep] at h
    cases hb : b[t]? with
    | none => rw [hb] at h; cases h
    | some l =>
      rw [hb] at h
      cases hc : l[n]? with
      | none =>
        have h' : (l[n]?).map _ = some p := h
        rw [hc] at h'; cases h'
      | some c =>
        have h' : (l[n]?).map _ = some p := h
        rw [hc] at h'; cases h'
        have e1 := brood_ev hb
        have e2 := child_ev hc
        simp (config := {decide := true}) [F_task_step, e1, e2, sSeq, sIf, sUnp, gTupD, setAll, encR, encS, encO, encE, encT, bT, eOp, eVar, eC, oIx0, oIx1, oIx2, oIx3, oEq_str, sh_free, sh_lowered, sh_last, sh_mends, sh_looks, sh_seen, sh_reads, sh_tries, sh_holds, sh_wrote, sh_rests, sNx, sSet, sRet, eTup, esCons, esNil, l1, l2, l3, l4, eCall, ans3, endD, oAdd, oSub, oLt, oEq_int, oIsntA, isNon, bAnd, bOr, bNot]
  | holds t n =>
    dsimp only [taskStep] at h
    cases hb : b[t]? with
    | none => rw [hb] at h; cases h
    | some l =>
      rw [hb] at h
      have h' : (if n < l.length then _ else _) = some p := h
      have e1 := brood_ev hb
      have e3 : oLen [encL l] = some (.int (l.length : Int)) := by
        show some (PyData.int ((encN l).length : Int)) = _
        unfold encN; rw [List.length_map]
      by_cases hn : n < l.length
      · rw [if_pos hn] at h'
        cases hc : l[n]? with
        | none => rw [hc] at h'; cases h'
        | some c =>
          rw [hc] at h'
          have h2 : (if 0 ≤ r.tail then _ else _) = some p := h'
          by_cases ht : 0 ≤ r.tail
          · rw [if_pos ht] at h2; cases h2
            have e2 := child_ev hc
            have hn' : (n : Int) < (l.length : Int) := by omega
            have e4 := put_in_ev (encN r.places) r.tail.toNat (.int (c : Int)) (by unfold encN; rw [List.length_map]; exact hz)
            rw [show ((r.tail.toNat : Nat) : Int) = r.tail by omega] at e4
            have e5 : encN (putIn r.places r.tail.toNat c) = (encN r.places).take r.tail.toNat ++ [.int (c : Int)] ++ (encN r.places).drop (r.tail.toNat + 1) := by
              unfold putIn encN
              rw [List.map_append, List.map_append, List.map_take, List.map_drop]; rfl
            rw [← e5] at e4
            simp (config := {decide := true}) [F_task_step, e1, e2, e3, e4, hn', sSeq, sIf, sUnp, gTupD, setAll, encR, encS, encO, encE, encT, bT, eOp, eVar, eC, oIx0, oIx1, oIx2, oIx3, oEq_str, sh_free, sh_lowered, sh_last, sh_mends, sh_looks, sh_seen, sh_reads, sh_tries, sh_holds, sh_wrote, sh_rests, sNx, sSet, sRet, eTup, esCons, esNil, l1, l2, l3, l4, eCall, ans3, endD, oAdd, oSub, oLt, oEq_int, oIsntA, isNon, bAnd, bOr, bNot]
          · rw [if_neg ht] at h2; cases h2
      · rw [if_neg hn] at h'; cases h'
        have hn' : ¬ ((n : Int) < (l.length : Int)) := by omega
        simp (config := {decide := true}) [F_task_step, e1, e3, hn', sSeq, sIf, sUnp, gTupD, setAll, encR, encS, encO, encE, encT, bT, eOp, eVar, eC, oIx0, oIx1, oIx2, oIx3, oEq_str, sh_free, sh_lowered, sh_last, sh_mends, sh_looks, sh_seen, sh_reads, sh_tries, sh_holds, sh_wrote, sh_rests, sNx, sSet, sRet, eTup, esCons, esNil, l1, l2, l3, l4, eCall, ans3, endD, oAdd, oSub, oLt, oEq_int, oIsntA, isNon, bAnd, bOr, bNot]
  | _ => cases h
def isOwn : W → Bool
  | .free => true
  | .lowered => true
  | .last _ => true
  | .mends _ _ => true
  | _ => false
def isTask : W → Bool
  | .holds _ _ => true
  | .wrote _ _ => true
  | _ => false
def kOfW : W → Int
  | .looks k => k
  | .seen k _ => k
  | .reads k _ => k
  | .tries k _ _ => k
  | _ => 0
def otherOf (w : Nat) (k : Int) (many : Nat) : Nat := (((w : Int) + k).fmod (many : Int)).toNat
/-- a step of worker w -/
def stepY (b : LL) (y : Yard) (w : Nat) : Option (Yard × Option Evt) := (y.states[w]?).bind fun s =>
  if s = .rests then none
  else if isOwn s = true then (y.rows[w]?).bind fun r => (ownStep w r s y.rows.length).bind fun p => some (⟨y.rows.set w p.1, y.states.set w p.2.1⟩, p.2.2)
  else if isTask s = true then (y.rows[w]?).bind fun r => (taskStep b w r s).bind fun p => some (⟨y.rows.set w p.1, y.states.set w p.2.1⟩, p.2.2)
  else (y.rows[otherOf w (kOfW s) y.rows.length]?).bind fun r => (otherStep w (otherOf w (kOfW s) y.rows.length) r s y.rows.length).bind fun p => some (⟨y.rows.set (otherOf w (kOfW s) y.rows.length) p.1, y.states.set w p.2.1⟩, p.2.2)
theorem set_take_drop {α : Type} {l : List α} {k : Nat} (x : α) (h : k < l.length) : l.take k ++ [x] ++ l.drop (k + 1) = l.set k x := by
  rw [List.set_eq_take_append_cons_drop, if_pos h, List.append_assoc]; rfl
theorem put_rows {l : List Row} {k : Nat} (x : Row) (h : k < l.length) (hz : l.length + 1 ≤ lim) : M_put_in [.tuple (l.map encR), .int (k : Int), encR x] = some (.tuple ((l.set k x).map encR)) := by
  rw [put_in_ev _ _ _ (by rw [List.length_map]; exact hz), set_take_drop _ (by rw [List.length_map]; exact h), List.map_set]
theorem put_states {l : List W} {k : Nat} (x : W) (h : k < l.length) (hz : l.length + 1 ≤ lim) : M_put_in [.tuple (l.map encS), .int (k : Int), encS x] = some (.tuple ((l.set k x).map encS)) := by
  rw [put_in_ev _ _ _ (by rw [List.length_map]; exact hz), set_take_drop _ (by rw [List.length_map]; exact h), List.map_set]
theorem nth_row {l : List Row} {k : Nat} {x : Row} (h : l[k]? = some x) : oIx (.tuple (l.map encR)) (.int (k : Int)) = some (encR x) := by
  refine ix_at ?_
  rw [at?_nat, List.getElem?_map, h]; rfl
theorem nth_state {l : List W} {k : Nat} {x : W} (h : l[k]? = some x) : oIx (.tuple (l.map encS)) (.int (k : Int)) = some (encS x) := by
  refine ix_at ?_
  rw [at?_nat, List.getElem?_map, h]; rfl
theorem otherOf_lt {w : Nat} {k : Int} {many : Nat} (h : 0 < many) : otherOf w k many < many ∧ ((otherOf w k many : Nat) : Int) = ((w : Int) + k).fmod (many : Int) := by
  have r := fmod_rng (a := (w : Int) + k) (b := (many : Int)) (by omega)
  unfold otherOf
  omega
def wordW : W → Str
  | .free => "free"
  | .lowered => "lowered"
  | .last _ => "last"
  | .mends _ _ => "mends"
  | .looks _ => "looks"
  | .seen _ _ => "seen"
  | .reads _ _ => "reads"
  | .tries _ _ _ => "tries"
  | .holds _ _ => "holds"
  | .wrote _ _ => "wrote"
  | .rests => "rests"
theorem word_of (s : W) : ∃ l, encS s = .tuple (.str (wordW s) :: l) := by cases s <;> exact ⟨_, rfl⟩
theorem ix_word (s : W) : oIx (encS s) (.int 0) = some (.str (wordW s)) := by
  obtain ⟨l, e⟩ := word_of s
  rw [e, oIx0]
theorem sh_word (s : W) : SeqAt.shaped (.str (wordW s)) = true := by cases s <;> first | exact sh_free | exact sh_lowered | exact sh_last | exact sh_mends | exact sh_looks | exact sh_seen | exact sh_reads | exact sh_tries | exact sh_holds | exact sh_wrote | exact sh_rests
theorem eq_word (s : W) (x : Str) (hx : SeqAt.shaped (.str x) = true) : oEq (.str (wordW s)) (.str x) = some (.bool (decide (wordW s = x))) := oEq_str (sh_word s) hx
theorem rests_word (s : W) : decide (wordW s = "rests") = decide (s = .rests) := by cases s <;> simp (config := {decide := true}) [wordW]
theorem in_own (s : W) : oInA (.str (wordW s)) (.tuple [.str "free", .str "lowered", .str "last", .str "mends"]) = some (.bool (isOwn s)) := by
  cases s <;> simp (config := {decide := true}) [wordW, oInA, flatD, eqv_strs, isOwn]
theorem in_task (s : W) : oInA (.str (wordW s)) (.tuple [.str "holds", .str "wrote"]) = some (.bool (isTask s)) := by
  cases s <;> simp (config := {decide := true}) [wordW, oInA, flatD, eqv_strs, isTask]
theorem ix_k (s : W) (h1 : isOwn s = false) (h2 : isTask s = false) (h3 : s ≠ .rests) : oIx (encS s) (.int 1) = some (.int (kOfW s)) := by
  cases s <;> first | (exact oIx1) | (exact Bool.noConfusion h1) | (exact Bool.noConfusion h2) | (exact absurd rfl h3)
theorem stepped_ev {b st : LL} {y : Yard} {w : Nat} {q : Yard × Option Evt} (h : stepY b y w = some q) (hl : y.states.length = y.rows.length) (hz : y.rows.length + 1 ≤ lim) (hp : ∀ r ∈ y.rows, r.places.length + 1 ≤ lim) :
    M_stepped [encP b st, encY y, .int (w : Int)] = some (.tuple [encY q.1, encO q.2]) := by
  have hu : M_stepped [encP b st, encY y, .int (w : Int)] = (F_stepped [some (encP b st), some (encY y), some (.int (w : Int)), none, none, none, none, none, none, none]).bind endD := rfl
  rw [hu]
  unfold stepY at h
  cases hs : y.states[w]? with
  | none => rw [hs] at h; cases h
  | some s =>
    rw [hs] at h
    have h' : (if s = .rests then none else _) = some q := h
    by_cases h0 : s = .rests
    · rw [if_pos h0] at h'; cases h'
    rw [if_neg h0] at h'
    have hw : w < y.states.length := (List.getElem?_eq_some_iff.mp hs).1
    have hw' : (w : Int) < (y.states.length : Int) := by omega
    have hwr : w < y.rows.length := by omega
    obtain ⟨r, hr⟩ : ∃ r, y.rows[w]? = some r := ⟨_, List.getElem?_eq_getElem hwr⟩
    have e1 := nth_state hs
    have e2 := nth_row hr
    have e3 := ix_word s
    have e4 := eq_word s "rests" sh_rests
    rw [rests_word, decide_eq_false h0] at e4
    have e5 := in_own s
    have e6 := in_task s
    have w0 : (0 : Int) ≤ (w : Int) := by omega
    have lenS : oLen [.tuple (y.states.map encS)] = some (.int (y.states.length : Int)) := by
      show some (PyData.int ((y.states.map encS).length : Int)) = _
      rw [List.length_map]
    have lenR : oLen [.tuple (y.rows.map encR)] = some (.int (y.rows.length : Int)) := by
      show some (PyData.int ((y.rows.map encR).length : Int)) = _
      rw [List.length_map]
    have e7 : oIx (encP b st) (.int 0) = some (encLL b) := oIx0
    by_cases h1 : isOwn s = true
    · rw [if_pos h1, hr] at h'
      cases hq : ownStep w r s y.rows.length with
      | none =>
        have h2 : (ownStep w r s y.rows.length).bind _ = some q := h'
        rw [hq] at h2; cases h2
      | some p =>
        have h2 : (ownStep w r s y.rows.length).bind _ = some q := h'
        rw [hq] at h2; cases h2
        have z := own_step_ev hq
        have z1 := put_rows p.1 hwr hz
        have z2 := put_states p.2.1 hw (by omega)
        rw [h1] at e5
        simp only [ans3] at z
        simp (config := {decide := true}) [F_stepped, encY, e1, e2, e3, e4, e5, lenS, lenR, w0, hw', z, z1, z2, sSeq, sIf, sUnp, gTupD, setAll, bT, eOp, eVar, eC, oIx0, oIx1, sNx, sSet, sRet, eTup, esCons, esNil, l1, l2, l3, l4, eCall, endD, oAdd, oLt, bAnd, bOr, bNot, eChain, oLe, oMod]
    · rw [if_neg h1] at h'
      have h1f : isOwn s = false := by simpa using h1
      rw [h1f] at e5
      by_cases h3 : isTask s = true
      · rw [if_pos h3, hr] at h'
        have h2 : (taskStep b w r s).bind _ = some q := h'
        cases hq : taskStep b w r s with
        | none => rw [hq] at h2; cases h2
        | some p =>
          rw [hq] at h2; cases h2
          have z := task_step_ev hq (hp r (List.mem_of_getElem? hr))
          have z1 := put_rows p.1 hwr hz
          have z2 := put_states p.2.1 hw (by omega)
          rw [h3] at e6
          simp only [ans3] at z
          simp (config := {decide := true}) [F_stepped, encY, e1, e2, e3, e4, e5, e6, e7, lenS, lenR, w0, hw', z, z1, z2, sSeq, sIf, sUnp, gTupD, setAll, bT, eOp, eVar, eC, oIx0, oIx1, sNx, sSet, sRet, eTup, esCons, esNil, l1, l2, l3, l4, eCall, endD, oAdd, oLt, bAnd, bOr, bNot, eChain, oLe, oMod]
      · rw [if_neg h3] at h'
        have h3f : isTask s = false := by simpa using h3
        rw [h3f] at e6
        have many0 : 0 < y.rows.length := by omega
        have m0 : ¬ ((y.rows.length : Int) = 0) := by omega
        have m0' : ¬ y.rows = [] := fun e => by rw [e] at many0; cases many0
        obtain ⟨o1, o2⟩ := otherOf_lt (w := w) (k := kOfW s) many0
        obtain ⟨ro, hro⟩ : ∃ r, y.rows[otherOf w (kOfW s) y.rows.length]? = some r := ⟨_, List.getElem?_eq_getElem o1⟩
        rw [hro] at h'
        have h2 : (otherStep w (otherOf w (kOfW s) y.rows.length) ro s y.rows.length).bind _ = some q := h'
        cases hq : otherStep w (otherOf w (kOfW s) y.rows.length) ro s y.rows.length with
        | none => rw [hq] at h2; cases h2
        | some p =>
          rw [hq] at h2; cases h2
          have z := other_step_ev hq
          have z1 := put_rows p.1 o1 hz
          have z2 := put_states p.2.1 hw (by omega)
          have e8 := ix_k s h1f h3f h0
          have e9 := nth_row hro
          simp only [ans3] at z
          rw [o2] at z z1 e9
          simp (config := {decide := true}) [F_stepped, encY, e1, e3, e4, e5, e6, e8, e9, lenS, lenR, w0, hw', m0, m0', z, z1, z2, sSeq, sIf, sUnp, gTupD, setAll, bT, eOp, eVar, eC, oIx0, oIx1, sNx, sSet, sRet, eTup, esCons, esNil, l1, l2, l3, l4, eCall, endD, oAdd, oLt, bAnd, bOr, bNot, eChain, oLe, oMod]
end Pu

set_option Elab.async false
set_option linter.all false
set_option maxRecDepth 100000
set_option maxHeartbeats 4000000
set_option autoImplicit false
/-! Ev2: the yard at first, is_over, weavings. -/
namespace Pu
open PySem

def yard0 (s : LL) : Yard := ⟨s.map fun r => ⟨0, (r.length : Int), r⟩, s.map fun _ => .free⟩
def overY (y : Yard) : Bool := y.states.all fun s => decide (s = .rests)
theorem lc_enc {α : Type} {i : Nat} {it : Sl → Option (List D)} {c : Sl → Option Bool} {e : Sl → Option D} {enc : α → D} {g : α → D} {l : List α} {ds : Sl} (h0 : it ds = some (l.map enc)) (hl : l.length ≤ lim)
    (h : ∀ x ∈ l, c ((ds.set i none).set i (some (enc x))) = some true ∧ e ((ds.set i none).set i (some (enc x))) = some (g x)) : eLc i it c e ds = some (.list (l.map g)) := by
  have key : ∀ (l : List α), (∀ x ∈ l, c ((ds.set i none).set i (some (enc x))) = some true ∧ e ((ds.set i none).set i (some (enc x))) = some (g x)) → lcD i c e (l.map enc) (ds.set i none) = some (l.map g) := by
    intro l
    induction l with
    | nil => intro _; rfl
    | cons x l ih =>
      intro h
      have h1 := h x List.mem_cons_self
      have h2 := ih fun y hy => h y (List.mem_cons_of_mem _ hy)
      rw [List.map_cons]
      unfold lcD
      simp only [h1.1, h1.2, h2, Option.bind_some, if_true, List.map_cons]
  unfold eLc
  simp only [h0, Option.bind_some, List.length_map, if_pos hl, key l h]
theorem started_ev (b s : LL) (hz : s.length ≤ lim) : M_started [encP b s] = some (encY (yard0 s)) := by
  have hu : M_started [encP b s] = (F_started [some (encP b s), none, none]).bind endD := rfl
  rw [hu]
  have e1 : eItems (eOp oIx (eVar 0) (eC (.int 1))) [some (encP b s), none, none] = some (s.map encL) := by
    have e : eOp oIx (eVar 0) (eC (.int 1)) [some (encP b s), none, none] = some (encLL s) := by rw [eOp_ev (eVar_get rfl) rfl]; exact oIx1
    unfold eItems; rw [e]; rfl
  have e2 : eLc 2 (eItems (eOp oIx (eVar 0) (eC (.int 1)))) bYes (eTup (esCons (eC (.int 0)) (esCons (eCall oLen (esCons (eVar 2) esNil)) (esCons (eCall oTuple (esCons (eVar 2) esNil)) esNil)))) [some (encP b s), none, none]
      = some (.list (s.map fun r => encR ⟨0, (r.length : Int), r⟩)) := by
    refine lc_enc e1 hz fun r _ => ⟨rfl, ?_⟩
    have hl : (encN r).length = r.length := by unfold encN; rw [List.length_map]
    show (if 3 ≤ lim then some (PyData.tuple [.int 0, .int ((encN r).length : Int), .tuple (encN r)]) else none) = _
    rw [if_pos l3, hl]; rfl
  have e3 : eLc 2 (eItems (eVar 1)) bYes (eTup (esCons (eC (.str "free")) esNil)) [some (encP b s), some (.tuple (s.map fun r => encR ⟨0, (r.length : Int), r⟩)), none] = some (.list (s.map fun _ => encS .free)) := by
    refine lc_enc (enc := fun r => encR ⟨0, (r.length : Int), r⟩) rfl hz fun r _ => ⟨rfl, ?_⟩
    show (if 1 ≤ lim then some (PyData.tuple [.str "free"]) else none) = _
    rw [if_pos l1]; rfl
  simp [F_started, sSeq, sSet, sRet, eCall, e2, esCons, esNil, oTuple, eTup, eVar, e3, l2, endD, encY, yard0]
theorem is_over_ev (y : Yard) (hz : y.states.length ≤ lim) : M_is_over [encY y] = some (.bool (overY y)) := by
  have hu : M_is_over [encY y] = (F_is_over [some (encY y), none]).bind endD := rfl
  rw [hu]
  have e1 : eItems (eOp oIx (eVar 0) (eC (.int 1))) [some (encY y), none] = some (y.states.map encS) := by
    have e : eOp oIx (eVar 0) (eC (.int 1)) [some (encY y), none] = some (.tuple (y.states.map encS)) := by rw [eOp_ev (eVar_get rfl) rfl]; exact oIx1
    unfold eItems; rw [e]; rfl
  have e2 : eLc 1 (eItems (eOp oIx (eVar 0) (eC (.int 1)))) bYes (eOp oEq (eOp oIx (eVar 1) (eC (.int 0))) (eC (.str "rests"))) [some (encY y), none] = some (.list (y.states.map fun s => .bool (decide (s = .rests)))) := by
    refine lc_enc e1 hz fun s _ => ⟨rfl, ?_⟩
    rw [eOp_ev (eOp_ev (eVar_get rfl) rfl |>.trans (ix_word s)) rfl, eq_word s "rests" sh_rests, rests_word]
  have e3 : oAll [.list (y.states.map fun s => .bool (decide (s = .rests)))] = some (.bool (overY y)) := by
    have e : (y.states.map fun s => PyData.bool (decide (s = .rests))) = (y.states.map fun s => decide (s = .rests)).map .bool := by rw [List.map_map]; rfl
    show ((blsOf (y.states.map fun s => PyData.bool (decide (s = .rests)))).bind fun bs => some (PyData.bool (bs.all id))) = _
    rw [e, blsOf_bls]
    show some (PyData.bool ((y.states.map fun s => decide (s = .rests)).all id)) = _
    rw [List.all_map]; rfl
  simp [F_is_over, sRet, eCall, e2, esCons, esNil, e3, endD]
/-! a yard is data that a law may compare -/
theorem good_mono : ∀ {n m : Nat} {d : D}, good n d → n ≤ m → good m d
  | 0, _, _, h, _ => h.elim
  | n + 1, 0, _, _, h => absurd h (by omega)
  | n + 1, m + 1, .tuple l, h, k => ⟨h.1, fun x hx => good_mono (h.2 x hx) (by omega)⟩
  | n + 1, m + 1, .list l, h, k => ⟨h.1, fun x hx => good_mono (h.2 x hx) (by omega)⟩
  | _ + 1, _ + 1, .int _, _, _ => trivial
  | _ + 1, _ + 1, .str _, h, _ => h
  | _ + 1, _ + 1, .none, _, _ => trivial
  | _ + 1, _ + 1, .bool _, h, _ => h.elim
  | _ + 1, _ + 1, .dict _, h, _ => h.elim
theorem good_N (l : List Nat) (h : l.length ≤ 1000000) : good 2 (.tuple (encN l)) := ⟨by unfold encN; rw [List.length_map]; exact h, fun x hx => by
  unfold encN at hx
  obtain ⟨n, _, rfl⟩ := List.mem_map.mp hx
  trivial⟩
theorem good_t {n : Nat} {l : List D} (hl : l.length ≤ 1000000) (h : ∀ x ∈ l, good n x) : good (n + 1) (.tuple l) := ⟨hl, h⟩
theorem all_cons {n : Nat} {a : D} {l : List D} (h : good n a) (k : ∀ x ∈ l, good n x) : ∀ x ∈ a :: l, good n x := fun x hx => by
  rcases List.mem_cons.mp hx with rfl | hx
  · exact h
  · exact k x hx
theorem all_nil {n : Nat} : ∀ x ∈ ([] : List D), good n x := fun x hx => by cases hx
theorem good_R (r : Row) (h : r.places.length ≤ 1000000) : good 3 (encR r) := good_t (by simp) (all_cons trivial (all_cons trivial (all_cons (good_N _ h) all_nil)))
theorem good_S (s : W) : good 3 (encS s) := by
  cases s with
  | free => exact good_t (by simp) (all_cons sh_free all_nil)
  | lowered => exact good_t (by simp) (all_cons sh_lowered all_nil)
  | last h => exact good_t (by simp) (all_cons sh_last (all_cons trivial all_nil))
  | mends t x => exact good_t (by simp) (all_cons sh_mends (all_cons trivial (all_cons (by cases x <;> trivial) all_nil)))
  | looks k => exact good_t (by simp) (all_cons sh_looks (all_cons trivial all_nil))
  | seen k h => exact good_t (by simp) (all_cons sh_seen (all_cons trivial (all_cons trivial all_nil)))
  | reads k h => exact good_t (by simp) (all_cons sh_reads (all_cons trivial (all_cons trivial all_nil)))
  | tries k h t => exact good_t (by simp) (all_cons sh_tries (all_cons trivial (all_cons trivial (all_cons trivial all_nil))))
  | holds t n => exact good_t (by simp) (all_cons sh_holds (all_cons trivial (all_cons trivial all_nil)))
  | wrote t n => exact good_t (by simp) (all_cons sh_wrote (all_cons trivial (all_cons trivial all_nil)))
  | rests => exact good_t (by simp) (all_cons sh_rests all_nil)
theorem good_E (e : Evt) : good 3 (encE e) := by
  cases e with
  | own w t => exact good_t (by simp) (all_cons sh_own (all_cons trivial (all_cons trivial all_nil)))
  | taken w o t => exact good_t (by simp) (all_cons sh_taken (all_cons trivial (all_cons trivial (all_cons trivial all_nil))))
  | put w t => exact good_t (by simp) (all_cons sh_put (all_cons trivial (all_cons trivial all_nil)))
  | done w t => exact good_t (by simp) (all_cons sh_done (all_cons trivial (all_cons trivial all_nil)))
  | rests w => exact good_t (by simp) (all_cons sh_rests (all_cons trivial all_nil))
theorem good_O (o : Option Evt) : good 3 (encO o) := by
  cases o with
  | none => trivial
  | some e => exact good_E e
structure Small (y : Yard) : Prop where
  rows : y.rows.length ≤ 1000
  states : y.states.length ≤ 1000
  places : ∀ r ∈ y.rows, r.places.length ≤ 900000
theorem good_map {α : Type} {n : Nat} {f : α → D} {l : List α} (h : ∀ x ∈ l, good n (f x)) : ∀ x ∈ l.map f, good n x := fun x hx => by
  obtain ⟨y, hy, rfl⟩ := List.mem_map.mp hx
  exact h y hy
theorem good_Y (y : Yard) (h : Small y) : good 5 (encY y) := good_t (by simp)
  (all_cons (good_t (by rw [List.length_map]; have := h.rows; omega) (good_map fun r hr => good_R r (by have := h.places r hr; omega)))
    (all_cons (good_t (by rw [List.length_map]; have := h.states; omega) (good_map fun s _ => good_S s)) all_nil))

def spLawZ (K : PySem.W.Frag) : L2.Sp := fun vs H Q _ => ∃ (a : Addr) (ns : List Int), vs = [.ref a] ∧ L2.SqL K H a (ns.map L2.V.int) ∧ ns.length ≤ 63 ∧ ∀ H', Q (.bl true) H'

theorem canLay_N : ∀ l : List Nat, PyData.canLayAll0 (encN l) = true
  | [] => rfl
  | n :: l => by
    show (PyData.canLay0 (.int (n : Int)) && PyData.canLayAll0 (encN l)) = true
    rw [canLay_N l]; rfl
theorem canLay_L : ∀ b : LL, PyData.canLayAll0 (b.map encL) = true
  | [] => rfl
  | l :: b => by
    show (PyData.canLayAll0 (encN l) && PyData.canLayAll0 (b.map encL)) = true
    rw [canLay_N l, canLay_L b]; rfl
theorem depth_N : ∀ l : List Nat, PyData.depthAll (encN l) = 0
  | [] => by simp [encN, PyData.depthAll]
  | n :: l => by
    have h := depth_N l
    unfold encN at h ⊢
    rw [List.map_cons]
    simp [PyData.depthAll, PyData.depth, h]
theorem depth_L : ∀ b : LL, PyData.depthAll (b.map encL) ≤ 1
  | [] => by simp [PyData.depthAll]
  | l :: b => by
    have h := depth_L b
    have h2 := depth_N l
    rw [List.map_cons]
    simp only [PyData.depthAll, encL, PyData.depth, h2]
    omega
theorem sh_P (b s : LL) : SeqAt.shaped (encP b s) = true := by
  unfold SeqAt.shaped
  rw [Bool.and_eq_true]
  refine ⟨?_, decide_eq_true ?_⟩
  · show (PyData.canLayAll0 (b.map encL) && (PyData.canLayAll0 (s.map encL) && true)) = true
    rw [canLay_L, canLay_L]; rfl
  · have h1 := depth_L b
    have h2 := depth_L s
    simp only [encP, encLL, PyData.depth, PyData.depthAll]
    omega
theorem nolist_N : ∀ l : List Nat, nolists (encN l) = true
  | [] => rfl
  | n :: l => by
    show (nolist (.int (n : Int)) && nolists (encN l)) = true
    rw [nolist_N l]; rfl
theorem nolists_map {α : Type} {f : α → D} (h : ∀ x, nolist (f x) = true) : ∀ l : List α, nolists (l.map f) = true
  | [] => rfl
  | x :: l => by
    show (nolist (f x) && nolists (l.map f)) = true
    rw [h x, nolists_map h l]; rfl
theorem nolist_R (r : Row) : nolist (encR r) = true := by
  show (true && (true && (nolists (encN r.places) && true))) = true
  rw [nolist_N]; rfl
theorem nolist_S (s : W) : nolist (encS s) = true := by
  cases s with
  | mends t x => cases x <;> rfl
  | _ => rfl
theorem nolist_Y (y : Yard) : nolist (encY y) = true := by
  show (nolists (y.rows.map encR) && (nolists (y.states.map encS) && true)) = true
  rw [nolists_map nolist_R, nolists_map nolist_S]; rfl
end Pu

set_option Elab.async false
set_option linter.all false
set_option maxRecDepth 100000
set_option maxHeartbeats 4000000
set_option autoImplicit false
/-! Conc: the steps as transitions; the invariant that holds in every weaving. -/
namespace Pu
open PySem

def Yard.R (y : Yard) (w : Nat) : Row := (y.rows[w]?).getD ⟨0, 0, []⟩
def Yard.S (y : Yard) (w : Nat) : W := (y.states[w]?).getD .rests
theorem Yard.R_get {y : Yard} {w : Nat} (h : w < y.rows.length) : y.rows[w]? = some (y.R w) := by
  unfold Yard.R
  rw [List.getElem?_eq_getElem h]; rfl
theorem Yard.S_get {y : Yard} {w : Nat} (h : w < y.states.length) : y.states[w]? = some (y.S w) := by
  unfold Yard.S
  rw [List.getElem?_eq_getElem h]; rfl
theorem Yard.R_of {y : Yard} {w : Nat} {r : Row} (h : y.rows[w]? = some r) : y.R w = r := by unfold Yard.R; rw [h]; rfl
theorem Yard.S_of {y : Yard} {w : Nat} {s : W} (h : y.states[w]? = some s) : y.S w = s := by unfold Yard.S; rw [h]; rfl
theorem R_set (y : Yard) (x v : Nat) (r : Row) (ss : List W) (h : x < y.rows.length) : (Yard.mk (y.rows.set x r) ss).R v = if v = x then r else y.R v := by
  unfold Yard.R
  rw [List.getElem?_set]
  by_cases e : x = v
  · subst e; simp [h]
  · have e' : ¬ v = x := fun z => e z.symm
    simp [e, e']
theorem S_set (y : Yard) (x v : Nat) (s : W) (rs : List Row) (h : x < y.states.length) : (Yard.mk rs (y.states.set x s)).S v = if v = x then s else y.S v := by
  unfold Yard.S
  rw [List.getElem?_set]
  by_cases e : x = v
  · subst e; simp [h]
  · have e' : ¬ v = x := fun z => e z.symm
    simp [e, e']

/-- the transitions of worker w: the row x, that row and the state ahead, behind, the event -/
inductive Tr (b : LL) (m w : Nat) : Nat → Row → W → Row → W → Option Evt → Prop
  | free (r : Row) : Tr b m w w r .free ⟨r.head, r.tail - 1, r.places⟩ .lowered none
  | look1 (r : Row) (t : Nat) : r.head < r.tail → at? r.places r.tail = some t → Tr b m w w r .lowered r (.holds t 0) (some (.own w t))
  | look2 (r : Row) : r.head = r.tail → Tr b m w w r .lowered r (.last r.head) none
  | look3 (r : Row) : r.tail < r.head → Tr b m w w r .lowered r (.mends (r.tail + 1) none) none
  | last1 (r : Row) (h : Int) (t : Nat) : r.head = h → at? r.places h = some t → Tr b m w w r (.last h) ⟨r.head + 1, r.tail, r.places⟩ (.mends (h + 1) (some t)) (some (.own w t))
  | last2 (r : Row) (h : Int) : r.head ≠ h → Tr b m w w r (.last h) r (.mends (h + 1) none) none
  | mend1 (r : Row) (t : Int) (c : Nat) : Tr b m w w r (.mends t (some c)) ⟨r.head, t, r.places⟩ (.holds c 0) none
  | mend2 (r : Row) (t : Int) : m = 1 → Tr b m w w r (.mends t none) ⟨r.head, t, r.places⟩ .rests (some (.rests w))
  | mend3 (r : Row) (t : Int) : m ≠ 1 → Tr b m w w r (.mends t none) ⟨r.head, t, r.places⟩ (.looks 1) none
  | looks (r : Row) (k : Int) : Tr b m w (otherOf w k m) r (.looks k) r (.seen k r.head) none
  | seen1 (r : Row) (k h : Int) : h < r.tail → Tr b m w (otherOf w k m) r (.seen k h) r (.reads k h) none
  | seen2 (r : Row) (k h : Int) : ¬ h < r.tail → k + 1 < (m : Int) → Tr b m w (otherOf w k m) r (.seen k h) r (.looks (k + 1)) none
  | seen3 (r : Row) (k h : Int) : ¬ h < r.tail → ¬ k + 1 < (m : Int) → Tr b m w (otherOf w k m) r (.seen k h) r .rests (some (.rests w))
  | reads (r : Row) (k h : Int) (t : Nat) : at? r.places h = some t → Tr b m w (otherOf w k m) r (.reads k h) r (.tries k h t) none
  | tries1 (r : Row) (k h : Int) (t : Nat) : r.head = h → Tr b m w (otherOf w k m) r (.tries k h t) ⟨r.head + 1, r.tail, r.places⟩ (.holds t 0) (some (.taken w (otherOf w k m) t))
  | tries2 (r : Row) (k h : Int) (t : Nat) : r.head ≠ h → Tr b m w (otherOf w k m) r (.tries k h t) r (.looks k) none
  | holds1 (r : Row) (t n : Nat) (l : List Nat) (c : Nat) : b[t]? = some l → l[n]? = some c → 0 ≤ r.tail → Tr b m w w r (.holds t n) ⟨r.head, r.tail, putIn r.places r.tail.toNat c⟩ (.wrote t n) none
  | holds2 (r : Row) (t n : Nat) (l : List Nat) : b[t]? = some l → ¬ n < l.length → Tr b m w w r (.holds t n) r .free (some (.done w t))
  | wrote (r : Row) (t n : Nat) (l : List Nat) (c : Nat) : b[t]? = some l → l[n]? = some c → Tr b m w w r (.wrote t n) ⟨r.head, r.tail + 1, r.places⟩ (.holds t (n + 1)) (some (.put w c))

theorem own_tr {b : LL} {m w : Nat} {r : Row} {s : W} {p : Row × W × Option Evt} (h : ownStep w r s m = some p) : Tr b m w w r s p.1 p.2.1 p.2.2 := by
  cases s with
  | free => cases h; exact .free r
  | lowered =>
    dsimp only [ownStep, ownLooked] at h
    by_cases h1 : r.head < r.tail
    · rw [if_pos h1] at h
      cases ha : at? r.places r.tail with
      | none => rw [ha] at h; cases h
      | some t => rw [ha] at h; cases h; exact .look1 r t h1 ha
    · rw [if_neg h1] at h
      by_cases h2 : r.head = r.tail
      · rw [if_pos h2] at h; cases h; exact .look2 r h2
      · rw [if_neg h2] at h; cases h; exact .look3 r (by omega)
  | last h0 =>
    dsimp only [ownStep] at h
    by_cases h1 : r.head = h0
    · rw [if_pos h1] at h
      cases ha : at? r.places h0 with
      | none => rw [ha] at h; cases h
      | some t => rw [ha] at h; cases h; exact .last1 r h0 t h1 ha
    · rw [if_neg h1] at h; cases h; exact .last2 r h0 h1
  | mends t x =>
    cases x with
    | some c => cases h; exact .mend1 r t c
    | none =>
      dsimp only [ownStep] at h
      by_cases h1 : m = 1
      · rw [if_pos h1] at h; cases h; exact .mend2 r t h1
      · rw [if_neg h1] at h; cases h; exact .mend3 r t h1
  | _ => cases h
theorem other_tr {b : LL} {m w : Nat} {r : Row} {s : W} {p : Row × W × Option Evt} (h : otherStep w (otherOf w (kOfW s) m) r s m = some p) : Tr b m w (otherOf w (kOfW s) m) r s p.1 p.2.1 p.2.2 := by
  cases s with
  | looks k => cases h; exact .looks r k
  | seen k h0 =>
    dsimp only [otherStep] at h
    by_cases h1 : h0 < r.tail
    · rw [if_pos h1] at h; cases h; exact .seen1 r k h0 h1
    · rw [if_neg h1] at h
      by_cases h2 : k + 1 < (m : Int)
      · rw [if_pos h2] at h; cases h; exact .seen2 r k h0 h1 h2
      · rw [if_neg h2] at h; cases h; exact .seen3 r k h0 h1 h2
  | reads k h0 =>
    dsimp only [otherStep] at h
    cases ha : at? r.places h0 with
    | none => rw [ha] at h; cases h
    | some t => rw [ha] at h; cases h; exact .reads r k h0 t ha
  | tries k h0 t =>
    dsimp only [otherStep] at h
    by_cases h1 : r.head = h0
    · rw [if_pos h1] at h; cases h; exact .tries1 r k h0 t h1
    · rw [if_neg h1] at h; cases h; exact .tries2 r k h0 t h1
  | _ => cases h
theorem task_tr {b : LL} {m w : Nat} {r : Row} {s : W} {p : Row × W × Option Evt} (h : taskStep b w r s = some p) : Tr b m w w r s p.1 p.2.1 p.2.2 := by
  cases s with
  | holds t n =>
    dsimp only [taskStep] at h
    cases hb : b[t]? with
    | none => rw [hb] at h; cases h
    | some l =>
      rw [hb, Option.bind_some] at h
      by_cases hn : n < l.length
      · rw [if_pos hn] at h
        cases hc : l[n]? with
        | none => rw [hc] at h; cases h
        | some c =>
          rw [hc, Option.bind_some] at h
          by_cases ht : 0 ≤ r.tail
          · rw [if_pos ht] at h; cases h; exact .holds1 r t n l c hb hc ht
          · rw [if_neg ht] at h; cases h
      · rw [if_neg hn] at h; cases h; exact .holds2 r t n l hb hn
  | wrote t n =>
    dsimp only [taskStep] at h
    cases hb : b[t]? with
    | none => rw [hb] at h; cases h
    | some l =>
      rw [hb, Option.bind_some] at h
      cases hc : l[n]? with
      | none => rw [hc] at h; cases h
      | some c => rw [hc] at h; cases h; exact .wrote r t n l c hb hc
  | _ => cases h
theorem stepY_tr {b : LL} {y : Yard} {w : Nat} {q : Yard × Option Evt} (h : stepY b y w = some q) (hl : y.states.length = y.rows.length) :
    w < y.rows.length ∧ y.S w ≠ .rests ∧ ∃ x r' s', x < y.rows.length ∧ q.1 = ⟨y.rows.set x r', y.states.set w s'⟩ ∧ Tr b y.rows.length w x (y.R x) (y.S w) r' s' q.2 := by
  unfold stepY at h
  obtain ⟨s, hs, h⟩ := bind_some h
  have hw : w < y.states.length := (List.getElem?_eq_some_iff.mp hs).1
  have eS : y.S w = s := Yard.S_of hs
  by_cases h0 : s = .rests
  · rw [if_pos h0] at h; cases h
  rw [if_neg h0] at h
  refine ⟨by omega, by rw [eS]; exact h0, ?_⟩
  by_cases h1 : isOwn s = true
  · rw [if_pos h1] at h
    obtain ⟨r, hr, h⟩ := bind_some h
    obtain ⟨p, hp, h⟩ := bind_some h
    cases h
    refine ⟨w, p.1, p.2.1, by omega, rfl, ?_⟩
    rw [eS, Yard.R_of hr]
    exact own_tr hp
  · rw [if_neg h1] at h
    by_cases h2 : isTask s = true
    · rw [if_pos h2] at h
      obtain ⟨r, hr, h⟩ := bind_some h
      obtain ⟨p, hp, h⟩ := bind_some h
      cases h
      refine ⟨w, p.1, p.2.1, by omega, rfl, ?_⟩
      rw [eS, Yard.R_of hr]
      exact task_tr hp
    · rw [if_neg h2] at h
      obtain ⟨r, hr, h⟩ := bind_some h
      obtain ⟨p, hp, h⟩ := bind_some h
      cases h
      refine ⟨_, p.1, p.2.1, (List.getElem?_eq_some_iff.mp hr).1, rfl, ?_⟩
      rw [eS, Yard.R_of hr]
      exact other_tr hp

/-! ### the invariant -/
/-- where the standing tasks of a row end -/
def tl (r : Row) : W → Int
  | .free => r.tail
  | .lowered => r.tail + 1
  | .last _ => r.tail + 1
  | .mends t _ => t
  | .looks _ => r.tail
  | .seen _ _ => r.tail
  | .reads _ _ => r.tail
  | .tries _ _ _ => r.tail
  | .holds _ _ => r.tail
  | .wrote _ _ => r.tail
  | .rests => r.tail
def StI (b : LL) (r : Row) : W → Prop
  | .free => 0 ≤ r.tail
  | .lowered => True
  | .last h => h = r.tail ∧ h ≤ r.head
  | .mends t x => t = r.head ∧ ∀ c, x = some c → c < b.length
  | .looks _ => r.head = r.tail
  | .seen _ _ => r.head = r.tail
  | .reads _ _ => r.head = r.tail
  | .tries _ _ t => r.head = r.tail ∧ t < b.length
  | .rests => r.head = r.tail
  | .holds t n => ∃ l, b[t]? = some l ∧ n ≤ l.length
  | .wrote t n => ∃ l c, b[t]? = some l ∧ l[n]? = some c ∧ at? r.places r.tail = some c
/-- of a worker's own row -/
structure RowI (b : LL) (r : Row) (s : W) : Prop where
  h0 : 0 ≤ r.head
  ht : r.head ≤ tl r s
  hl : tl r s ≤ (r.places.length : Int)
  tt : r.tail ≤ tl r s ∧ tl r s ≤ r.tail + 1
  pl : ∀ t ∈ r.places, t < b.length
  st : StI b r s
/-- of one that looks at another's row r, whose worker's state is s -/
def ThI (m : Nat) (r : Row) (s : W) : W → Prop
  | .looks k => 1 ≤ k ∧ k < (m : Int)
  | .seen k h => 1 ≤ k ∧ k < (m : Int) ∧ 0 ≤ h ∧ h ≤ r.head
  | .reads k h => 1 ≤ k ∧ k < (m : Int) ∧ 0 ≤ h ∧ h ≤ r.head ∧ h < (r.places.length : Int) ∧ (r.head = h → h < tl r s)
  | .tries k h t => 1 ≤ k ∧ k < (m : Int) ∧ 0 ≤ h ∧ h ≤ r.head ∧ (r.head = h → h < tl r s ∧ at? r.places h = some t)
  | _ => True
structure CI (b : LL) (y : Yard) : Prop where
  len : y.states.length = y.rows.length
  m1 : 1 ≤ y.rows.length
  own : ∀ w, w < y.rows.length → RowI b (y.R w) (y.S w)
  th : ∀ w, w < y.rows.length → ThI y.rows.length (y.R (otherOf w (kOfW (y.S w)) y.rows.length)) (y.S (otherOf w (kOfW (y.S w)) y.rows.length)) (y.S w)
theorem at?_in {α : Type} {l : List α} {i : Int} (h0 : 0 ≤ i) (h1 : i < (l.length : Int)) : ∃ x, at? l i = some x := by
  unfold at?
  rw [if_pos h0]
  exact ⟨_, List.getElem?_eq_getElem (by omega)⟩
theorem at?_mem {α : Type} {l : List α} {i : Int} {x : α} (h : at? l i = some x) : x ∈ l ∧ i < (l.length : Int) ∧ 0 ≤ i := by
  obtain ⟨h0, h1⟩ := at?_some h
  have := (List.getElem?_eq_some_iff.mp h1).1
  exact ⟨List.mem_of_getElem? h1, by omega, h0⟩
/-- a worker that doesn't rest has a step -/
theorem CI.can {b : LL} {y : Yard} (I : CI b y) {w : Nat} (hw : w < y.rows.length) (hr : y.S w ≠ .rests) : ∃ q, stepY b y w = some q := by
  refine Option.isSome_iff_exists.mp ?_
  have hs : y.states[w]? = some (y.S w) := Yard.S_get (by rw [I.len]; exact hw)
  have hrow : y.rows[w]? = some (y.R w) := Yard.R_get hw
  have R := I.own w hw
  have Th := I.th w hw
  unfold stepY
  rw [hs, Option.bind_some, if_neg hr]
  obtain ⟨o1, _⟩ := otherOf_lt (w := w) (k := kOfW (y.S w)) (many := y.rows.length) (by omega)
  have hro : y.rows[otherOf w (kOfW (y.S w)) y.rows.length]? = some (y.R (otherOf w (kOfW (y.S w)) y.rows.length)) := Yard.R_get o1
  rw [hrow, hro, Option.bind_some, Option.bind_some, Option.bind_some]
  generalize y.R (otherOf w (kOfW (y.S w)) y.rows.length) = ro at Th ⊢
  generalize y.S (otherOf w (kOfW (y.S w)) y.rows.length) = so at Th
  generalize y.R w = r at R ⊢
  cases hS : y.S w with
  | free => simp [isOwn, ownStep]
  | lowered =>
    rw [hS] at R
    by_cases h1 : r.head < r.tail
    · obtain ⟨t, ht⟩ := at?_in (l := r.places) (i := r.tail) (by have := R.h0; omega) (by have := R.hl; dsimp only [tl] at this; omega)
      simp [isOwn, ownStep, ownLooked, h1, ht]
    · by_cases h2 : r.head = r.tail
      · simp [isOwn, ownStep, ownLooked, h1, h2]
      · simp [isOwn, ownStep, ownLooked, h1, h2]
  | last h =>
    rw [hS] at R
    by_cases h1 : r.head = h
    · obtain ⟨t, ht⟩ := at?_in (l := r.places) (i := h) (by have := R.h0; omega) (by have := R.hl; have := R.st; dsimp only [tl, StI] at *; omega)
      simp [isOwn, ownStep, h1, ht]
    · simp [isOwn, ownStep, h1]
  | mends t x =>
    cases x with
    | some c => simp [isOwn, ownStep]
    | none =>
      by_cases h1 : y.rows.length = 1
      · simp [isOwn, ownStep, h1]
      · simp [isOwn, ownStep, h1]
  | looks k => simp [isOwn, isTask, otherStep]
  | seen k h =>
    by_cases h1 : h < ro.tail
    · simp [isOwn, isTask, otherStep, h1]
    · by_cases h2 : k + 1 < (y.rows.length : Int)
      · simp [isOwn, isTask, otherStep, h1, h2]
      · simp [isOwn, isTask, otherStep, h1, h2]
  | reads k h =>
    rw [hS] at Th
    obtain ⟨_, _, a1, _, a2, _⟩ := Th
    obtain ⟨t, ht⟩ := at?_in (l := ro.places) (i := h) a1 a2
    simp [isOwn, isTask, otherStep, ht]
  | tries k h t =>
    by_cases h1 : ro.head = h
    · simp [isOwn, isTask, otherStep, h1]
    · simp [isOwn, isTask, otherStep, h1]
  | holds t n =>
    rw [hS] at R
    obtain ⟨l, hl, hn⟩ := R.st
    by_cases h1 : n < l.length
    · have h2 : l[n]? = some l[n] := List.getElem?_eq_getElem h1
      have h3 : 0 ≤ r.tail := by have := R.h0; have := R.ht; dsimp only [tl] at this; omega
      simp [isOwn, isTask, taskStep, hl, h1, h2, h3]
    · simp [isOwn, isTask, taskStep, hl, h1]
  | wrote t n =>
    rw [hS] at R
    obtain ⟨l, c, hl, hc, _⟩ := R.st
    simp [isOwn, isTask, taskStep, hl, hc]
  | rests => exact absurd hS hr
end Pu

set_option Elab.async false
set_option linter.all false
set_option maxRecDepth 100000
set_option maxHeartbeats 4000000
set_option autoImplicit false
/-! Conc2: every step keeps the invariant. -/
namespace Pu
open PySem

def isK : W → Bool
  | .looks _ => true
  | .seen _ _ => true
  | .reads _ _ => true
  | .tries _ _ _ => true
  | _ => false
/-- how a row and its worker's state may go on, for one that looks at it -/
structure Evo (r : Row) (s : W) (r' : Row) (s' : W) : Prop where
  hd : r.head ≤ r'.head
  pl : r.places.length ≤ r'.places.length
  eq : r'.head = r.head → r.head < tl r s → r.head < tl r' s' ∧ ∀ t, at? r.places r.head = some t → at? r'.places r.head = some t
theorem Evo.refl (r : Row) (s : W) : Evo r s r s := ⟨Int.le_refl _, Nat.le_refl _, fun _ h => ⟨h, fun _ z => z⟩⟩
theorem ThI.evo {m : Nat} {r r' : Row} {s s' u : W} (e : Evo r s r' s') (h : ThI m r s u) : ThI m r' s' u := by
  cases u with
  | looks k => exact h
  | seen k h0 =>
    obtain ⟨a, b, c, d⟩ := h
    exact ⟨a, b, c, Int.le_trans d e.hd⟩
  | reads k h0 =>
    obtain ⟨a, b, c, d, f, g⟩ := h
    refine ⟨a, b, c, Int.le_trans d e.hd, by have := e.pl; omega, fun q => ?_⟩
    have h1 : r.head = h0 := by have := e.hd; omega
    have := e.eq (by omega) (by have := g h1; omega)
    omega
  | tries k h0 t =>
    obtain ⟨a, b, c, d, g⟩ := h
    refine ⟨a, b, c, Int.le_trans d e.hd, fun q => ?_⟩
    have h1 : r.head = h0 := by have := e.hd; omega
    obtain ⟨g1, g2⟩ := g h1
    subst h1
    obtain ⟨z1, z2⟩ := e.eq q g1
    exact ⟨z1, z2 t g2⟩
  | _ => trivial
theorem putIn_len {l : List Nat} {k c : Nat} (h : k ≤ l.length) : l.length ≤ (putIn l k c).length ∧ k < (putIn l k c).length := by
  unfold putIn
  rw [List.length_append, List.length_append, List.length_take, List.length_drop]
  simp
  omega
theorem putIn_get {l : List Nat} {k c : Nat} (h : k ≤ l.length) : (putIn l k c)[k]? = some c := by
  unfold putIn
  rw [List.append_assoc, List.getElem?_append_right (by rw [List.length_take]; omega), List.length_take, Nat.min_eq_left h, Nat.sub_self]
  rfl
theorem putIn_other {l : List Nat} {k c j : Nat} (h : j < k) (hk : k ≤ l.length) : (putIn l k c)[j]? = l[j]? := by
  unfold putIn
  rw [List.append_assoc, List.getElem?_append_left (by rw [List.length_take]; omega), List.getElem?_take_of_lt h]
theorem putIn_mem {l : List Nat} {k c x : Nat} (h : x ∈ putIn l k c) : x ∈ l ∨ x = c := by
  unfold putIn at h
  rcases List.mem_append.mp h with h | h
  · rcases List.mem_append.mp h with h | h
    · exact .inl (List.mem_of_mem_take h)
    · exact .inr (List.mem_singleton.mp h)
  · exact .inl (List.mem_of_mem_drop h)
/-- a step at one's own row -/
theorem tr_A {b : LL} {m w x : Nat} {r r' : Row} {s s' : W} {e : Option Evt} (tr : Tr b m w x r s r' s' e) (R : RowI b r s) (hk : isK s = false) (hm : 1 ≤ m) (hb : ∀ (t : Nat) (l : List Nat) (c : Nat), b[t]? = some l → c ∈ l → c < b.length) :
    x = w ∧ RowI b r' s' ∧ Evo r s r' s' ∧ ∀ ro so, ThI m ro so s' := by
  have lim0 : ∀ t : Nat, t < b.length → ∃ l, b[t]? = some l := fun t ht => ⟨_, List.getElem?_eq_getElem ht⟩
  cases tr with
  | free =>
    obtain ⟨h0, ht, hl, tt, pl, st⟩ := R
    dsimp only [tl, StI] at *
    refine ⟨rfl, ⟨h0, by dsimp only [tl]; omega, by dsimp only [tl]; omega, by dsimp only [tl]; omega, pl, trivial⟩, ⟨Int.le_refl _, Nat.le_refl _, fun _ h => ⟨by dsimp only [tl, StI] at *; omega, fun _ z => z⟩⟩, fun _ _ => trivial⟩
  | look1 _ t h1 h2 =>
    obtain ⟨h0, ht, hl, tt, pl, st⟩ := R
    dsimp only [tl, StI] at *
    obtain ⟨a1, a2, a3⟩ := at?_mem h2
    obtain ⟨l, hl'⟩ := lim0 t (pl t a1)
    exact ⟨rfl, ⟨h0, by dsimp only [tl]; omega, by dsimp only [tl]; omega, by dsimp only [tl]; omega, pl, l, hl', Nat.zero_le _⟩, ⟨Int.le_refl _, Nat.le_refl _, fun _ h => ⟨by dsimp only [tl, StI] at *; omega, fun _ z => z⟩⟩, fun _ _ => trivial⟩
  | look2 _ h1 =>
    obtain ⟨h0, ht, hl, tt, pl, st⟩ := R
    dsimp only [tl, StI] at *
    exact ⟨rfl, ⟨h0, by dsimp only [tl]; omega, by dsimp only [tl]; omega, by dsimp only [tl]; omega, pl, h1, Int.le_refl _⟩, ⟨Int.le_refl _, Nat.le_refl _, fun _ h => ⟨by dsimp only [tl, StI] at *; omega, fun _ z => z⟩⟩, fun _ _ => trivial⟩
  | look3 _ h1 =>
    obtain ⟨h0, ht, hl, tt, pl, st⟩ := R
    dsimp only [tl, StI] at *
    exact ⟨rfl, ⟨h0, by dsimp only [tl]; omega, by dsimp only [tl]; omega, by dsimp only [tl]; omega, pl, by omega, fun c hc => by cases hc⟩, ⟨Int.le_refl _, Nat.le_refl _, fun _ h => ⟨by dsimp only [tl, StI] at *; omega, fun _ z => z⟩⟩, fun _ _ => trivial⟩
  | last1 _ h t h1 h2 =>
    obtain ⟨h0, ht, hl, tt, pl, st⟩ := R
    dsimp only [tl, StI] at *
    obtain ⟨a1, a2, a3⟩ := at?_mem h2
    exact ⟨rfl, ⟨by dsimp only; omega, by dsimp only [tl]; omega, by dsimp only [tl]; omega, by dsimp only [tl]; omega, pl, by dsimp only [StI]; omega, fun c hc => by cases hc; exact pl t a1⟩, ⟨by dsimp only; omega, Nat.le_refl _, fun q h => by dsimp only at q; omega⟩, fun _ _ => trivial⟩
  | last2 _ h h1 =>
    obtain ⟨h0, ht, hl, tt, pl, st⟩ := R
    dsimp only [tl, StI] at *
    exact ⟨rfl, ⟨h0, by dsimp only [tl]; omega, by dsimp only [tl]; omega, by dsimp only [tl]; omega, pl, by omega, fun c hc => by cases hc⟩, ⟨Int.le_refl _, Nat.le_refl _, fun _ h => ⟨by dsimp only [tl, StI] at *; omega, fun _ z => z⟩⟩, fun _ _ => trivial⟩
  | mend1 _ t c =>
    obtain ⟨h0, ht, hl, tt, pl, st⟩ := R
    dsimp only [tl, StI] at *
    obtain ⟨l, hl'⟩ := lim0 c (st.2 c rfl)
    exact ⟨rfl, ⟨h0, by dsimp only [tl]; omega, by dsimp only [tl]; omega, by dsimp only [tl]; omega, pl, l, hl', Nat.zero_le _⟩, ⟨Int.le_refl _, Nat.le_refl _, fun _ h => ⟨by dsimp only [tl, StI] at *; omega, fun _ z => z⟩⟩, fun _ _ => trivial⟩
  | mend2 _ t h1 =>
    obtain ⟨h0, ht, hl, tt, pl, st⟩ := R
    dsimp only [tl, StI] at *
    exact ⟨rfl, ⟨h0, by dsimp only [tl]; omega, by dsimp only [tl]; omega, by dsimp only [tl]; omega, pl, by dsimp only [StI]; omega⟩, ⟨Int.le_refl _, Nat.le_refl _, fun _ h => ⟨by dsimp only [tl, StI] at *; omega, fun _ z => z⟩⟩, fun _ _ => trivial⟩
  | mend3 _ t h1 =>
    obtain ⟨h0, ht, hl, tt, pl, st⟩ := R
    dsimp only [tl, StI] at *
    exact ⟨rfl, ⟨h0, by dsimp only [tl]; omega, by dsimp only [tl]; omega, by dsimp only [tl]; omega, pl, by dsimp only [StI]; omega⟩, ⟨Int.le_refl _, Nat.le_refl _, fun _ h => ⟨by dsimp only [tl, StI] at *; omega, fun _ z => z⟩⟩, fun _ _ => ⟨Int.le_refl _, by omega⟩⟩
  | holds1 _ t n l c hl1 hc h1 =>
    obtain ⟨h0, ht, hl, tt, pl, st⟩ := R
    dsimp only [tl, StI] at *
    have hk : r.tail.toNat ≤ r.places.length := by omega
    obtain ⟨p1, p2⟩ := putIn_len (l := r.places) (c := c) hk
    have hcb := hb t l c hl1 (List.mem_of_getElem? hc)
    refine ⟨rfl, ⟨h0, by dsimp only [tl]; omega, by dsimp only [tl]; omega, by dsimp only [tl]; omega, fun z hz => ?_, l, c, hl1, hc, ?_⟩, ⟨Int.le_refl _, p1, fun _ h => ⟨by dsimp only [tl, StI] at *; omega, fun z hz => ?_⟩⟩, fun _ _ => trivial⟩
    · rcases putIn_mem hz with q | q
      · exact pl z q
      · rw [q]; exact hcb
    · unfold at?
      rw [if_pos h1]
      exact putIn_get hk
    · obtain ⟨q0, q1⟩ := at?_some hz
      unfold at?
      rw [if_pos q0]
      rw [putIn_other (by dsimp only [tl] at h; omega) hk]
      exact q1
  | holds2 _ t n l hl1 h1 =>
    obtain ⟨h0, ht, hl, tt, pl, st⟩ := R
    dsimp only [tl, StI] at *
    exact ⟨rfl, ⟨h0, by dsimp only [tl]; omega, by dsimp only [tl]; omega, by dsimp only [tl]; omega, pl, by dsimp only [StI]; omega⟩, ⟨Int.le_refl _, Nat.le_refl _, fun _ h => ⟨by dsimp only [tl, StI] at *; omega, fun _ z => z⟩⟩, fun _ _ => trivial⟩
  | wrote _ t n l c hl1 hc =>
    obtain ⟨h0, ht, hl, tt, pl, l', c', e1, e2, e3⟩ := R
    dsimp only [tl, StI] at *
    rw [hl1] at e1; cases e1
    obtain ⟨a1, a2, a3⟩ := at?_mem e3
    have hn := (List.getElem?_eq_some_iff.mp hc).1
    exact ⟨rfl, ⟨h0, by dsimp only [tl]; omega, by dsimp only [tl]; omega, by dsimp only [tl]; omega, pl, l, hl1, hn⟩, ⟨Int.le_refl _, Nat.le_refl _, fun _ h => ⟨by dsimp only [tl, StI] at *; omega, fun _ z => z⟩⟩, fun _ _ => trivial⟩
  | _ => cases hk
/-- a step at another one's row -/
theorem tr_B {b : LL} {m w x : Nat} {r r' rw_ : Row} {s s' so : W} {e : Option Evt} (tr : Tr b m w x r s r' s' e) (hk : isK s = true) (Rw : RowI b rw_ s) (Ro : RowI b r so) (Th : ThI m r so s) :
    x = otherOf w (kOfW s) m ∧ RowI b rw_ s' ∧ Evo rw_ s rw_ s' ∧ RowI b r' so ∧ Evo r so r' so ∧ ∀ ro' so', (kOfW s' = kOfW s → ro' = r' ∧ so' = so) → ThI m ro' so' s' := by
  cases tr with
  | looks k =>
    obtain ⟨h0, ht, hl, tt, pl, st⟩ := Rw
    obtain ⟨k1, k2⟩ := Th
    refine ⟨rfl, ⟨h0, ht, hl, tt, pl, st⟩, ⟨Int.le_refl _, Nat.le_refl _, fun _ h => ⟨h, fun _ z => z⟩⟩, Ro, Evo.refl _ _, fun ro' so' h => ?_⟩
    obtain ⟨rfl, rfl⟩ := h rfl
    exact ⟨k1, k2, Ro.h0, Int.le_refl _⟩
  | seen1 _ k h h1 =>
    obtain ⟨h0, ht, hl, tt, pl, st⟩ := Rw
    obtain ⟨k1, k2, k3, k4⟩ := Th
    refine ⟨rfl, ⟨h0, ht, hl, tt, pl, st⟩, ⟨Int.le_refl _, Nat.le_refl _, fun _ h => ⟨h, fun _ z => z⟩⟩, Ro, Evo.refl _ _, fun ro' so' h => ?_⟩
    obtain ⟨rfl, rfl⟩ := h rfl
    have q1 := Ro.tt
    have q2 := Ro.hl
    exact ⟨k1, k2, k3, k4, by omega, fun _ => by omega⟩
  | seen2 _ k h h1 h2 =>
    obtain ⟨h0, ht, hl, tt, pl, st⟩ := Rw
    obtain ⟨k1, k2, k3, k4⟩ := Th
    refine ⟨rfl, ⟨h0, ht, hl, tt, pl, st⟩, ⟨Int.le_refl _, Nat.le_refl _, fun _ h => ⟨h, fun _ z => z⟩⟩, Ro, Evo.refl _ _, fun ro' so' h => ?_⟩
    exact ⟨by omega, h2⟩
  | seen3 _ k h h1 h2 =>
    obtain ⟨h0, ht, hl, tt, pl, st⟩ := Rw
    exact ⟨rfl, ⟨h0, ht, hl, tt, pl, st⟩, ⟨Int.le_refl _, Nat.le_refl _, fun _ h => ⟨h, fun _ z => z⟩⟩, Ro, Evo.refl _ _, fun ro' so' h => trivial⟩
  | reads _ k h t h1 =>
    obtain ⟨h0, ht, hl, tt, pl, st⟩ := Rw
    obtain ⟨k1, k2, k3, k4, k5, k6⟩ := Th
    obtain ⟨a1, a2, a3⟩ := at?_mem h1
    refine ⟨rfl, ⟨h0, ht, hl, tt, pl, st, Ro.pl t a1⟩, ⟨Int.le_refl _, Nat.le_refl _, fun _ h => ⟨h, fun _ z => z⟩⟩, Ro, Evo.refl _ _, fun ro' so' h => ?_⟩
    obtain ⟨rfl, rfl⟩ := h rfl
    exact ⟨k1, k2, k3, k4, fun q => ⟨k6 q, h1⟩⟩
  | tries1 _ k h t h1 =>
    obtain ⟨h0, ht, hl, tt, pl, st, tb⟩ := Rw
    obtain ⟨k1, k2, k3, k4, k5⟩ := Th
    obtain ⟨k6, k7⟩ := k5 h1
    obtain ⟨l, hl'⟩ : ∃ l, b[t]? = some l := ⟨_, List.getElem?_eq_getElem tb⟩
    obtain ⟨o0, ot, ol, ott, opl, ost⟩ := Ro
    refine ⟨rfl, ⟨h0, ht, hl, tt, pl, l, hl', Nat.zero_le _⟩, ⟨Int.le_refl _, Nat.le_refl _, fun _ h => ⟨h, fun _ z => z⟩⟩, ⟨by dsimp only; omega, ?_, ?_, ?_, opl, ?_⟩, ⟨by dsimp only; omega, Nat.le_refl _, fun q => by dsimp only at q; omega⟩, fun ro' so' h => trivial⟩
    · have : tl ⟨r.head + 1, r.tail, r.places⟩ so = tl r so := by cases so <;> rfl
      rw [this]; dsimp only; omega
    · have : tl ⟨r.head + 1, r.tail, r.places⟩ so = tl r so := by cases so <;> rfl
      rw [this]; exact ol
    · have : tl ⟨r.head + 1, r.tail, r.places⟩ so = tl r so := by cases so <;> rfl
      rw [this]; exact ott
    · cases so with
      | free => exact ost
      | lowered => trivial
      | last h' => dsimp only [tl, StI] at ost k6 ⊢; omega
      | mends t' x' => dsimp only [tl, StI] at ost k6 ⊢; omega
      | looks => dsimp only [tl, StI] at ost k6 ⊢; omega
      | seen => dsimp only [tl, StI] at ost k6 ⊢; omega
      | reads => dsimp only [tl, StI] at ost k6 ⊢; omega
      | tries => dsimp only [tl, StI] at ost k6 ⊢; omega
      | rests => dsimp only [tl, StI] at ost k6 ⊢; omega
      | holds => exact ost
      | wrote => exact ost
  | tries2 _ k h t h1 =>
    obtain ⟨h0, ht, hl, tt, pl, st, tb⟩ := Rw
    obtain ⟨k1, k2, k3, k4, k5⟩ := Th
    exact ⟨rfl, ⟨h0, ht, hl, tt, pl, st⟩, ⟨Int.le_refl _, Nat.le_refl _, fun _ h => ⟨h, fun _ z => z⟩⟩, Ro, Evo.refl _ _, fun ro' so' h => ⟨k1, k2⟩⟩
  | _ => cases hk
theorem otherOf_val {w m : Nat} {k : Int} (hw : w < m) (h1 : 1 ≤ k) (h2 : k < (m : Int)) : ((otherOf w k m : Nat) : Int) = if (w : Int) + k < (m : Int) then (w : Int) + k else (w : Int) + k - m := by
  rw [(otherOf_lt (w := w) (k := k) (many := m) (by omega)).2, Int.fmod_eq_emod_of_nonneg _ (by omega)]
  by_cases h : (w : Int) + k < (m : Int)
  · rw [if_pos h, Int.emod_eq_of_lt (by omega) h]
  · rw [if_neg h]
    have e : (w : Int) + k = ((w : Int) + k - m) + m := by omega
    rw [e, Int.add_emod_right, Int.emod_eq_of_lt (by omega) (by omega)]
    omega
theorem otherOf_ne {w m : Nat} {k : Int} (hw : w < m) (h1 : 1 ≤ k) (h2 : k < (m : Int)) : otherOf w k m ≠ w := fun e => by
  have v := otherOf_val hw h1 h2
  rw [e] at v
  split at v <;> omega
theorem ThI.k {m : Nat} {r : Row} {s u : W} (h : ThI m r s u) (hk : isK u = true) : 1 ≤ kOfW u ∧ kOfW u < (m : Int) := by
  cases u with
  | looks k => exact h
  | seen k h0 => exact ⟨h.1, h.2.1⟩
  | reads k h0 => exact ⟨h.1, h.2.1⟩
  | tries k h0 t => exact ⟨h.1, h.2.1⟩
  | _ => cases hk
theorem ThI.not {m : Nat} {r r' : Row} {s s' u : W} (hk : isK u = false) : ThI m r s u := by
  cases u with
  | looks k => cases hk
  | seen k h0 => cases hk
  | reads k h0 => cases hk
  | tries k h0 t => cases hk
  | _ => trivial
/-- what a step does, with all that the invariant tells -/
structure Stp (b : LL) (y : Yard) (w : Nat) (y' : Yard) (e : Option Evt) : Prop where
  hw : w < y.rows.length
  ns : y.S w ≠ .rests
  m' : y'.rows.length = y.rows.length
  ex : ∃ x r' s', x < y.rows.length ∧ y' = ⟨y.rows.set x r', y.states.set w s'⟩ ∧ Tr b y.rows.length w x (y.R x) (y.S w) r' s' e ∧ (isK (y.S w) = false → x = w) ∧ (isK (y.S w) = true → x = otherOf w (kOfW (y.S w)) y.rows.length ∧ x ≠ w)
theorem CI.step {b : LL} {y : Yard} (I : CI b y) {w : Nat} {q : Yard × Option Evt} (h : stepY b y w = some q) (hb : ∀ (t : Nat) (l : List Nat) (c : Nat), b[t]? = some l → c ∈ l → c < b.length) : CI b q.1 ∧ Stp b y w q.1 q.2 := by
  obtain ⟨hw, hs, x, r', s', hx, eq, tr⟩ := stepY_tr h I.len
  have hws : w < y.states.length := by rw [I.len]; exact hw
  obtain ⟨y', e⟩ := q
  dsimp only at eq tr ⊢
  subst eq
  have hlen : (y.rows.set x r').length = y.rows.length := by simp
  have hR : ∀ v, (Yard.mk (y.rows.set x r') (y.states.set w s')).R v = if v = x then r' else y.R v := fun v => R_set y x v r' _ hx
  have hS : ∀ v, (Yard.mk (y.rows.set x r') (y.states.set w s')).S v = if v = w then s' else y.S v := fun v => S_set y w v s' _ hws
  by_cases hk : isK (y.S w) = false
  · have Rx : RowI b (y.R x) (y.S w) := by
      have hxw : x = w := by
        cases hs : y.S w <;> rw [hs] at tr hk <;> first | (cases hk; done) | (cases tr <;> rfl)
      rw [hxw]; exact I.own w hw
    obtain ⟨rfl, A1, A2, A3⟩ := tr_A tr Rx hk I.m1 hb
    refine ⟨⟨by simp [I.len], by simpa using I.m1, fun v hv => ?_, fun v hv => ?_⟩, hw, hs, hlen, _, r', s', hx, rfl, tr, fun _ => rfl, fun h => by rw [hk] at h; cases h⟩
    · rw [hR, hS]
      rw [hlen] at hv
      by_cases e : v = x
      · rw [if_pos e, if_pos e]; exact A1
      · rw [if_neg e, if_neg e]; exact I.own v hv
    · rw [hlen] at hv ⊢
      rw [hS v]
      by_cases e : v = x
      · rw [if_pos e]; exact A3 _ _
      · rw [if_neg e, hR, hS]
        have T := I.th v hv
        by_cases e2 : otherOf v (kOfW (y.S v)) y.rows.length = x
        · rw [if_pos e2, if_pos e2]
          rw [e2] at T
          exact T.evo A2
        · rw [if_neg e2, if_neg e2]; exact T
  · have hk' : isK (y.S w) = true := by simpa using hk
    have T0 := I.th w hw
    have hxo : x = otherOf w (kOfW (y.S w)) y.rows.length := by
      cases hs : y.S w <;> rw [hs] at tr hk' <;> first | (cases hk'; done) | (cases tr <;> rfl)
    have kk := T0.k hk'
    have hne : x ≠ w := by rw [hxo]; exact otherOf_ne hw kk.1 kk.2
    rw [← hxo] at T0
    obtain ⟨_, B1, B2, B3, B4, B5⟩ := tr_B tr hk' (I.own w hw) (I.own x hx) T0
    refine ⟨⟨by simp [I.len], by simpa using I.m1, fun v hv => ?_, fun v hv => ?_⟩, hw, hs, hlen, _, r', s', hx, rfl, tr, fun h => (by rw [hk'] at h; cases h), fun _ => ⟨hxo, hne⟩⟩
    · rw [hR, hS]
      rw [hlen] at hv
      by_cases e : v = x
      · rw [if_pos e, if_neg (fun z => hne (by rw [← e, z])), e]; exact B3
      · rw [if_neg e]
        by_cases e2 : v = w
        · rw [if_pos e2, e2]; exact B1
        · rw [if_neg e2]; exact I.own v hv
    · rw [hlen] at hv ⊢
      rw [hS v]
      by_cases e : v = w
      · rw [if_pos e]
        refine B5 _ _ fun q => ?_
        rw [hR, hS, q, e, ← hxo, if_pos rfl, if_neg hne]
        exact ⟨rfl, rfl⟩
      · rw [if_neg e, hR, hS]
        have T := I.th v hv
        by_cases e2 : otherOf v (kOfW (y.S v)) y.rows.length = x
        · rw [if_pos e2, if_neg (by rw [e2]; exact hne)]
          rw [e2] at T ⊢
          exact T.evo B4
        · rw [if_neg e2]
          by_cases e3 : otherOf v (kOfW (y.S v)) y.rows.length = w
          · rw [if_pos e3]
            rw [e3] at T ⊢
            exact T.evo B2
          · rw [if_neg e3]; exact T
theorem CI.start (b s : LL) (P : PlanOk 200 b s) : CI b (yard0 s) := by
  have hr : ∀ w, w < s.length → (yard0 s).R w = ⟨0, ((s[w]?).getD []).length, (s[w]?).getD []⟩ ∧ (yard0 s).S w = .free := fun w hw => by
    unfold Yard.R Yard.S yard0
    dsimp only
    rw [List.getElem?_map, List.getElem?_map, List.getElem?_eq_getElem hw]
    exact ⟨rfl, rfl⟩
  have hl : (yard0 s).rows.length = s.length := by unfold yard0; simp
  refine ⟨by unfold yard0; simp, by rw [hl]; exact P.m1, fun w hw => ?_, fun w hw => ?_⟩
  · rw [hl] at hw
    rw [(hr w hw).1, (hr w hw).2]
    refine ⟨Int.le_refl _, by dsimp only [tl]; omega, by dsimp only [tl]; omega, by dsimp only [tl]; omega, fun t ht => ?_, by dsimp only [StI]; omega⟩
    rw [List.getElem?_eq_getElem hw] at ht
    exact P.ins w s[w] t (List.getElem?_eq_getElem hw) ht
  · rw [hl] at hw
    rw [(hr w hw).2]
    trivial
end Pu

set_option Elab.async false
set_option linter.all false
set_option maxRecDepth 100000
set_option maxHeartbeats 4000000
set_option autoImplicit false
/-! Due: the laws' own account of a step gives the same. -/
namespace Pu
open PySem

theorem ix2a {a b : D} : oIx (.list [a, b]) (.int 0) = some a := by
  show L2.atI [a, b] ((0 : Nat) : Int) = some a
  exact L2.atI_nat rfl
theorem ix2b {a b : D} : oIx (.list [a, b]) (.int 1) = some b := by
  show L2.atI [a, b] ((1 : Nat) : Int) = some b
  exact L2.atI_nat rfl
theorem due_own_ev {w many : Nat} {r : Row} {s : W} {p : Row × W × Option Evt} (h : ownStep w r s many = some p) : M_l_due_own [encR r, encS s, .int (w : Int), .int (many : Int)] = some (ans3 p) := by
  have hu : M_l_due_own [encR r, encS s, .int (w : Int), .int (many : Int)] = (F_l_due_own [some (encR r), some (encS s), some (.int (w : Int)), some (.int (many : Int)), none, none, none, none]).bind endD := rfl
  rw [hu]
  cases s with
  | free =>
    cases h
    simp (config := {decide := true}) [F_l_due_own, sSeq, sIf, sUnp, gTupD, setAll, encR, encS, encO, encE, encT, bT, eOp, eVar, eC, oIx0, oIx1, oIx2, oIx3, oEq_str, sh_free, sh_lowered, sh_last, sh_mends, sh_looks, sh_seen, sh_reads, sh_tries, sh_holds, sh_wrote, sh_rests, sNx, sSet, sRet, eTup, eLst, esCons, esNil, l1, l2, l3, l4, eCall, ans3, endD, oAdd, oSub, oLt, oEq_int, oIsntA, isNon, bAnd, bOr, bNot, oInt, ix2a, ix2b]
  | lowered =>
    dsimp only [ownStep, ownLooked] at h
    by_cases h1 : r.head < r.tail
    · rw [if_pos h1] at h
      cases ha : at? r.places r.tail with
      | none => rw [ha] at h; cases h
      | some t =>
        rw [ha] at h; cases h
        have hi := ix_places ha
        simp (config := {decide := true}) [F_l_due_own, h1, hi, sSeq, sIf, sUnp, gTupD, setAll, encR, encS, encO, encE, encT, bT, eOp, eVar, eC, oIx0, oIx1, oIx2, oIx3, oEq_str, sh_free, sh_lowered, sh_last, sh_mends, sh_looks, sh_seen, sh_reads, sh_tries, sh_holds, sh_wrote, sh_rests, sNx, sSet, sRet, eTup, eLst, esCons, esNil, l1, l2, l3, l4, eCall, ans3, endD, oAdd, oSub, oLt, oEq_int, oIsntA, isNon, bAnd, bOr, bNot, oInt, ix2a, ix2b]
    · rw [if_neg h1] at h
      by_cases h2 : r.head = r.tail
      · rw [if_pos h2] at h; cases h
        simp (config := {decide := true}) [F_l_due_own, h1, h2, sSeq, sIf, sUnp, gTupD, setAll, encR, encS, encO, encE, encT, bT, eOp, eVar, eC, oIx0, oIx1, oIx2, oIx3, oEq_str, sh_free, sh_lowered, sh_last, sh_mends, sh_looks, sh_seen, sh_reads, sh_tries, sh_holds, sh_wrote, sh_rests, sNx, sSet, sRet, eTup, eLst, esCons, esNil, l1, l2, l3, l4, eCall, ans3, endD, oAdd, oSub, oLt, oEq_int, oIsntA, isNon, bAnd, bOr, bNot, oInt, ix2a, ix2b]
      · rw [if_neg h2] at h; cases h
        simp (config := {decide := true}) [F_l_due_own, h1, h2, sSeq, sIf, sUnp, gTupD, setAll, encR, encS, encO, encE, encT, bT, eOp, eVar, eC, oIx0, oIx1, oIx2, oIx3, oEq_str, sh_free, sh_lowered, sh_last, sh_mends, sh_looks, sh_seen, sh_reads, sh_tries, sh_holds, sh_wrote, sh_rests, sNx, sSet, sRet, eTup, eLst, esCons, esNil, l1, l2, l3, l4, eCall, ans3, endD, oAdd, oSub, oLt, oEq_int, oIsntA, isNon, bAnd, bOr, bNot, oInt, ix2a, ix2b]
  | last h0 =>
    dsimp only [ownStep] at h
    by_cases h1 : r.head = h0
    · cases ha : at? r.places h0 with
      | none => rw [if_pos h1, ha] at h; cases h
      | some t =>
        rw [if_pos h1, ha] at h; cases h
        have hi := ix_places ha
        subst h1
        simp (config := {decide := true}) [F_l_due_own, hi, sSeq, sIf, sUnp, gTupD, setAll, encR, encS, encO, encE, encT, bT, eOp, eVar, eC, oIx0, oIx1, oIx2, oIx3, oEq_str, sh_free, sh_lowered, sh_last, sh_mends, sh_looks, sh_seen, sh_reads, sh_tries, sh_holds, sh_wrote, sh_rests, sNx, sSet, sRet, eTup, eLst, esCons, esNil, l1, l2, l3, l4, eCall, ans3, endD, oAdd, oSub, oLt, oEq_int, oIsntA, isNon, bAnd, bOr, bNot, oInt, ix2a, ix2b]
    · rw [if_neg h1] at h; cases h
      simp (config := {decide := true}) [F_l_due_own, h1, sSeq, sIf, sUnp, gTupD, setAll, encR, encS, encO, encE, encT, bT, eOp, eVar, eC, oIx0, oIx1, oIx2, oIx3, oEq_str, sh_free, sh_lowered, sh_last, sh_mends, sh_looks, sh_seen, sh_reads, sh_tries, sh_holds, sh_wrote, sh_rests, sNx, sSet, sRet, eTup, eLst, esCons, esNil, l1, l2, l3, l4, eCall, ans3, endD, oAdd, oSub, oLt, oEq_int, oIsntA, isNon, bAnd, bOr, bNot, oInt, ix2a, ix2b]
  | mends t x =>
    cases x with
    | some c =>
      cases h
      simp (config := {decide := true}) [F_l_due_own, sSeq, sIf, sUnp, gTupD, setAll, encR, encS, encO, encE, encT, bT, eOp, eVar, eC, oIx0, oIx1, oIx2, oIx3, oEq_str, sh_free, sh_lowered, sh_last, sh_mends, sh_looks, sh_seen, sh_reads, sh_tries, sh_holds, sh_wrote, sh_rests, sNx, sSet, sRet, eTup, eLst, esCons, esNil, l1, l2, l3, l4, eCall, ans3, endD, oAdd, oSub, oLt, oEq_int, oIsntA, isNon, bAnd, bOr, bNot, oInt, ix2a, ix2b]
    | none =>
      dsimp only [ownStep] at h
      by_cases h1 : many = 1
      · rw [if_pos h1] at h; cases h
        subst h1
        simp (config := {decide := true}) [F_l_due_own, sSeq, sIf, sUnp, gTupD, setAll, encR, encS, encO, encE, encT, bT, eOp, eVar, eC, oIx0, oIx1, oIx2, oIx3, oEq_str, sh_free, sh_lowered, sh_last, sh_mends, sh_looks, sh_seen, sh_reads, sh_tries, sh_holds, sh_wrote, sh_rests, sNx, sSet, sRet, eTup, eLst, esCons, esNil, l1, l2, l3, l4, eCall, ans3, endD, oAdd, oSub, oLt, oEq_int, oIsntA, isNon, bAnd, bOr, bNot, oInt, ix2a, ix2b]
      · rw [if_neg h1] at h; cases h
        have h1' : ¬ ((many : Int) = 1) := by omega
        simp (config := {decide := true}) [F_l_due_own, h1', sSeq, sIf, sUnp, gTupD, setAll, encR, encS, encO, encE, encT, bT, eOp, eVar, eC, oIx0, oIx1, oIx2, oIx3, oEq_str, sh_free, sh_lowered, sh_last, sh_mends, sh_looks, sh_seen, sh_reads, sh_tries, sh_holds, sh_wrote, sh_rests, sNx, sSet, sRet, eTup, eLst, esCons, esNil, l1, l2, l3, l4, eCall, ans3, endD, oAdd, oSub, oLt, oEq_int, oIsntA, isNon, bAnd, bOr, bNot, oInt, ix2a, ix2b]
  | _ => cases h
theorem due_other_ev {w o many : Nat} {r : Row} {s : W} {p : Row × W × Option Evt} (h : otherStep w o r s many = some p) (hk : kOfW s < (many : Int)) : M_l_due_other [encR r, encS s, .int (w : Int), .int (o : Int), .int (many : Int)] = some (ans3 p) := by
  have hu : M_l_due_other [encR r, encS s, .int (w : Int), .int (o : Int), .int (many : Int)] = (F_l_due_other [some (encR r), some (encS s), some (.int (w : Int)), some (.int (o : Int)), some (.int (many : Int)), none, none, none]).bind endD := rfl
  rw [hu]
  cases s with
  | looks k =>
    cases h
    simp (config := {decide := true}) [F_l_due_other, sSeq, sIf, sUnp, gTupD, setAll, encR, encS, encO, encE, encT, bT, eOp, eVar, eC, oIx0, oIx1, oIx2, oIx3, oEq_str, sh_free, sh_lowered, sh_last, sh_mends, sh_looks, sh_seen, sh_reads, sh_tries, sh_holds, sh_wrote, sh_rests, sNx, sSet, sRet, eTup, eLst, esCons, esNil, l1, l2, l3, l4, eCall, ans3, endD, oAdd, oSub, oLt, oEq_int, oIsntA, isNon, bAnd, bOr, bNot, oInt, ix2a, ix2b]
  | seen k h0 =>
    dsimp only [otherStep] at h
    by_cases h1 : h0 < r.tail
    · rw [if_pos h1] at h; cases h
      simp (config := {decide := true}) [F_l_due_other, h1, sSeq, sIf, sUnp, gTupD, setAll, encR, encS, encO, encE, encT, bT, eOp, eVar, eC, oIx0, oIx1, oIx2, oIx3, oEq_str, sh_free, sh_lowered, sh_last, sh_mends, sh_looks, sh_seen, sh_reads, sh_tries, sh_holds, sh_wrote, sh_rests, sNx, sSet, sRet, eTup, eLst, esCons, esNil, l1, l2, l3, l4, eCall, ans3, endD, oAdd, oSub, oLt, oEq_int, oIsntA, isNon, bAnd, bOr, bNot, oInt, ix2a, ix2b]
    · rw [if_neg h1] at h
      by_cases h2 : k + 1 < (many : Int)
      · rw [if_pos h2] at h; cases h
        have h3 : ¬ k + 1 = (many : Int) := by omega
        simp (config := {decide := true}) [F_l_due_other, h1, h3, sSeq, sIf, sUnp, gTupD, setAll, encR, encS, encO, encE, encT, bT, eOp, eVar, eC, oIx0, oIx1, oIx2, oIx3, oEq_str, sh_free, sh_lowered, sh_last, sh_mends, sh_looks, sh_seen, sh_reads, sh_tries, sh_holds, sh_wrote, sh_rests, sNx, sSet, sRet, eTup, eLst, esCons, esNil, l1, l2, l3, l4, eCall, ans3, endD, oAdd, oSub, oLt, oEq_int, oIsntA, isNon, bAnd, bOr, bNot, oInt, ix2a, ix2b]
      · rw [if_neg h2] at h; cases h
        have h3 : k + 1 = (many : Int) := by dsimp only [kOfW] at hk; omega
        simp (config := {decide := true}) [F_l_due_other, h1, h3, sSeq, sIf, sUnp, gTupD, setAll, encR, encS, encO, encE, encT, bT, eOp, eVar, eC, oIx0, oIx1, oIx2, oIx3, oEq_str, sh_free, sh_lowered, sh_last, sh_mends, sh_looks, sh_seen, sh_reads, sh_tries, sh_holds, sh_wrote, sh_rests, sNx, sSet, sRet, eTup, eLst, esCons, esNil, l1, l2, l3, l4, eCall, ans3, endD, oAdd, oSub, oLt, oEq_int, oIsntA, isNon, bAnd, bOr, bNot, oInt, ix2a, ix2b]
  | reads k h0 =>
    dsimp only [otherStep] at h
    cases ha : at? r.places h0 with
    | none => rw [ha] at h; cases h
    | some t =>
      rw [ha] at h; cases h
      have hi := ix_places ha
      simp (config := {decide := true}) [F_l_due_other, hi, sSeq, sIf, sUnp, gTupD, setAll, encR, encS, encO, encE, encT, bT, eOp, eVar, eC, oIx0, oIx1, oIx2, oIx3, oEq_str, sh_free, sh_lowered, sh_last, sh_mends, sh_looks, sh_seen, sh_reads, sh_tries, sh_holds, sh_wrote, sh_rests, sNx, sSet, sRet, eTup, eLst, esCons, esNil, l1, l2, l3, l4, eCall, ans3, endD, oAdd, oSub, oLt, oEq_int, oIsntA, isNon, bAnd, bOr, bNot, oInt, ix2a, ix2b]
  | tries k h0 t0 =>
    dsimp only [otherStep] at h
    by_cases h1 : r.head = h0
    · rw [if_pos h1] at h; cases h
      subst h1
      simp (config := {decide := true}) [F_l_due_other, sSeq, sIf, sUnp, gTupD, setAll, encR, encS, encO, encE, encT, bT, eOp, eVar, eC, oIx0, oIx1, oIx2, oIx3, oEq_str, sh_free, sh_lowered, sh_last, sh_mends, sh_looks, sh_seen, sh_reads, sh_tries, sh_holds, sh_wrote, sh_rests, sNx, sSet, sRet, eTup, eLst, esCons, esNil, l1, l2, l3, l4, eCall, ans3, endD, oAdd, oSub, oLt, oEq_int, oIsntA, isNon, bAnd, bOr, bNot, oInt, ix2a, ix2b]
    · rw [if_neg h1] at h; cases h
      simp (config := {decide := true}) [F_l_due_other, h1, sSeq, sIf, sUnp, gTupD, setAll, encR, encS, encO, encE, encT, bT, eOp, eVar, eC, oIx0, oIx1, oIx2, oIx3, oEq_str, sh_free, sh_lowered, sh_last, sh_mends, sh_looks, sh_seen, sh_reads, sh_tries, sh_holds, sh_wrote, sh_rests, sNx, sSet, sRet, eTup, eLst, esCons, esNil, l1, l2, l3, l4, eCall, ans3, endD, oAdd, oSub, oLt, oEq_int, oIsntA, isNon, bAnd, bOr, bNot, oInt, ix2a, ix2b]
  | _ => cases h
/-- x[:k] + (e,) + x[k + 1:] -/
theorem cut_ev {ds : Sl} {f g h : Sl → Option D} {l : List D} {k : Nat} {x : D} (hf : f ds = some (.tuple l)) (hg : g ds = some (.int (k : Int))) (hh : h ds = some x) (hz : l.length + 1 ≤ lim) :
    eOp oAdd (eOp oAdd (eSl f eNoPart (ePart g)) (eTup (esCons h esNil))) (eSl f (ePart (eOp oAdd g (eC (.int 1)))) eNoPart) ds = some (.tuple (l.take k ++ [x] ++ l.drop (k + 1))) := by
  have z := put_in_ev l k x hz
  have hu : M_put_in [.tuple l, .int (k : Int), x] = (F_put_in [some (.tuple l), some (.int (k : Int)), some x]).bind endD := rfl
  rw [hu] at z
  have e : ∀ d, eOp oAdd (eOp oAdd (eSl f eNoPart (ePart g)) (eTup (esCons h esNil))) (eSl f (ePart (eOp oAdd g (eC (.int 1)))) eNoPart) ds = d ↔ eOp oAdd (eOp oAdd (eSl (eVar 0) eNoPart (ePart (eVar 1))) (eTup (esCons (eVar 2) esNil))) (eSl (eVar 0) (ePart (eOp oAdd (eVar 1) (eC (.int 1)))) eNoPart) [some (.tuple l), some (.int (k : Int)), some x] = d := fun d => by
    simp [eOp, eSl, eNoPart, ePart, eTup, esCons, esNil, hf, hg, hh, eVar, eC]
  rw [e]
  unfold F_put_in sRet at z
  cases q : eOp oAdd (eOp oAdd (eSl (eVar 0) eNoPart (ePart (eVar 1))) (eTup (esCons (eVar 2) esNil))) (eSl (eVar 0) (ePart (eOp oAdd (eVar 1) (eC (.int 1)))) eNoPart) [some (.tuple l), some (.int (k : Int)), some x] with
  | none => rw [q] at z; cases z
  | some d => rw [q] at z; cases z; rfl
theorem due_task_ev {b : LL} {w t : Nat} {r : Row} {s : W} {l : List Nat} {p : Row × W × Option Evt} (h : taskStep b w r s = some p) (hb : b[t]? = some l) (hs : (∃ n, s = .holds t n ∧ n ≤ l.length) ∨ ∃ n, s = .wrote t n) (hz : r.places.length + 1 ≤ lim) : M_l_due_task [encL l, encR r, encS s, .int (w : Int)] = some (ans3 p) := by
  have hu : M_l_due_task [encL l, encR r, encS s, .int (w : Int)] = (F_l_due_task [some (encL l), some (encR r), some (encS s), some (.int (w : Int)), none, none, none]).bind endD := rfl
  rw [hu]
  rcases hs with ⟨n, rfl, hn0⟩ | ⟨n, rfl⟩
  · dsimp only [taskStep] at h
    rw [hb, Option.bind_some] at h
    have e3 : oLen [encL l] = some (.int (l.length : Int)) := by
      show some (PyData.int ((encN l).length : Int)) = _
      unfold encN; rw [List.length_map]
    by_cases hn : n < l.length
    · rw [if_pos hn] at h
      cases hc : l[n]? with
      | none => rw [hc] at h; cases h
      | some c =>
        rw [hc, Option.bind_some] at h
        by_cases ht : 0 ≤ r.tail
        · rw [if_pos ht] at h; cases h
          have e2 := child_ev hc
          have hn' : ¬ (n : Int) = (l.length : Int) := by omega
          have e4 := cut_ev (f := eVar 6) (g := eVar 5) (h := eOp oIx (eVar 0) (eOp oIx (eVar 2) (eC (.int 2)))) (l := encN r.places) (k := r.tail.toNat) (x := .int (c : Int))
            (ds := [some (encL l), some (encR r), some (encS (.holds t n)), some (.int (w : Int)), some (.int r.head), some (.int r.tail), some (.tuple (encN r.places))]) rfl (by rw [show ((r.tail.toNat : Nat) : Int) = r.tail by omega]; rfl)
            (by rw [eOp_ev (eVar_get rfl) (eOp_ev (eVar_get rfl) rfl |>.trans oIx2)]; exact e2) (by unfold encN; rw [List.length_map]; exact hz)
          have e5 : encN (putIn r.places r.tail.toNat c) = (encN r.places).take r.tail.toNat ++ [.int (c : Int)] ++ (encN r.places).drop (r.tail.toNat + 1) := by
            unfold putIn encN
            rw [List.map_append, List.map_append, List.map_take, List.map_drop]; rfl
          rw [← e5] at e4
          have e6 : ∀ ds', eOp oAdd (eOp oAdd (eSl (eVar 6) eNoPart (ePart (eVar 5))) (eTup (esCons (eOp oIx (eVar 0) (eOp oIx (eVar 2) (eC (.int 2)))) esNil))) (eSl (eVar 6) (ePart (eOp oAdd (eVar 5) (eC (.int 1)))) eNoPart) [some (encL l), some (encR r), some (encS (.holds t n)), some (.int (w : Int)), some (.int r.head), some (.int r.tail), some (.tuple (encN r.places))] = some (.tuple (encN (putIn r.places r.tail.toNat c))) → sSet 6 (eOp oAdd (eOp oAdd (eSl (eVar 6) eNoPart (ePart (eVar 5))) (eTup (esCons (eOp oIx (eVar 0) (eOp oIx (eVar 2) (eC (.int 2)))) esNil))) (eSl (eVar 6) (ePart (eOp oAdd (eVar 5) (eC (.int 1)))) eNoPart)) [some (encL l), some (encR r), some (encS (.holds t n)), some (.int (w : Int)), some (.int r.head), some (.int r.tail), some (.tuple (encN r.places))] = ds' → some (Out.nx [some (encL l), some (encR r), some (encS (.holds t n)), some (.int (w : Int)), some (.int r.head), some (.int r.tail), some (.tuple (encN (putIn r.places r.tail.toNat c)))]) = ds' := fun ds' e q => by
            unfold sSet at q
            rw [e] at q
            exact q
          have e7 := e6 _ e4 rfl
          have e8 : sSeq (sUnp [4, 5, 6] (eVar 1)) (fun ds => some (.nx ds)) [some (encL l), some (encR r), some (encS (.holds t n)), some (.int (w : Int)), none, none, none] = some (.nx [some (encL l), some (encR r), some (encS (.holds t n)), some (.int (w : Int)), some (.int r.head), some (.int r.tail), some (.tuple (encN r.places))]) := by
            simp [sSeq, sUnp, eVar, encR, gTupD, setAll]
          simp only [encS, encR] at e7
          generalize hgen : sSet 6 (eOp oAdd (eOp oAdd (eSl (eVar 6) eNoPart (ePart (eVar 5))) (eTup (esCons (eOp oIx (eVar 0) (eOp oIx (eVar 2) (eC (.int 2)))) esNil))) (eSl (eVar 6) (ePart (eOp oAdd (eVar 5) (eC (.int 1)))) eNoPart)) = F6 at e7
          unfold F_l_due_task
          rw [hgen]
          simp (config := {decide := true}) [sSeq, sIf, sUnp, gTupD, setAll, encR, encS, encO, bT, eOp, eVar, eC, oIx0, oIx1, oIx2, oEq_str, sh_holds, sh_wrote, sNx, sRet, eTup, esCons, esNil, l2, l3, eCall, ans3, endD, oEq_int, e3, hn', ← e7]
        · rw [if_neg ht] at h; cases h
    · rw [if_neg hn] at h; cases h
      have hn' : n = l.length := by omega
      subst hn'
      simp (config := {decide := true}) [F_l_due_task, e3, sSeq, sIf, sUnp, gTupD, setAll, encR, encS, encO, encE, encT, bT, eOp, eVar, eC, oIx0, oIx1, oIx2, oIx3, oEq_str, sh_free, sh_lowered, sh_last, sh_mends, sh_looks, sh_seen, sh_reads, sh_tries, sh_holds, sh_wrote, sh_rests, sNx, sSet, sRet, eTup, eLst, esCons, esNil, l1, l2, l3, l4, eCall, ans3, endD, oAdd, oSub, oLt, oEq_int, oIsntA, isNon, bAnd, bOr, bNot, oInt, ix2a, ix2b]
  · dsimp only [taskStep] at h
    rw [hb, Option.bind_some] at h
    cases hc : l[n]? with
    | none => rw [hc] at h; cases h
    | some c =>
      rw [hc] at h; cases h
      have e2 := child_ev hc
      simp (config := {decide := true}) [F_l_due_task, e2, sSeq, sIf, sUnp, gTupD, setAll, encR, encS, encO, encE, encT, bT, eOp, eVar, eC, oIx0, oIx1, oIx2, oIx3, oEq_str, sh_free, sh_lowered, sh_last, sh_mends, sh_looks, sh_seen, sh_reads, sh_tries, sh_holds, sh_wrote, sh_rests, sNx, sSet, sRet, eTup, eLst, esCons, esNil, l1, l2, l3, l4, eCall, ans3, endD, oAdd, oSub, oLt, oEq_int, oIsntA, isNon, bAnd, bOr, bNot, oInt, ix2a, ix2b]
end Pu

set_option Elab.async false
set_option linter.all false
set_option maxRecDepth 100000
set_option maxHeartbeats 4000000
set_option autoImplicit false
/-! Wv: weavings by numbers; what is due of a step, whole; one turn of the laws that look at each step. -/
namespace Pu
open PySem

section
variable {f g : S} {e : Sl → Option D} {c : Sl → Option Bool} {ds ds' : Sl} {d : D} {i : Nat} {l : List D} {is : List Nat}
theorem q_seq (h : f ds = some (.nx ds')) : sSeq f g ds = g ds' := by unfold sSeq; rw [h]; rfl
theorem q_seqR (h : f ds = some (.rt d)) : sSeq f g ds = some (.rt d) := by unfold sSeq; rw [h]; rfl
theorem q_set (h : e ds = some d) : sSet i e ds = some (.nx (ds.set i (some d))) := by unfold sSet; rw [h]; rfl
theorem q_seqS (h : e ds = some d) : sSeq (sSet i e) g ds = g (ds.set i (some d)) := q_seq (q_set h)
theorem q_ift (h : c ds = some true) : sIf c f g ds = f ds := by unfold sIf; rw [h]; rfl
theorem q_iff (h : c ds = some false) : sIf c f g ds = g ds := by unfold sIf; rw [h]; rfl
theorem q_ret (h : e ds = some d) : sRet e ds = some (.rt d) := by unfold sRet; rw [h]; rfl
theorem q_unp (h : e ds = some (.tuple l)) (k : setAll is l ds = some ds') : sUnp is e ds = some (.nx ds') := by
  unfold sUnp; rw [h]
  show ((setAll is l ds).bind _) = _
  rw [k]; rfl
theorem q_for {it : Sl → Option (List D)} {G : D → Sl → Option Sl} (h : it ds = some l) : sFor it G f ds = loopD G f l ds := by unfold sFor; rw [h]; rfl
theorem q_call {o : List D → Option D} {gs : Sl → Option (List D)} (h : gs ds = some l) : eCall o gs ds = o l := by unfold eCall; rw [h]; rfl
theorem q_cons {gs : Sl → Option (List D)} (h : e ds = some d) (k : gs ds = some l) : esCons e gs ds = some (d :: l) := by unfold esCons; rw [h, k]; rfl
theorem q_nil : esNil ds = some [] := rfl
theorem q_tup {gs : Sl → Option (List D)} (h : gs ds = some l) (k : l.length ≤ 1000) : eTup gs ds = some (.tuple l) := by
  unfold eTup; rw [h]
  show (if l.length ≤ lim then _ else _) = _
  rw [if_pos (by unfold lim; omega)]
theorem q_lst {gs : Sl → Option (List D)} (h : gs ds = some l) (k : l.length ≤ 1000) : eLst gs ds = some (.list l) := by
  unfold eLst; rw [h]
  show (if l.length ≤ lim then _ else _) = _
  rw [if_pos (by unfold lim; omega)]
end

/-! ### a weaving by numbers -/
def F_wTurn : S := (sIf (bT (eOp oEq (eOp oMod (eVar 3) (eC (.int 7))) (eC (.int 6)))) (sSet 2 (eOp oAdd (eVar 2) (eLc 4 (eRng (eVar 1)) bYes (eOp oMod (eOp oAdd (eVar 4) (eOp oDiv (eVar 3) (eC (.int 7)))) (eVar 1))))) (sIf (bT (eOp oEq (eOp oMod (eVar 3) (eC (.int 7))) (eC (.int 5)))) (sSet 2 (eOp oAdd (eVar 2) (eOp oMul (eLst (esCons (eOp oMod (eOp oDiv (eVar 3) (eC (.int 7))) (eVar 1)) esNil)) (eOp oAdd (eC (.int 1)) (eOp oMod (eOp oDiv (eOp oDiv (eVar 3) (eC (.int 7))) (eVar 1)) (eC (.int 30))))))) (sSet 2 (eOp oAdd (eVar 2) (eOp oMul (eLst (esCons (eOp oMod (eOp oDiv (eVar 3) (eC (.int 7))) (eVar 1)) esNil)) (eOp oAdd (eC (.int 1)) (eOp oMod (eVar 3) (eC (.int 7)))))))))
theorem encN_app (a b : List Nat) : encN (a ++ b) = encN a ++ encN b := by unfold encN; rw [List.map_append]
theorem encN_len (a : List Nat) : (encN a).length = a.length := by unfold encN; rw [List.length_map]
theorem oAdd_N {a b : List Nat} (h : a.length + b.length ≤ lim) : oAdd (.list (encN a)) (.list (encN b)) = some (.list (encN (a ++ b))) := by
  show (if (encN a).length + (encN b).length ≤ lim then _ else _) = _
  rw [encN_len, encN_len, if_pos h, encN_app]
theorem encN_rep (n x : Nat) : encN (List.replicate n x) = List.replicate n (.int (x : Int)) := by unfold encN; rw [List.map_replicate]
theorem oMul_1 {x n : Nat} (h : n ≤ 1000) : oMul (.list [.int (x : Int)]) (.int (n : Int)) = some (.list (encN (List.replicate n x))) := by
  have hc : -(2 ^ 63) ≤ (n : Int) ∧ (n : Int) < 2 ^ 63 ∧ [PyData.int (x : Int)].length * (n : Int).toNat ≤ lim := ⟨by omega, by omega, by rw [Int.toNat_natCast, List.length_singleton]; unfold lim; omega⟩
  unfold oMul
  dsimp only
  rw [if_pos hc, Int.toNat_natCast, encN_rep]
  congr 2
  clear hc
  induction n with
  | zero => rfl
  | succ n ih => rw [List.replicate_succ, List.flatten_cons, ih (by omega), List.replicate_succ]; rfl
theorem wturn_ev (A : D) (m : Nat) (ws : List Nat) (c : Int) (m1 : 1 ≤ m) (m2 : m ≤ 12) (hz : ws.length + 30 ≤ lim) : ∃ us : List Nat, us.length ≤ 30 ∧ (∀ u ∈ us, u < m) ∧
    F_wTurn [some A, some (.int (m : Int)), some (.list (encN ws)), some (.int c), none] = some (.nx [some A, some (.int (m : Int)), some (.list (encN (ws ++ us))), some (.int c), none]) := by
  have e1 : eOp oMod (eVar 3) (eC (.int 7)) [some A, some (.int (m : Int)), some (.list (encN ws)), some (.int c), none] = some (.int (c.fmod 7)) := mod_ev rfl rfl (by decide)
  have e2 : eOp oDiv (eVar 3) (eC (.int 7)) [some A, some (.int (m : Int)), some (.list (encN ws)), some (.int c), none] = some (.int (c.fdiv 7)) := div_ev rfl rfl (by decide) (by decide)
  have r := fmod_rng (a := c) (b := 7) (by decide)
  have rx := fmod_rng (a := c.fdiv 7) (b := (m : Int)) (by omega)
  have e3 : eOp oMod (eOp oDiv (eVar 3) (eC (.int 7))) (eVar 1) [some A, some (.int (m : Int)), some (.list (encN ws)), some (.int c), none] = some (.int ((((c.fdiv 7).fmod (m : Int)).toNat : Nat) : Int)) := by
    rw [mod_ev e2 rfl (by omega)]
    congr 2; omega
  have e4 : eLst (esCons (eOp oMod (eOp oDiv (eVar 3) (eC (.int 7))) (eVar 1)) esNil) [some A, some (.int (m : Int)), some (.list (encN ws)), some (.int c), none] = some (.list [.int ((((c.fdiv 7).fmod (m : Int)).toNat : Nat) : Int)]) := q_lst (q_cons e3 rfl) (by simp)
  unfold F_wTurn
  by_cases h6 : c.fmod 7 = 6
  · refine ⟨(List.range m).map fun (k : Nat) => (((k : Int) + c.fdiv 7).fmod (m : Int)).toNat, by simp; omega, fun u hu => ?_, ?_⟩
    · obtain ⟨k, _, rfl⟩ := List.mem_map.mp hu
      have r2 := fmod_rng (a := (k : Int) + c.fdiv 7) (b := (m : Int)) (by omega)
      omega
    · rw [q_ift (by rw [eq_ev e1 rfl, h6]; rfl)]
      have hit : eRng (eVar 1) [some A, some (.int (m : Int)), some (.list (encN ws)), some (.int c), none] = some ((List.range m).map fun (k : Nat) => PyData.int (k : Int)) := by
        show (if (m : Int) ≤ 1000000 ∧ -1000000 ≤ (m : Int) then some (rngD (m : Int)) else none) = _
        rw [if_pos (by omega)]
        unfold rngD; rw [Int.toNat_natCast]
      have e5 : eLc 4 (eRng (eVar 1)) bYes (eOp oMod (eOp oAdd (eVar 4) (eOp oDiv (eVar 3) (eC (.int 7)))) (eVar 1)) [some A, some (.int (m : Int)), some (.list (encN ws)), some (.int c), none] = some (.list (encN ((List.range m).map fun (k : Nat) => (((k : Int) + c.fdiv 7).fmod (m : Int)).toNat))) := by
        have z := lc_enc (i := 4) (c := bYes) (e := eOp oMod (eOp oAdd (eVar 4) (eOp oDiv (eVar 3) (eC (.int 7)))) (eVar 1)) (enc := fun (k : Nat) => PyData.int (k : Int)) (g := fun k => PyData.int (((((k : Int) + c.fdiv 7).fmod (m : Int)).toNat : Nat) : Int)) (l := List.range m) (ds := [some A, some (.int (m : Int)), some (.list (encN ws)), some (.int c), none]) hit (by rw [List.length_range]; unfold lim; omega) (fun k _ => ⟨rfl, by
          have r2 := fmod_rng (a := (k : Int) + c.fdiv 7) (b := (m : Int)) (by omega)
          rw [mod_ev (x := (k : Int) + c.fdiv 7) (y := (m : Int)) (add_ev rfl (div_ev rfl rfl (by decide) (by decide))) rfl (by omega)]
          congr 2; omega⟩)
        rw [z]
        unfold encN; rw [List.map_map]; rfl
      rw [q_set (d := .list (encN (ws ++ (List.range m).map fun (k : Nat) => (((k : Int) + c.fdiv 7).fmod (m : Int)).toNat))) (by rw [eOp_ev (eVar_get rfl) e5, oAdd_N (by simp; unfold lim at *; omega)])]
      rfl
  · rw [q_iff (by rw [eq_ev e1 rfl]; simp [h6])]
    by_cases h5 : c.fmod 7 = 5
    · have r3 := fmod_rng (a := (c.fdiv 7).fdiv (m : Int)) (b := 30) (by decide)
      refine ⟨List.replicate (1 + (((c.fdiv 7).fdiv (m : Int)).fmod 30).toNat) ((c.fdiv 7).fmod (m : Int)).toNat, by simp; omega, fun u hu => ?_, ?_⟩
      · rw [(List.mem_replicate.mp hu).2]; omega
      · rw [q_ift (by rw [eq_ev e1 rfl, h5]; rfl)]
        have e6 : eOp oAdd (eC (.int 1)) (eOp oMod (eOp oDiv (eOp oDiv (eVar 3) (eC (.int 7))) (eVar 1)) (eC (.int 30))) [some A, some (.int (m : Int)), some (.list (encN ws)), some (.int c), none] = some (.int ((1 + (((c.fdiv 7).fdiv (m : Int)).fmod 30).toNat : Nat) : Int)) := by
          rw [add_ev (x := 1) rfl (mod_ev (y := 30) (div_ev e2 rfl (by omega) (by omega)) rfl (by decide))]
          congr 2; omega
        rw [q_set (by rw [eOp_ev (eVar_get rfl) (eOp_ev e4 e6 |>.trans (oMul_1 (by omega))), oAdd_N (by simp; unfold lim at *; omega)])]
        rfl
    · refine ⟨List.replicate (1 + (c.fmod 7).toNat) ((c.fdiv 7).fmod (m : Int)).toNat, by simp; omega, fun u hu => ?_, ?_⟩
      · rw [(List.mem_replicate.mp hu).2]; omega
      · rw [q_iff (by rw [eq_ev e1 rfl]; simp [h5])]
        have e6 : eOp oAdd (eC (.int 1)) (eOp oMod (eVar 3) (eC (.int 7))) [some A, some (.int (m : Int)), some (.list (encN ws)), some (.int c), none] = some (.int ((1 + (c.fmod 7).toNat : Nat) : Int)) := by
          rw [add_ev (x := 1) rfl e1]
          congr 2; omega
        rw [q_set (by rw [eOp_ev (eVar_get rfl) (eOp_ev e4 e6 |>.trans (oMul_1 (by omega))), oAdd_N (by simp; unfold lim at *; omega)])]
        rfl
theorem wloop_ev (A : D) (m : Nat) (m1 : 1 ≤ m) (m2 : m ≤ 12) : ∀ (cs : List Int) (ws : List Nat) (x : Option D), ws.length + 30 * cs.length ≤ lim → ∃ (us : List Nat) (x' : Option D), us.length ≤ 30 * cs.length ∧ (∀ u ∈ us, u < m) ∧
    loopD (gNameD 3) F_wTurn (cs.map .int) [some A, some (.int (m : Int)), some (.list (encN ws)), x, none] = some (.nx [some A, some (.int (m : Int)), some (.list (encN (ws ++ us))), x', none])
  | [], ws, x, _ => ⟨[], x, by simp, fun u hu => by (cases hu), by rw [List.append_nil]; rfl⟩
  | c :: cs, ws, x, hz => by
    obtain ⟨us, h1, h2, h3⟩ := wturn_ev A m ws c m1 m2 (by rw [List.length_cons] at hz; omega)
    obtain ⟨vs, x', h4, h5, h6⟩ := wloop_ev A m m1 m2 cs (ws ++ us) (some (.int c)) (by rw [List.length_cons] at hz; rw [List.length_append]; omega)
    refine ⟨us ++ vs, x', by rw [List.length_append, List.length_cons]; omega, fun u hu => ?_, ?_⟩
    · rcases List.mem_append.mp hu with h | h
      · exact h2 u h
      · exact h5 u h
    · rw [List.append_assoc] at h6
      rw [← h6, List.map_cons]
      show ((F_wTurn [some A, some (.int (m : Int)), some (.list (encN ws)), some (.int c), none]).bind _) = _
      rw [h3]; rfl
theorem weaving_ev (cs : List Int) (m : Nat) (m1 : 1 ≤ m) (m2 : m ≤ 12) (hc : cs.length ≤ 1000) : ∃ ws : List Nat, ws.length ≤ 30 * cs.length ∧ (∀ w ∈ ws, w < m) ∧ M_l_weaving_by [.list (cs.map .int), .int (m : Int)] = some (.list (encN ws)) := by
  obtain ⟨us, x', h1, h2, h3⟩ := wloop_ev (.list (cs.map .int)) m m1 m2 cs [] none (by unfold lim; simp; omega)
  refine ⟨us, h1, h2, ?_⟩
  have hu : M_l_weaving_by [.list (cs.map .int), .int (m : Int)] = (F_l_weaving_by [some (.list (cs.map .int)), some (.int (m : Int)), none, none, none]).bind endD := rfl
  rw [hu]
  unfold F_l_weaving_by
  rw [q_seqS (d := .list (encN [])) rfl]
  have h4 := (q_for (f := F_wTurn) (G := gNameD 3) (it := eItems (eVar 0)) (ds := [some (.list (cs.map .int)), some (.int (m : Int)), some (.list (encN [])), none, none]) (l := cs.map .int) rfl).trans h3
  unfold F_wTurn at h4
  have h5 : ∀ g, sSeq (sFor (eItems (eVar 0)) (gNameD 3) _) g ([some (.list (cs.map .int)), some (.int (m : Int)), none, none, none].set 2 (some (PyData.list (encN [])))) = _ := fun g => q_seq (g := g) h4
  rw [h5]
  rfl

/-! ### what is due of a step -/
theorem in_ownL (s : W) : oInA (.str (wordW s)) (.list [.str "free", .str "lowered", .str "last", .str "mends"]) = some (.bool (isOwn s)) := by
  have hs : SeqAt.shaped (.list [.str "free", .str "lowered", .str "last", .str "mends"]) = true := by decide +kernel
  show (if SeqAt.shaped (.str (wordW s)) = true ∧ SeqAt.shaped (.list [.str "free", .str "lowered", .str "last", .str "mends"]) = true then _ else _) = _
  rw [if_pos ⟨sh_word s, hs⟩]
  cases s <;> simp (config := {decide := true}) [wordW, eqv_strs, isOwn]
theorem in_taskL (s : W) : oInA (.str (wordW s)) (.list [.str "holds", .str "wrote"]) = some (.bool (isTask s)) := by
  have hs : SeqAt.shaped (.list [.str "holds", .str "wrote"]) = true := by decide +kernel
  show (if SeqAt.shaped (.str (wordW s)) = true ∧ SeqAt.shaped (.list [.str "holds", .str "wrote"]) = true then _ else _) = _
  rw [if_pos ⟨sh_word s, hs⟩]
  cases s <;> simp (config := {decide := true}) [wordW, eqv_strs, isTask]
theorem in_otherL (s : W) : oInA (.str (wordW s)) (.list [.str "looks", .str "seen", .str "reads", .str "tries"]) = some (.bool (isK s)) := by
  have hs : SeqAt.shaped (.list [.str "looks", .str "seen", .str "reads", .str "tries"]) = true := by decide +kernel
  show (if SeqAt.shaped (.str (wordW s)) = true ∧ SeqAt.shaped (.list [.str "looks", .str "seen", .str "reads", .str "tries"]) = true then _ else _) = _
  rw [if_pos ⟨sh_word s, hs⟩]
  cases s <;> simp (config := {decide := true}) [wordW, eqv_strs, isK]
theorem kinds (s : W) (h : s ≠ .rests) : (isOwn s = true ∧ isTask s = false ∧ isK s = false) ∨ (isOwn s = false ∧ isTask s = true ∧ isK s = false) ∨ (isOwn s = false ∧ isTask s = false ∧ isK s = true) := by
  cases s <;> simp [isOwn, isTask, isK] at h ⊢
theorem ix1_K (s : W) (h : isK s = true) : oIx (encS s) (.int 1) = some (.int (kOfW s)) := by
  cases s <;> first | (exact oIx1) | (exact Bool.noConfusion h)
/-- the whole of what is due, and where -/
theorem due_ev {b st : LL} {y : Yard} {w : Nat} {q : Yard × Option Evt} (h : stepY b y w = some q) (I : CI b y) (hz : ∀ r ∈ y.rows, r.places.length + 1 ≤ lim) :
    ∃ x r' s', x < y.rows.length ∧ w < y.states.length ∧ q.1 = ⟨y.rows.set x r', y.states.set w s'⟩ ∧ M_l_due [encP b st, encY y, .int (w : Int)] = some (.tuple [.int (x : Int), encR r', encS s', encO q.2]) := by
  have hu : M_l_due [encP b st, encY y, .int (w : Int)] = (F_l_due [some (encP b st), some (encY y), some (.int (w : Int)), none, none, none]).bind endD := rfl
  rw [hu]
  have hl := I.len
  unfold stepY at h
  obtain ⟨s, hs, h⟩ := bind_some h
  have hw : w < y.states.length := (List.getElem?_eq_some_iff.mp hs).1
  have eS : y.S w = s := Yard.S_of hs
  by_cases h0 : s = .rests
  · rw [if_pos h0] at h; cases h
  rw [if_neg h0] at h
  have lenR : oLen [.tuple (y.rows.map encR)] = some (.int (y.rows.length : Int)) := by
    show some (PyData.int ((y.rows.map encR).length : Int)) = _
    rw [List.length_map]
  unfold F_l_due
  have e1 : eOp oIx (eOp oIx (eVar 1) (eC (.int 1))) (eVar 2) [some (encP b st), some (encY y), some (.int (w : Int)), none, none, none] = some (encS s) := by
    rw [eOp_ev (eOp_ev (eVar_get rfl) rfl |>.trans oIx1) (eVar_get rfl), nth_state hs]
  rw [q_seqS e1]
  dsimp only [List.set]
  have e2 : eCall oLen (esCons (eOp oIx (eVar 1) (eC (.int 0))) esNil) [some (encP b st), some (encY y), some (.int (w : Int)), some (encS s), none, none] = some (.int (y.rows.length : Int)) := by
    rw [q_call (q_cons (eOp_ev (eVar_get rfl) rfl |>.trans oIx0) rfl), lenR]
  rw [q_seqS e2]
  dsimp only [List.set]
  have ew : ∀ x y', eOp oIx (eVar 3) (eC (.int 0)) [some (encP b st), some (encY y), some (.int (w : Int)), some (encS s), x, y'] = some (.str (wordW s)) := fun x y' => by
    rw [eOp_ev (eVar_get rfl) rfl, ix_word]
  have i1 : bT (eOp oInA (eOp oIx (eVar 3) (eC (.int 0))) (eLst (esCons (eC (.str "looks")) (esCons (eC (.str "seen")) (esCons (eC (.str "reads")) (esCons (eC (.str "tries")) esNil)))))) [some (encP b st), some (encY y), some (.int (w : Int)), some (encS s), some (.int (y.rows.length : Int)), none] = some (isK s) := by
    unfold bT
    rw [eOp_ev (ew _ _) (q_lst (l := [.str "looks", .str "seen", .str "reads", .str "tries"]) rfl (by simp)), in_otherL]; rfl
  have i2 : bT (eOp oInA (eOp oIx (eVar 3) (eC (.int 0))) (eLst (esCons (eC (.str "holds")) (esCons (eC (.str "wrote")) esNil)))) [some (encP b st), some (encY y), some (.int (w : Int)), some (encS s), some (.int (y.rows.length : Int)), none] = some (isTask s) := by
    unfold bT
    rw [eOp_ev (ew _ _) (q_lst (l := [.str "holds", .str "wrote"]) rfl (by simp)), in_taskL]; rfl
  have cat : ∀ (x : Int) (p : Row × W × Option Evt), oAdd (.tuple [.int x]) (ans3 p) = some (.tuple [.int x, encR p.1, encS p.2.1, encO p.2.2]) := fun x p => rfl
  rcases kinds s h0 with ⟨k1, k2, k3⟩ | ⟨k1, k2, k3⟩ | ⟨k1, k2, k3⟩
  · rw [if_pos k1] at h
    obtain ⟨r, hr, h⟩ := bind_some h
    obtain ⟨p, hp, h⟩ := bind_some h
    cases h
    refine ⟨w, p.1, p.2.1, by omega, hw, rfl, ?_⟩
    have z := due_own_ev hp
    have e3 : eOp oIx (eOp oIx (eVar 1) (eC (.int 0))) (eVar 2) [some (encP b st), some (encY y), some (.int (w : Int)), some (encS s), some (.int (y.rows.length : Int)), none] = some (encR r) := by
      rw [eOp_ev (eOp_ev (eVar_get rfl) rfl |>.trans oIx0) (eVar_get rfl), nth_row hr]
    rw [q_seq (q_iff (i1.trans (by rw [k3])) |>.trans rfl), q_seq (q_iff (i2.trans (by rw [k2])) |>.trans rfl)]
    rw [q_ret (d := .tuple [.int (w : Int), encR p.1, encS p.2.1, encO p.2.2]) (by
      rw [eOp_ev (x := .tuple [.int (w : Int)]) (q_tup (q_cons (eVar_get rfl) rfl) (by simp)) (q_call (q_cons e3 (q_cons (eVar_get rfl) (q_cons (eVar_get rfl) (q_cons (eVar_get rfl) rfl)))) |>.trans z), cat])]
    rfl
  · rw [if_neg (by rw [k1]; decide), if_pos k2] at h
    obtain ⟨r, hr, h⟩ := bind_some h
    obtain ⟨p, hp, h⟩ := bind_some h
    cases h
    refine ⟨w, p.1, p.2.1, by omega, hw, rfl, ?_⟩
    have R := I.own w (by omega)
    rw [eS, Yard.R_of hr] at R
    obtain ⟨t, l, hb, hk, ht1⟩ : ∃ t l, b[t]? = some l ∧ ((∃ n, s = .holds t n ∧ n ≤ l.length) ∨ ∃ n, s = .wrote t n) ∧ oIx (encS s) (.int 1) = some (.int (t : Int)) := by
      cases s with
      | holds t n => obtain ⟨l, e, k⟩ := R.st; exact ⟨t, l, e, .inl ⟨n, rfl, k⟩, oIx1⟩
      | wrote t n => obtain ⟨l, c, e, k, _⟩ := R.st; exact ⟨t, l, e, .inr ⟨n, rfl⟩, oIx1⟩
      | _ => cases k2
    have z := due_task_ev hp hb hk (hz r (List.mem_of_getElem? hr))
    have e3 : eOp oIx (eOp oIx (eVar 1) (eC (.int 0))) (eVar 2) [some (encP b st), some (encY y), some (.int (w : Int)), some (encS s), some (.int (y.rows.length : Int)), none] = some (encR r) := by
      rw [eOp_ev (eOp_ev (eVar_get rfl) rfl |>.trans oIx0) (eVar_get rfl), nth_row hr]
    have e4 : eOp oIx (eOp oIx (eVar 0) (eC (.int 0))) (eOp oIx (eVar 3) (eC (.int 1))) [some (encP b st), some (encY y), some (.int (w : Int)), some (encS s), some (.int (y.rows.length : Int)), none] = some (encL l) := by
      rw [eOp_ev (eOp_ev (eVar_get rfl) rfl |>.trans oIx0) (eOp_ev (eVar_get rfl) rfl |>.trans ht1), brood_ev hb]
    rw [q_seq (q_iff (i1.trans (by rw [k3])) |>.trans rfl), q_seqR (q_ift (i2.trans (by rw [k2])) |>.trans (q_ret (d := .tuple [.int (w : Int), encR p.1, encS p.2.1, encO p.2.2]) (by
      rw [eOp_ev (x := .tuple [.int (w : Int)]) (q_tup (q_cons (eVar_get rfl) rfl) (by simp)) (q_call (q_cons e4 (q_cons e3 (q_cons (eVar_get rfl) (q_cons (eVar_get rfl) rfl)))) |>.trans z), cat])))]
    rfl
  · rw [if_neg (by rw [k1]; decide), if_neg (by rw [k2]; decide)] at h
    obtain ⟨r, hr, h⟩ := bind_some h
    obtain ⟨p, hp, h⟩ := bind_some h
    cases h
    have T := I.th w (by omega)
    rw [eS] at T
    have kk := T.k k3
    obtain ⟨o1, o2⟩ := otherOf_lt (w := w) (k := kOfW s) (many := y.rows.length) (by omega)
    refine ⟨_, p.1, p.2.1, o1, hw, rfl, ?_⟩
    have z := due_other_ev hp kk.2
    have e5 : eOp oMod (eOp oAdd (eVar 2) (eOp oIx (eVar 3) (eC (.int 1)))) (eVar 4) [some (encP b st), some (encY y), some (.int (w : Int)), some (encS s), some (.int (y.rows.length : Int)), none] = some (.int ((otherOf w (kOfW s) y.rows.length : Nat) : Int)) := by
      rw [mod_ev (x := (w : Int) + kOfW s) (y := (y.rows.length : Int)) (add_ev rfl (eOp_ev (eVar_get rfl) rfl |>.trans (ix1_K s k3))) rfl (by omega), o2]
    have e3 : eOp oIx (eOp oIx (eVar 1) (eC (.int 0))) (eVar 5) [some (encP b st), some (encY y), some (.int (w : Int)), some (encS s), some (.int (y.rows.length : Int)), some (.int ((otherOf w (kOfW s) y.rows.length : Nat) : Int))] = some (encR r) := by
      rw [eOp_ev (eOp_ev (eVar_get rfl) rfl |>.trans oIx0) (eVar_get rfl), nth_row hr]
    rw [q_seqR (q_ift (i1.trans (by rw [k3])) |>.trans ((q_seqS e5).trans (q_ret (d := .tuple [.int ((otherOf w (kOfW s) y.rows.length : Nat) : Int), encR p.1, encS p.2.1, encO p.2.2]) (by
      dsimp only [List.set]
      rw [eOp_ev (x := .tuple [.int ((otherOf w (kOfW s) y.rows.length : Nat) : Int)]) (q_tup (q_cons (eVar_get rfl) rfl) (by simp)) (q_call (q_cons e3 (q_cons (eVar_get rfl) (q_cons (eVar_get rfl) (q_cons (eVar_get rfl) (q_cons (eVar_get rfl) rfl))))) |>.trans z), cat]))))]
    rfl
end Pu

set_option Elab.async false
set_option linter.all false
set_option maxRecDepth 100000
set_option maxHeartbeats 4000000
set_option autoImplicit false
/-! K4: one turn of the laws that look at each step. -/
namespace Pu
open PySem

/-- bounds of a yard -/
structure Bd (n : Nat) (y : Yard) : Prop where
  rows : y.rows.length ≤ 12
  places : ∀ r ∈ y.rows, r.places.length ≤ n
theorem Bd.start {b s : LL} (P : PlanOk 200 b s) : Bd 200 (yard0 s) := ⟨by unfold yard0; rw [List.length_map]; exact P.m2, fun r hr => by
  unfold yard0 at hr
  obtain ⟨l, hl, rfl⟩ := List.mem_map.mp hr
  have h2 : l.Nodup := ((List.nodup_append.mp P.nd).2.1).sublist (List.sublist_flatten_of_mem hl)
  obtain ⟨p, hp⟩ := List.mem_iff_getElem?.mp hl
  have h3 := List.Nodup.length_le_of_subset h2 (l₂ := List.range b.length) (fun x hx => List.mem_range.mpr (P.ins p l x hp hx))
  rw [List.length_range] at h3
  have := P.size
  show l.length ≤ 200
  omega⟩
theorem putIn_le {l : List Nat} {k c : Nat} : (putIn l k c).length ≤ l.length + 1 := by
  unfold putIn
  rw [List.length_append, List.length_append, List.length_take, List.length_drop, List.length_singleton]
  omega
theorem Tr.places {b : LL} {m w x : Nat} {r r' : Row} {s s' : W} {e : Option Evt} (t : Tr b m w x r s r' s' e) : r'.places.length ≤ r.places.length + 1 := by
  cases t with
  | holds1 _ t n l c h1 h2 h3 => exact putIn_le
  | _ => exact Nat.le_succ _
theorem Bd.step {n : Nat} {b : LL} {y y' : Yard} {w : Nat} {e : Option Evt} (B : Bd n y) (S : Stp b y w y' e) : Bd (n + 1) y' := by
  obtain ⟨x, r', s', hx, rfl, tr, _, _⟩ := S.ex
  refine ⟨by rw [S.m']; exact B.rows, fun r hr => ?_⟩
  rcases List.mem_or_eq_of_mem_set hr with h | h
  · have := B.places r h; omega
  · have h1 := tr.places
    have h2 := B.places (y.R x) (List.mem_of_getElem? (Yard.R_get hx))
    rw [h]; omega
theorem Bd.small {n : Nat} {y : Yard} (B : Bd n y) (hl : y.states.length = y.rows.length) (hn : n ≤ 900000) : Small y := ⟨by have := B.rows; omega, by have := B.rows; omega, fun r hr => by have := B.places r hr; omega⟩
theorem Bd.mono {n m : Nat} {y : Yard} (B : Bd n y) (h : n ≤ m) : Bd m y := ⟨B.rows, fun r hr => Nat.le_trans (B.places r hr) h⟩
theorem inb_lt {b : LL} (h : ∀ (p : Nat) (l : List Nat) (c : Nat), b[p]? = some l → c ∈ l → p < c ∧ c < b.length) : ∀ (t : Nat) (l : List Nat) (c : Nat), b[t]? = some l → c ∈ l → c < b.length := fun t l c h1 h2 => (h t l c h1 h2).2

def F_k4 (L : Sl → Option D) : S := (sSeq (sSet 6 (eOp oIx (eOp oIx (eVar 4) (eC (.int 1))) (eVar 5))) (sIf (bT (eOp oNe (eOp oIx (eVar 6) (eC (.int 0))) (eC (.str "rests")))) (sSeq (sSet 7 (eCall M_stepped (esCons (eVar 2) (esCons (eVar 4) (esCons (eVar 5) esNil))))) (sSeq (sIf (bT (eOp oInA (eOp oIx (eVar 6) (eC (.int 0))) L)) (sSeq (sUnp [8, 3, 9, 10] (eCall M_l_due (esCons (eVar 1) (esCons (eVar 4) (esCons (eVar 5) esNil))))) (sSeq (sSet 11 (eOp oAdd (eOp oAdd (eSl (eOp oIx (eVar 4) (eC (.int 0))) eNoPart (ePart (eVar 8))) (eTup (esCons (eVar 3) esNil))) (eSl (eOp oIx (eVar 4) (eC (.int 0))) (ePart (eOp oAdd (eVar 8) (eC (.int 1)))) eNoPart))) (sSeq (sSet 12 (eOp oAdd (eOp oAdd (eSl (eOp oIx (eVar 4) (eC (.int 1))) eNoPart (ePart (eVar 5))) (eTup (esCons (eVar 9) esNil))) (eSl (eOp oIx (eVar 4) (eC (.int 1))) (ePart (eOp oAdd (eVar 5) (eC (.int 1)))) eNoPart))) (sIf (bOr (bNot (bT (eCall (M_l_alike 7) (esCons (eVar 7) (esCons (eTup (esCons (eTup (esCons (eVar 11) (esCons (eVar 12) esNil))) (esCons (eVar 10) esNil))) esNil))))) (bT (eOp oNe (eVar 2) (eVar 1)))) (sRet (eC (.bool false))) sNx)))) sNx) (sSet 4 (eOp oIx (eVar 7) (eC (.int 0)))))) sNx))
theorem oNe_P (b s : LL) : oNe (encP b s) (encP b s) = some (.bool false) := by
  have shp : SeqAt.shaped (encP b s) = true := sh_P b s
  unfold oNe
  rw [if_pos ⟨shp, shp⟩, SeqAt.eqv_refl _ (SeqAt.canLay_of_shaped shp)]; rfl
theorem k4_turn {b s : LL} {y : Yard} {w n : Nat} {L : Sl → Option D} {ls : List D} (hL : ∀ ds, L ds = some (.list ls)) (hw' : ∀ st : W, ∃ k, oInA (.str (wordW st)) (.list ls) = some (.bool k)) (hb : ∀ (p : Nat) (l : List Nat) (c : Nat), b[p]? = some l → c ∈ l → p < c ∧ c < b.length)
    (I : CI b y) (B : Bd n y) (hn : n ≤ 800000) (hw : w < y.rows.length) (a3 a6 a7 a8 a9 a10 a11 a12 : Option D) :
    ∃ y' b3 b6 b7 b8 b9 b10 b11 b12, CI b y' ∧ Bd (n + 1) y' ∧ y'.rows.length = y.rows.length ∧
      F_k4 L [none, some (encP b s), some (encP b s), a3, some (encY y), some (.int (w : Int)), a6, a7, a8, a9, a10, a11, a12] = some (.nx [none, some (encP b s), some (encP b s), b3, some (encY y'), some (.int (w : Int)), b6, b7, b8, b9, b10, b11, b12]) := by
  have hl := I.len
  have hs : y.states[w]? = some (y.S w) := Yard.S_get (by omega)
  have B12 := B.rows
  unfold F_k4
  have e1 : eOp oIx (eOp oIx (eVar 4) (eC (.int 1))) (eVar 5) [none, some (encP b s), some (encP b s), a3, some (encY y), some (.int (w : Int)), a6, a7, a8, a9, a10, a11, a12] = some (encS (y.S w)) := by
    rw [eOp_ev (eOp_ev (eVar_get rfl) rfl |>.trans oIx1) (eVar_get rfl), nth_state hs]
  rw [q_seqS e1]
  dsimp only [List.set]
  have ew : ∀ x7 x8, eOp oIx (eVar 6) (eC (.int 0)) [none, some (encP b s), some (encP b s), a3, some (encY y), some (.int (w : Int)), some (encS (y.S w)), x7, x8, a9, a10, a11, a12] = some (.str (wordW (y.S w))) := fun x7 x8 => by
    rw [eOp_ev (eVar_get rfl) rfl, ix_word]
  have e2 : bT (eOp oNe (eOp oIx (eVar 6) (eC (.int 0))) (eC (.str "rests"))) [none, some (encP b s), some (encP b s), a3, some (encY y), some (.int (w : Int)), some (encS (y.S w)), a7, a8, a9, a10, a11, a12] = some (!decide (y.S w = .rests)) := by
    unfold bT
    rw [eOp_ev (ew _ _) rfl]
    show (oNe (.str (wordW (y.S w))) (.str "rests")).bind _ = _
    unfold oNe
    rw [if_pos ⟨sh_word _, sh_rests⟩, eqv_strs, rests_word]; rfl
  by_cases h0 : y.S w = .rests
  · rw [q_iff (e2.trans (by rw [decide_eq_true h0]; rfl))]
    exact ⟨y, a3, some (encS (y.S w)), a7, a8, a9, a10, a11, a12, I, B.mono (by omega), rfl, rfl⟩
  · rw [q_ift (e2.trans (by rw [decide_eq_false h0]; rfl))]
    obtain ⟨q, hq⟩ := I.can hw h0
    obtain ⟨I', S'⟩ := I.step hq (inb_lt hb)
    have B' := B.step S'
    have z := stepped_ev (st := s) hq hl (by unfold lim; omega) (fun r hr => by have := B.places r hr; unfold lim; omega)
    rw [q_seqS (d := .tuple [encY q.1, encO q.2]) (q_call (q_cons (eVar_get rfl) (q_cons (eVar_get rfl) (q_cons (eVar_get rfl) rfl))) |>.trans z)]
    dsimp only [List.set]
    obtain ⟨k, hk⟩ := hw' (y.S w)
    have e3 : bT (eOp oInA (eOp oIx (eVar 6) (eC (.int 0))) L) [none, some (encP b s), some (encP b s), a3, some (encY y), some (.int (w : Int)), some (encS (y.S w)), some (.tuple [encY q.1, encO q.2]), a8, a9, a10, a11, a12] = some k := by
      unfold bT
      rw [eOp_ev (ew _ _) (hL _), hk]; rfl
    cases k with
    | false =>
      rw [q_seq (q_iff e3 |>.trans rfl), q_set (d := encY q.1) (eOp_ev (eVar_get rfl) rfl |>.trans oIx0)]
      exact ⟨q.1, _, _, _, _, _, _, _, _, I', B', S'.m', rfl⟩
    | true =>
      obtain ⟨x, r', s', hx, hws, eq, zd⟩ := due_ev (st := s) hq I (fun r hr => by have := B.places r hr; unfold lim; omega)
      have f1 : eOp oAdd (eOp oAdd (eSl (eOp oIx (eVar 4) (eC (.int 0))) eNoPart (ePart (eVar 8))) (eTup (esCons (eVar 3) esNil))) (eSl (eOp oIx (eVar 4) (eC (.int 0))) (ePart (eOp oAdd (eVar 8) (eC (.int 1)))) eNoPart) [none, some (encP b s), some (encP b s), some (encR r'), some (encY y), some (.int (w : Int)), some (encS (y.S w)), some (.tuple [encY q.1, encO q.2]), some (.int (x : Int)), some (encS s'), some (encO q.2), a11, a12] = some (.tuple ((y.rows.set x r').map encR)) := by
        rw [cut_ev (l := y.rows.map encR) (k := x) (x := encR r') (eOp_ev (eVar_get rfl) rfl |>.trans oIx0) (eVar_get rfl) (eVar_get rfl) (by rw [List.length_map]; unfold lim; omega), set_take_drop _ (by rw [List.length_map]; exact hx), List.map_set]
      have f2 : eOp oAdd (eOp oAdd (eSl (eOp oIx (eVar 4) (eC (.int 1))) eNoPart (ePart (eVar 5))) (eTup (esCons (eVar 9) esNil))) (eSl (eOp oIx (eVar 4) (eC (.int 1))) (ePart (eOp oAdd (eVar 5) (eC (.int 1)))) eNoPart) [none, some (encP b s), some (encP b s), some (encR r'), some (encY y), some (.int (w : Int)), some (encS (y.S w)), some (.tuple [encY q.1, encO q.2]), some (.int (x : Int)), some (encS s'), some (encO q.2), some (.tuple ((y.rows.set x r').map encR)), a12] = some (.tuple ((y.states.set w s').map encS)) := by
        rw [cut_ev (l := y.states.map encS) (k := w) (x := encS s') (eOp_ev (eVar_get rfl) rfl |>.trans oIx1) (eVar_get rfl) (eVar_get rfl) (by rw [List.length_map]; unfold lim; omega), set_take_drop _ (by rw [List.length_map]; exact hws), List.map_set]
      have gd : good 6 (.tuple [encY q.1, encO q.2]) := good_t (by simp) (all_cons (good_Y _ (B'.small I'.len (by omega))) (all_cons (good_mono (good_O _) (by omega)) all_nil))
      have al := alike_ok 7 _ (good_mono gd (by omega))
      have e4 : encY q.1 = .tuple [.tuple ((y.rows.set x r').map encR), .tuple ((y.states.set w s').map encS)] := by rw [eq]; rfl
      have f3 : bOr (bNot (bT (eCall (M_l_alike 7) (esCons (eVar 7) (esCons (eTup (esCons (eTup (esCons (eVar 11) (esCons (eVar 12) esNil))) (esCons (eVar 10) esNil))) esNil))))) (bT (eOp oNe (eVar 2) (eVar 1))) [none, some (encP b s), some (encP b s), some (encR r'), some (encY y), some (.int (w : Int)), some (encS (y.S w)), some (.tuple [encY q.1, encO q.2]), some (.int (x : Int)), some (encS s'), some (encO q.2), some (.tuple ((y.rows.set x r').map encR)), some (.tuple ((y.states.set w s').map encS))] = some false := by
        have g1 : eCall (M_l_alike 7) (esCons (eVar 7) (esCons (eTup (esCons (eTup (esCons (eVar 11) (esCons (eVar 12) esNil))) (esCons (eVar 10) esNil))) esNil)) [none, some (encP b s), some (encP b s), some (encR r'), some (encY y), some (.int (w : Int)), some (encS (y.S w)), some (.tuple [encY q.1, encO q.2]), some (.int (x : Int)), some (encS s'), some (encO q.2), some (.tuple ((y.rows.set x r').map encR)), some (.tuple ((y.states.set w s').map encS))] = some (.bool true) := by
          rw [q_call (l := [.tuple [encY q.1, encO q.2], .tuple [encY q.1, encO q.2]]) (q_cons (eVar_get rfl) (q_cons (q_tup (q_cons (by rw [e4]; exact q_tup (q_cons (eVar_get rfl) (q_cons (eVar_get rfl) rfl)) (by simp)) (q_cons (eVar_get rfl) rfl)) (by simp)) rfl)), al]
        have g2 : bT (eOp oNe (eVar 2) (eVar 1)) [none, some (encP b s), some (encP b s), some (encR r'), some (encY y), some (.int (w : Int)), some (encS (y.S w)), some (.tuple [encY q.1, encO q.2]), some (.int (x : Int)), some (encS s'), some (encO q.2), some (.tuple ((y.rows.set x r').map encR)), some (.tuple ((y.states.set w s').map encS))] = some false := by
          unfold bT
          rw [eOp_ev (eVar_get rfl) (eVar_get rfl), oNe_P]; rfl
        have g3 : ∀ {f : Sl → Option D} {ds : Sl}, f ds = some (.bool true) → bT f ds = some true := fun e => by unfold bT; rw [e]; rfl
        unfold bOr bNot
        rw [g3 g1, g2]; rfl
      have u1 : sUnp [8, 3, 9, 10] (eCall M_l_due (esCons (eVar 1) (esCons (eVar 4) (esCons (eVar 5) esNil)))) [none, some (encP b s), some (encP b s), a3, some (encY y), some (.int (w : Int)), some (encS (y.S w)), some (.tuple [encY q.1, encO q.2]), a8, a9, a10, a11, a12] = some (.nx [none, some (encP b s), some (encP b s), some (encR r'), some (encY y), some (.int (w : Int)), some (encS (y.S w)), some (.tuple [encY q.1, encO q.2]), some (.int (x : Int)), some (encS s'), some (encO q.2), a11, a12]) :=
        q_unp (q_call (q_cons (eVar_get rfl) (q_cons (eVar_get rfl) (q_cons (eVar_get rfl) rfl))) |>.trans zd) rfl
      have u2 := (q_iff (f := sRet (eC (.bool false))) (g := sNx) f3).trans (rfl : sNx _ = _)
      have u3 := (q_seqS (i := 12) f2).trans u2
      have u4 := (q_seqS (i := 11) f1).trans u3
      have u5 := (q_seq u1).trans u4
      have u6 := (q_ift (g := sNx) e3).trans u5
      rw [q_seq u6, q_set (d := encY q.1) (eOp_ev (eVar_get rfl) rfl |>.trans oIx0)]
      exact ⟨q.1, _, _, _, _, _, _, _, _, I', B', S'.m', rfl⟩
end Pu

set_option Elab.async false
set_option linter.all false
set_option maxRecDepth 100000
set_option maxHeartbeats 2000000
set_option autoImplicit false
/-! Pu5: bodies with lists of their own that change: slots O hold such lists, as data. -/
namespace Pu
open PySem PySem.Spec PyProof.Rows L2

abbrev ZS := Addr → HO → Prop
abbrev ML (Mc L : MS) : MS := fun a => Mc a ∨ L a
structure SlO (O : List Nat) (Z : ZS) (Mc L : MS) (H : Hp) (σ : St) (ds : Sl) : Prop where
  len : σ.length = ds.length
  get : ∀ (i : Nat) (d : D), O.contains i = false → ds[i]? = some (some d) → ∃ v, σ[i]? = some (some v) ∧ Rp (ML Mc L) H v d
  own : ∀ (i : Nat) (d : D), O.contains i = true → ds[i]? = some (some d) → ∃ l xs dl, d = .list dl ∧ σ[i]? = some (some (.ref l)) ∧ L l ∧ H l = some (.lst xs) ∧ RpAll (ML Mc L) H xs dl
  sep : ∀ (i j : Nat) (l : Addr) (d e : D), O.contains i = true → O.contains j = true → ds[i]? = some (some d) → ds[j]? = some (some e) → σ[i]? = some (some (.ref l)) → σ[j]? = some (some (.ref l)) → i = j
  fr : ∀ (a : Addr) (o : HO), Z a o → H a = some o
  nl : ∀ (a : Addr) (o : HO), Z a o → ¬ L a
  okL : ∀ a, L a → H a ≠ none
  okM : ∀ a, Mc a → ∃ o, Z a o
def mkO (O : List Nat) : Nat → Sl → Sl
  | _, [] => []
  | k, d :: ds => (if O.contains k = true then none else d) :: mkO O (k + 1) ds
theorem mkO_get {O : List Nat} : ∀ {k : Nat} {ds : Sl} {i : Nat}, (mkO O k ds)[i]? = (ds[i]?).map fun d => if O.contains (k + i) = true then none else d
  | k, [], i => by simp [mkO]
  | k, d :: ds, 0 => by simp [mkO]
  | k, d :: ds, i + 1 => by
    rw [mkO, List.getElem?_cons_succ, List.getElem?_cons_succ, mkO_get, Nat.add_right_comm]; rfl
theorem mkO_len {O : List Nat} : ∀ {k : Nat} {ds : Sl}, (mkO O k ds).length = ds.length
  | k, [] => rfl
  | k, d :: ds => by rw [mkO, List.length_cons, List.length_cons, mkO_len]
section
variable {O : List Nat} {Z Z' : ZS} {Mc L : MS} {H H' : Hp} {σ : St} {ds : Sl} {v : V} {d : D} {i : Nat}
theorem SlO.ok (s : SlO O Z Mc L H σ ds) : Ok (ML Mc L) H := fun a m => m.elim (fun m => by obtain ⟨o, z⟩ := s.okM a m; rw [s.fr a o z]; simp) (s.okL a)
theorem SlO.okc (s : SlO O Z Mc L H σ ds) : Ok Mc H := fun a m => s.ok a (.inl m)
theorem SlO.nM (s : SlO O Z Mc L H σ ds) {l : Addr} (h : L l) : ¬ Mc l := fun m => by
  obtain ⟨o, z⟩ := s.okM l m
  exact s.nl l o z h
theorem ml_c {H : Hp} : ∀ a o, ¬ (ML Mc L) a → H a = some o → ¬ Mc a ∧ H a = some o := fun a o n e => ⟨fun m => n (.inl m), e⟩
theorem SlO.full (s : SlO O Z Mc L H σ ds) : SlD Mc H σ ds := ⟨s.len, fun i d g => by
  cases h : O.contains i with
  | false =>
    obtain ⟨v, e, r⟩ := s.get i d h g
    exact ⟨v, e, r.mono ml_c d v⟩
  | true =>
    obtain ⟨l, xs, dl, rfl, e, m, e2, r⟩ := s.own i d h g
    exact ⟨.ref l, e, .lst e2 (s.nM m) (r.mono ml_c dl xs)⟩⟩
theorem SlO.mask (s : SlO O Z Mc L H σ ds) : SlD (ML Mc L) H σ (mkO O 0 ds) := ⟨by rw [mkO_len]; exact s.len, fun i d g => by
  rw [mkO_get, Nat.zero_add] at g
  cases e : ds[i]? with
  | none => rw [e] at g; cases g
  | some u =>
    rw [e] at g
    cases h : O.contains i with
    | true => rw [h] at g; cases g
    | false =>
      rw [h] at g
      have g' : u = some d := Option.some.inj g
      subst g'
      exact s.get i d h e⟩
theorem SlO.same (s : SlO O Z Mc L H σ ds) (k : Same H H') : SlO O Z Mc L H' σ ds := ⟨s.len, fun i d h g => by
  obtain ⟨v, e, r⟩ := s.get i d h g
  exact ⟨v, e, r.same k⟩, fun i d h g => by
  obtain ⟨l, xs, dl, e0, e, m, e2, r⟩ := s.own i d h g
  exact ⟨l, xs, dl, e0, e, m, k _ _ e2, r.same k⟩, s.sep, fun a o z => k _ _ (s.fr a o z), s.nl, (fun a m => (Ok.same (M := L) s.okL k) a m), s.okM⟩
theorem SlO.weak (s : SlO O Z' Mc L H σ ds) (h : ∀ a o, Z a o → Z' a o) (hm : ∀ a, Mc a → ∃ o, Z a o) : SlO O Z Mc L H σ ds := ⟨s.len, s.get, s.own, s.sep, fun a o z => s.fr a o (h a o z), fun a o z => s.nl a o (h a o z), s.okL, hm⟩
theorem SlO.set (s : SlO O Z Mc L H σ ds) (hi : O.contains i = false) (r : Rp (ML Mc L) H v d) : SlO O Z Mc L H (σ.set i (some v)) (ds.set i (some d)) := by
  have ne : ∀ j, O.contains j = true → i ≠ j := fun j hj e => by rw [e, hj] at hi; cases hi
  refine ⟨by rw [List.length_set, List.length_set]; exact s.len, fun j e h g => ?_, fun j e h g => ?_, fun j k l d' e' hj hk g1 g2 e1 e2 => ?_, s.fr, s.nl, s.okL, s.okM⟩
  · by_cases hj : i = j
    · subst hj
      by_cases hl : i < ds.length
      · rw [List.getElem?_set_self hl] at g
        cases g
        exact ⟨v, List.getElem?_set_self (by rw [s.len]; exact hl), r⟩
      · rw [List.getElem?_eq_none (by simpa using hl)] at g; cases g
    · rw [List.getElem?_set_ne hj] at g ⊢
      exact s.get j e h g
  · rw [List.getElem?_set_ne (ne j h)] at g ⊢
    exact s.own j e h g
  · rw [List.getElem?_set_ne (ne j hj)] at g1 e1
    rw [List.getElem?_set_ne (ne k hk)] at g2 e2
    exact s.sep j k l d' e' hj hk g1 g2 e1 e2
/-- a new list into a slot of O -/
theorem SlO.put {p : Addr} {xs : List V} {dl : List D} (s : SlO O Z Mc L H σ ds) (hi : O.contains i = true) (hp : H p = none) (e : Same H H') (e2 : H' p = some (.lst xs)) (r : RpAll (ML Mc fun a => L a ∨ a = p) H' xs dl) :
    SlO O Z Mc (fun a => L a ∨ a = p) H' (σ.set i (some (.ref p))) (ds.set i (some (.list dl))) := by
  have fr : ∀ a o, ¬ (ML Mc L) a → H a = some o → ¬ (ML Mc fun a => L a ∨ a = p) a ∧ H' a = some o := fun a o n q => ⟨fun m => m.elim (fun m => n (.inl m)) fun m => m.elim (fun m => n (.inr m)) fun m => (by rw [m, hp] at q; cases q), e a o q⟩
  refine ⟨by rw [List.length_set, List.length_set]; exact s.len, fun j d h g => ?_, fun j d h g => ?_, fun j k l d' e' hj hk g1 g2 e1 e3 => ?_, fun a o z => e _ _ (s.fr a o z), fun a o z m => m.elim (s.nl a o z) fun m => (by rw [m] at z; rw [s.fr p o z] at hp; cases hp), fun a m => ?_, s.okM⟩
  · have hj : i ≠ j := fun z => by rw [z, h] at hi; cases hi
    rw [List.getElem?_set_ne hj] at g ⊢
    obtain ⟨v, q1, q2⟩ := s.get j d h g
    exact ⟨v, q1, q2.mono fr d v⟩
  · by_cases hj : i = j
    · subst hj
      by_cases hl : i < ds.length
      · rw [List.getElem?_set_self hl] at g
        cases g
        exact ⟨p, xs, dl, rfl, List.getElem?_set_self (by rw [s.len]; exact hl), .inr rfl, e2, r⟩
      · rw [List.getElem?_eq_none (by simpa using hl)] at g; cases g
    · rw [List.getElem?_set_ne hj] at g ⊢
      obtain ⟨l, ys, dl', q0, q1, q2, q3, q4⟩ := s.own j d h g
      exact ⟨l, ys, dl', q0, q1, .inl q2, e _ _ q3, q4.mono fr dl' ys⟩
  · have old : ∀ j d, i ≠ j → O.contains j = true → ds[j]? = some (some d) → σ[j]? ≠ some (some (.ref p)) := fun j d hij hj g q => by
      obtain ⟨l', ys, dl', q0, q1, q2, q3, q4⟩ := s.own j d hj g
      rw [q] at q1
      cases q1
      rw [hp] at q3; cases q3
    have self : ∀ d l, (ds.set i (some (PyData.list dl)))[i]? = some (some d) → (σ.set i (some (V.ref p)))[i]? = some (some (.ref l)) → l = p := fun d l g q => by
      by_cases hl : i < ds.length
      · rw [List.getElem?_set_self (by rw [s.len]; exact hl)] at q
        cases q; rfl
      · rw [List.getElem?_eq_none (by simpa using hl)] at g; cases g
    by_cases h1 : i = j
    · by_cases h2 : i = k
      · rw [← h1, ← h2]
      · subst h1
        have := self d' l g1 e1
        subst this
        rw [List.getElem?_set_ne h2] at g2 e3
        exact absurd e3 (old k _ h2 hk g2)
    · by_cases h2 : i = k
      · subst h2
        have := self e' l g2 e3
        subst this
        rw [List.getElem?_set_ne h1] at g1 e1
        exact absurd e1 (old j _ h1 hj g1)
      · rw [List.getElem?_set_ne h1] at g1 e1
        rw [List.getElem?_set_ne h2] at g2 e3
        exact s.sep j k l d' e' hj hk g1 g2 e1 e3
  · rcases m with m | rfl
    · exact (Ok.same (M := L) s.okL e) a m
    · rw [e2]; simp
/-- such a list changes -/
theorem SlO.change {l : Addr} {ys : List V} {dl dl' : List D} (s : SlO O Z Mc L H σ ds) (hi : O.contains i = true) (g : ds[i]? = some (some (.list dl))) (q : σ[i]? = some (some (.ref l))) (m : L l) (k : ∀ a o, a ≠ l → H a = some o → H' a = some o) (e : H' l = some (.lst ys)) (r : RpAll (ML Mc L) H' ys dl') :
    SlO O Z Mc L H' σ (ds.set i (some (.list dl'))) := by
  have nel : ∀ a, ¬ (ML Mc L) a → a ≠ l := fun a n z => n (.inr (by rw [z]; exact m))
  have fr : ∀ a o, ¬ (ML Mc L) a → H a = some o → ¬ (ML Mc L) a ∧ H' a = some o := fun a o n q => ⟨n, k a o (nel a n) q⟩
  refine ⟨by rw [List.length_set]; exact s.len, fun j d h g => ?_, fun j d h g' => ?_, fun j k l' d' e' hj hk g1 g2 e1 e3 => ?_, fun a o z => k a o (fun e => s.nl a o z (by rw [e]; exact m)) (s.fr a o z), s.nl, fun a m' => ?_, s.okM⟩
  · have hj : i ≠ j := fun z => by rw [z, h] at hi; cases hi
    rw [List.getElem?_set_ne hj] at g
    obtain ⟨v, q1, q2⟩ := s.get j d h g
    exact ⟨v, q1, q2.mono fr d v⟩
  · by_cases hj : i = j
    · subst hj
      have hl := (List.getElem?_eq_some_iff.mp g).1
      rw [List.getElem?_set_self hl] at g'
      cases g'
      exact ⟨l, ys, dl', rfl, q, m, e, r⟩
    · rw [List.getElem?_set_ne hj] at g'
      obtain ⟨l', zs, dl2, q0, q1, q2, q3, q4⟩ := s.own j d h g'
      have hne : l' ≠ l := fun z => hj (s.sep i j l _ _ hi h g g' q (z ▸ q1))
      exact ⟨l', zs, dl2, q0, q1, q2, k _ _ hne q3, q4.mono fr dl2 zs⟩
  · have told : ∀ j d, (ds.set i (some (PyData.list dl')))[j]? = some (some d) → ∃ d, ds[j]? = some (some d) := fun j d h => by
      by_cases hj : i = j
      · subst hj; exact ⟨_, g⟩
      · rw [List.getElem?_set_ne hj] at h; exact ⟨d, h⟩
    obtain ⟨d1, h1⟩ := told j d' g1
    obtain ⟨d2, h2⟩ := told k e' g2
    exact s.sep j k l' d1 d2 hj hk h1 h2 e1 e3
  · by_cases z : a = l
    · rw [z, e]; simp
    · cases h : H a with
      | none => exact absurd h (s.okL a m')
      | some o => rw [k a o z h]; simp
theorem SlO.start {vs : List V} {l : List D} (ok : Ok Mc H) (r : RpAll Mc H vs l) (N : List Str) (hO : ∀ i, O.contains i = true → l.length ≤ i) : SlO O (fun a o => H a = some o) Mc (fun _ => False) H (start N vs) (l.map some ++ List.replicate (N.length - l.length) none) := by
  have s := SlD.start r N
  have fr : ∀ a o, ¬ Mc a → H a = some o → ¬ (ML Mc fun _ => False) a ∧ H a = some o := fun a o n q => ⟨fun m => m.elim n id, q⟩
  have no : ∀ i d, O.contains i = true → (l.map some ++ List.replicate (N.length - l.length) none)[i]? = some (some d) → False := fun i d h g => by
    have := hO i h
    rw [List.getElem?_append_right (by simpa using this), List.getElem?_replicate] at g
    split at g <;> cases g
  refine ⟨s.len, fun i d _ g => ?_, fun i d h g => (no i d h g).elim, fun i j l' d e h _ g _ _ _ => (no i d h g).elim, fun _ _ z => z, fun _ _ _ m => m, fun _ m => m.elim, fun a m => ?_⟩
  · obtain ⟨v, e, r⟩ := s.get i d g
    exact ⟨v, e, r.mono fr d v⟩
  · cases h : H a with
    | none => exact absurd h (ok a m)
    | some o => exact ⟨o, rfl⟩
end

/-! ### statements -/
def AftO (O : List Nat) (E : Ends) (Z : ZS) (Mc : MS) : Out → Prop
  | .nx ds => ∀ σ H L, SlO O Z Mc L H σ ds → E.nx σ H
  | .bk ds => ∀ σ H L, SlO O Z Mc L H σ ds → E.bk σ H
  | .ct ds => ∀ σ H L, SlO O Z Mc L H σ ds → E.ct σ H
  | .rt d => ∀ v H, (∀ a o, Z a o → H a = some o) → Rp Mc H v d → E.rt v H
def tSO (O : List Nat) (f : S) : TS := fun E σ H => ∃ (Z : ZS) (Mc L : MS) (ds : Sl) (o : Out), SlO O Z Mc L H σ ds ∧ f ds = some o ∧ AftO O E Z Mc o
/-- with the slots O not told -/
def atO {α : Type} (O : List Nat) (f : Sl → Option α) : Sl → Option α := fun ds => f (mkO O 0 ds)
def sSetO (O : List Nat) (i : Nat) (f : Sl → Option D) : S := sSet i (atO O f)
def sNewO (i : Nat) : S := fun ds => some (.nx (ds.set i (some (.list []))))
def sAppO (O : List Nat) (i : Nat) (f : Sl → Option D) : S := fun ds => (f (mkO O 0 ds)).bind fun d => match ds[i]? with
  | some (some (.list l)) => if l.length + 1 ≤ lim then some (.nx (ds.set i (some (.list (l ++ [d]))))) else none
  | _ => none
/-- j = i.pop() -/
def sPopO (i j : Nat) : S := fun ds => match ds[i]? with
  | some (some (.list l)) => match l.getLast? with
    | some d => some (.nx ((ds.set i (some (.list l.dropLast))).set j (some d)))
    | none => none
  | _ => none
def sUnpO (O : List Nat) (is : List Nat) (f : Sl → Option D) : S := fun ds => (atO O f ds).bind fun d => (gTupD is d ds).bind fun ds' => some (.nx ds')
def sForO (O : List Nat) (it : Sl → Option (List D)) (G : D → Sl → Option Sl) (f : S) : S := fun ds => (atO O it ds).bind fun l => loopD G f l ds
def whileD (p : Sl → Option Bool) (f : S) : Nat → S
  | 0, _ => none
  | n + 1, ds => (p ds).bind fun b => if b = true then (f ds).bind fun o => match o with
    | .nx ds' => whileD p f n ds'
    | .ct ds' => whileD p f n ds'
    | .bk ds' => some (.nx ds')
    | .rt d => some (.rt d) else some (.nx ds)
section
variable {X : Cx} {O : List Nat} {st : Stmt} {rest : List Stmt} {e c : Expr} {a b : List Stmt} {f g : S} {h : Sl → Option D} {p : Sl → Option Bool} {pos : Pos}
theorem ptsd_one {q : Sl → Option Bool} (h : PT X c (tPT q)) : PTs X [c] (tPT q) := pts_one h
theorem o_nil : PSs X [] (tSO O sNx) := pss_of pss_nil fun E σ H ⟨Z, Mc, L, ds, o, s, e, q⟩ => by
  cases e
  exact q σ H L s
theorem o_cons (h1 : PS X st (tSO O f)) (h2 : PSs X rest (tSO O g)) : PSs X (st :: rest) (tSO O (sSeq f g)) := pss_of (pss_cons h1 h2) fun E σ H ⟨Z, Mc, L, ds, o, s, e, q⟩ => by
  obtain ⟨o1, e1, e2⟩ := bind_some e
  refine ⟨Z, Mc, L, ds, o1, s, e1, ?_⟩
  cases o1 with
  | nx ds' => exact fun σ' H' L' r => ⟨Z, Mc, L', ds', o, r, e2, q⟩
  | rt d => cases e2; exact q
  | bk d => cases e2; exact q
  | ct d => cases e2; exact q
theorem o_one (h1 : PS X st (tSO O f)) : PSs X [st] (tSO O f) := pss_one h1
theorem o_pass : PS X (.Pass pos) (tSO O sNx) := ps_of ps_pass fun E σ H ⟨Z, Mc, L, ds, o, s, e, q⟩ => by
  cases e
  exact q σ H L s
theorem o_never : PS X st (tSO O sNever) := ps_of ps_never fun E σ H ⟨Z, Mc, L, ds, o, s, e, q⟩ => by cases e
theorem o_if (hc : PT X c (tPT p)) (ha : PSs X a (tSO O f)) (hb : PSs X b (tSO O g)) : PS X (.If c a b pos) (tSO O (sIf p f g)) := ps_of (ps_if hc ha hb) fun E σ H ⟨Z, Mc, L, ds, o, s, e, q⟩ => by
  obtain ⟨k, e1, e2⟩ := bind_some e
  refine ⟨Mc, ds, k, s.okc, s.full, e1, fun H1 s1 => ?_⟩
  cases k with
  | true =>
    rw [if_pos rfl] at e2 ⊢
    exact ⟨Z, Mc, L, ds, o, s.same s1, e2, q⟩
  | false =>
    rw [if_neg Bool.false_ne_true] at e2 ⊢
    exact ⟨Z, Mc, L, ds, o, s.same s1, e2, q⟩
theorem o_ret (he : PE X e (tP h)) : PS X (.Return (some e) pos) (tSO O (sRet h)) := ps_of (ps_ret he) fun E σ H ⟨Z, Mc, L, ds, o, s, e, q⟩ => by
  obtain ⟨d, e1, e2⟩ := bind_some e
  cases e2
  exact ⟨Mc, ds, d, s.okc, s.full, e1, fun v H' s' r => q v H' (fun a o z => s' _ _ (s.fr a o z)) r⟩
theorem asgO_of {i : Nat} (hi : O.contains i = false) : ∀ E σ H, tSO O (sSetO O i h) E σ H → tAsg (tP h) (gName i) E σ H := fun E σ H ⟨Z, Mc, L, ds, o, s, e, q⟩ => by
  obtain ⟨d, e1, e2⟩ := bind_some e
  cases e2
  exact ⟨ML Mc L, _, d, s.ok, s.mask, e1, fun v H' s' r => q _ H' L ((s.same s').set hi r)⟩
theorem o_set {i : Nat} {x : Str} {pos' : Pos} (hi0 : O.contains i = false) (hN : X.N.Nodup) (hi : X.N[i]? = some x) (hx : Loc X.env.scope x) (he : PE X e (tP h)) (hs : swapsWith e (some (.Name x pos')) pos.line X.env = pure false := by rfl) (hf : X.fn x = true ∨ X.env.scope.names.lookup x = some .local := by first | exact .inl rfl | exact .inr rfl | assumption) :
    PS X (.Assign [.Name x pos'] e pos) (tSO O (sSetO O i h)) := ps_of (ps_set hN hi hx he hs hf) (asgO_of hi0)
/-- y = [..] -/
theorem o_setLc {elt tg iter : Expr} {ifs : List Expr} {scope : Scope} {own : List (Str × Nat)} {pos2 : Pos} {i j : Nat} {h e : Sl → Option D} {c : Sl → Option Bool} {y : Str} {py spos : Pos} (hj : O.contains j = false) (hc : X.calm = true) (hN : X.N.Nodup) (hy : X.N[j]? = some y) (hyl : X.env.scope.names.lookup y = some .local)
    (hsw : swapsWith (.ListComp elt [⟨tg, iter, ifs, 0⟩] scope pos) (some (.Name y py)) spos.line X.env = pure true) (hi : PE X iter (tP h)) (ok : BlkOk X.N X.env.scope scope own)
    (hg : ∀ (s : Shared) (H : Hp) (C : Addr) (cl : List (Str × Addr)) (fp : List Addr), PG (X.blk s H scope (compEnvC scope cl C X.env) fp) tg (gName i)) (ht : ∀ (s : Shared) (H : Hp) (C : Addr) (cl : List (Str × Addr)) (fp : List Addr), PTs (X.blk s H scope (compEnvC scope cl C X.env) fp) ifs (tPT c))
    (he : ∀ (s : Shared) (H : Hp) (C : Addr) (cl : List (Str × Addr)) (fp : List Addr), PE (X.blk s H scope (compEnvC scope cl C X.env) fp) elt (tP e)) (hv : own.map (·.2) = [i] := by rfl) (hs : ∀ x, foldedSetIterable iter X.env x = pure x := by intro _; rfl) :
    PS X (.Assign [.Name y py] (.ListComp elt [⟨tg, iter, ifs, 0⟩] scope pos) spos) (tSO O (sSetO O j (eLc i (eItems h) c e))) := ps_of (ps_setLc hc hN hy hyl hsw (pi_seq hi) ok hg ht he hs) fun E σ H q => by
  have z := asgO_of hj E σ H q
  exact lc_seq_of hv σ H _ z
theorem o_setLcR {elt tg n : Expr} {ifs : List Expr} {scope : Scope} {own : List (Str × Nat)} {pos2 p : Pos} {i j : Nat} {h e : Sl → Option D} {c : Sl → Option Bool} {y : Str} {py spos : Pos} (hj : O.contains j = false) (hgl : Gl X "range") (hm : X.mg "range" = none) (hc : X.calm = true) (hN : X.N.Nodup) (hy : X.N[j]? = some y) (hyl : X.env.scope.names.lookup y = some .local)
    (hsw : swapsWith (.ListComp elt [⟨tg, .Call (.Name "range" p) [n] [] pos, ifs, 0⟩] scope pos2) (some (.Name y py)) spos.line X.env = pure true) (hi : PE X n (tP h)) (ok : BlkOk X.N X.env.scope scope own)
    (hg : ∀ (s : Shared) (H : Hp) (C : Addr) (cl : List (Str × Addr)) (fp : List Addr), PG (X.blk s H scope (compEnvC scope cl C X.env) fp) tg (gName i)) (ht : ∀ (s : Shared) (H : Hp) (C : Addr) (cl : List (Str × Addr)) (fp : List Addr), PTs (X.blk s H scope (compEnvC scope cl C X.env) fp) ifs (tPT c))
    (he : ∀ (s : Shared) (H : Hp) (C : Addr) (cl : List (Str × Addr)) (fp : List Addr), PE (X.blk s H scope (compEnvC scope cl C X.env) fp) elt (tP e)) (hv : own.map (·.2) = [i] := by rfl)
    (ha1 : starEach (n :: []) X.env = (false, eval n X.env) :: starEach [] X.env := by rfl) (hr : starEach [n] X.env = [(false, eval n X.env)] := by rfl) (hs : ∀ x, foldedSetIterable (.Call (.Name "range" p) [n] [] pos) X.env x = pure x := by intro _; rfl) :
    PS X (.Assign [.Name y py] (.ListComp elt [⟨tg, .Call (.Name "range" p) [n] [] pos, ifs, 0⟩] scope pos2) spos) (tSO O (sSetO O j (eLc i (eRng h) c e))) := ps_of (ps_setLc hc hN hy hyl hsw (pi_range1 hgl hm (pa_cons hi pa_nil ha1) hr) ok hg ht he hs) fun E σ H q => by
  have z := asgO_of hj E σ H q
  exact lc_rng_of hv σ H _ z
theorem o_new {i : Nat} {x : Str} {pos' p2 : Pos} (hi0 : O.contains i = true) (hN : X.N.Nodup) (hi : X.N[i]? = some x) (hx : Loc X.env.scope x) (hs : swapsWith (.List [] p2) (some (.Name x pos')) pos.line X.env = pure false := by rfl) (hf : X.fn x = true ∨ X.env.scope.names.lookup x = some .local := by first | exact .inl rfl | exact .inr rfl | assumption) :
    PS X (.Assign [.Name x pos'] (.List [] p2) pos) (tSO O (sNewO i)) := ps_of (ps_set hN hi hx (pe_lst pa_nil) hs hf) fun E σ H ⟨Z, Mc, L, ds, o, s, e, q⟩ => by
  cases e
  exact ⟨Nat.zero_le _, fun p hp => q _ _ _ (s.put hi0 hp (Same.new hp) upd_same .nil)⟩
/-- a new list of flat things, by a sum -/
theorem cat_new {x y : Expr} {f g : Sl → Option D} {M : MS} {H : Hp} {σ : St} {ds : Sl} {l : List D} {Q : VK} {K : PySem.W.Frag} (ok : Ok M H) (s : SlD M H σ ds) (e : eOp oAdd f g ds = some (.list l)) (k : ∀ p xs H', Same H H' → H p = none → H' p = some (.lst xs) → RpAll M H' xs l → Q (.ref p) H') : tOp (rAddD K) (tP f) (tP g) σ H Q := by
  obtain ⟨x, e1, e⟩ := bind_some e
  obtain ⟨y, e2, e3⟩ := bind_some e
  refine ⟨M, ds, x, ok, s, e1, fun v H1 s1 r1 => ⟨M, ds, y, ok.same s1, s.same s1, e2, fun w H2 s2 r2 => ?_⟩⟩
  have r1' := r1.same s2
  unfold oAdd at e3
  split at e3
  · cases e3
  · split at e3
    · rename_i hz
      cases e3
      cases r1' with
      | lst a1 n1 q1 =>
        cases r2 with
        | lst a2 n2 q2 =>
          refine .inr (.inl ⟨_, _, _, _, rfl, rfl, a1, a2, ?_, fun p hp => ?_⟩)
          · rw [q1.length, q2.length]
            exact Nat.le_trans hz lim_le
          · exact k p _ _ ((s1.trans s2).trans (Same.new hp)) ((s1.trans s2).free hp) upd_same ((q1.append q2).same (Same.new hp))
    · cases e3
  · split at e3 <;> cases e3
  · cases e3
theorem flat_any {M M' : MS} {H : Hp} : ∀ {vs : List V} {l : List D}, l.all flatD = true → RpAll M H vs l → RpAll M' H vs l
  | _, [], _, r => by cases r; exact .nil
  | _, d :: l, f, r => by
    rw [List.all_cons, Bool.and_eq_true] at f
    cases r with
    | cons r1 r2 =>
      refine .cons ?_ (flat_any f.2 r2)
      cases r1 with
      | non => exact .non
      | bl b => exact .bl b
      | int i => exact .int i
      | str x => exact .str x
      | lst e n r => exact Bool.noConfusion f.1
      | tup e n r => exact Bool.noConfusion f.1
/-- i = a + b, of flat things -/
def sCatO (i : Nat) (f g : Sl → Option D) : S := fun ds => (eOp oAdd f g ds).bind fun d => match d with
  | .list l => if l.all flatD = true then some (.nx (ds.set i (some (.list l)))) else none
  | _ => none
theorem o_cat {i : Nat} {x : Str} {pos' p2 : Pos} {ea eb : Expr} {hf hg : Sl → Option D} (hi0 : O.contains i = true) (hN : X.N.Nodup) (hi : X.N[i]? = some x) (hx : Loc X.env.scope x) (ha : PE X ea (tP hf)) (hb : PE X eb (tP hg)) (hs : swapsWith (.BinOp ea .Add eb p2) (some (.Name x pos')) pos.line X.env = pure false := by rfl) (hf' : X.fn x = true ∨ X.env.scope.names.lookup x = some .local := by first | exact .inl rfl | exact .inr rfl | assumption) :
    PS X (.Assign [.Name x pos'] (.BinOp ea .Add eb p2) pos) (tSO O (sCatO i hf hg)) := ps_of (ps_set hN hi hx (pe_op or_addD ha hb) hs hf') fun E σ H ⟨Z, Mc, L, ds, o, s, e, q⟩ => by
  obtain ⟨d, e1, e2⟩ := bind_some e
  split at e2
  · split at e2
    · rename_i hfl
      cases e2
      exact cat_new (x := ea) (y := eb) s.okc s.full e1 fun p xs H' s' hp e3 r => q _ _ _ (s.put hi0 hp s' e3 (flat_any hfl r))
    · cases e2
  · cases e2
theorem o_app {i : Nat} {x : Str} {pos' apos cpos : Pos} (hi0 : O.contains i = true) (hN : X.N[i]? = some x) (hv : Vis X.env.scope x) (he : PE X e (tP h)) (hd : (x == ("__debug__" : Str)) = false := by decide) (hcd : (x == ("__classdict__" : Str)) = false := by decide)
    (hbase : attributeBase (.Name x pos') "append" X.env (eval (.Name x pos') X.env) = eval (.Name x pos') X.env := by rfl)
    (hfew : ((backTo cpos (starEach [e] X.env)).all (fun x => !x.1) && (backToKw cpos (keywordEach [] X.env)).all (fun x => x.1.isSome) && decide (([e] : List Expr).length + ([] : List Keyword).length + (if ([] : List Keyword).isEmpty then 0 else 1) < 30)) = true := by rfl)
    (hline : (apos.endLine == cpos.line) = true := by rfl) (hs : starEach [e] X.env = (false, eval e X.env) :: starEach [] X.env := by rfl) (hplain : (backTo cpos (starEach [] X.env)).any (·.1) = false := by rfl)
    (hsw : swapsWith (.Call (.Attribute (.Name x pos') "append" apos) [e] [] cpos) none pos.line X.env = pure false := by rfl) :
    PS X (.Expr (.Call (.Attribute (.Name x pos') "append" apos) [e] [] cpos) pos) (tSO O (sAppO O i h)) :=
  ps_of (ps_expr (pe_bm PySem.F.plainAttrs_list PySem.F.slot_list_append PySem.F.type_list_append (mt_append) (pe_var hN hv hd hcd) (pa_cons he pa_nil hs) hbase hfew hline hs hplain) hsw) fun E σ H ⟨Z, Mc, L, ds, o, s, e, q⟩ => by
    obtain ⟨d, e1, e2⟩ := bind_some e
    split at e2
    · rename_i dl hds
      split at e2
      · rename_i hz
        cases e2
        obtain ⟨l, xs, dl', e0, e3, m, e4, r⟩ := s.own i _ hi0 hds
        cases e0
        refine ⟨.ref l, e3, .inl ⟨rfl, xs, SqL.of e4⟩, ML Mc L, _, d, s.ok, s.mask, e1, fun v H' s' rv => ?_⟩
        have s2 := s.same s'
        refine ⟨l, xs, v, rfl, rfl, s' _ _ e4, ?_, q _ _ L (s2.change hi0 hds e3 m (fun a o n z => by rw [upd_ne n]; exact z) upd_same ((((r.same s').snoc rv)).mono (fun a o n z => ⟨n, by rw [upd_ne (fun (z2 : a = l) => n (.inr (by rw [z2]; exact m)))]; exact z⟩) _ _))⟩
        rw [r.length]
        exact Nat.lt_of_lt_of_le (by omega : dl.length < lim) lim_le
      · cases e2
    · cases e2
end

/-! ### targets, loops -/
def TgsO (O : List Nat) (g : TGs) (is : List Nat) : Prop := ∀ (Z : ZS) (Mc L : MS) (H : Hp) (σ : St) (ds ds' : Sl) (vs : List V) (l : List D) (Q : St → Hp → Prop), SlO O Z Mc L H σ ds → RpAll (ML Mc L) H vs l → setAll is l ds = some ds' → (∀ σ', SlO O Z Mc L H σ' ds' → Q σ' H) → g vs σ H Q
theorem tgsO_nil {O : List Nat} : TgsO O gNil [] := fun Z Mc L H σ ds ds' vs l Q s r e q => by
  cases l with
  | nil => cases r; cases e; exact ⟨rfl, q σ s⟩
  | cons => cases e
theorem tgsO_cons {O : List Nat} {i : Nat} {is : List Nat} {u : TGs} (hi : O.contains i = false) (h : TgsO O u is) : TgsO O (gCons (gName i) u) (i :: is) := fun Z Mc L H σ ds ds' vs l Q s r e q => by
  cases l with
  | nil => cases e
  | cons d l =>
    cases r with
    | cons r1 r2 => exact ⟨_, _, rfl, h Z Mc L H _ _ ds' _ l Q (s.set hi r1) r2 e q⟩
def PGO (O : List Nat) (X : Cx) (tg : Expr) (g : TG) (G : D → Sl → Option Sl) : Prop := PG X tg g ∧ ∀ (Z : ZS) (Mc L : MS) (H : Hp) (σ : St) (ds ds' : Sl) (v : V) (d : D) (Q : St → Hp → Prop), SlO O Z Mc L H σ ds → Rp (ML Mc L) H v d → G d ds = some ds' → (∀ σ', SlO O Z Mc L H σ' ds' → Q σ' H) → g v σ H Q
section
variable {X : Cx} {O : List Nat} {e tg : Expr} {es : List Expr} {h : Sl → Option D} {g : TG} {G : D → Sl → Option Sl} {pos : Pos}
theorem pgo_name {i : Nat} {x : Str} (hi0 : O.contains i = false) (hN : X.N.Nodup) (hi : X.N[i]? = some x) (hx : Loc X.env.scope x) (hf : X.fn x = true ∨ X.env.scope.names.lookup x = some .local := by first | exact .inl rfl | exact .inr rfl | assumption) : PGO O X (.Name x pos) (gName i) (gNameD i) :=
  ⟨pg_name hN hi hx hf, fun Z Mc L H σ ds ds' v d Q s r e q => by cases e; exact q _ (s.set hi0 r)⟩
theorem pgo_tup {k n : Nat} {u : TGs} {is : List Nat} (hc : X.calm = true) (hp : PGs X es u) (hu : TgsO O u is) (hl : is.length = n) (hn : (assignEach es X.env).length = n := by rfl) (hst : (assignEach es X.env).findIdx? (·.1) = none := by rfl) : PGO O X (.Tuple es k pos) (gTup X.K n u) (gTupD is) :=
  ⟨pg_tup hc hp hn hst, fun Z Mc L H σ ds ds' v d Q s r e q => by
    cases r with
    | tup e1 n1 r1 => exact ⟨_, _, rfl, SqT.of e1, by rw [r1.length, setAll_len e, hl], hu Z Mc L H σ ds ds' _ _ Q s r1 e q⟩
    | _ => cases e⟩
theorem o_unp {is : List Nat} (he : PE X e (tP h)) (hg : PGO O X tg g (gTupD is)) (hs : swapsWithSole [tg] e pos.line X.env = pure false := by rfl) (hw : swappedStores [tg] e X.env = pure none := by rfl)
    (h1 : (assignEach [tg] X.env).map (·.2) = [assign tg X.env] := by rfl) : PS X (.Assign [tg] e pos) (tSO O (sUnpO O is h)) := ps_of (ps_asg he hg.1 hs hw h1) fun E σ H ⟨Z, Mc, L, ds, o, s, e, q⟩ => by
  obtain ⟨d, e1, e2⟩ := bind_some e
  obtain ⟨ds', e3, e4⟩ := bind_some e2
  cases e4
  exact ⟨ML Mc L, _, d, s.ok, s.mask, e1, fun v H' s' r => hg.2 Z Mc L H' σ ds ds' v d _ (s.same s') r e3 fun σ' r' => q σ' H' L r'⟩
end
section
variable {X : Cx} {O : List Nat} {tg iter : Expr} {body : List Stmt} {f : S} {h : Sl → Option D} {g : TG} {G : D → Sl → Option Sl} {pos p : Pos}
/-- one turn -/
theorem loopO_turn {E : Ends} {Z Z1 : ZS} {Mc L : MS} {H : Hp} {l : List D} {o : Out} {i : Nat} {d : D} {v : V} {σ : St} {ds : Sl} {Pv : Nat → St → Hp → Prop}
    (hP : ∀ j σ H, (∃ L ds, SlO O Z1 Mc L H σ ds ∧ loopD G f (l.drop j) ds = some o) → Pv j σ H) (hg : ∀ (Z : ZS) (Mc L : MS) (H : Hp) (σ : St) (ds ds' : Sl) (v : V) (d : D) (Q : St → Hp → Prop), SlO O Z Mc L H σ ds → Rp (ML Mc L) H v d → G d ds = some ds' → (∀ σ', SlO O Z Mc L H σ' ds' → Q σ' H) → g v σ H Q)
    (hz : ∀ a o, Z a o → Z1 a o) (hm : ∀ a, Mc a → ∃ o, Z a o) (q : AftO O E Z Mc o) (hd : l[i]? = some d) (s : SlO O Z1 Mc L H σ ds) (e : loopD G f (l.drop i) ds = some o) (r : Rp (ML Mc L) H v d) :
    g v σ H fun σ2 H2 => tSO O f { E with nx := Pv (i + 1), ct := Pv (i + 1), bk := E.nx } σ2 H2 := by
  have hi : i < l.length := (List.getElem?_eq_some_iff.mp hd).1
  have e0 : l.drop i = d :: l.drop (i + 1) := by
    rw [List.drop_eq_getElem_cons hi, (List.getElem?_eq_some_iff.mp hd).2]
  rw [e0] at e
  obtain ⟨ds1, e1, e2⟩ := bind_some e
  obtain ⟨o1, e3, e4⟩ := bind_some e2
  refine hg Z1 Mc L H σ ds ds1 v d _ s r e1 fun σ' s' => ⟨Z1, Mc, L, ds1, o1, s', e3, ?_⟩
  cases o1 with
  | nx ds2 => exact fun σ3 H3 L3 s3 => hP _ _ _ ⟨L3, ds2, s3, e4⟩
  | ct ds2 => exact fun σ3 H3 L3 s3 => hP _ _ _ ⟨L3, ds2, s3, e4⟩
  | bk ds2 => cases e4; exact fun σ3 H3 L3 s3 => q σ3 H3 L3 (s3.weak hz hm)
  | rt d2 => cases e4; exact fun v3 H3 z3 r3 => q v3 H3 (fun a o z => z3 a o (hz a o z)) r3
theorem loopO_end {E : Ends} {Z Z1 : ZS} {Mc : MS} {H : Hp} {l : List D} {o : Out} {σ : St} (hz : ∀ a o, Z a o → Z1 a o) (hm : ∀ a, Mc a → ∃ o, Z a o) (q : AftO O E Z Mc o) (n : Nat) (hn : n = l.length) (p : ∃ L ds, SlO O Z1 Mc L H σ ds ∧ loopD G f (l.drop n) ds = some o) : E.nx σ H := by
  obtain ⟨L, ds, s, e⟩ := p
  subst hn
  rw [List.drop_length] at e
  cases e
  exact q σ H L (s.weak hz hm)
/-- what a loop leaves as it is: all but the lists of one's own -/
def ZL (H : Hp) (L : MS) : ZS := fun a o => H a = some o ∧ ¬ L a
theorem SlO.loop {Z : ZS} {Mc L : MS} {H : Hp} {σ : St} {ds : Sl} (s : SlO O Z Mc L H σ ds) : SlO O (ZL H L) Mc L H σ ds := ⟨s.len, s.get, s.own, s.sep, fun _ _ z => z.1, fun _ _ z => z.2, s.okL, fun a m => by
  obtain ⟨o, z⟩ := s.okM a m
  exact ⟨o, s.fr a o z, s.nl a o z⟩⟩
theorem rp_loop {Mc L L' : MS} {H H' : Hp} {σ : St} {ds : Sl} {v : V} {d : D} (s : SlO O (ZL H L) Mc L' H' σ ds) (r : Rp (ML Mc L) H v d) : Rp (ML Mc L') H' v d :=
  r.mono (fun a o n e => ⟨fun m => m.elim (fun m => n (.inl m)) (s.nl a o ⟨e, fun z => n (.inr z)⟩), s.fr a o ⟨e, fun z => n (.inr z)⟩⟩) d v
theorem o_for (he : PE X iter (tP h)) (hg : PGO O X tg g G) (hb : PSs X body (tSO O f)) (hc : X.calm = true := by rfl) (hp : PassesOwn (model X.prog X.w) X.A X.env X.xe := by exact PassesOwn.never) (hs : ∀ x, foldedSetIterable iter X.env x = pure x := by intro _; rfl) :
    PS X (.For tg iter body [] pos) (tSO O (sForO O (eItems h) G f)) := ps_of (ps_for hp hc (pi_seq he) hg.1 hb hs) fun E σ H ⟨Z, Mc, L, ds, o, s, e, q⟩ => by
  obtain ⟨l, e1, e2⟩ := bind_some e
  obtain ⟨d, e3, e4⟩ := bind_some e1
  unfold itemsD at e4
  split at e4
  · cases e4
    refine .inl ⟨ML Mc L, _, _, s.ok, s.mask, e3, fun v H1 s1 r1 => ?_⟩
    cases r1 with
    | lst a1 n1 r1 =>
      have sl := (s.same s1).loop
      have hz : ∀ a o, Z a o → ZL H1 L a o := fun a o z => ⟨s1 _ _ (s.fr a o z), s.nl a o z⟩
      refine ⟨_, rfl, ⟨_, SqL.of a1⟩, for_list (fun i σ' H' => ∃ L' ds', SlO O (ZL H1 L) Mc L' H' σ' ds' ∧ loopD G f (l.drop i) ds' = some o) ⟨L, ds, sl, e2⟩ (fun i σ' H' _ ⟨L', ds', s', _⟩ => SqL.of (s'.fr _ _ ⟨a1, fun z => n1 (.inr z)⟩)) (fun i x σ' H' hx ⟨L', ds', s', e'⟩ => ?_) (fun σ' H' p => loopO_end hz s.okM q _ r1.length p)⟩
      obtain ⟨d, hd, r⟩ := r1.get' hx
      exact loopO_turn (E := E) (fun _ _ _ z => z) hg.2 hz s.okM q hd s' e' (rp_loop s' r)
  · cases e4
    refine .inr ⟨ML Mc L, _, _, s.ok, s.mask, e3, fun v H1 s1 r1 => ?_⟩
    cases r1 with
    | tup a1 n1 r1 =>
      have sl := (s.same s1).loop
      have hz : ∀ a o, Z a o → ZL H1 L a o := fun a o z => ⟨s1 _ _ (s.fr a o z), s.nl a o z⟩
      refine ⟨_, rfl, ⟨_, SqT.of a1⟩, for_tup (fun i σ' H' => ∃ L' ds', SlO O (ZL H1 L) Mc L' H' σ' ds' ∧ loopD G f (l.drop i) ds' = some o) ⟨L, ds, sl, e2⟩ (fun i σ' H' _ ⟨L', ds', s', _⟩ => SqT.of (s'.fr _ _ ⟨a1, fun z => n1 (.inr z)⟩)) (fun i x σ' H' hx ⟨L', ds', s', e'⟩ => ?_) (fun σ' H' p => loopO_end hz s.okM q _ r1.length p)⟩
      obtain ⟨d, hd, r⟩ := r1.get' hx
      exact loopO_turn (E := E) (fun _ _ _ z => z) hg.2 hz s.okM q hd s' e' (rp_loop s' r)
  · cases e4
theorem o_forR {n : Expr} {pos2 : Pos} (hgl : Gl X "range") (hm : X.mg "range" = none) (he : PE X n (tP h)) (hg : PGO O X tg g G) (hb : PSs X body (tSO O f)) (hc : X.calm = true := by rfl) (hp : PassesOwn (model X.prog X.w) X.A X.env X.xe := by exact PassesOwn.never)
    (ha1 : starEach (n :: []) X.env = (false, eval n X.env) :: starEach [] X.env := by rfl) (hr : starEach [n] X.env = [(false, eval n X.env)] := by rfl) (hs : ∀ x, foldedSetIterable (.Call (.Name "range" p) [n] [] pos) X.env x = pure x := by intro _; rfl) :
    PS X (.For tg (.Call (.Name "range" p) [n] [] pos) body [] pos2) (tSO O (sForO O (eRng h) G f)) := ps_of (ps_for hp hc (pi_range1 hgl hm (pa_cons he pa_nil ha1) hr) hg.1 hb hs) fun E σ H ⟨Z, Mc, L, ds, o, s, e, q⟩ => by
  obtain ⟨l, e1, e2⟩ := bind_some e
  obtain ⟨d, e3, e4⟩ := bind_some e1
  split at e4
  · split at e4
    · rename_i k hk
      cases e4
      refine ⟨ML Mc L, _, _, s.ok, s.mask, e3, fun v H1 s1 r1 => ?_⟩
      cases r1
      have sl := (s.same s1).loop
      have hz : ∀ a o, Z a o → ZL H1 L a o := fun a o z => ⟨s1 _ _ (s.fr a o z), s.nl a o z⟩
      refine ⟨_, rfl, by omega, by omega, for_range (lo := 0) (n := k.toNat) (fun i σ' H' => ∃ L' ds', SlO O (ZL H1 L) Mc L' H' σ' ds' ∧ loopD G f ((rngD k).drop i) ds' = some o) ⟨L, ds, sl, e2⟩ (fun i σ' H' hi ⟨L', ds', s', e'⟩ => ?_) (fun σ' H' p => loopO_end hz s.okM q _ (rngD_length k).symm p)⟩
      rw [Int.zero_add]
      exact loopO_turn (E := E) (fun _ _ _ z => z) hg.2 hz s.okM q (rngD_get hi) s' e' (.int _)
    · cases e4
  · cases e4
theorem o_while {n : Nat} {c : Expr} {p : Sl → Option Bool} (hc : PT X c (tPT p)) (hb : PSs X body (tSO O f)) (hp : PassesOwn (model X.prog X.w) X.A X.env X.xe := by exact PassesOwn.never) : PS X (.While c body [] pos) (tSO O (whileD p f n)) := ps_of (ps_while hp hc hb) fun E σ H ⟨Z, Mc, L, ds, o, s, e, q⟩ => by
  refine ⟨fun m σ H => ∃ L ds, SlO O Z Mc L H σ ds ∧ whileD p f m ds = some o, ⟨n, L, ds, s, e⟩, ?_⟩
  rintro m σ H ⟨L, ds, s, e⟩
  cases m with
  | zero => cases e
  | succ m =>
    obtain ⟨b, e1, e2⟩ := bind_some e
    refine ⟨Mc, ds, b, s.okc, s.full, e1, fun H1 s1 => ?_⟩
    cases b with
    | false =>
      rw [if_neg Bool.false_ne_true] at e2 ⊢
      cases e2
      exact q σ H1 L (s.same s1)
    | true =>
      rw [if_pos rfl] at e2 ⊢
      obtain ⟨o1, e3, e4⟩ := bind_some e2
      refine ⟨fun σ' H' => ∃ L ds, SlO O Z Mc L H' σ' ds ∧ whileD p f m ds = some o, fun σ' H' z => ⟨m, Nat.lt_succ_self m, z⟩, Z, Mc, L, ds, o1, s.same s1, e3, ?_⟩
      cases o1 with
      | nx ds2 => exact fun σ3 H3 L3 s3 => ⟨L3, ds2, s3, e4⟩
      | ct ds2 => exact fun σ3 H3 L3 s3 => ⟨L3, ds2, s3, e4⟩
      | bk ds2 => cases e4; exact fun σ3 H3 L3 s3 => q σ3 H3 L3 s3
      | rt d2 => cases e4; exact fun v3 H3 z3 r3 => q v3 H3 z3 r3
end
/-! ### a def -/
theorem ok_funO {P : Program} {w : World} {K : PySem.W.Frag} {mg : Str → Option Value} {base : Heap} {x qual : Str} {st : Stmt} {f : Addr} {fd : FuncData} {N ps : List Str} {k n : Nat} {O : List Nat} {F : S} (hF : Fun K x qual st f fd) (sc : FnScope N ps (defScope st)) (hn : ps.length = n) (hO : ∀ i, O.contains i = true → n ≤ i)
    (hb : ∀ (cdv : Value) (A : Around) (outer : List Env) (s : Shared) (H : Hp) (E : XK), Room k (A.deeper (envOfC qual (defScope st) s.heap.objs.size f cdv)) → PSs (cxOf CX0 P w K mg base N qual (defScope st) f cdv A outer s H E).nox (defBody st) (tSO O F)) :
    FnOk P w K mg base CX0 (k + 1) f fd ps (spF n (runF N.length F)) := by
  refine hF.ok sc (fun vs H Q E h => h.1.trans hn.symm) fun cdv A outer s H vs Q E hr h => ⟨tSO O F, hb cdv A outer s H E hr, ?_⟩
  obtain ⟨hl, M, l, d, ok, r, e, q⟩ := h
  obtain ⟨o, e1, e2⟩ := bind_some e
  refine ⟨_, M, _, _, o, SlO.start ok r N (fun i h => by rw [← r.length, hl]; exact hO i h), e1, ?_⟩
  cases o with
  | rt d' => cases e2; exact fun v H' z r => q v H' z r
  | nx ds => cases e2; exact fun σ' H' L' s' => q _ H' s'.fr .non
  | bk ds => cases e2
  | ct ds => cases e2

/-! ### a def whose last argument is such a list -/
def spO (n : Nat) (F : List D → List D → Option (D × List D)) : Sp := fun vs H Q _ => ∃ (M : MS) (us : List V) (l : Addr) (xs : List V) (args dl : List D) (r : D × List D), vs = us ++ [.ref l] ∧ us.length = n ∧ Ok M H ∧ M l ∧ H l = some (.lst xs) ∧ RpAll M H xs dl ∧ RpAll M H us args ∧ F args dl = some r ∧
  ∀ v H' xs', (∀ a o, a ≠ l → H a = some o → H' a = some o) → H' l = some (.lst xs') → RpAll M H' xs' r.2 → Rp M H' v r.1 → Q v H'
def tApp (g : Sl → Option (List D)) (i : Nat) : TA := fun σ H Q => tPA g σ H fun vs H' => ∃ v, σ[i]? = some (some v) ∧ Q (vs ++ [v]) H'
section
variable {X : Cx} {O : List Nat} {x : Str} {p pos : Pos} {e : Expr} {es : List Expr} {f : Sl → Option D} {g : Sl → Option (List D)} {i : Nat}
theorem pla_nil (hN : X.N[i]? = some x) (hv : Vis X.env.scope x) (hd : (x == ("__debug__" : Str)) = false := by decide) (hcd : (x == ("__classdict__" : Str)) = false := by decide) (hs : starEach [.Name x pos] X.env = (false, eval (.Name x pos) X.env) :: starEach [] X.env := by rfl) : PA X [.Name x pos] (tApp esNil i) :=
  pa_of (pa_cons (pe_var hN hv hd hcd) pa_nil hs) fun σ H Q ⟨M, ds, l, ok, s, e, q⟩ => by
    cases e
    obtain ⟨v, h1, h2⟩ := q [] H (Same.refl H) .nil
    exact ⟨v, h1, h2⟩
theorem pla_cons (ha : PE X e (tP f)) (hr : PA X es (tApp g i)) (hs : starEach (e :: es) X.env = (false, eval e X.env) :: starEach es X.env := by rfl) : PA X (e :: es) (tApp (esCons f g) i) := pa_of (pa_cons ha hr hs) fun σ H Q ⟨M, ds, l, ok, s, e, q⟩ => by
  obtain ⟨d, e1, e⟩ := bind_some e
  obtain ⟨r, e2, e⟩ := bind_some e
  cases e
  exact ⟨M, ds, d, ok, s, e1, fun v H1 s1 r1 => ⟨M, ds, r, ok.same s1, s.same s1, e2, fun vs H2 s2 r2 => by
    obtain ⟨w, h1, h2⟩ := q (v :: vs) H2 (s1.trans s2) (.cons (r1.same s2) r2)
    exact ⟨w, h1, h2⟩⟩⟩
/-- j = f(.., i) -/
def sCallO (O : List Nat) (j i : Nat) (F : List D → List D → Option (D × List D)) (g : Sl → Option (List D)) : S := fun ds => (atO O g ds).bind fun args => match ds[i]? with
  | some (some (.list dl)) => (F args dl).bind fun r => some (.nx ((ds.set i (some (.list r.2))).set j (some r.1)))
  | _ => none
theorem o_call {CX : CXT} {k n j : Nat} {fa : Addr} {fd : FuncData} {ps : List Str} {E : XK} {F : List D → List D → Option (D × List D)} {y : Str} {pos' spos : Pos} (Fk : FnOk X.prog X.w X.K X.mg X.base CX k fa fd ps (spO n F)) (hr : Room k X.A) (hg : Gl X x) (hm : X.mg x = some (.ref fa)) (hk : PySem.W.keepIn X.K (.ref fa) = true) (hb : Binds X.K fd ps []) (hx : Passes CX X E)
    (hi : O.contains i = true) (hj : O.contains j = false) (ha : PA X (e :: es) (tApp g i)) (hl : ∀ ds l, g ds = some l → l.length = n) (hN : X.N.Nodup) (hjN : X.N[j]? = some y) (hy : Loc X.env.scope y) (hf : X.fn y = true ∨ X.env.scope.names.lookup y = some .local := by first | exact .inl rfl | exact .inr rfl | assumption)
    (hdb : (x == ("__debug__" : Str)) = false := by decide) (he : starEach (e :: es) X.env = (false, eval e X.env) :: starEach es X.env := by rfl) (hpl : (backTo pos (starEach es X.env)).any (·.1) = false := by rfl)
    (hs : swapsWith (.Call (.Name x p) (e :: es) [] pos) (some (.Name y pos')) spos.line X.env = pure false := by rfl) :
    PS X (.Assign [.Name y pos'] (.Call (.Name x p) (e :: es) [] pos) spos) (tSO O (sCallO O j i F g)) := ps_of (ps_set hN hjN hy (pe_call Fk hr hg hm hk hb .nil hx ha hdb he hpl) hs hf) fun E' σ H ⟨Z, Mc, L, ds, o, s, e, q⟩ => by
  obtain ⟨args, e1, e2⟩ := bind_some e
  split at e2
  · rename_i dl hds
    obtain ⟨r, e3, e4⟩ := bind_some e2
    cases e4
    obtain ⟨l, xs, dl', e0, e5, m, e6, rl⟩ := s.own i _ hi hds
    cases e0
    refine ⟨ML Mc L, _, args, s.ok, s.mask, e1, fun vs H1 s1 r1 => ⟨.ref l, e5, ?_⟩⟩
    have s2 := s.same s1
    show spO n F ((vs ++ [V.ref l]) ++ []) H1 _ _
    rw [List.append_nil]
    exact ⟨ML Mc L, vs, l, xs, args, dl, r, rfl, by rw [r1.length]; exact hl _ _ e1, s2.ok, .inr m, s1 _ _ e6, rl.same s1, r1, e3, fun v H' xs' k e7 r7 rv => q _ H' L ((s2.change hi hds e5 m k e7 r7).set hj rv)⟩
  · cases e2
end
end Pu

set_option Elab.async false
set_option linter.all false
set_option maxRecDepth 100000
set_option autoImplicit false
/-! Fs2: (printed) bodies with lists of their own, as functions. -/
namespace Pu
open PySem

def M_one_more : List D → List D → Option (D × List D)
  | [p, y, w], es => (bT (eOp oEq (eOp oIx (eOp oIx (eOp oIx (eVar 1) (eC (.int 1))) (eVar 2)) (eC (.int 0))) (eC (.str "rests"))) [some p, some y, some w, none, none]).bind fun b =>
    if b = true then some (y, es) else (M_stepped [p, y, w]).bind fun r => match r with
      | .tuple [y', e] => if isNon e = true then some (y', es) else if es.length + 1 ≤ lim then some (y', es ++ [e]) else none
      | _ => none
  | _, _ => none

def F_woven : S := (sSeq (sForO [4] (eItems (eVar 2)) (gNameD 3) (sIf (bNot (bT (eChain oLe oLt (eC (.int 0)) (eVar 3) (eCall oLen (esCons (eOp oIx (eVar 1) (eC (.int 0))) esNil))))) sNever sNx)) (sSeq (sNewO 4) (sSeq (sForO [4] (eItems (eVar 2)) (gNameD 3) (sCallO [4] 1 4 M_one_more (esCons (eVar 0) (esCons (eVar 1) (esCons (eVar 3) esNil))))) (sRet (eTup (esCons (eVar 1) (esCons (eVar 4) esNil)))))))
def M_woven : List D → Option D := runF 5 F_woven

def F_finished (n : Nat) : S := (sSeq (sNewO 2) (sSeq (whileD (bNot (bT (eCall M_is_over (esCons (eVar 1) esNil)))) (sForO [2] (eRng (eCall oLen (esCons (eOp oIx (eVar 1) (eC (.int 0))) esNil))) (gNameD 3) (sCallO [2] 1 2 M_one_more (esCons (eVar 0) (esCons (eVar 1) (esCons (eVar 3) esNil))))) n) (sRet (eTup (esCons (eVar 1) (esCons (eVar 2) esNil))))))
def M_finished (n : Nat) : List D → Option D := runF 4 (F_finished n)

def F_l_by_rounds : S := (sSeq (sNewO 2) (sSeq (sForO [2] (eRng (eC (.int 1000))) (gNameD 3) (sSeq (sSetO [2] 4 (eLc 5 (eRng (eCall oLen (esCons (eOp oIx (eVar 1) (eC (.int 1))) esNil))) (bT (eOp oNe (eOp oIx (eOp oIx (eVar 1) (eC (.int 1))) (eVar 5)) (eTup (esCons (eC (.str "rests")) esNil)))) (eVar 5))) (sSeq (sIf (bT (eOp oNe (eCall M_is_over (esCons (eVar 1) esNil)) (eOp oEq (eVar 4) (eLst esNil)))) (sRet (eC .none)) sNx) (sSeq (sIf (bT (eOp oEq (eVar 4) (eLst esNil))) (sRet (eTup (esCons (eVar 1) (esCons (eVar 2) esNil)))) sNx) (sForO [2] (eItems (eVar 4)) (gNameD 5) (sSeq (sSetO [2] 6 (eCall M_stepped (esCons (eVar 0) (esCons (eVar 1) (esCons (eVar 5) esNil))))) (sSeq (sSetO [2] 1 (eOp oIx (eVar 6) (eC (.int 0)))) (sIf (bT (eOp oIsntA (eOp oIx (eVar 6) (eC (.int 1))) (eC .none))) (sAppO [2] 2 (eOp oIx (eVar 6) (eC (.int 1)))) sNx)))))))) (sRet (eC .none))))
def M_l_by_rounds : List D → Option D := runF 7 F_l_by_rounds

def F_l_by_steps : S := (sSeq (sNewO 3) (sSeq (sForO [3] (eItems (eVar 2)) (gNameD 4) (sIf (bT (eOp oNe (eOp oIx (eOp oIx (eVar 1) (eC (.int 1))) (eVar 4)) (eTup (esCons (eC (.str "rests")) esNil)))) (sSeq (sSetO [3] 5 (eCall M_stepped (esCons (eVar 0) (esCons (eVar 1) (esCons (eVar 4) esNil))))) (sSeq (sSetO [3] 1 (eOp oIx (eVar 5) (eC (.int 0)))) (sIf (bT (eOp oIsntA (eOp oIx (eVar 5) (eC (.int 1))) (eC .none))) (sAppO [3] 3 (eOp oIx (eVar 5) (eC (.int 1)))) sNx))) sNx)) (sRet (eTup (esCons (eVar 1) (esCons (eVar 3) esNil))))))
def M_l_by_steps : List D → Option D := runF 6 F_l_by_steps

end Pu

set_option Elab.async false
set_option linter.all false
set_option maxRecDepth 100000
set_option maxHeartbeats 4000000
set_option autoImplicit false
/-! Ow: weavings, whole; rounds. -/
namespace Pu
open PySem

/-- what each step rests on -/
structure Gd (n : Nat) (b : LL) (y : Yard) : Prop where
  ci : CI b y
  bd : Bd n y
  inb : ∀ (p : Nat) (l : List Nat) (c : Nat), b[p]? = some l → c ∈ l → p < c ∧ c < b.length
theorem Gd.start {b s : LL} (P : PlanOk 200 b s) : Gd 200 b (yard0 s) := ⟨CI.start b s P, Bd.start P, P.inb⟩
theorem Gd.mono {n m : Nat} {b : LL} {y : Yard} (G : Gd n b y) (h : n ≤ m) : Gd m b y := ⟨G.ci, G.bd.mono h, G.inb⟩
/-- a step of w, if it doesn't rest -/
def nextY (b : LL) (y : Yard) (w : Nat) : Yard × List Evt := match stepY b y w with
  | some q => (q.1, q.2.toList)
  | none => (y, [])
def runY (b : LL) : Yard → List Nat → Yard × List Evt
  | y, [] => (y, [])
  | y, w :: ws => ((runY b (nextY b y w).1 ws).1, (nextY b y w).2 ++ (runY b (nextY b y w).1 ws).2)
theorem runY_nil {b : LL} {y : Yard} : runY b y [] = (y, []) := rfl
theorem runY_cons {b : LL} {y : Yard} {w : Nat} {ws : List Nat} : runY b y (w :: ws) = ((runY b (nextY b y w).1 ws).1, (nextY b y w).2 ++ (runY b (nextY b y w).1 ws).2) := rfl
theorem stepY_rests {b : LL} {y : Yard} {w : Nat} (hw : w < y.states.length) (h : y.S w = .rests) : stepY b y w = none := by
  unfold stepY
  rw [Yard.S_get hw, h]; rfl
theorem Gd.next {n : Nat} {b : LL} {y : Yard} (G : Gd n b y) {w : Nat} (hw : w < y.rows.length) : Gd (n + 1) b (nextY b y w).1 ∧ (nextY b y w).1.rows.length = y.rows.length ∧ ((y.S w = .rests ∧ nextY b y w = (y, [])) ∨ (y.S w ≠ .rests ∧ ∃ q, stepY b y w = some q ∧ nextY b y w = (q.1, q.2.toList) ∧ Stp b y w q.1 q.2)) := by
  by_cases h : y.S w = .rests
  · have e : nextY b y w = (y, []) := by unfold nextY; rw [stepY_rests (by rw [G.ci.len]; exact hw) h]
    rw [e]
    exact ⟨G.mono (by omega), rfl, .inl ⟨h, rfl⟩⟩
  · obtain ⟨q, hq⟩ := G.ci.can hw h
    have e : nextY b y w = (q.1, q.2.toList) := by unfold nextY; rw [hq]
    obtain ⟨I', S'⟩ := G.ci.step hq (inb_lt G.inb)
    rw [e]
    exact ⟨⟨I', G.bd.step S', G.inb⟩, S'.m', .inr ⟨h, q, hq, rfl, S'⟩⟩
theorem Gd.run {b : LL} : ∀ (ws : List Nat) {n : Nat} {y : Yard} (G : Gd n b y) (hw : ∀ w ∈ ws, w < y.rows.length), Gd (n + ws.length) b (runY b y ws).1 ∧ (runY b y ws).1.rows.length = y.rows.length ∧ (runY b y ws).2.length ≤ ws.length
  | [], n, y, G, _ => ⟨G, rfl, Nat.le_refl _⟩
  | w :: ws, n, y, G, hw => by
    obtain ⟨G1, h1, h2⟩ := G.next (hw w List.mem_cons_self)
    obtain ⟨G2, h3, h4⟩ := Gd.run ws G1 (fun v hv => by rw [h1]; exact hw v (List.mem_cons_of_mem _ hv))
    refine ⟨G2.mono (by rw [List.length_cons]; omega), h3.trans h1, ?_⟩
    have h5 : (nextY b y w).2.length ≤ 1 := by
      rcases h2 with ⟨_, e⟩ | ⟨_, q, _, e, _⟩
      · rw [e]; exact Nat.zero_le _
      · rw [e]
        cases q.2 with
        | none => exact Nat.zero_le _
        | some _ => exact Nat.le_refl _
    show ((nextY b y w).2 ++ (runY b (nextY b y w).1 ws).2).length ≤ ws.length + 1
    rw [List.length_append]
    omega
theorem encO_non : ∀ o : Option Evt, isNon (encO o) = o.isNone
  | none => rfl
  | some (.own _ _) => rfl
  | some (.taken _ _ _) => rfl
  | some (.put _ _) => rfl
  | some (.done _ _) => rfl
  | some (.rests _) => rfl
theorem word_rests (s : W) {ds : Sl} {f : Sl → Option D} (h : f ds = some (encS s)) : bT (eOp oEq (eOp oIx f (eC (.int 0))) (eC (.str "rests"))) ds = some (decide (s = .rests)) := by
  unfold bT
  rw [eOp_ev (eOp_ev h rfl |>.trans (ix_word s)) rfl, eq_word s "rests" sh_rests, rests_word]; rfl
theorem st_ev {y : Yard} {w : Nat} {ds : Sl} {f g : Sl → Option D} (hw : w < y.states.length) (h : f ds = some (encY y)) (hg : g ds = some (.int (w : Int))) : eOp oIx (eOp oIx f (eC (.int 1))) g ds = some (encS (y.S w)) := by
  rw [eOp_ev (eOp_ev h rfl |>.trans oIx1) hg, nth_state (Yard.S_get hw)]
theorem one_ev {n : Nat} {b st : LL} {y : Yard} {w : Nat} {es : List Evt} (G : Gd n b y) (hn : n ≤ 900000) (hw : w < y.rows.length) (he : es.length + 1 ≤ lim) :
    M_one_more [encP b st, encY y, .int (w : Int)] (es.map encE) = some (encY (nextY b y w).1, (es ++ (nextY b y w).2).map encE) := by
  have hl := G.ci.len
  unfold M_one_more
  dsimp only
  rw [word_rests (y.S w) (st_ev (by omega) (eVar_get rfl) (eVar_get rfl)), Option.bind_some]
  obtain ⟨G1, h1, h2⟩ := G.next hw
  rcases h2 with ⟨h0, e⟩ | ⟨h0, q, hq, e, _⟩
  · rw [decide_eq_true h0, if_pos rfl, e, List.append_nil]
  · rw [decide_eq_false h0, if_neg Bool.false_ne_true, stepped_ev hq hl (by have := G.bd.rows; unfold lim; omega) (fun r hr => by have := G.bd.places r hr; unfold lim; omega), Option.bind_some, e]
    dsimp only
    rw [encO_non]
    cases ho : q.2 with
    | none => simp
    | some o =>
      rw [if_neg (by simp), if_pos (by rw [List.length_map]; exact he)]
      simp [encO]
/-! ### weavings -/
theorem wvloop {b st : LL} {A : D} : ∀ (ws : List Nat) {n : Nat} {y : Yard} (es : List Evt) (G : Gd n b y) (x : Option D), n + ws.length ≤ 900000 → es.length + ws.length ≤ 900000 → (∀ w ∈ ws, w < y.rows.length) →
    ∃ x', loopD (gNameD 3) (sCallO [4] 1 4 M_one_more (esCons (eVar 0) (esCons (eVar 1) (esCons (eVar 3) esNil)))) (encN ws) [some (encP b st), some (encY y), some A, x, some (.list (es.map encE))]
      = some (.nx [some (encP b st), some (encY (runY b y ws).1), some A, x', some (.list ((es ++ (runY b y ws).2).map encE))])
  | [], n, y, es, G, x, _, _, _ => ⟨x, by rw [runY_nil, List.append_nil]; rfl⟩
  | w :: ws, n, y, es, G, x, hn, he, hw => by
    rw [List.length_cons] at hn he
    have hw0 := hw w List.mem_cons_self
    obtain ⟨G1, h1, h2⟩ := G.next hw0
    have h5 : (nextY b y w).2.length ≤ 1 := by
      rcases h2 with ⟨_, e⟩ | ⟨_, q, _, e, _⟩
      · rw [e]; exact Nat.zero_le _
      · rw [e]
        cases q.2 with
        | none => exact Nat.zero_le _
        | some _ => exact Nat.le_refl _
    obtain ⟨x', z⟩ := wvloop (A := A) ws (es ++ (nextY b y w).2) G1 (some (.int (w : Int))) (by omega) (by rw [List.length_append]; omega) (fun v hv => by rw [h1]; exact hw v (List.mem_cons_of_mem _ hv))
    refine ⟨x', ?_⟩
    have e1 := one_ev (st := st) (es := es) G (by omega) hw0 (by unfold lim; omega)
    have e2 : sCallO [4] 1 4 M_one_more (esCons (eVar 0) (esCons (eVar 1) (esCons (eVar 3) esNil))) [some (encP b st), some (encY y), some A, some (.int (w : Int)), some (.list (es.map encE))] = some (.nx [some (encP b st), some (encY (nextY b y w).1), some A, some (.int (w : Int)), some (.list ((es ++ (nextY b y w).2).map encE))]) := by
      show ((M_one_more [encP b st, encY y, .int (w : Int)] (es.map encE)).bind _) = _
      rw [e1]; rfl
    show ((sCallO [4] 1 4 M_one_more (esCons (eVar 0) (esCons (eVar 1) (esCons (eVar 3) esNil))) [some (encP b st), some (encY y), some A, some (.int (w : Int)), some (.list (es.map encE))]).bind _) = _
    rw [e2, Option.bind_some]
    dsimp only
    unfold encN at z
    rw [z, runY_cons, List.append_assoc]
theorem chkloop {b st : LL} {y : Yard} {A : D} {f : S} (hf : ∀ (w : Nat) (x5 : Option D), w < y.rows.length → f [some (encP b st), some (encY y), some A, some (.int (w : Int)), x5] = some (.nx [some (encP b st), some (encY y), some A, some (.int (w : Int)), x5])) : ∀ (ws : List Nat) (x : Option D), (∀ w ∈ ws, w < y.rows.length) →
    ∃ x', loopD (gNameD 3) f (encN ws) [some (encP b st), some (encY y), some A, x, none] = some (.nx [some (encP b st), some (encY y), some A, x', none])
  | [], x, _ => ⟨x, rfl⟩
  | w :: ws, x, hw => by
    obtain ⟨x', z⟩ := chkloop hf ws (some (.int (w : Int))) (fun v hv => hw v (List.mem_cons_of_mem _ hv))
    refine ⟨x', ?_⟩
    show ((f [some (encP b st), some (encY y), some A, some (.int (w : Int)), none]).bind _) = _
    rw [hf w none (hw w List.mem_cons_self), Option.bind_some]
    exact z
theorem lenR_ev {y : Yard} {ds : Sl} {f : Sl → Option D} (h : f ds = some (encY y)) : eCall oLen (esCons (eOp oIx f (eC (.int 0))) esNil) ds = some (.int (y.rows.length : Int)) := by
  rw [q_call (q_cons (eOp_ev h rfl |>.trans oIx0) rfl)]
  show some (PyData.int ((y.rows.map encR).length : Int)) = _
  rw [List.length_map]
theorem lenS_ev {y : Yard} {ds : Sl} {f : Sl → Option D} (h : f ds = some (encY y)) : eCall oLen (esCons (eOp oIx f (eC (.int 1))) esNil) ds = some (.int (y.states.length : Int)) := by
  rw [q_call (q_cons (eOp_ev h rfl |>.trans oIx1) rfl)]
  show some (PyData.int ((y.states.map encS).length : Int)) = _
  rw [List.length_map]
theorem chk_ev {b st : LL} {y : Yard} {A : D} (w : Nat) (x5 : Option D) (hw : w < y.rows.length) : sIf (bNot (bT (eChain oLe oLt (eC (.int 0)) (eVar 3) (eCall oLen (esCons (eOp oIx (eVar 1) (eC (.int 0))) esNil))))) sNever sNx [some (encP b st), some (encY y), some A, some (.int (w : Int)), x5] = some (.nx [some (encP b st), some (encY y), some A, some (.int (w : Int)), x5]) := by
  have e : bT (eChain oLe oLt (eC (.int 0)) (eVar 3) (eCall oLen (esCons (eOp oIx (eVar 1) (eC (.int 0))) esNil))) [some (encP b st), some (encY y), some A, some (.int (w : Int)), x5] = some true := by
    unfold bT eChain
    rw [lenR_ev (eVar_get rfl)]
    have h1 : (0 : Int) ≤ (w : Int) := by omega
    have h2 : (w : Int) < (y.rows.length : Int) := by omega
    simp [eC, eVar, oLe, oLt, h1, h2]
  rw [q_iff (by unfold bNot; rw [e]; rfl)]
  rfl
theorem woven_ev {n : Nat} {b st : LL} {y : Yard} {ws : List Nat} (G : Gd n b y) (hn : n + ws.length ≤ 900000) (hw : ∀ w ∈ ws, w < y.rows.length) {A : D} (hA : itemsD A = some (encN ws)) :
    M_woven [encP b st, encY y, A] = some (.tuple [encY (runY b y ws).1, .list ((runY b y ws).2.map encE)]) := by
  have hu : M_woven [encP b st, encY y, A] = (F_woven [some (encP b st), some (encY y), some A, none, none]).bind endD := rfl
  rw [hu]
  unfold F_woven
  obtain ⟨x1, z1⟩ := chkloop (b := b) (st := st) (y := y) (A := A) chk_ev ws none hw
  obtain ⟨x2, z2⟩ := wvloop (st := st) (A := A) ws [] G x1 hn (by simp; omega) hw
  have it : ∀ x3 x4, atO [4] (eItems (eVar 2)) [some (encP b st), some (encY y), some A, x3, x4] = some (encN ws) := fun x3 x4 => by
    show (itemsD A) = _
    exact hA
  have f1 : ∀ {f : S} {x3 x4 : Option D} {o : Out}, loopD (gNameD 3) f (encN ws) [some (encP b st), some (encY y), some A, x3, x4] = some o → sForO [4] (eItems (eVar 2)) (gNameD 3) f [some (encP b st), some (encY y), some A, x3, x4] = some o := fun {f x3 x4 o} h => by
    unfold sForO
    rw [it, Option.bind_some]
    exact h
  rw [q_seq (f1 z1), q_seq (show sNewO 4 [some (encP b st), some (encY y), some A, x1, none] = some (.nx [some (encP b st), some (encY y), some A, x1, some (.list ([].map encE))]) from rfl), q_seq (f1 z2)]
  rw [List.nil_append, q_ret (q_tup (q_cons (eVar_get rfl) (q_cons (eVar_get rfl) rfl)) (by simp))]
  rfl
theorem runY_app {b : LL} : ∀ (u v : List Nat) (y : Yard), runY b y (u ++ v) = ((runY b (runY b y u).1 v).1, (runY b y u).2 ++ (runY b (runY b y u).1 v).2)
  | [], v, y => rfl
  | w :: u, v, y => by
    rw [List.cons_append, runY_cons, runY_cons, runY_app u v]
    simp only [List.append_assoc]
/-! ### rounds -/
def roundY (b : LL) (y : Yard) : Yard × List Evt := runY b y (List.range y.rows.length)
def finR (b : LL) : Nat → Yard → Option (Yard × List Evt)
  | 0, _ => none
  | k + 1, y => if overY y = true then some (y, []) else (finR b k (roundY b y).1).map fun r => (r.1, (roundY b y).2 ++ r.2)
theorem finloop {b st : LL} : ∀ (k : Nat) {n : Nat} {y : Yard} (es : List Evt) (G : Gd n b y) (x : Option D) (r : Yard × List Evt), finR b k y = some r → n + 12 * k ≤ 900000 → es.length + 12 * k ≤ 900000 →
    ∃ x', whileD (bNot (bT (eCall M_is_over (esCons (eVar 1) esNil)))) (sForO [2] (eRng (eCall oLen (esCons (eOp oIx (eVar 1) (eC (.int 0))) esNil))) (gNameD 3) (sCallO [2] 1 2 M_one_more (esCons (eVar 0) (esCons (eVar 1) (esCons (eVar 3) esNil))))) k [some (encP b st), some (encY y), some (.list (es.map encE)), x]
      = some (.nx [some (encP b st), some (encY r.1), some (.list ((es ++ r.2).map encE)), x'])
  | 0, n, y, es, G, x, r, h, _, _ => by cases h
  | k + 1, n, y, es, G, x, r, h, hn, he => by
    have hr := G.bd.rows
    have e0 : bNot (bT (eCall M_is_over (esCons (eVar 1) esNil))) [some (encP b st), some (encY y), some (.list (es.map encE)), x] = some (!overY y) := by
      unfold bNot bT
      rw [q_call (q_cons (eVar_get rfl) rfl), is_over_ev y (by have := G.ci.len; unfold lim; omega)]; rfl
    unfold whileD
    rw [e0, Option.bind_some]
    unfold finR at h
    by_cases ho : overY y = true
    · rw [if_pos ho] at h
      cases h
      rw [ho]
      exact ⟨x, by simp⟩
    · rw [if_neg ho] at h
      rw [if_pos (by simpa using ho)]
      cases hf : finR b k (roundY b y).1 with
      | none => rw [hf] at h; cases h
      | some r' =>
        rw [hf] at h
        cases h
        have hw : ∀ w ∈ List.range y.rows.length, w < y.rows.length := fun w h => List.mem_range.mp h
        obtain ⟨G1, h1, h2⟩ := Gd.run (List.range y.rows.length) G hw
        rw [List.length_range] at G1 h2
        -- one round
        have rl : ∀ (ws : List Nat) {n : Nat} {y : Yard} (es : List Evt) (G : Gd n b y) (x : Option D), n + ws.length ≤ 900000 → es.length + ws.length ≤ 900000 → (∀ w ∈ ws, w < y.rows.length) →
            ∃ x', loopD (gNameD 3) (sCallO [2] 1 2 M_one_more (esCons (eVar 0) (esCons (eVar 1) (esCons (eVar 3) esNil)))) (encN ws) [some (encP b st), some (encY y), some (.list (es.map encE)), x]
              = some (.nx [some (encP b st), some (encY (runY b y ws).1), some (.list ((es ++ (runY b y ws).2).map encE)), x']) := by
          intro ws
          induction ws with
          | nil => intro n y es G x _ _ _; exact ⟨x, by rw [runY_nil, List.append_nil]; rfl⟩
          | cons w ws ih =>
            intro n y es G x hn he hw
            rw [List.length_cons] at hn he
            have hw0 := hw w List.mem_cons_self
            obtain ⟨G1, h1, h2⟩ := G.next hw0
            have h5 : (nextY b y w).2.length ≤ 1 := by
              rcases h2 with ⟨_, e⟩ | ⟨_, q, _, e, _⟩
              · rw [e]; exact Nat.zero_le _
              · rw [e]
                cases q.2 with
                | none => exact Nat.zero_le _
                | some _ => exact Nat.le_refl _
            obtain ⟨x', z⟩ := ih (es ++ (nextY b y w).2) G1 (some (.int (w : Int))) (by omega) (by rw [List.length_append]; omega) (fun v hv => by rw [h1]; exact hw v (List.mem_cons_of_mem _ hv))
            refine ⟨x', ?_⟩
            have e1 := one_ev (st := st) (es := es) G (by omega) hw0 (by unfold lim; omega)
            have e2 : sCallO [2] 1 2 M_one_more (esCons (eVar 0) (esCons (eVar 1) (esCons (eVar 3) esNil))) [some (encP b st), some (encY y), some (.list (es.map encE)), some (.int (w : Int))] = some (.nx [some (encP b st), some (encY (nextY b y w).1), some (.list ((es ++ (nextY b y w).2).map encE)), some (.int (w : Int))]) := by
              show ((M_one_more [encP b st, encY y, .int (w : Int)] (es.map encE)).bind _) = _
              rw [e1]; rfl
            show ((sCallO [2] 1 2 M_one_more (esCons (eVar 0) (esCons (eVar 1) (esCons (eVar 3) esNil))) [some (encP b st), some (encY y), some (.list (es.map encE)), some (.int (w : Int))]).bind _) = _
            rw [e2, Option.bind_some]
            dsimp only
            unfold encN at z
            rw [z, runY_cons, List.append_assoc]
        obtain ⟨x1, z1⟩ := rl (List.range y.rows.length) es G x (by rw [List.length_range]; omega) (by rw [List.length_range]; omega) hw
        obtain ⟨x2, z2⟩ := finloop (st := st) k (es ++ (roundY b y).2) G1 x1 r' hf (by omega) (by rw [List.length_append]; unfold roundY; omega)
        refine ⟨x2, ?_⟩
        have it : atO [2] (eRng (eCall oLen (esCons (eOp oIx (eVar 1) (eC (.int 0))) esNil))) [some (encP b st), some (encY y), some (.list (es.map encE)), x] = some (encN (List.range y.rows.length)) := by
          unfold atO eRng
          rw [lenR_ev (y := y) (eVar_get rfl), Option.bind_some]
          dsimp only
          rw [if_pos (by omega)]
          unfold rngD encN
          rw [Int.toNat_natCast]
        have e3 : sForO [2] (eRng (eCall oLen (esCons (eOp oIx (eVar 1) (eC (.int 0))) esNil))) (gNameD 3) (sCallO [2] 1 2 M_one_more (esCons (eVar 0) (esCons (eVar 1) (esCons (eVar 3) esNil)))) [some (encP b st), some (encY y), some (.list (es.map encE)), x] = some (.nx [some (encP b st), some (encY (roundY b y).1), some (.list ((es ++ (roundY b y).2).map encE)), x1]) := by
          unfold sForO
          rw [it, Option.bind_some]
          exact z1
        rw [e3, Option.bind_some]
        dsimp only
        unfold roundY at z2 ⊢
        rw [z2, List.append_assoc]
theorem finished_ev {k n : Nat} {b st : LL} {y : Yard} {r : Yard × List Evt} (G : Gd n b y) (h : finR b k y = some r) (hn : n + 12 * k ≤ 900000) :
    M_finished k [encP b st, encY y] = some (.tuple [encY r.1, .list (r.2.map encE)]) := by
  have hu : M_finished k [encP b st, encY y] = (F_finished k [some (encP b st), some (encY y), none, none]).bind endD := rfl
  rw [hu]
  unfold F_finished
  obtain ⟨x, z⟩ := finloop (st := st) k [] G none r h hn (by simp; omega)
  rw [q_seq (show sNewO 2 [some (encP b st), some (encY y), none, none] = some (.nx [some (encP b st), some (encY y), some (.list ([].map encE)), none]) from rfl), q_seq z]
  rw [List.nil_append, q_ret (q_tup (q_cons (eVar_get rfl) (q_cons (eVar_get rfl) rfl)) (by simp))]
  rfl
end Pu

set_option Elab.async false
set_option linter.all false
set_option maxRecDepth 100000
set_option maxHeartbeats 4000000
set_option autoImplicit false
/-! Abs: plain rows; a step's event done upon them. -/
namespace Pu
open PySem

structure Pl where
  rows : List (List Nat)
  holds : List (Option (Nat × Nat))
  rests : List Bool
def Pl.R (p : Pl) (w : Nat) : List Nat := (p.rows[w]?).getD []
def Pl.H (p : Pl) (w : Nat) : Option (Nat × Nat) := (p.holds[w]?).getD none
def Pl.Z (p : Pl) (w : Nat) : Bool := (p.rests[w]?).getD false
def stand (r : Row) (s : W) : List Nat := (r.places.drop r.head.toNat).take (tl r s - r.head).toNat
def heldW : W → Option (Nat × Nat)
  | .holds t n => some (t, n)
  | .wrote t n => some (t, n)
  | .mends _ (some c) => some (c, 0)
  | _ => none
def absY (y : Yard) : Pl := ⟨(List.range y.rows.length).map fun w => stand (y.R w) (y.S w), (List.range y.rows.length).map fun w => heldW (y.S w), (List.range y.rows.length).map fun w => decide (y.S w = .rests)⟩
/-- an event done upon plain rows -/
def goP (b : LL) (p : Pl) : Evt → Option Pl
  | .own w t => if w < p.rows.length ∧ p.Z w = false ∧ p.H w = none ∧ (p.R w).getLast? = some t then some ⟨p.rows.set w (p.R w).dropLast, p.holds.set w (some (t, 0)), p.rests⟩ else none
  | .taken w o t => if w < p.rows.length ∧ p.Z w = false ∧ p.H w = none ∧ o < p.rows.length ∧ o ≠ w ∧ (p.R o).head? = some t then some ⟨p.rows.set o (p.R o).tail, p.holds.set w (some (t, 0)), p.rests⟩ else none
  | .put w t => if w < p.rows.length ∧ p.Z w = false then (p.H w).bind fun h => (b[h.1]?).bind fun l => if l[h.2]? = some t then some ⟨p.rows.set w (p.R w ++ [t]), p.holds.set w (some (h.1, h.2 + 1)), p.rests⟩ else none else none
  | .done w t => if w < p.rows.length ∧ p.Z w = false then (p.H w).bind fun h => (b[h.1]?).bind fun l => if h.1 = t ∧ h.2 = l.length then some ⟨p.rows, p.holds.set w none, p.rests⟩ else none else none
  | .rests w => if w < p.rows.length ∧ p.Z w = false ∧ p.H w = none ∧ p.R w = [] then some ⟨p.rows, p.holds, p.rests.set w true⟩ else none
def goPs (b : LL) : Pl → List Evt → Option Pl
  | p, [] => some p
  | p, e :: es => (goP b p e).bind fun q => goPs b q es
theorem goPs_app {b : LL} : ∀ (es fs : List Evt) (p : Pl), goPs b p (es ++ fs) = (goPs b p es).bind fun q => goPs b q fs
  | [], _, _ => rfl
  | e :: es, fs, p => by
    show ((goP b p e).bind fun q => goPs b q (es ++ fs)) = ((goP b p e).bind fun q => goPs b q es).bind _
    cases goP b p e with
    | none => rfl
    | some q => exact goPs_app es fs q
theorem rng_get {α : Type} {m w : Nat} {f : Nat → α} (h : w < m) : ((List.range m).map f)[w]? = some (f w) := by
  rw [List.getElem?_map, List.getElem?_range h]; rfl
theorem rng_none {α : Type} {m w : Nat} {f : Nat → α} (h : ¬ w < m) : ((List.range m).map f)[w]? = none := List.getElem?_eq_none (by simp; omega)
theorem rng_set {α : Type} {m x : Nat} {f g : Nat → α} {a : α} (h : ∀ v, v < m → v ≠ x → f v = g v) (hx : x < m → f x = a) : (List.range m).map f = ((List.range m).map g).set x a := by
  apply List.ext_getElem?
  intro v
  rw [List.getElem?_set]
  by_cases hv : v < m
  · rw [rng_get hv]
    by_cases e : x = v
    · subst e
      rw [if_pos rfl, if_pos (by simpa using hv), hx hv]
    · rw [if_neg e, rng_get hv, h v hv (fun z => e z.symm)]
  · rw [rng_none hv]
    by_cases e : x = v
    · subst e
      rw [if_pos rfl, if_neg (by simpa using hv)]
    · rw [if_neg e, rng_none hv]
theorem rng_eq {α : Type} {m : Nat} {f g : Nat → α} (h : ∀ v, v < m → f v = g v) : (List.range m).map f = (List.range m).map g :=
  List.map_congr_left fun v hv => h v (List.mem_range.mp hv)
theorem absY_R {y : Yard} {w : Nat} (h : w < y.rows.length) : (absY y).R w = stand (y.R w) (y.S w) := by unfold Pl.R absY; rw [rng_get h]; rfl
theorem absY_H {y : Yard} {w : Nat} (h : w < y.rows.length) : (absY y).H w = heldW (y.S w) := by unfold Pl.H absY; rw [rng_get h]; rfl
theorem absY_Z {y : Yard} {w : Nat} (h : w < y.rows.length) : (absY y).Z w = decide (y.S w = .rests) := by unfold Pl.Z absY; rw [rng_get h]; rfl
theorem absY_len {y : Yard} : (absY y).rows.length = y.rows.length := by unfold absY; simp
/-! what stands in a row -/
theorem stand_nil {r : Row} {s : W} (h : tl r s = r.head) : stand r s = [] := by unfold stand; rw [h]; simp
theorem slice_snoc {l : List Nat} {i j : Nat} {t : Nat} (h : i ≤ j) (hj : l[j]? = some t) : (l.drop i).take (j + 1 - i) = (l.drop i).take (j - i) ++ [t] := by
  have e : j + 1 - i = (j - i) + 1 := by omega
  rw [e, List.take_add_one, List.getElem?_drop, Nat.add_sub_cancel' h, hj]; rfl
theorem slice_cons {l : List Nat} {i j : Nat} {t : Nat} (h : i < j) (hi : l[i]? = some t) : (l.drop i).take (j - i) = t :: (l.drop (i + 1)).take (j - (i + 1)) := by
  have hl := (List.getElem?_eq_some_iff.mp hi).1
  rw [List.drop_eq_getElem_cons hl, (List.getElem?_eq_some_iff.mp hi).2]
  have e : j - i = (j - (i + 1)) + 1 := by omega
  rw [e, List.take_succ_cons]
theorem stand_last {r : Row} {s s' : W} {r' : Row} {t : Nat} (h0 : 0 ≤ r.head) (hh : r'.head = r.head) (hp : r'.places = r.places) (h1 : tl r s = tl r' s' + 1) (h2 : r.head ≤ tl r' s') (ha : at? r.places (tl r' s') = some t) : stand r s = stand r' s' ++ [t] := by
  obtain ⟨a0, a1⟩ := at?_some ha
  unfold stand
  rw [hh, hp, h1]
  have e1 : (tl r' s' + 1 - r.head).toNat = (tl r' s').toNat + 1 - r.head.toNat := by omega
  have e2 : (tl r' s' - r.head).toNat = (tl r' s').toNat - r.head.toNat := by omega
  rw [e1, e2, slice_snoc (by omega) a1]
theorem stand_first {r r' : Row} {s : W} {t : Nat} (h0 : 0 ≤ r.head) (hh : r'.head = r.head + 1) (hp : r'.places = r.places) (h1 : tl r' s = tl r s) (h2 : r.head < tl r s) (ha : at? r.places r.head = some t) : stand r s = t :: stand r' s := by
  obtain ⟨a0, a1⟩ := at?_some ha
  unfold stand
  rw [hh, hp, h1]
  have e1 : (tl r s - r.head).toNat = (tl r s).toNat - r.head.toNat := by omega
  have e2 : (tl r s - (r.head + 1)).toNat = (tl r s).toNat - (r.head.toNat + 1) := by omega
  have e3 : (r.head + 1).toNat = r.head.toNat + 1 := by omega
  rw [e1, e2, e3, slice_cons (by omega) a1]
theorem stand_same {r r' : Row} {s s' : W} (hh : r'.head = r.head) (hp : r'.places = r.places) (h1 : tl r' s' = tl r s) : stand r' s' = stand r s := by
  unfold stand; rw [hh, hp, h1]
theorem stand_put {r : Row} {s s' : W} {c : Nat} (h0 : 0 ≤ r.head) (h1 : r.head ≤ tl r s) (h2 : tl r s ≤ (r.places.length : Int)) (h3 : tl r s = r.tail) (h4 : tl ⟨r.head, r.tail, putIn r.places r.tail.toNat c⟩ s' = r.tail) : stand ⟨r.head, r.tail, putIn r.places r.tail.toNat c⟩ s' = stand r s := by
  unfold stand
  rw [h3, h4]
  dsimp only
  apply List.ext_getElem?
  intro i
  rw [List.getElem?_take, List.getElem?_take]
  by_cases hi : i < (r.tail - r.head).toNat
  · rw [if_pos hi, if_pos hi, List.getElem?_drop, List.getElem?_drop]
    exact putIn_other (by omega) (by omega)
  · rw [if_neg hi, if_neg hi]
/-- what a step does to one's own row, and what one holds -/
inductive OwnE (b : LL) (w : Nat) (R : List Nat) (h : Option (Nat × Nat)) (R' : List Nat) (h' : Option (Nat × Nat)) (z' : Bool) : Option Evt → Prop
  | non : R' = R → h' = h → z' = false → OwnE b w R h R' h' z' none
  | own (t : Nat) : h = none → R = R' ++ [t] → h' = some (t, 0) → z' = false → OwnE b w R h R' h' z' (some (.own w t))
  | put (p n : Nat) (l : List Nat) (c : Nat) : h = some (p, n) → b[p]? = some l → l[n]? = some c → R' = R ++ [c] → h' = some (p, n + 1) → z' = false → OwnE b w R h R' h' z' (some (.put w c))
  | done (t : Nat) (l : List Nat) : h = some (t, l.length) → b[t]? = some l → R' = R → h' = none → z' = false → OwnE b w R h R' h' z' (some (.done w t))
  | rests : h = none → R = [] → R' = [] → h' = none → z' = true → OwnE b w R h R' h' z' (some (.rests w))
theorem trA_abs {b : LL} {m w x : Nat} {r r' : Row} {s s' : W} {e : Option Evt} (tr : Tr b m w x r s r' s' e) (R : RowI b r s) (hk : isK s = false) : OwnE b w (stand r s) (heldW s) (stand r' s') (heldW s') (decide (s' = .rests)) e := by
  obtain ⟨h0, ht, hl, tt, pl, st⟩ := R
  cases tr with
  | free => exact .non (stand_same rfl rfl (by dsimp only [tl]; omega)) rfl rfl
  | look1 _ t h1 h2 => exact .own t rfl (stand_last h0 rfl rfl rfl (by dsimp only [tl]; omega) h2) rfl rfl
  | look2 _ h1 => exact .non (stand_same rfl rfl rfl) rfl rfl
  | look3 _ h1 => exact .non (stand_same rfl rfl rfl) rfl rfl
  | last1 _ h t h1 h2 =>
    dsimp only [StI] at st
    refine .own t rfl ?_ rfl rfl
    have e1 : stand ⟨r.head + 1, r.tail, r.places⟩ (.mends (h + 1) (some t)) = [] := stand_nil (by dsimp only [tl]; omega)
    rw [e1, stand_first (r' := ⟨r.head + 1, r.tail, r.places⟩) h0 rfl rfl rfl (by dsimp only [tl]; omega) (by rw [h1]; exact h2), stand_nil (r := ⟨r.head + 1, r.tail, r.places⟩) (by dsimp only [tl]; omega)]; rfl
  | last2 _ h h1 =>
    dsimp only [StI, tl] at *
    exact .non (by rw [stand_nil (by dsimp only [tl]; omega), stand_nil (by dsimp only [tl]; omega)]) rfl rfl
  | mend1 _ t c =>
    dsimp only [StI, tl] at *
    exact .non (stand_same rfl rfl rfl) rfl rfl
  | mend2 _ t h1 =>
    dsimp only [StI, tl] at *
    exact .rests rfl (stand_nil (by dsimp only [tl]; omega)) (stand_nil (by dsimp only [tl]; omega)) rfl rfl
  | mend3 _ t h1 =>
    dsimp only [StI, tl] at *
    exact .non (stand_same rfl rfl rfl) rfl rfl
  | holds1 _ t n l c hl1 hc h1 => exact .non (stand_put h0 ht hl rfl rfl) rfl rfl
  | holds2 _ t n l hl1 h1 =>
    obtain ⟨l', e1, e2⟩ := st
    rw [hl1] at e1; cases e1
    have e : n = l.length := by omega
    subst e
    exact .done t l rfl hl1 (stand_same rfl rfl rfl) rfl rfl
  | wrote _ t n l c hl1 hc =>
    obtain ⟨l', c', e1, e2, e3⟩ := st
    rw [hl1] at e1; cases e1
    rw [hc] at e2; cases e2
    exact .put t n l c rfl hl1 hc (stand_last (s := .holds t (n + 1)) (s' := .wrote t n) (r := ⟨r.head, r.tail + 1, r.places⟩) (r' := r) h0 rfl rfl rfl (by dsimp only [tl] at ht ⊢; exact ht) e3) rfl rfl
  | _ => cases hk
theorem tl_head (r : Row) (s : W) (h : Int) : tl ⟨h, r.tail, r.places⟩ s = tl r s := by cases s <;> rfl
/-- what a step at another one's row does -/
theorem trB_abs {b : LL} {m w x : Nat} {r r' rw_ : Row} {s s' so : W} {e : Option Evt} (tr : Tr b m w x r s r' s' e) (hk : isK s = true) (Rw : RowI b rw_ s) (Ro : RowI b r so) (Th : ThI m r so s) :
    stand rw_ s' = stand rw_ s ∧ heldW s = none ∧ ((e = none ∧ r' = r ∧ heldW s' = none ∧ s' ≠ .rests) ∨ (e = some (.rests w) ∧ r' = r ∧ heldW s' = none ∧ s' = .rests ∧ stand rw_ s = []) ∨ ∃ t, e = some (.taken w x t) ∧ stand r so = t :: stand r' so ∧ heldW s' = some (t, 0) ∧ s' ≠ .rests) := by
  cases tr with
  | looks k => exact ⟨stand_same rfl rfl rfl, rfl, .inl ⟨rfl, rfl, rfl, by simp⟩⟩
  | seen1 _ k h h1 => exact ⟨stand_same rfl rfl rfl, rfl, .inl ⟨rfl, rfl, rfl, by simp⟩⟩
  | seen2 _ k h h1 h2 => exact ⟨stand_same rfl rfl rfl, rfl, .inl ⟨rfl, rfl, rfl, by simp⟩⟩
  | seen3 _ k h h1 h2 => exact ⟨stand_same rfl rfl rfl, rfl, .inr (.inl ⟨rfl, rfl, rfl, rfl, stand_nil (by have := Rw.st; dsimp only [StI, tl] at *; omega)⟩)⟩
  | reads _ k h t h1 => exact ⟨stand_same rfl rfl rfl, rfl, .inl ⟨rfl, rfl, rfl, by simp⟩⟩
  | tries1 _ k h t h1 =>
    obtain ⟨k1, k2, k3, k4, k5⟩ := Th
    obtain ⟨k6, k7⟩ := k5 h1
    exact ⟨stand_same rfl rfl rfl, rfl, .inr (.inr ⟨t, rfl, stand_first (r' := ⟨r.head + 1, r.tail, r.places⟩) Ro.h0 rfl rfl (tl_head r so (r.head + 1)) (by omega) (by rw [h1]; exact k7), rfl, by simp⟩)⟩
  | tries2 _ k h t h1 => exact ⟨stand_same rfl rfl rfl, rfl, .inl ⟨rfl, rfl, rfl, by simp⟩⟩
  | _ => cases hk
theorem rests_eq {s : W} {z : Bool} (h : decide (s = .rests) = z) : (decide (s = .rests)) = z := h
/-- a step's event, done upon the plain rows of the yard -/
theorem step_go {b : LL} {y y' : Yard} {w : Nat} {e : Option Evt} (I : CI b y) (S : Stp b y w y' e) : goPs b (absY y) e.toList = some (absY y') := by
  obtain ⟨hw, hs, hm, x, r', s', hx, rfl, tr, ha, hb⟩ := S
  have hws : w < y.states.length := by rw [I.len]; exact hw
  have hR : ∀ v, (Yard.mk (y.rows.set x r') (y.states.set w s')).R v = if v = x then r' else y.R v := fun v => R_set y x v r' _ hx
  have hS : ∀ v, (Yard.mk (y.rows.set x r') (y.states.set w s')).S v = if v = w then s' else y.S v := fun v => S_set y w v s' _ hws
  have hl : (y.rows.set x r').length = y.rows.length := by simp
  have z0 : (absY y).Z w = false := by rw [absY_Z hw]; exact decide_eq_false hs
  have hH : (absY y).H w = heldW (y.S w) := absY_H hw
  have hl0 : w < (absY y).rows.length := by rw [absY_len]; exact hw
  have hrest : ∀ z, decide (s' = .rests) = z → (absY ⟨y.rows.set x r', y.states.set w s'⟩).rests = (absY y).rests.set w z := fun z hz => by
    unfold absY; dsimp only; rw [hl]
    exact rng_set (fun v _ hv => by rw [hS, if_neg hv]) (fun _ => by rw [hS, if_pos rfl]; exact hz)
  have hhold : ∀ h, heldW s' = h → (absY ⟨y.rows.set x r', y.states.set w s'⟩).holds = (absY y).holds.set w h := fun z hz => by
    unfold absY; dsimp only; rw [hl]
    exact rng_set (fun v _ hv => by rw [hS, if_neg hv]) (fun _ => by rw [hS, if_pos rfl]; exact hz)
  have same_rest : decide (s' = .rests) = false → (absY ⟨y.rows.set x r', y.states.set w s'⟩).rests = (absY y).rests := fun hz => by
    unfold absY; dsimp only; rw [hl]
    exact rng_eq fun v hv => by
      rw [hS]
      by_cases e : v = w
      · rw [if_pos e, e, hz, decide_eq_false hs]
      · rw [if_neg e]
  have same_hold : heldW s' = heldW (y.S w) → (absY ⟨y.rows.set x r', y.states.set w s'⟩).holds = (absY y).holds := fun hz => by
    unfold absY; dsimp only; rw [hl]
    exact rng_eq fun v hv => by
      rw [hS]
      by_cases e : v = w
      · rw [if_pos e, e, hz]
      · rw [if_neg e]
  have mkPl : ∀ (p q : Pl), p.rows = q.rows → p.holds = q.holds → p.rests = q.rests → p = q := fun p q h1 h2 h3 => by cases p; cases q; cases h1; cases h2; cases h3; rfl
  by_cases hk : isK (y.S w) = false
  · have hxw := ha hk
    subst hxw
    have O := trA_abs tr (I.own x hw) hk
    have hRw : (absY y).R x = stand (y.R x) (y.S x) := absY_R hw
    have hrows : ∀ l, stand r' s' = l → (absY ⟨y.rows.set x r', y.states.set x s'⟩).rows = (absY y).rows.set x l := fun l hz => by
      unfold absY; dsimp only; rw [hl]
      exact rng_set (fun v _ hv => by rw [hR, hS, if_neg hv, if_neg hv]) (fun _ => by rw [hR, hS, if_pos rfl, if_pos rfl]; exact hz)
    have same_rows : stand r' s' = stand (y.R x) (y.S x) → (absY ⟨y.rows.set x r', y.states.set x s'⟩).rows = (absY y).rows := fun hz => by
      unfold absY; dsimp only; rw [hl]
      exact rng_eq fun v hv => by
        rw [hR, hS]
        by_cases e : v = x
        · rw [if_pos e, if_pos e, e, hz]
        · rw [if_neg e, if_neg e]
    cases O with
    | non h1 h2 h3 => exact congrArg some (mkPl _ _ (same_rows h1).symm (same_hold h2).symm (same_rest h3).symm)
    | own t h1 h2 h3 h4 =>
      show (goP b (absY y) (.own x t)).bind _ = _
      unfold goP; dsimp only
      rw [if_pos ⟨hl0, z0, by rw [hH, h1], by rw [hRw, h2, List.getLast?_concat]⟩, Option.bind_some]
      refine congrArg some (mkPl _ _ ?_ (hhold _ h3).symm (same_rest h4).symm)
      rw [hRw, h2, List.dropLast_concat]
      exact (hrows _ rfl).symm
    | put p n l c h1 h2 h3 h4 h5 h6 =>
      show (goP b (absY y) (.put x c)).bind _ = _
      unfold goP; dsimp only
      rw [if_pos ⟨hl0, z0⟩, hH, h1, Option.bind_some, h2, Option.bind_some, if_pos h3, Option.bind_some]
      refine congrArg some (mkPl _ _ ?_ (hhold _ h5).symm (same_rest h6).symm)
      rw [hRw]
      exact (hrows _ h4).symm
    | done t l h1 h2 h3 h4 h5 =>
      show (goP b (absY y) (.done x t)).bind _ = _
      unfold goP; dsimp only
      rw [if_pos ⟨hl0, z0⟩, hH, h1, Option.bind_some, h2, Option.bind_some, if_pos ⟨rfl, rfl⟩, Option.bind_some]
      exact congrArg some (mkPl _ _ (same_rows h3).symm (hhold _ h4).symm (same_rest h5).symm)
    | rests h1 h2 h3 h4 h5 =>
      show (goP b (absY y) (.rests x)).bind _ = _
      unfold goP; dsimp only
      rw [if_pos ⟨hl0, z0, by rw [hH, h1], by rw [hRw, h2]⟩, Option.bind_some]
      exact congrArg some (mkPl _ _ (same_rows (by rw [h2, h3])).symm (same_hold (by rw [h4, h1])).symm (hrest _ h5).symm)
  · have hk' : isK (y.S w) = true := by simpa using hk
    obtain ⟨hxo, hne⟩ := hb hk'
    have Th := I.th w hw
    rw [← hxo] at Th
    obtain ⟨b1, b2, b3⟩ := trB_abs tr hk' (I.own w hw) (I.own x hx) Th
    have rowsx : ∀ l, stand r' (y.S x) = l → (absY ⟨y.rows.set x r', y.states.set w s'⟩).rows = (absY y).rows.set x l := fun l hz => by
      unfold absY; dsimp only; rw [hl]
      refine rng_set (fun v _ hv => ?_) (fun _ => by rw [hR, hS, if_pos rfl, if_neg hne]; exact hz)
      rw [hR, hS, if_neg hv]
      by_cases e : v = w
      · rw [if_pos e, e, b1]
      · rw [if_neg e]
    have same_rows : r' = y.R x → (absY ⟨y.rows.set x r', y.states.set w s'⟩).rows = (absY y).rows := fun hz => by
      unfold absY; dsimp only; rw [hl]
      exact rng_eq fun v hv => by
        rw [hR, hS]
        by_cases e : v = x
        · have e' : ¬ v = w := fun z => hne (by rw [← e, z])
          rw [if_pos e, if_neg e', hz, e]
        · rw [if_neg e]
          by_cases e2 : v = w
          · rw [if_pos e2, e2, b1]
          · rw [if_neg e2]
    rcases b3 with ⟨rfl, c1, c2, c3⟩ | ⟨rfl, c1, c2, c3, c4⟩ | ⟨t, rfl, c1, c2, c3⟩
    · exact congrArg some (mkPl _ _ (same_rows c1).symm (same_hold (by rw [c2, b2])).symm (same_rest (decide_eq_false c3)).symm)
    · show (goP b (absY y) (.rests w)).bind _ = _
      unfold goP; dsimp only
      rw [if_pos ⟨hl0, z0, by rw [hH, b2], by rw [absY_R hw, c4]⟩, Option.bind_some]
      exact congrArg some (mkPl _ _ (same_rows c1).symm (same_hold (by rw [c2, b2])).symm (hrest _ (decide_eq_true c3)).symm)
    · show (goP b (absY y) (.taken w x t)).bind _ = _
      unfold goP; dsimp only
      rw [if_pos ⟨hl0, z0, by rw [hH, b2], by rw [absY_len]; exact hx, hne, by rw [absY_R hx, c1]; rfl⟩, Option.bind_some]
      refine congrArg some (mkPl _ _ ?_ (hhold _ c2).symm (same_rest (decide_eq_false c3)).symm)
      rw [absY_R hx, c1, List.tail_cons]
      exact (rowsx _ rfl).symm
/-- all events of a weaving -/
theorem run_go {b : LL} : ∀ (ws : List Nat) {n : Nat} {y : Yard} (G : Gd n b y) (hw : ∀ w ∈ ws, w < y.rows.length), goPs b (absY y) (runY b y ws).2 = some (absY (runY b y ws).1)
  | [], n, y, G, _ => rfl
  | w :: ws, n, y, G, hw => by
    obtain ⟨G1, h1, h2⟩ := G.next (hw w List.mem_cons_self)
    have h3 := run_go ws G1 (fun v hv => by rw [h1]; exact hw v (List.mem_cons_of_mem _ hv))
    rw [runY_cons, goPs_app]
    have h4 : goPs b (absY y) (nextY b y w).2 = some (absY (nextY b y w).1) := by
      rcases h2 with ⟨_, e⟩ | ⟨_, q, _, e, S⟩
      · rw [e]; rfl
      · rw [e]; exact step_go G.ci S
    rw [h4, Option.bind_some, h3]
/-- the plain rows at first -/
def pl0 (s : LL) : Pl := ⟨s, s.map fun _ => none, s.map fun _ => false⟩
theorem absY_start (s : LL) : absY (yard0 s) = pl0 s := by
  have hl : (yard0 s).rows.length = s.length := by unfold yard0; simp
  have hr : ∀ w, w < s.length → (yard0 s).R w = ⟨0, ((s[w]?).getD []).length, (s[w]?).getD []⟩ ∧ (yard0 s).S w = .free := fun w hw => by
    unfold Yard.R Yard.S yard0
    dsimp only
    rw [List.getElem?_map, List.getElem?_map, List.getElem?_eq_getElem hw]
    exact ⟨rfl, rfl⟩
  have ext : ∀ {α : Type} (f : Nat → α) (l : List α), l.length = s.length → (∀ w, w < s.length → l[w]? = some (f w)) → (List.range s.length).map f = l := fun f l h1 h2 => by
    apply List.ext_getElem?
    intro v
    by_cases hv : v < s.length
    · rw [rng_get hv, h2 v hv]
    · rw [rng_none hv, List.getElem?_eq_none (by omega)]
  unfold absY pl0
  rw [hl]
  rw [ext (fun w => stand ((yard0 s).R w) ((yard0 s).S w)) s rfl (fun w hw => by
      rw [(hr w hw).1, (hr w hw).2, List.getElem?_eq_getElem hw]
      unfold stand
      simp [tl]),
    ext (fun w => heldW ((yard0 s).S w)) (s.map fun _ => none) (by simp) (fun w hw => by rw [(hr w hw).2, List.getElem?_map, List.getElem?_eq_getElem hw]; rfl),
    ext (fun w => decide ((yard0 s).S w = .rests)) (s.map fun _ => false) (by simp) (fun w hw => by rw [(hr w hw).2, List.getElem?_map, List.getElem?_eq_getElem hw]; rfl)]
end Pu

set_option Elab.async false
set_option linter.all false
set_option maxRecDepth 100000
set_option maxHeartbeats 4000000
set_option autoImplicit false
/-! Saf: each task is taken at most once, counted. -/
namespace Pu
open PySem

def takes : List Evt → List Nat
  | [] => []
  | .own _ t :: es => t :: takes es
  | .taken _ _ t :: es => t :: takes es
  | _ :: es => takes es
def dones : List Evt → List Nat
  | [] => []
  | .done _ t :: es => t :: dones es
  | _ :: es => dones es
def puts : List Evt → List Nat
  | [] => []
  | .put _ t :: es => t :: puts es
  | _ :: es => puts es
theorem takes_app : ∀ a b : List Evt, takes (a ++ b) = takes a ++ takes b
  | [], _ => rfl
  | e :: a, b => by cases e <;> simp [takes, takes_app a b]
theorem dones_app : ∀ a b : List Evt, dones (a ++ b) = dones a ++ dones b
  | [], _ => rfl
  | e :: a, b => by cases e <;> simp [dones, dones_app a b]
theorem puts_app : ∀ a b : List Evt, puts (a ++ b) = puts a ++ puts b
  | [], _ => rfl
  | e :: a, b => by cases e <;> simp [puts, puts_app a b]
def br (b : LL) (t : Nat) : List Nat := (b[t]?).getD []
theorem br_of {b : LL} {t : Nat} {l : List Nat} (h : b[t]? = some l) : br b t = l := by unfold br; rw [h]; rfl
/-- what a held task counts -/
def hT (g : Nat → Nat) : Option (Nat × Nat) → Nat
  | none => 0
  | some h => g h.1
def hB (b : LL) (x : Nat) : Option (Nat × Nat) → Nat
  | none => 0
  | some h => ((br b h.1).take h.2).count x
structure Saf (b s : LL) (es : List Evt) (p : Pl) : Prop where
  lh : p.holds.length = p.rows.length
  lr : p.rests.length = p.rows.length
  ls : p.rows.length = s.length
  A : ∀ x, (takes es).count x + (p.rows.map (List.count x)).sum = s.flatten.count x + (puts es).count x
  B : ∀ x, (takes es).count x = (dones es).count x + (p.holds.map (hT fun t => if t = x then 1 else 0)).sum
  C : ∀ x, (puts es).count x = ((dones es).map fun d => (br b d).count x).sum + (p.holds.map (hB b x)).sum
theorem sum_set {α : Type} (f : α → Nat) : ∀ (l : List α) (i : Nat) (a c : α), l[i]? = some a → ((l.set i c).map f).sum + f a = (l.map f).sum + f c
  | [], i, a, c, h => by simp at h
  | x :: l, 0, a, c, h => by
    simp at h; subst h
    simp [List.sum_cons]; omega
  | x :: l, i + 1, a, c, h => by
    have z := sum_set f l i a c (by simpa using h)
    rw [List.set_cons_succ, List.map_cons, List.sum_cons, List.map_cons, List.sum_cons]; omega
theorem Saf.start (b s : LL) : Saf b s [] (pl0 s) := by
  have z0 : ∀ (f : Option (Nat × Nat) → Nat), f none = 0 → (((s.map fun _ => none).map f).sum) = 0 := fun f h => by
    rw [List.map_map]
    induction s with
    | nil => rfl
    | cons a s ih => rw [List.map_cons, List.sum_cons, ih]; show f none + 0 = 0; rw [h]
  refine ⟨by unfold pl0; simp, by unfold pl0; simp, rfl, fun x => ?_, fun x => ?_, fun x => ?_⟩
  · show 0 + (s.map (List.count x)).sum = _ + 0
    rw [List.count_flatten]; omega
  · show 0 = 0 + ((s.map fun _ => none).map _).sum
    rw [z0 _ rfl]
  · show 0 = 0 + ((s.map fun _ => none).map _).sum
    rw [z0 _ rfl]
theorem get_of {α : Type} {l : List α} {i : Nat} {d : α} (h : i < l.length) : l[i]? = some ((l[i]?).getD d) := by
  rw [List.getElem?_eq_getElem h]; rfl
theorem snoc_of {l : List Nat} {t : Nat} (h : l.getLast? = some t) : l = l.dropLast ++ [t] := by
  have hn : l ≠ [] := fun e => by rw [e] at h; cases h
  rw [List.getLast?_eq_some_getLast hn] at h
  have e : l.getLast hn = t := Option.some.inj h
  rw [← e, List.dropLast_concat_getLast]
theorem Saf.go {b s : LL} {es : List Evt} {p q : Pl} {e : Evt} (S : Saf b s es p) (h : goP b p e = some q) : Saf b s (es ++ [e]) q := by
  obtain ⟨lh, lr, ls, A, B, C⟩ := S
  have hr : ∀ w, w < p.rows.length → p.rows[w]? = some (p.R w) := fun w hw => get_of hw
  have hh : ∀ w, w < p.rows.length → p.holds[w]? = some (p.H w) := fun w hw => get_of (by omega)
  cases e with
  | own w t =>
    unfold goP at h; dsimp only at h
    split at h
    · rename_i c
      obtain ⟨hw, _, h1, h2⟩ := c
      cases h
      have e1 : p.R w = (p.R w).dropLast ++ [t] := snoc_of h2
      refine ⟨by simp [lh], by simp [lr], by simpa using ls, fun x => ?_, fun x => ?_, fun x => ?_⟩
      · have z := sum_set (List.count x) p.rows w _ (p.R w).dropLast (hr w hw)
        have z2 : (p.R w).count x = (p.R w).dropLast.count x + [t].count x := by rw [← List.count_append, ← e1]
        have := A x
        rw [takes_app, puts_app, List.count_append, List.count_append]
        simp only [takes, puts, List.count_nil]
        omega
      · have z := sum_set (hT fun t => if t = x then 1 else 0) p.holds w _ (some (t, 0)) (hh w hw)
        have := B x
        rw [h1] at z
        rw [takes_app, dones_app, List.count_append, List.count_append]
        simp only [takes, dones, List.count_nil, hT] at z ⊢
        have z3 : [t].count x = if t = x then 1 else 0 := by simp [List.count_cons]
        omega
      · have z := sum_set (hB b x) p.holds w _ (some (t, 0)) (hh w hw)
        have := C x
        rw [h1] at z
        rw [puts_app, dones_app, List.count_append, List.map_append, List.sum_append_nat]
        simp only [puts, dones, List.count_nil, hB, List.take_zero, List.map_nil, List.sum_nil] at z ⊢
        omega
    · cases h
  | taken w o t =>
    unfold goP at h; dsimp only at h
    split at h
    · rename_i c
      obtain ⟨hw, _, h1, ho, _, h2⟩ := c
      cases h
      have e1 : p.R o = t :: (p.R o).tail := by
        cases hz : p.R o with
        | nil => rw [hz] at h2; cases h2
        | cons a l => rw [hz] at h2; cases h2; rfl
      refine ⟨by simp [lh], by simp [lr], by simpa using ls, fun x => ?_, fun x => ?_, fun x => ?_⟩
      · have z := sum_set (List.count x) p.rows o _ (p.R o).tail (hr o ho)
        have z2 : (p.R o).count x = [t].count x + (p.R o).tail.count x := by rw [← List.count_append]; rw [List.singleton_append, ← e1]
        have := A x
        rw [takes_app, puts_app, List.count_append, List.count_append]
        simp only [takes, puts, List.count_nil]
        omega
      · have z := sum_set (hT fun t => if t = x then 1 else 0) p.holds w _ (some (t, 0)) (hh w hw)
        have := B x
        rw [h1] at z
        rw [takes_app, dones_app, List.count_append, List.count_append]
        simp only [takes, dones, List.count_nil, hT] at z ⊢
        have z3 : [t].count x = if t = x then 1 else 0 := by simp [List.count_cons]
        omega
      · have z := sum_set (hB b x) p.holds w _ (some (t, 0)) (hh w hw)
        have := C x
        rw [h1] at z
        rw [puts_app, dones_app, List.count_append, List.map_append, List.sum_append_nat]
        simp only [puts, dones, List.count_nil, hB, List.take_zero, List.map_nil, List.sum_nil] at z ⊢
        omega
    · cases h
  | put w t =>
    unfold goP at h; dsimp only at h
    split at h
    · rename_i c
      obtain ⟨hw, _⟩ := c
      obtain ⟨g, h1, h⟩ := bind_some h
      obtain ⟨l, h2, h⟩ := bind_some h
      split at h
      · rename_i h3
        cases h
        have hb := br_of h2
        refine ⟨by simp [lh], by simp [lr], by simpa using ls, fun x => ?_, fun x => ?_, fun x => ?_⟩
        · have z := sum_set (List.count x) p.rows w _ (p.R w ++ [t]) (hr w hw)
          rw [List.count_append] at z
          have := A x
          rw [takes_app, puts_app, List.count_append, List.count_append]
          simp only [takes, puts, List.count_nil]
          omega
        · have z := sum_set (hT fun t => if t = x then 1 else 0) p.holds w _ (some (g.1, g.2 + 1)) (hh w hw)
          have := B x
          rw [h1] at z
          rw [takes_app, dones_app, List.count_append, List.count_append]
          simp only [takes, dones, List.count_nil, hT] at z ⊢
          omega
        · have z := sum_set (hB b x) p.holds w _ (some (g.1, g.2 + 1)) (hh w hw)
          have := C x
          rw [h1] at z
          rw [puts_app, dones_app, List.count_append, List.map_append, List.sum_append_nat]
          simp only [puts, dones, List.count_nil, hB, List.map_nil, List.sum_nil] at z ⊢
          rw [hb, List.take_add_one, h3, List.count_append] at z
          have z4 : (some t).toList = [t] := rfl
          rw [z4] at z
          omega
      · cases h
    · cases h
  | done w t =>
    unfold goP at h; dsimp only at h
    split at h
    · rename_i c
      obtain ⟨hw, _⟩ := c
      obtain ⟨g, h1, h⟩ := bind_some h
      obtain ⟨l, h2, h⟩ := bind_some h
      split at h
      · rename_i h3
        obtain ⟨h3, h4⟩ := h3
        cases h
        have hb := br_of h2
        refine ⟨by simp [lh], by simp [lr], by simpa using ls, fun x => ?_, fun x => ?_, fun x => ?_⟩
        · have := A x
          rw [takes_app, puts_app, List.count_append, List.count_append]
          simp only [takes, puts, List.count_nil]
          omega
        · have z := sum_set (hT fun t => if t = x then 1 else 0) p.holds w _ none (hh w hw)
          have := B x
          rw [h1] at z
          rw [takes_app, dones_app, List.count_append, List.count_append]
          simp only [takes, dones, List.count_nil, hT] at z ⊢
          have z3 : [t].count x = if t = x then 1 else 0 := by simp [List.count_cons]
          rw [h3] at z
          omega
        · have z := sum_set (hB b x) p.holds w _ none (hh w hw)
          have := C x
          rw [h1] at z
          rw [puts_app, dones_app, List.count_append, List.map_append, List.sum_append_nat]
          simp only [puts, dones, List.count_nil, hB, List.map_nil, List.sum_nil, List.map_cons, List.sum_cons] at z ⊢
          rw [h4, hb, List.take_length, ← hb, h3] at z
          omega
      · cases h
    · cases h
  | rests w =>
    unfold goP at h; dsimp only at h
    split at h
    · cases h
      refine ⟨lh, by simpa using lr, ls, fun x => ?_, fun x => ?_, fun x => ?_⟩
      · have := A x
        rw [takes_app, puts_app, List.count_append, List.count_append]
        simp only [takes, puts, List.count_nil]
        omega
      · have := B x
        rw [takes_app, dones_app, List.count_append, List.count_append]
        simp only [takes, dones, List.count_nil]
        omega
      · have := C x
        rw [puts_app, dones_app, List.count_append, List.map_append, List.sum_append_nat]
        simp only [puts, dones, List.count_nil, List.map_nil, List.sum_nil]
        omega
    · cases h
theorem Saf.gos {b s : LL} : ∀ (fs : List Evt) {es : List Evt} {p q : Pl} (S : Saf b s es p) (h : goPs b p fs = some q), Saf b s (es ++ fs) q
  | [], es, p, q, S, h => by cases h; rw [List.append_nil]; exact S
  | f :: fs, es, p, q, S, h => by
    obtain ⟨r, h1, h2⟩ := bind_some h
    have z := Saf.gos fs (S.go h1) h2
    rw [List.append_assoc] at z
    exact z
/-! ### counting -/
theorem sum_zero (g : Nat → Nat) (t : Nat) : ∀ n, t < n → ((List.range n).map fun p => if p = t then 0 else g p).sum + g t = ((List.range n).map g).sum
  | 0, h => absurd h (Nat.not_lt_zero _)
  | n + 1, h => by
    rw [List.range_succ, List.map_append, List.map_append, List.sum_append_nat, List.sum_append_nat]
    simp only [List.map_cons, List.map_nil, List.sum_cons, List.sum_nil]
    by_cases e : n = t
    · subst e
      have e2 : ((List.range n).map fun p => if p = n then 0 else g p) = (List.range n).map g := List.map_congr_left fun p hp => by
        have := List.mem_range.mp hp
        rw [if_neg (by omega)]
      rw [e2, if_pos rfl]; omega
    · have z := sum_zero g t n (by omega)
      rw [if_neg e]; omega
theorem sum_le_range : ∀ (T : List Nat) (n : Nat) (g : Nat → Nat), (∀ p, 0 < g p → T.count p ≤ 1 ∧ p < n) → (T.map g).sum ≤ ((List.range n).map g).sum
  | [], n, g, _ => Nat.zero_le _
  | t :: T, n, g, h => by
    rw [List.map_cons, List.sum_cons]
    by_cases h0 : g t = 0
    · have z := sum_le_range T n g fun p hp => ⟨by have := (h p hp).1; rw [List.count_cons] at this; omega, (h p hp).2⟩
      omega
    · have hp := h t (by omega)
      rw [List.count_cons_self] at hp
      have hnt : t ∉ T := fun m => by have := List.count_pos_iff.mpr m; omega
      have e : (T.map fun p => if p = t then 0 else g p) = T.map g := List.map_congr_left fun p hm => by
        rw [if_neg (fun (e : p = t) => hnt (by rw [← e]; exact hm))]
      have z := sum_le_range T n (fun p => if p = t then 0 else g p) fun p hp => by
        by_cases e : p = t
        · rw [if_pos e] at hp; omega
        · rw [if_neg e] at hp
          have := h p hp
          rw [List.count_cons] at this
          exact ⟨by omega, this.2⟩
      rw [e] at z
      have z2 := sum_zero g t n hp.2
      omega
theorem brs (b : LL) : (List.range b.length).map (br b) = b := by
  apply List.ext_getElem?
  intro i
  by_cases h : i < b.length
  · rw [rng_get h]
    unfold br
    rw [List.getElem?_eq_getElem h]; rfl
  · rw [rng_none h, List.getElem?_eq_none (by omega)]
theorem count_brs (b : LL) (x : Nat) : ((List.range b.length).map fun p => (br b p).count x).sum = b.flatten.count x := by
  rw [List.count_flatten]
  have e : ((List.range b.length).map fun p => (br b p).count x) = ((List.range b.length).map (br b)).map (List.count x) := by rw [List.map_map]; rfl
  rw [e, brs]
theorem sum_mono {α : Type} {f g : α → Nat} : ∀ (l : List α), (∀ a ∈ l, f a ≤ g a) → (l.map f).sum ≤ (l.map g).sum
  | [], _ => Nat.le_refl _
  | a :: l, h => by
    rw [List.map_cons, List.map_cons, List.sum_cons, List.sum_cons]
    have := h a List.mem_cons_self
    have := sum_mono l fun c hc => h c (List.mem_cons_of_mem _ hc)
    omega
/-- the tasks held, as a list -/
def heldT : List (Option (Nat × Nat)) → List Nat
  | [] => []
  | none :: l => heldT l
  | some h :: l => h.1 :: heldT l
theorem heldT_sum (g : Nat → Nat) : ∀ l : List (Option (Nat × Nat)), (l.map (hT g)).sum = ((heldT l).map g).sum
  | [] => rfl
  | none :: l => by
    rw [List.map_cons, List.sum_cons, heldT_sum g l]
    show 0 + _ = _
    rw [Nat.zero_add]; rfl
  | some h :: l => by
    rw [List.map_cons, List.sum_cons, heldT_sum g l]; rfl
theorem count_one (x : Nat) : ∀ l : List Nat, (l.map fun t => if t = x then 1 else 0).sum = l.count x
  | [] => rfl
  | t :: l => by
    rw [List.map_cons, List.sum_cons, count_one x l, List.count_cons]
    by_cases e : t = x
    · rw [if_pos e, if_pos (by simpa using e)]; omega
    · rw [if_neg e, if_neg (by simpa using e)]; omega
theorem Saf.perm {b s : LL} {es : List Evt} {p : Pl} (S : Saf b s es p) : (takes es).Perm (dones es ++ heldT p.holds) := List.perm_iff_count.mpr fun x => by
  rw [List.count_append, S.B x, heldT_sum, count_one]
theorem Saf.puts_le {b s : LL} {es : List Evt} {p : Pl} (S : Saf b s es p) (x : Nat) : (puts es).count x ≤ ((takes es).map fun t => (br b t).count x).sum := by
  rw [(S.perm.map _).sum_nat, List.map_append, List.sum_append_nat, S.C x, ← heldT_sum]
  have := sum_mono (f := hB b x) (g := hT fun t => (br b t).count x) p.holds fun a _ => by
    cases a with
    | none => exact Nat.le_refl _
    | some h => exact List.Sublist.count_le _ (List.take_sublist _ _)
  omega
theorem br_in {b : LL} (hb : ∀ (p : Nat) (l : List Nat) (c : Nat), b[p]? = some l → c ∈ l → p < c ∧ c < b.length) {p x : Nat} (h : 0 < (br b p).count x) : p < x ∧ x < b.length ∧ p < b.length := by
  have m := List.count_pos_iff.mp h
  unfold br at m
  cases e : b[p]? with
  | none => rw [e] at m; cases m
  | some l =>
    rw [e] at m
    have := hb p l x e m
    have := (List.getElem?_eq_some_iff.mp e).1
    omega
/-- each task is taken at most once -/
theorem Saf.once {b s : LL} {es : List Evt} {p : Pl} (S : Saf b s es p) (P : PlanOk 200 b s) : ∀ x, (takes es).count x ≤ 1 := by
  intro x
  induction x using Nat.strongRecOn with
  | _ x ih =>
    have h1 := S.A x
    have h2 := S.puts_le x
    have h3 := sum_le_range (takes es) b.length (fun t => (br b t).count x) fun q hq => by
      have := br_in P.inb hq
      exact ⟨ih q this.1, this.2.2⟩
    rw [count_brs] at h3
    have h4 := List.nodup_iff_count.mp P.nd x
    rw [List.count_append] at h4
    omega
theorem Saf.put1 {b s : LL} {es : List Evt} {p : Pl} (S : Saf b s es p) (P : PlanOk 200 b s) : ∀ x, (puts es).count x ≤ 1 := fun x => by
  have h2 := S.puts_le x
  have h3 := sum_le_range (takes es) b.length (fun t => (br b t).count x) fun q hq => ⟨S.once P q, (br_in P.inb hq).2.2⟩
  rw [count_brs] at h3
  have h4 := List.nodup_iff_count.mp P.nd x
  rw [List.count_append] at h4
  omega
theorem sum_pos {α : Type} {f : α → Nat} : ∀ {l : List α}, 0 < (l.map f).sum → ∃ a ∈ l, 0 < f a
  | [], h => absurd h (Nat.lt_irrefl _)
  | a :: l, h => by
    rw [List.map_cons, List.sum_cons] at h
    by_cases z : 0 < f a
    · exact ⟨a, List.mem_cons_self, z⟩
    · obtain ⟨c, m, q⟩ := sum_pos (l := l) (f := f) (by omega)
      exact ⟨c, List.mem_cons_of_mem _ m, q⟩
theorem Saf.put_in {b s : LL} {es : List Evt} {p : Pl} (S : Saf b s es p) (P : PlanOk 200 b s) {x : Nat} (h : x ∈ puts es) : x < b.length := by
  have h1 := List.count_pos_iff.mpr h
  have h2 := S.puts_le x
  obtain ⟨t, _, h3⟩ := sum_pos (f := fun t => (br b t).count x) (l := takes es) (by omega)
  exact (br_in P.inb h3).2.1
theorem Saf.take_in {b s : LL} {es : List Evt} {p : Pl} (S : Saf b s es p) (P : PlanOk 200 b s) {x : Nat} (h : x ∈ takes es) : x < b.length := by
  have h1 := List.count_pos_iff.mpr h
  have h2 := S.A x
  by_cases h3 : 0 < s.flatten.count x
  · obtain ⟨q, l, e, m⟩ := mem_flat (List.count_pos_iff.mp h3)
    exact P.ins q l x e m
  · exact S.put_in P (List.count_pos_iff.mp (by omega))
theorem Saf.lens {b s : LL} {es : List Evt} {p : Pl} (S : Saf b s es p) (P : PlanOk 200 b s) : (takes es).length ≤ b.length ∧ (puts es).length ≤ b.length := by
  have z1 := List.Nodup.length_le_of_subset (List.nodup_iff_count.mpr (S.once P)) (l₂ := List.range b.length) fun x hx => List.mem_range.mpr (S.take_in P hx)
  have z2 := List.Nodup.length_le_of_subset (List.nodup_iff_count.mpr (S.put1 P)) (l₂ := List.range b.length) fun x hx => List.mem_range.mpr (S.put_in P hx)
  rw [List.length_range] at z1 z2
  exact ⟨z1, z2⟩
/-- a yard that was come to, with the events on the way -/
structure Rch (n : Nat) (b s : LL) (y : Yard) (es : List Evt) : Prop where
  gd : Gd n b y
  ml : y.rows.length = s.length
  go : goPs b (pl0 s) es = some (absY y)
theorem Rch.start {b s : LL} (P : PlanOk 200 b s) : Rch 200 b s (yard0 s) [] := ⟨Gd.start P, by unfold yard0; simp, by rw [absY_start]; rfl⟩
theorem Rch.run {n : Nat} {b s : LL} {y : Yard} {es : List Evt} (R : Rch n b s y es) {ws : List Nat} (hw : ∀ w ∈ ws, w < s.length) : Rch (n + ws.length) b s (runY b y ws).1 (es ++ (runY b y ws).2) := by
  have hw' : ∀ w ∈ ws, w < y.rows.length := fun w h => by rw [R.ml]; exact hw w h
  obtain ⟨G, h1, _⟩ := Gd.run ws R.gd hw'
  refine ⟨G, h1.trans R.ml, ?_⟩
  rw [goPs_app, R.go, Option.bind_some, run_go ws R.gd hw']
theorem Rch.saf {n : Nat} {b s : LL} {y : Yard} {es : List Evt} (R : Rch n b s y es) : Saf b s es (absY y) := by
  have z := Saf.gos es (Saf.start b s) R.go
  rw [List.nil_append] at z
  exact z
end Pu

set_option Elab.async false
set_option linter.all false
set_option maxRecDepth 100000
set_option maxHeartbeats 4000000
set_option autoImplicit false
/-! Psi: how long it takes till all rest. -/
namespace Pu
open PySem

def phi (m : Nat) (s : W) (hd : Int) : Int := match s with
  | .free => 2 * m + 4
  | .lowered => 2 * m + 3
  | .last _ => 2 * m + 2
  | .mends _ none => 2 * m + 1
  | .mends _ (some _) => 2 * m + 7
  | .holds _ _ => 2 * m + 6
  | .wrote _ _ => 2 * m + 5
  | .rests => 0
  | .looks k => 2 * (m - k) + 2
  | .seen k h => 2 * (m - k) + 1 + (if hd = h then 0 else 4)
  | .reads k h => 2 * (m - k) + (if hd = h then 0 else 4)
  | .tries k h _ => 2 * (m - k) - 1 + (if hd = h then 0 else 4)
def gain (m : Nat) : Option Evt → Int
  | some (.own _ _) => 2 * m + 6
  | some (.taken _ _ _) => 2 * m + 6
  | some (.put _ _) => 2
  | _ => 0
theorem phi_4 (m : Nat) (s : W) (a c : Int) : phi m s a ≤ phi m s c + 4 := by
  cases s with
  | mends t x => cases x <;> (dsimp only [phi]; omega)
  | _ => dsimp only [phi] <;> (try split) <;> (try split) <;> omega
theorem gain_0 (m : Nat) (e : Option Evt) : 0 ≤ gain m e := by
  cases e with
  | none => exact Int.le_refl _
  | some e => cases e <;> (dsimp only [gain]; omega)
def hdO (y : Yard) (w : Nat) : Int := (y.R (otherOf w (kOfW (y.S w)) y.rows.length)).head
/-- the head of the row, and the state, of a step -/
theorem tr_phi {b : LL} {m w x : Nat} {r r' : Row} {s s' : W} {e : Option Evt} (tr : Tr b m w x r s r' s' e) (hm : 1 ≤ m) (Th : isK s = true → 1 ≤ kOfW s ∧ kOfW s < (m : Int)) :
    (gain m e < 8 → r'.head = r.head) ∧ (∀ hd hd', (isK s = true → hd = r.head) → (isK s' = true → kOfW s' = kOfW s → hd' = r'.head) → (isK s = false → isK s' = true → kOfW s' = 1) → phi m s' hd' + 1 ≤ phi m s hd + gain m e) := by
  cases tr with
  | free => exact ⟨fun _ => rfl, fun hd hd' _ _ _ => by dsimp only [phi, gain]; omega⟩
  | look1 _ t h1 h2 => exact ⟨fun _ => rfl, fun hd hd' _ _ _ => by dsimp only [phi, gain]; omega⟩
  | look2 _ h1 => exact ⟨fun _ => rfl, fun hd hd' _ _ _ => by dsimp only [phi, gain]; omega⟩
  | look3 _ h1 => exact ⟨fun _ => rfl, fun hd hd' _ _ _ => by dsimp only [phi, gain]; omega⟩
  | last1 _ h t h1 h2 => exact ⟨fun z => by dsimp only [gain] at z; omega, fun hd hd' _ _ _ => by dsimp only [phi, gain]; omega⟩
  | last2 _ h h1 => exact ⟨fun _ => rfl, fun hd hd' _ _ _ => by dsimp only [phi, gain]; omega⟩
  | mend1 _ t c => exact ⟨fun _ => rfl, fun hd hd' _ _ _ => by dsimp only [phi, gain]; omega⟩
  | mend2 _ t h1 => exact ⟨fun _ => rfl, fun hd hd' _ _ _ => by dsimp only [phi, gain]; omega⟩
  | mend3 _ t h1 => exact ⟨fun _ => rfl, fun hd hd' _ _ _ => by dsimp only [phi, gain]; omega⟩
  | looks k => exact ⟨fun _ => rfl, fun hd hd' h1 h2 _ => by
      have e := h2 rfl rfl
      dsimp only [phi, gain]; rw [e, if_pos rfl]; omega⟩
  | seen1 _ k h h1 => exact ⟨fun _ => rfl, fun hd hd' h1 h2 _ => by
      have e := h2 rfl rfl
      have e1 := h1 rfl
      dsimp only [phi, gain]; rw [e, e1]; split <;> omega⟩
  | seen2 _ k h h1 h2 => exact ⟨fun _ => rfl, fun hd hd' _ _ _ => by dsimp only [phi, gain]; split <;> omega⟩
  | seen3 _ k h h1 h2 =>
    have t := Th rfl
    dsimp only [kOfW] at t
    exact ⟨fun _ => rfl, fun hd hd' _ _ _ => by dsimp only [phi, gain]; split <;> omega⟩
  | reads _ k h t h1 => exact ⟨fun _ => rfl, fun hd hd' h1 h2 _ => by
      have e := h2 rfl rfl
      have e1 := h1 rfl
      dsimp only [phi, gain]; rw [e, e1]; split <;> omega⟩
  | tries1 _ k h t h1 =>
    have t := Th rfl
    dsimp only [kOfW] at t
    exact ⟨fun z => by dsimp only [gain] at z; omega, fun hd hd' _ _ _ => by dsimp only [phi, gain]; split <;> omega⟩
  | tries2 _ k h t h1 => exact ⟨fun _ => rfl, fun hd hd' h2 _ _ => by
      have e := h2 rfl
      dsimp only [phi, gain]; rw [e, if_neg h1]; omega⟩
  | holds1 _ t n l c hl1 hc h1 => exact ⟨fun _ => rfl, fun hd hd' _ _ _ => by dsimp only [phi, gain]; omega⟩
  | holds2 _ t n l hl1 h1 => exact ⟨fun _ => rfl, fun hd hd' _ _ _ => by dsimp only [phi, gain]; omega⟩
  | wrote _ t n l c hl1 hc => exact ⟨fun _ => rfl, fun hd hd' _ _ _ => by dsimp only [phi, gain]; omega⟩
theorem k1_of {b : LL} {m w x : Nat} {r r' : Row} {s s' : W} {e : Option Evt} (tr : Tr b m w x r s r' s' e) : isK s = false → isK s' = true → kOfW s' = 1 := by
  cases tr <;> intro h1 h2 <;> first | rfl | (exact Bool.noConfusion h1) | (exact Bool.noConfusion h2)
theorem psi_step {b : LL} {y y' : Yard} {v : Nat} {e : Option Evt} (I : CI b y) (S : Stp b y v y' e) : (∀ w, w < y.rows.length → phi y.rows.length (y'.S w) (hdO y' w) ≤ phi y.rows.length (y.S w) (hdO y w) + gain y.rows.length e) ∧ phi y.rows.length (y'.S v) (hdO y' v) + 1 ≤ phi y.rows.length (y.S v) (hdO y v) + gain y.rows.length e := by
  obtain ⟨hv, hs, hm, x, r', s', hx, rfl, tr, ha, hb⟩ := S
  have hvs : v < y.states.length := by rw [I.len]; exact hv
  have hR : ∀ u, (Yard.mk (y.rows.set x r') (y.states.set v s')).R u = if u = x then r' else y.R u := fun u => R_set y x u r' _ hx
  have hS : ∀ u, (Yard.mk (y.rows.set x r') (y.states.set v s')).S u = if u = v then s' else y.S u := fun u => S_set y v u s' _ hvs
  obtain ⟨t1, t2⟩ := tr_phi tr I.m1 (fun hk => (I.th v hv).k hk)
  have me : phi y.rows.length s' (hdO ⟨y.rows.set x r', y.states.set v s'⟩ v) + 1 ≤ phi y.rows.length (y.S v) (hdO y v) + gain y.rows.length e := by
    refine t2 _ _ (fun hk => ?_) (fun hk' hkk => ?_) (k1_of tr)
    · unfold hdO
      rw [← (hb hk).1]
    · unfold hdO
      rw [hm, hS, if_pos rfl, hR]
      by_cases hk : isK (y.S v) = true
      · rw [hkk, ← (hb hk).1, if_pos rfl]
      · have hk0 : isK (y.S v) = false := by simpa using hk
        have e1 := k1_of tr hk0 hk'
        rw [hkk] at e1
        exfalso
        cases hz : y.S v <;> rw [hz] at e1 hk0 <;> first | (exact Bool.noConfusion hk0) | (dsimp only [kOfW] at e1; omega)
  refine ⟨fun w hw => ?_, by rw [hS, if_pos rfl]; exact me⟩
  rw [hS]
  by_cases e1 : w = v
  · rw [if_pos e1, e1]; omega
  · rw [if_neg e1]
    by_cases g : gain y.rows.length e < 8
    · have hh : hdO ⟨y.rows.set x r', y.states.set v s'⟩ w = hdO y w := by
        unfold hdO
        rw [hm, hS, if_neg e1, hR]
        by_cases e2 : otherOf w (kOfW (y.S w)) y.rows.length = x
        · rw [if_pos e2, e2, t1 g]
        · rw [if_neg e2]
      rw [hh]
      have := gain_0 y.rows.length e
      omega
    · have := phi_4 y.rows.length (y.S w) (hdO ⟨y.rows.set x r', y.states.set v s'⟩ w) (hdO y w)
      omega
theorem phi_pos {b : LL} {y : Yard} (I : CI b y) {w : Nat} (hw : w < y.rows.length) (h : y.S w ≠ .rests) : 1 ≤ phi y.rows.length (y.S w) (hdO y w) := by
  have T := I.th w hw
  have m1 := I.m1
  cases hs : y.S w with
  | rests => exact absurd hs h
  | mends t x => cases x <;> (dsimp only [phi]; omega)
  | looks k => rw [hs] at T; obtain ⟨a, c⟩ := T; dsimp only [phi]; omega
  | seen k h => rw [hs] at T; obtain ⟨a, c, _⟩ := T; dsimp only [phi]; split <;> omega
  | reads k h => rw [hs] at T; obtain ⟨a, c, _⟩ := T; dsimp only [phi]; split <;> omega
  | tries k h t => rw [hs] at T; obtain ⟨a, c, _⟩ := T; dsimp only [phi]; split <;> omega
  | _ => dsimp only [phi]; omega
theorem phi_max {b : LL} {y : Yard} (I : CI b y) {w : Nat} (hw : w < y.rows.length) : phi y.rows.length (y.S w) (hdO y w) ≤ 2 * y.rows.length + 7 := by
  have T := I.th w hw
  cases hs : y.S w with
  | mends t x => cases x <;> (dsimp only [phi]; omega)
  | looks k => rw [hs] at T; obtain ⟨a, c⟩ := T; dsimp only [phi]; omega
  | seen k h => rw [hs] at T; obtain ⟨a, c, _⟩ := T; dsimp only [phi]; split <;> omega
  | reads k h => rw [hs] at T; obtain ⟨a, c, _⟩ := T; dsimp only [phi]; split <;> omega
  | tries k h t => rw [hs] at T; obtain ⟨a, c, _⟩ := T; dsimp only [phi]; split <;> omega
  | _ => dsimp only [phi]; omega
/-- what is left to worker w -/
def Psi (b : LL) (y : Yard) (es : List Evt) (w : Nat) : Int := phi y.rows.length (y.S w) (hdO y w) + ((2 * y.rows.length + 6 : Nat) : Int) * ((b.length : Int) - (takes es).length) + 2 * ((b.length : Int) - (puts es).length)
theorem gain_of (m : Nat) (o : Option Evt) : gain m o = ((2 * m + 6 : Nat) : Int) * ((takes o.toList).length : Int) + 2 * ((puts o.toList).length : Int) := by
  cases o with
  | none => simp [gain, takes, puts]
  | some e => cases e <;> simp [gain, takes, puts]
theorem psi_next {n : Nat} {b s : LL} {y : Yard} {es : List Evt} (R : Rch n b s y es) {v : Nat} (hv : v < s.length) :
    (∀ w, w < s.length → Psi b (nextY b y v).1 (es ++ (nextY b y v).2) w ≤ Psi b y es w) ∧ (∀ w, w < s.length → y.S w = .rests → (nextY b y v).1.S w = .rests) ∧ (y.S v = .rests ∨ Psi b (nextY b y v).1 (es ++ (nextY b y v).2) v + 1 ≤ Psi b y es v) := by
  obtain ⟨G1, h1, h2⟩ := R.gd.next (w := v) (by rw [R.ml]; exact hv)
  rcases h2 with ⟨h0, e⟩ | ⟨h0, q, hq, e, S⟩
  · rw [e, List.append_nil]
    exact ⟨fun w _ => Int.le_refl _, fun w _ h => h, .inl h0⟩
  · rw [e]
    dsimp only
    obtain ⟨p1, p2⟩ := psi_step R.gd.ci S
    have ex : ∀ w, Psi b q.1 (es ++ q.2.toList) w = phi y.rows.length (q.1.S w) (hdO q.1 w) + ((2 * y.rows.length + 6 : Nat) : Int) * ((b.length : Int) - (takes es).length) + 2 * ((b.length : Int) - (puts es).length) - gain y.rows.length q.2 := fun w => by
      unfold Psi
      rw [S.m', gain_of, takes_app, puts_app, List.length_append, List.length_append]
      simp only [Int.natCast_add, Int.mul_sub, Int.mul_add]
      omega
    refine ⟨fun w hw => ?_, fun w hw h => ?_, .inr ?_⟩
    · rw [ex]
      have := p1 w (by rw [R.ml]; exact hw)
      unfold Psi
      omega
    · obtain ⟨x, r', s', hx, eq, tr, _, _⟩ := S.ex
      have hvs : v < y.states.length := by rw [R.gd.ci.len, R.ml]; exact hv
      rw [eq, S_set y v w s' _ hvs]
      by_cases e : w = v
      · rw [e] at h; exact absurd h h0
      · rw [if_neg e]; exact h
    · rw [ex]
      unfold Psi
      omega
theorem psi_run {b s : LL} : ∀ (ws : List Nat) {n : Nat} {y : Yard} {es : List Evt} (R : Rch n b s y es) (hw : ∀ w ∈ ws, w < s.length),
    (∀ w, w < s.length → Psi b (runY b y ws).1 (es ++ (runY b y ws).2) w ≤ Psi b y es w) ∧ (∀ w, w < s.length → y.S w = .rests → (runY b y ws).1.S w = .rests) ∧ (∀ w, w ∈ ws → (runY b y ws).1.S w = .rests ∨ Psi b (runY b y ws).1 (es ++ (runY b y ws).2) w + 1 ≤ Psi b y es w)
  | [], n, y, es, R, _ => by
    rw [runY_nil, List.append_nil]
    exact ⟨fun _ _ => Int.le_refl _, fun _ _ h => h, fun w h => by cases h⟩
  | v :: ws, n, y, es, R, hw => by
    have hv := hw v List.mem_cons_self
    obtain ⟨a1, a2, a3⟩ := psi_next R hv
    have R1 : Rch (n + 1) b s (nextY b y v).1 (es ++ (nextY b y v).2) := by
      have z := R.run (ws := [v]) (fun w h => by rw [List.mem_singleton.mp h]; exact hv)
      rw [runY_cons, runY_nil, List.append_nil] at z
      exact z
    obtain ⟨c1, c2, c3⟩ := psi_run ws R1 (fun w h => hw w (List.mem_cons_of_mem _ h))
    rw [runY_cons, ← List.append_assoc]
    refine ⟨fun w h => Int.le_trans (c1 w h) (a1 w h), fun w h z => c2 w h (a2 w h z), fun w h => ?_⟩
    rcases List.mem_cons.mp h with rfl | h
    · rcases a3 with z | z
      · exact .inl (c2 w hv (a2 w hv z))
      · exact .inr (by have := c1 w hv; dsimp only; omega)
    · rcases c3 w h with z | z
      · exact .inl z
      · exact .inr (by have := a1 w (hw w (List.mem_cons_of_mem _ h)); dsimp only; omega)
theorem psi_pos {n : Nat} {b s : LL} {y : Yard} {es : List Evt} (R : Rch n b s y es) (P : PlanOk 200 b s) {w : Nat} (hw : w < s.length) (h : y.S w ≠ .rests) : 1 ≤ Psi b y es w := by
  have z := phi_pos R.gd.ci (by rw [R.ml]; exact hw) h
  obtain ⟨l1, l2⟩ := R.saf.lens P
  have z2 : (0 : Int) ≤ ((2 * y.rows.length + 6 : Nat) : Int) * ((b.length : Int) - (takes es).length) := Int.mul_nonneg (by omega) (by omega)
  unfold Psi
  omega
theorem psi_max {n : Nat} {b s : LL} {y : Yard} {es : List Evt} (R : Rch n b s y es) (P : PlanOk 200 b s) {w : Nat} (hw : w < s.length) : Psi b y es w ≤ ((2 * s.length + 7 + (2 * s.length + 6) * b.length + 2 * b.length : Nat) : Int) := by
  have z := phi_max R.gd.ci (w := w) (by rw [R.ml]; exact hw)
  have z2 : ((2 * y.rows.length + 6 : Nat) : Int) * ((b.length : Int) - (takes es).length) ≤ ((2 * y.rows.length + 6 : Nat) : Int) * (b.length : Int) := Int.mul_le_mul_of_nonneg_left (by omega) (by omega)
  rw [← Int.natCast_mul] at z2
  unfold Psi
  rw [R.ml] at z z2 ⊢
  generalize (2 * s.length + 6) * b.length = X at z2 ⊢
  generalize ((2 * s.length + 6 : Nat) : Int) * ((b.length : Int) - (takes es).length) = Y at z2 ⊢
  omega
theorem over_iff {y : Yard} (hl : y.states.length = y.rows.length) : overY y = true ↔ ∀ w, w < y.rows.length → y.S w = .rests := by
  unfold overY
  rw [List.all_eq_true]
  constructor
  · intro h w hw
    have hw' : w < y.states.length := by omega
    have z := h _ (List.mem_of_getElem? (Yard.S_get hw'))
    exact of_decide_eq_true z
  · intro h x hx
    obtain ⟨w, hw⟩ := List.mem_iff_getElem?.mp hx
    have hw' := (List.getElem?_eq_some_iff.mp hw).1
    have := h w (by omega)
    rw [Yard.S_of hw] at this
    exact decide_eq_true this
/-- turns over and over, till all rest -/
def finT (b : LL) (ws : List Nat) : Nat → Yard → Option (Yard × List Evt)
  | 0, _ => none
  | k + 1, y => if overY y = true then some (y, []) else (finT b ws k (runY b y ws).1).map fun r => (r.1, (runY b y ws).2 ++ r.2)
theorem finR_T {b : LL} : ∀ (k : Nat) {n : Nat} {y : Yard} (G : Gd n b y), finR b k y = finT b (List.range y.rows.length) k y
  | 0, n, y, G => rfl
  | k + 1, n, y, G => by
    unfold finR finT
    obtain ⟨G1, h1, _⟩ := Gd.run (List.range y.rows.length) G (fun w h => List.mem_range.mp h)
    have z := finR_T k G1
    rw [h1] at z
    unfold roundY
    rw [z]
theorem finT_ends {b s : LL} (P : PlanOk 200 b s) {ws : List Nat} (hw : ∀ w ∈ ws, w < s.length) (ha : ∀ w, w < s.length → w ∈ ws) : ∀ (k : Nat) {n : Nat} {y : Yard} {es : List Evt} (R : Rch n b s y es), (∀ w, w < s.length → y.S w = .rests ∨ Psi b y es w ≤ (k : Int)) →
    ∃ r, finT b ws (k + 1) y = some r ∧ overY r.1 = true ∧ Rch (n + ws.length * k) b s r.1 (es ++ r.2)
  | 0, n, y, es, R, h => by
    have ho : overY y = true := (over_iff R.gd.ci.len).mpr fun w hw' => by
      rw [R.ml] at hw'
      rcases h w hw' with z | z
      · exact z
      · by_cases e : y.S w = .rests
        · exact e
        · have := psi_pos R P hw' e
          omega
    refine ⟨(y, []), by unfold finT; rw [if_pos ho], ho, ?_⟩
    rw [List.append_nil]
    exact ⟨R.gd.mono (by omega), R.ml, R.go⟩
  | k + 1, n, y, es, R, h => by
    by_cases ho : overY y = true
    · refine ⟨(y, []), by unfold finT; rw [if_pos ho], ho, ?_⟩
      rw [List.append_nil]
      exact ⟨R.gd.mono (by omega), R.ml, R.go⟩
    · obtain ⟨c1, c2, c3⟩ := psi_run ws R hw
      obtain ⟨r, e1, e2, e3⟩ := finT_ends P hw ha k (R.run hw) fun w hw' => by
        rcases c3 w (ha w hw') with z | z
        · exact .inl z
        · rcases h w hw' with z2 | z2
          · exact .inl (c2 w hw' z2)
          · exact .inr (by omega)
      refine ⟨(r.1, (runY b y ws).2 ++ r.2), ?_, e2, ?_⟩
      · rw [finT, if_neg ho, e1]; rfl
      · rw [← List.append_assoc]
        exact ⟨e3.gd.mono (by rw [Nat.mul_add]; omega), e3.ml, e3.go⟩
theorem finT_more {b : LL} {ws : List Nat} : ∀ (k j : Nat) {y : Yard} {r : Yard × List Evt}, finT b ws k y = some r → finT b ws (k + j) y = some r
  | 0, j, y, r, h => by cases h
  | k + 1, j, y, r, h => by
    have e : k + 1 + j = (k + j) + 1 := by omega
    rw [e]
    unfold finT at h ⊢
    by_cases ho : overY y = true
    · rw [if_pos ho] at h ⊢; exact h
    · rw [if_neg ho] at h ⊢
      cases hz : finT b ws k (runY b y ws).1 with
      | none => rw [hz] at h; cases h
      | some r' => rw [hz] at h; rw [finT_more k j hz]; exact h
end Pu

set_option Elab.async false
set_option linter.all false
set_option maxRecDepth 100000
set_option maxHeartbeats 4000000
set_option autoImplicit false
/-! Sh: data that may be compared with ==, and what == says. -/
namespace Pu
open PySem

mutual
theorem good_lay : ∀ (n : Nat) (d : D), good n d → PyData.canLay0 d = true ∧ d.depth ≤ n
  | 0, _, h => h.elim
  | n + 1, .tuple l, h => by
    obtain ⟨a, b⟩ := good_lays n l h.2
    refine ⟨by simpa [PyData.canLay0] using a, by simp only [PyData.depth]; omega⟩
  | n + 1, .list l, h => by
    obtain ⟨a, b⟩ := good_lays n l h.2
    refine ⟨by simpa [PyData.canLay0] using a, by simp only [PyData.depth]; omega⟩
  | n + 1, .int _, _ => ⟨rfl, by simp [PyData.depth]⟩
  | n + 1, .str x, h => by
    have h' : SeqAt.shaped (.str x) = true := h
    unfold SeqAt.shaped at h'
    rw [Bool.and_eq_true] at h'
    exact ⟨h'.1, by simp [PyData.depth]⟩
  | n + 1, .none, _ => ⟨rfl, by simp [PyData.depth]⟩
  | n + 1, .bool _, h => h.elim
  | n + 1, .dict _, h => h.elim
theorem good_lays : ∀ (n : Nat) (l : List D), (∀ x ∈ l, good n x) → PyData.canLayAll0 l = true ∧ PyData.depthAll l ≤ n
  | n, [], _ => ⟨rfl, by simp [PyData.depthAll]⟩
  | n, d :: l, h => by
    obtain ⟨a, b⟩ := good_lay n d (h d List.mem_cons_self)
    obtain ⟨a2, b2⟩ := good_lays n l fun x hx => h x (List.mem_cons_of_mem _ hx)
    refine ⟨by simp [PyData.canLayAll0, a, a2], by simp only [PyData.depthAll]; omega⟩
end
theorem good_sh {n : Nat} {d : D} (h : good n d) (hn : n ≤ 60) : SeqAt.shaped d = true := by
  obtain ⟨a, b⟩ := good_lay n d h
  unfold SeqAt.shaped
  rw [a, Bool.true_and]
  exact decide_eq_true (by omega)
theorem sh_bool (b : Bool) : SeqAt.shaped (.bool b) = true := by cases b <;> decide +kernel
mutual
def nb : D → Bool
  | .none => true
  | .int _ => true
  | .str _ => true
  | .bool _ => false
  | .dict _ => false
  | .list l => nbs l
  | .tuple l => nbs l
def nbs : List D → Bool
  | [] => true
  | d :: l => nb d && nbs l
end
mutual
theorem eqv_nb : ∀ (d e : D), nb d = true → nb e = true → (PyData.eqv d e = true ↔ d = e)
  | .none, e, _, h => by cases e <;> simp [PyData.eqv]
  | .int i, e, _, h => by
    cases e with
    | bool b => cases h
    | _ => simp [PyData.eqv]
  | .str x, e, _, h => by cases e <;> simp [PyData.eqv]
  | .bool b, _, h, _ => by cases h
  | .dict _, _, h, _ => by cases h
  | .list l, e, h, k => by
    cases e with
    | list m =>
      have z := eqv_nbs l m h k
      simp only [PyData.eqv, PyData.list.injEq]
      exact z
    | _ => simp [PyData.eqv]
  | .tuple l, e, h, k => by
    cases e with
    | tuple m =>
      have z := eqv_nbs l m h k
      simp only [PyData.eqv, PyData.tuple.injEq]
      exact z
    | _ => simp [PyData.eqv]
theorem eqv_nbs : ∀ (l m : List D), nbs l = true → nbs m = true → (PyData.eqvAll l m = true ↔ l = m)
  | [], [], _, _ => by simp [PyData.eqvAll]
  | [], _ :: _, _, _ => by simp [PyData.eqvAll]
  | _ :: _, [], _, _ => by simp [PyData.eqvAll]
  | d :: l, e :: m, h, k => by
    have h' : (nb d && nbs l) = true := h
    have k' : (nb e && nbs m) = true := k
    rw [Bool.and_eq_true] at h' k'
    have z1 := eqv_nb d e h'.1 k'.1
    have z2 := eqv_nbs l m h'.2 k'.2
    simp only [PyData.eqvAll, Bool.and_eq_true, z1, z2, List.cons.injEq]
end
mutual
theorem good_nb : ∀ (n : Nat) (d : D), good n d → nb d = true
  | 0, _, h => h.elim
  | n + 1, .tuple l, h => good_nbs n l h.2
  | n + 1, .list l, h => good_nbs n l h.2
  | n + 1, .int _, _ => rfl
  | n + 1, .str _, _ => rfl
  | n + 1, .none, _ => rfl
  | n + 1, .bool _, h => h.elim
  | n + 1, .dict _, h => h.elim
theorem good_nbs : ∀ (n : Nat) (l : List D), (∀ x ∈ l, good n x) → nbs l = true
  | n, [], _ => rfl
  | n, d :: l, h => by
    show (nb d && nbs l) = true
    rw [good_nb n d (h d List.mem_cons_self), good_nbs n l fun x hx => h x (List.mem_cons_of_mem _ hx)]; rfl
end
/-- == of good data -/
theorem oEq_g {n m : Nat} {d e : D} {k : Bool} (h1 : good n d) (h2 : good m e) (hn : n ≤ 60) (hm : m ≤ 60) (hk : k = true ↔ d = e) : oEq d e = some (.bool k) := by
  unfold oEq
  rw [if_pos ⟨good_sh h1 hn, good_sh h2 hm⟩]
  have z := eqv_nb d e (good_nb n d h1) (good_nb m e h2)
  congr 2
  cases hz : PyData.eqv d e <;> cases k <;> simp [hz] at z hk ⊢
  · exact z hk
  · exact hk z
theorem oNe_g {n m : Nat} {d e : D} {k : Bool} (h1 : good n d) (h2 : good m e) (hn : n ≤ 60) (hm : m ≤ 60) (hk : k = true ↔ d = e) : oNe d e = some (.bool (!k)) := by
  unfold oNe
  rw [if_pos ⟨good_sh h1 hn, good_sh h2 hm⟩]
  have z := eqv_nb d e (good_nb n d h1) (good_nb m e h2)
  congr 2
  cases hz : PyData.eqv d e <;> cases k <;> simp [hz] at z hk ⊢
  · exact z hk
  · exact hk z
theorem good_L (l : List Nat) (h : l.length ≤ 1000000) : good 2 (.list (encN l)) := good_N l h
theorem good_LL (b : LL) (h : b.length ≤ 1000000) (h2 : ∀ r ∈ b, r.length ≤ 1000000) : good 3 (encLL b) := ⟨by rw [List.length_map]; exact h, good_map fun r hr => good_L r (h2 r hr)⟩
theorem good_P (b s : LL) (h : b.length ≤ 1000000) (h2 : ∀ r ∈ b, r.length ≤ 1000000) (h3 : s.length ≤ 1000000) (h4 : ∀ r ∈ s, r.length ≤ 1000000) : good 4 (encP b s) := good_t (by simp) (all_cons (good_LL b h h2) (all_cons (good_LL s h3 h4) all_nil))
theorem good_Es (es : List Evt) (h : es.length ≤ 1000000) : good 4 (.list (es.map encE)) := ⟨by rw [List.length_map]; exact h, good_map fun e _ => good_E e⟩
theorem oNe_bools (a c : Bool) : oNe (.bool a) (.bool c) = some (.bool (a != c)) := by
  unfold oNe
  rw [if_pos ⟨sh_bool a, sh_bool c⟩]
  cases a <;> cases c <;> simp [PyData.eqv]
theorem encS_rests (s : W) : encS s = encS .rests ↔ s = .rests := by cases s <;> simp (config := {decide := true}) [encS]
theorem ne_rests (s : W) : oNe (encS s) (.tuple [.str "rests"]) = some (.bool (!decide (s = .rests))) :=
  oNe_g (good_S s) (good_S .rests) (by omega) (by omega) (by rw [decide_eq_true_iff]; exact (encS_rests s).symm)
theorem sl_rests {ds : Sl} : eTup (esCons (eC (.str "rests")) esNil) ds = some (.tuple [.str "rests"]) := q_tup (q_cons rfl rfl) (by simp)
theorem encN_nil (l : List Nat) : PyData.list (encN l) = .list [] ↔ l = [] := by
  constructor
  · intro h
    injection h with h
    cases l with
    | nil => rfl
    | cons a l => cases h
  · intro h; rw [h]; rfl
theorem encN_inj : ∀ {a b : List Nat}, encN a = encN b → a = b
  | [], [], _ => rfl
  | [], _ :: _, h => by cases h
  | _ :: _, [], h => by cases h
  | x :: a, y :: b, h => by
    unfold encN at h
    rw [List.map_cons, List.map_cons] at h
    injection h with h1 h2
    injection h1 with h1
    have := encN_inj (a := a) (b := b) h2
    rw [this]
    congr 1
    omega
/-! ### the laws' own goings by steps and by rounds -/
theorem runY_skip {b : LL} : ∀ (ws : List Nat) {n : Nat} {y : Yard} (G : Gd n b y) (hw : ∀ w ∈ ws, w < y.rows.length) (hd : ws.Nodup), runY b y ws = runY b y (ws.filter fun w => !decide (y.S w = .rests))
  | [], n, y, G, _, _ => rfl
  | w :: ws, n, y, G, hw, hd => by
    obtain ⟨h1, h2⟩ := List.nodup_cons.mp hd
    obtain ⟨G1, e1, e2⟩ := G.next (hw w List.mem_cons_self)
    have z := runY_skip ws G1 (fun v hv => by rw [e1]; exact hw v (List.mem_cons_of_mem _ hv)) h2
    rcases e2 with ⟨h0, e⟩ | ⟨h0, q, hq, e, S⟩
    · rw [List.filter_cons_of_neg (by simp [h0])]
      rw [e] at z
      rw [runY_cons, e]
      dsimp only at z ⊢
      rw [z, List.nil_append]
    · rw [List.filter_cons_of_pos (by simp [h0]), runY_cons, runY_cons, z]
      have ef : ws.filter (fun v => !decide ((nextY b y w).1.S v = .rests)) = ws.filter (fun v => !decide (y.S v = .rests)) := by
        refine List.filter_congr fun v hv => ?_
        obtain ⟨x, r', s', hx, eq, tr, _, _⟩ := S.ex
        rw [e]
        dsimp only
        rw [eq, S_set y w v s' _ (by rw [G.ci.len]; exact S.hw), if_neg (fun (z : v = w) => h1 (by rw [← z]; exact hv))]
      rw [ef]
theorem tail_ev {n : Nat} {b st : LL} {y : Yard} {w : Nat} (G : Gd n b y) (hn : n ≤ 900000) (hw : w < y.rows.length) (h : y.S w ≠ .rests) : ∃ e, M_stepped [encP b st, encY y, .int (w : Int)] = some (.tuple [encY (nextY b y w).1, encO e]) ∧ (nextY b y w).2 = e.toList := by
  obtain ⟨G1, e1, e2⟩ := G.next hw
  rcases e2 with ⟨h0, _⟩ | ⟨h0, q, hq, e, S⟩
  · exact absurd h0 h
  · refine ⟨q.2, ?_, by rw [e]⟩
    rw [e]
    exact stepped_ev hq G.ci.len (by have := G.bd.rows; unfold lim; omega) (fun r hr => by have := G.bd.places r hr; unfold lim; omega)
theorem nextY_len {n : Nat} {b : LL} {y : Yard} {w : Nat} (G : Gd n b y) (hw : w < y.rows.length) : (nextY b y w).2.length ≤ 1 := by
  have h := (Gd.run [w] G (fun v hv => by rw [List.mem_singleton.mp hv]; exact hw)).2.2
  rw [runY_cons, runY_nil, List.append_nil] at h
  exact h
/-- put the event, if there is one -/
theorem app_ev {i j : Nat} {O : List Nat} {ds : Sl} {d : D} {e : Option Evt} {es : List Evt} (h : ds[i]? = some (some (.tuple [d, encO e]))) (hm : (mkO O 0 ds)[i]? = some (some (.tuple [d, encO e]))) (hj : ds[j]? = some (some (.list (es.map encE)))) (he : es.length + 1 ≤ lim) :
    sIf (bT (eOp oIsntA (eOp oIx (eVar i) (eC (.int 1))) (eC .none))) (sAppO O j (eOp oIx (eVar i) (eC (.int 1)))) sNx ds = some (.nx (ds.set j (some (.list ((es ++ e.toList).map encE))))) := by
  have e1 : bT (eOp oIsntA (eOp oIx (eVar i) (eC (.int 1))) (eC .none)) ds = some (!isNon (encO e)) := by
    unfold bT
    rw [eOp_ev (eOp_ev (eVar_get h) rfl |>.trans oIx1) rfl]; rfl
  cases e with
  | none =>
    rw [q_iff (e1.trans (by rw [encO_non]; rfl))]
    simp only [Option.toList_none, List.append_nil]
    unfold sNx
    congr 2
    apply List.ext_getElem?
    intro k
    rw [List.getElem?_set]
    by_cases hk : j = k
    · subst hk
      rw [if_pos rfl, if_pos (List.getElem?_eq_some_iff.mp hj).1, hj]
    · rw [if_neg hk]
  | some v =>
    rw [q_ift (e1.trans (by rw [encO_non]; rfl))]
    unfold sAppO
    rw [eOp_ev (eVar_get hm) rfl, oIx1, Option.bind_some, hj]
    dsimp only
    rw [if_pos (by rw [List.length_map]; exact he)]
    simp [encO]
/-- k09's rounds -/
theorem rdloop {b st : LL} : ∀ (ws : List Nat) {n : Nat} {y : Yard} (es : List Evt) (G : Gd n b y) (x3 x4 x5 x6 : Option D), n + ws.length ≤ 900000 → es.length + ws.length ≤ 900000 → (∀ w ∈ ws, w < y.rows.length) → (∀ w ∈ ws, y.S w ≠ .rests) → ws.Nodup →
    ∃ x5' x6', loopD (gNameD 5) (sSeq (sSetO [2] 6 (eCall M_stepped (esCons (eVar 0) (esCons (eVar 1) (esCons (eVar 5) esNil))))) (sSeq (sSetO [2] 1 (eOp oIx (eVar 6) (eC (.int 0)))) (sIf (bT (eOp oIsntA (eOp oIx (eVar 6) (eC (.int 1))) (eC .none))) (sAppO [2] 2 (eOp oIx (eVar 6) (eC (.int 1)))) sNx))) (encN ws) [some (encP b st), some (encY y), some (.list (es.map encE)), x3, x4, x5, x6]
      = some (.nx [some (encP b st), some (encY (runY b y ws).1), some (.list ((es ++ (runY b y ws).2).map encE)), x3, x4, x5', x6'])
  | [], n, y, es, G, x3, x4, x5, x6, _, _, _, _, _ => ⟨x5, x6, by rw [runY_nil, List.append_nil]; rfl⟩
  | w :: ws, n, y, es, G, x3, x4, x5, x6, hn, he, hw, hr, hd => by
    rw [List.length_cons] at hn he
    have hw0 := hw w List.mem_cons_self
    obtain ⟨h1, h2⟩ := List.nodup_cons.mp hd
    obtain ⟨G1, e1, e2⟩ := G.next hw0
    obtain ⟨e, z1, z2⟩ := tail_ev (st := st) G (by omega) hw0 (hr w List.mem_cons_self)
    have hle := nextY_len G hw0
    have hS : ∀ v ∈ ws, (nextY b y w).1.S v ≠ .rests := fun v hv => by
      rcases e2 with ⟨_, e⟩ | ⟨h0, q, hq, e, S⟩
      · rw [e]; exact hr v (List.mem_cons_of_mem _ hv)
      · obtain ⟨x, r', s', hx, eq, tr, _, _⟩ := S.ex
        rw [e]
        dsimp only
        rw [eq, S_set y w v s' _ (by rw [G.ci.len]; exact S.hw), if_neg (fun (z : v = w) => h1 (by rw [← z]; exact hv))]
        exact hr v (List.mem_cons_of_mem _ hv)
    obtain ⟨x5', x6', z⟩ := rdloop ws (es ++ (nextY b y w).2) G1 x3 x4 (some (.int (w : Int))) (some (.tuple [encY (nextY b y w).1, encO e])) (by omega) (by rw [List.length_append]; omega) (fun v hv => by rw [e1]; exact hw v (List.mem_cons_of_mem _ hv)) hS h2
    refine ⟨x5', x6', ?_⟩
    have b1 : (sSeq (sSetO [2] 6 (eCall M_stepped (esCons (eVar 0) (esCons (eVar 1) (esCons (eVar 5) esNil))))) (sSeq (sSetO [2] 1 (eOp oIx (eVar 6) (eC (.int 0)))) (sIf (bT (eOp oIsntA (eOp oIx (eVar 6) (eC (.int 1))) (eC .none))) (sAppO [2] 2 (eOp oIx (eVar 6) (eC (.int 1)))) sNx))) [some (encP b st), some (encY y), some (.list (es.map encE)), x3, x4, some (.int (w : Int)), x6]
        = some (.nx [some (encP b st), some (encY (nextY b y w).1), some (.list ((es ++ (nextY b y w).2).map encE)), x3, x4, some (.int (w : Int)), some (.tuple [encY (nextY b y w).1, encO e])]) := by
      unfold sSetO
      rw [q_seqS (d := .tuple [encY (nextY b y w).1, encO e]) (by
        show eCall M_stepped (esCons (eVar 0) (esCons (eVar 1) (esCons (eVar 5) esNil))) [some (encP b st), some (encY y), none, x3, x4, some (.int (w : Int)), x6] = _
        rw [q_call (q_cons (eVar_get rfl) (q_cons (eVar_get rfl) (q_cons (eVar_get rfl) rfl))), z1])]
      dsimp only [List.set]
      rw [q_seqS (d := encY (nextY b y w).1) (by
        show eOp oIx (eVar 6) (eC (.int 0)) [some (encP b st), some (encY y), none, x3, x4, some (.int (w : Int)), some (.tuple [encY (nextY b y w).1, encO e])] = _
        rw [eOp_ev (eVar_get rfl) rfl, oIx0])]
      dsimp only [List.set]
      rw [app_ev (i := 6) (j := 2) (O := [2]) (es := es) (e := e) rfl rfl rfl (by unfold lim; omega), z2]
      rfl
    show ((sSeq (sSetO [2] 6 (eCall M_stepped (esCons (eVar 0) (esCons (eVar 1) (esCons (eVar 5) esNil))))) (sSeq (sSetO [2] 1 (eOp oIx (eVar 6) (eC (.int 0)))) (sIf (bT (eOp oIsntA (eOp oIx (eVar 6) (eC (.int 1))) (eC .none))) (sAppO [2] 2 (eOp oIx (eVar 6) (eC (.int 1)))) sNx))) [some (encP b st), some (encY y), some (.list (es.map encE)), x3, x4, some (.int (w : Int)), x6]).bind _ = _
    rw [b1, Option.bind_some]
    dsimp only
    unfold encN at z
    rw [z, runY_cons, List.append_assoc]
theorem busy_nil {y : Yard} (hl : y.states.length = y.rows.length) : overY y = decide ((List.range y.rows.length).filter (fun w => !decide (y.S w = .rests)) = []) := by
  by_cases h : overY y = true
  · rw [h]
    symm
    rw [decide_eq_true_iff, List.filter_eq_nil_iff]
    intro w hw
    have := (over_iff hl).mp h w (List.mem_range.mp hw)
    simp [this]
  · have h' : overY y = false := by simpa using h
    rw [h']
    symm
    rw [decide_eq_false_iff_not]
    intro e
    refine h ((over_iff hl).mpr fun w hw => ?_)
    rw [List.filter_eq_nil_iff] at e
    have := e w (List.mem_range.mpr hw)
    simpa using this
theorem lc_filter {α : Type} {i : Nat} {it : Sl → Option (List D)} {c : Sl → Option Bool} {e : Sl → Option D} {enc : α → D} {g : α → D} {q : α → Bool} {l : List α} {ds : Sl} (h0 : it ds = some (l.map enc)) (hl : l.length ≤ lim)
    (h : ∀ x ∈ l, c ((ds.set i none).set i (some (enc x))) = some (q x) ∧ e ((ds.set i none).set i (some (enc x))) = some (g x)) : eLc i it c e ds = some (.list ((l.filter q).map g)) := by
  have key : ∀ (l : List α), (∀ x ∈ l, c ((ds.set i none).set i (some (enc x))) = some (q x) ∧ e ((ds.set i none).set i (some (enc x))) = some (g x)) → lcD i c e (l.map enc) (ds.set i none) = some ((l.filter q).map g) := by
    intro l
    induction l with
    | nil => intro _; rfl
    | cons x l ih =>
      intro h
      have h1 := h x List.mem_cons_self
      have h2 := ih fun y hy => h y (List.mem_cons_of_mem _ hy)
      rw [List.map_cons]
      unfold lcD
      simp only [h1.1, h1.2, h2, Option.bind_some]
      cases hq : q x with
      | true => rw [if_pos rfl, List.filter_cons_of_pos hq, List.map_cons]
      | false => rw [if_neg Bool.false_ne_true, List.filter_cons_of_neg (by simp [hq])]
  unfold eLc
  simp only [h0, Option.bind_some, List.length_map, if_pos hl, key l h]
end Pu

set_option Elab.async false
set_option linter.all false
set_option maxRecDepth 100000
set_option maxHeartbeats 4000000
set_option autoImplicit false
/-! K9: the law's own going by rounds. -/
namespace Pu
open PySem

def F_rdBody : S := (sSeq (sSetO [2] 4 (eLc 5 (eRng (eCall oLen (esCons (eOp oIx (eVar 1) (eC (.int 1))) esNil))) (bT (eOp oNe (eOp oIx (eOp oIx (eVar 1) (eC (.int 1))) (eVar 5)) (eTup (esCons (eC (.str "rests")) esNil)))) (eVar 5))) (sSeq (sIf (bT (eOp oNe (eCall M_is_over (esCons (eVar 1) esNil)) (eOp oEq (eVar 4) (eLst esNil)))) (sRet (eC .none)) sNx) (sSeq (sIf (bT (eOp oEq (eVar 4) (eLst esNil))) (sRet (eTup (esCons (eVar 1) (esCons (eVar 2) esNil)))) sNx) (sForO [2] (eItems (eVar 4)) (gNameD 5) (sSeq (sSetO [2] 6 (eCall M_stepped (esCons (eVar 0) (esCons (eVar 1) (esCons (eVar 5) esNil))))) (sSeq (sSetO [2] 1 (eOp oIx (eVar 6) (eC (.int 0)))) (sIf (bT (eOp oIsntA (eOp oIx (eVar 6) (eC (.int 1))) (eC .none))) (sAppO [2] 2 (eOp oIx (eVar 6) (eC (.int 1)))) sNx)))))))
theorem good_nil : good 2 (.list []) := ⟨by simp, fun x hx => by cases hx⟩
theorem eqnil_ev {l : List Nat} {ds : Sl} {f : Sl → Option D} (h : f ds = some (.list (encN l))) (hl : l.length ≤ 1000000) : eOp oEq f (eLst esNil) ds = some (.bool (decide (l = []))) := by
  rw [eOp_ev h (q_lst rfl (by simp)), oEq_g (good_L l hl) good_nil (by omega) (by omega) (k := decide (l = [])) (by rw [decide_eq_true_iff]; exact (encN_nil l).symm)]
theorem bT_of {f : Sl → Option D} {ds : Sl} {k : Bool} (h : f ds = some (.bool k)) : bT f ds = some k := by unfold bT; rw [h]; rfl
theorem rdbody_ev {n : Nat} {b st : LL} {y : Yard} {es : List Evt} (G : Gd n b y) (hn : n + 12 ≤ 900000) (he : es.length + 12 ≤ 900000) (x3 x4 x5 x6 : Option D) :
    (overY y = true → F_rdBody [some (encP b st), some (encY y), some (.list (es.map encE)), x3, x4, x5, x6] = some (.rt (.tuple [encY y, .list (es.map encE)]))) ∧
    (overY y = false → ∃ x4' x5' x6', F_rdBody [some (encP b st), some (encY y), some (.list (es.map encE)), x3, x4, x5, x6] = some (.nx [some (encP b st), some (encY (roundY b y).1), some (.list ((es ++ (roundY b y).2).map encE)), x3, x4', x5', x6'])) := by
  have hl := G.ci.len
  have hb := G.bd.rows
  have hbl : ((List.range y.rows.length).filter fun w => !decide (y.S w = .rests)).length ≤ y.rows.length := by
    have := List.length_filter_le (fun w => !decide (y.S w = .rests)) (List.range y.rows.length)
    rw [List.length_range] at this
    exact this
  have e1 : eLc 5 (eRng (eCall oLen (esCons (eOp oIx (eVar 1) (eC (.int 1))) esNil))) (bT (eOp oNe (eOp oIx (eOp oIx (eVar 1) (eC (.int 1))) (eVar 5)) (eTup (esCons (eC (.str "rests")) esNil)))) (eVar 5) [some (encP b st), some (encY y), none, x3, x4, x5, x6] = some (.list (encN ((List.range y.rows.length).filter fun w => !decide (y.S w = .rests)))) := by
    have it : eRng (eCall oLen (esCons (eOp oIx (eVar 1) (eC (.int 1))) esNil)) [some (encP b st), some (encY y), none, x3, x4, x5, x6] = some ((List.range y.rows.length).map fun (w : Nat) => PyData.int (w : Int)) := by
      unfold eRng
      rw [lenS_ev (y := y) (eVar_get rfl), Option.bind_some]
      dsimp only
      rw [if_pos (by omega)]
      unfold rngD
      rw [Int.toNat_natCast, hl]
    exact lc_filter (q := fun w => !decide (y.S w = .rests)) (g := fun (w : Nat) => PyData.int (w : Int)) it (by rw [List.length_range]; unfold lim; omega) (fun w hw => ⟨bT_of (by
      rw [eOp_ev (st_ev (y := y) (w := w) (by have := List.mem_range.mp hw; omega) (eVar_get rfl) (eVar_get rfl)) sl_rests, ne_rests]), rfl⟩)
  have e2 : sSetO [2] 4 (eLc 5 (eRng (eCall oLen (esCons (eOp oIx (eVar 1) (eC (.int 1))) esNil))) (bT (eOp oNe (eOp oIx (eOp oIx (eVar 1) (eC (.int 1))) (eVar 5)) (eTup (esCons (eC (.str "rests")) esNil)))) (eVar 5)) [some (encP b st), some (encY y), some (.list (es.map encE)), x3, x4, x5, x6] = some (.nx [some (encP b st), some (encY y), some (.list (es.map encE)), x3, some (.list (encN ((List.range y.rows.length).filter fun w => !decide (y.S w = .rests)))), x5, x6]) := by
    unfold sSetO
    exact q_set e1
  have e3 : eOp oEq (eVar 4) (eLst esNil) [some (encP b st), some (encY y), some (.list (es.map encE)), x3, some (.list (encN ((List.range y.rows.length).filter fun w => !decide (y.S w = .rests)))), x5, x6] = some (.bool (overY y)) := by
    rw [eqnil_ev (eVar_get rfl) (by omega), busy_nil hl]
  have e4 : bT (eOp oNe (eCall M_is_over (esCons (eVar 1) esNil)) (eOp oEq (eVar 4) (eLst esNil))) [some (encP b st), some (encY y), some (.list (es.map encE)), x3, some (.list (encN ((List.range y.rows.length).filter fun w => !decide (y.S w = .rests)))), x5, x6] = some false := by
    refine bT_of ?_
    rw [eOp_ev (q_call (q_cons (eVar_get rfl) rfl) |>.trans (is_over_ev y (by unfold lim; omega))) e3, oNe_bools]
    simp
  unfold F_rdBody
  rw [q_seq e2, q_seq (q_iff e4 |>.trans rfl)]
  refine ⟨fun ho => ?_, fun ho => ?_⟩
  · rw [q_seqR (q_ift (bT_of e3 |>.trans (by rw [ho])) |>.trans (q_ret (q_tup (q_cons (eVar_get rfl) (q_cons (eVar_get rfl) rfl)) (by simp))))]
  · rw [q_seq (q_iff (bT_of e3 |>.trans (by rw [ho])) |>.trans rfl)]
    obtain ⟨x5', x6', z⟩ := rdloop (st := st) ((List.range y.rows.length).filter fun w => !decide (y.S w = .rests)) es G x3 (some (.list (encN ((List.range y.rows.length).filter fun w => !decide (y.S w = .rests))))) x5 x6 (by omega) (by omega) (fun w hw => List.mem_range.mp (List.mem_filter.mp hw).1) (fun w hw => by simpa using (List.mem_filter.mp hw).2) (List.nodup_range.sublist List.filter_sublist)
    rw [← runY_skip (List.range y.rows.length) G (fun w h => List.mem_range.mp h) List.nodup_range] at z
    refine ⟨some (.list (encN ((List.range y.rows.length).filter fun w => !decide (y.S w = .rests)))), x5', x6', ?_⟩
    unfold sForO
    have it : atO [2] (eItems (eVar 4)) [some (encP b st), some (encY y), some (.list (es.map encE)), x3, some (.list (encN ((List.range y.rows.length).filter fun w => !decide (y.S w = .rests)))), x5, x6] = some (encN ((List.range y.rows.length).filter fun w => !decide (y.S w = .rests))) := rfl
    rw [it, Option.bind_some]
    exact z
theorem roundY_len {n : Nat} {b : LL} {y : Yard} (G : Gd n b y) : Gd (n + 12) b (roundY b y).1 ∧ (roundY b y).2.length ≤ 12 := by
  obtain ⟨G1, h1, h2⟩ := Gd.run (List.range y.rows.length) G (fun w h => List.mem_range.mp h)
  rw [List.length_range] at G1 h2
  have := G.bd.rows
  exact ⟨G1.mono (by omega), Nat.le_trans h2 this⟩
theorem rounds_loop {b st : LL} : ∀ (k : Nat) {n : Nat} {y : Yard} (es : List Evt) (l : List D) (G : Gd n b y) (r : Yard × List Evt) (x3 x4 x5 x6 : Option D), finR b k y = some r → k ≤ l.length → n + 12 * k ≤ 900000 → es.length + 12 * k ≤ 900000 →
    loopD (gNameD 3) F_rdBody l [some (encP b st), some (encY y), some (.list (es.map encE)), x3, x4, x5, x6] = some (.rt (.tuple [encY r.1, .list ((es ++ r.2).map encE)]))
  | 0, n, y, es, l, G, r, x3, x4, x5, x6, h, _, _, _ => by cases h
  | k + 1, n, y, es, [], G, r, x3, x4, x5, x6, h, hk, hn, he => by simp at hk
  | k + 1, n, y, es, d :: l, G, r, x3, x4, x5, x6, h, hk, hn, he => by
    obtain ⟨c1, c2⟩ := rdbody_ev (st := st) (es := es) G (by omega) (by omega) (some d) x4 x5 x6
    have u : loopD (gNameD 3) F_rdBody (d :: l) [some (encP b st), some (encY y), some (.list (es.map encE)), x3, x4, x5, x6] = ((F_rdBody [some (encP b st), some (encY y), some (.list (es.map encE)), some d, x4, x5, x6]).bind fun o => match o with
      | .nx ds2 => loopD (gNameD 3) F_rdBody l ds2
      | .ct ds2 => loopD (gNameD 3) F_rdBody l ds2
      | .bk ds2 => some (.nx ds2)
      | .rt r => some (.rt r)) := rfl
    rw [u]
    unfold finR at h
    by_cases ho : overY y = true
    · rw [if_pos ho] at h
      cases h
      rw [c1 ho, Option.bind_some, List.append_nil]
    · rw [if_neg ho] at h
      have ho' : overY y = false := by simpa using ho
      cases hf : finR b k (roundY b y).1 with
      | none => rw [hf] at h; cases h
      | some r' =>
        rw [hf] at h
        cases h
        obtain ⟨x4', x5', x6', z⟩ := c2 ho'
        rw [z, Option.bind_some]
        obtain ⟨G1, hle⟩ := roundY_len G
        dsimp only
        rw [rounds_loop k (es ++ (roundY b y).2) l G1 r' (some d) x4' x5' x6' hf (by simpa using hk) (by omega) (by rw [List.length_append]; omega), List.append_assoc]
theorem by_rounds_ev {k n : Nat} {b st : LL} {y : Yard} {r : Yard × List Evt} (G : Gd n b y) (h : finR b k y = some r) (hk : k ≤ 1000) (hn : n + 12 * k ≤ 900000) :
    M_l_by_rounds [encP b st, encY y] = some (.tuple [encY r.1, .list (r.2.map encE)]) := by
  have hu : M_l_by_rounds [encP b st, encY y] = (F_l_by_rounds [some (encP b st), some (encY y), none, none, none, none, none]).bind endD := rfl
  rw [hu]
  have z := rounds_loop (st := st) k [] (rngD 1000) G r none none none none h (by rw [rngD_length]; exact hk) hn (by simp; omega)
  unfold F_l_by_rounds
  rw [q_seq (show sNewO 2 [some (encP b st), some (encY y), none, none, none, none, none] = some (.nx [some (encP b st), some (encY y), some (.list ([].map encE)), none, none, none, none]) from rfl)]
  have z2 : sForO [2] (eRng (eC (.int 1000))) (gNameD 3) F_rdBody [some (encP b st), some (encY y), some (.list ([].map encE)), none, none, none, none] = some (.rt (.tuple [encY r.1, .list (r.2.map encE)])) := by
    unfold sForO
    have it : atO [2] (eRng (eC (.int 1000))) [some (encP b st), some (encY y), some (.list ([].map encE)), none, none, none, none] = some (rngD 1000) := by
      unfold atO eRng eC
      rw [Option.bind_some]
      dsimp only
      rw [if_pos (by omega)]
    rw [it, Option.bind_some]
    exact z
  unfold F_rdBody at z2
  rw [q_seqR z2]
  rfl
/-- of a yard that was come to, the rounds end, soon -/
theorem rounds_end {n : Nat} {b s : LL} {y : Yard} {es : List Evt} (P : PlanOk 200 b s) (R : Rch n b s y es) : ∃ r, finR b (2 * s.length + 8 + (2 * s.length + 6) * b.length + 2 * b.length) y = some r ∧ overY r.1 = true ∧ Rch (n + 12 * (2 * s.length + 7 + (2 * s.length + 6) * b.length + 2 * b.length)) b s r.1 (es ++ r.2) := by
  obtain ⟨r, e1, e2, e3⟩ := finT_ends P (ws := List.range s.length) (fun w h => List.mem_range.mp h) (fun w h => List.mem_range.mpr h) (2 * s.length + 7 + (2 * s.length + 6) * b.length + 2 * b.length) R (fun w hw => .inr (psi_max R P hw))
  refine ⟨r, ?_, e2, ?_⟩
  · rw [finR_T _ R.gd, R.ml]
    have e : 2 * s.length + 8 + (2 * s.length + 6) * b.length + 2 * b.length = 2 * s.length + 7 + (2 * s.length + 6) * b.length + 2 * b.length + 1 := by omega
    rw [e]
    exact e1
  · rw [List.length_range] at e3
    have hm := P.m2
    refine ⟨e3.gd.mono ?_, e3.ml, e3.go⟩
    have := Nat.mul_le_mul_right (2 * s.length + 7 + (2 * s.length + 6) * b.length + 2 * b.length) hm
    omega
theorem finR_more {b : LL} : ∀ (k j : Nat) {y : Yard} {r : Yard × List Evt}, finR b k y = some r → finR b (k + j) y = some r
  | 0, j, y, r, h => by cases h
  | k + 1, j, y, r, h => by
    have e : k + 1 + j = (k + j) + 1 := by omega
    rw [e]
    unfold finR at h ⊢
    by_cases ho : overY y = true
    · rw [if_pos ho] at h ⊢; exact h
    · rw [if_neg ho] at h ⊢
      cases hz : finR b k (roundY b y).1 with
      | none => rw [hz] at h; cases h
      | some r' => rw [hz] at h; rw [finR_more k j hz]; exact h
theorem nx_call {O : List Nat} {j i : Nat} {F : List D → List D → Option (D × List D)} {g : Sl → Option (List D)} {ds : Sl} {o : Out} (h : sCallO O j i F g ds = some o) : ∃ ds', o = .nx ds' := by
  obtain ⟨args, e1, e2⟩ := bind_some h
  split at e2
  · obtain ⟨r, e3, e4⟩ := bind_some e2
    cases e4
    exact ⟨_, rfl⟩
  · cases e2
theorem nx_loop {G : D → Sl → Option Sl} {f : S} (hf : ∀ ds o, f ds = some o → ∃ ds', o = .nx ds') : ∀ (l : List D) {ds : Sl} {o : Out}, loopD G f l ds = some o → ∃ ds', o = .nx ds'
  | [], ds, o, h => by cases h; exact ⟨_, rfl⟩
  | d :: l, ds, o, h => by
    obtain ⟨ds1, e1, e2⟩ := bind_some h
    obtain ⟨o1, e3, e4⟩ := bind_some e2
    obtain ⟨ds2, rfl⟩ := hf _ _ e3
    exact nx_loop hf l e4
theorem nx_for {O : List Nat} {it : Sl → Option (List D)} {G : D → Sl → Option Sl} {f : S} (hf : ∀ ds o, f ds = some o → ∃ ds', o = .nx ds') {ds : Sl} {o : Out} (h : sForO O it G f ds = some o) : ∃ ds', o = .nx ds' := by
  obtain ⟨l, e1, e2⟩ := bind_some h
  exact nx_loop hf l e2
theorem nx_while {p : Sl → Option Bool} {f : S} (hf : ∀ ds o, f ds = some o → ∃ ds', o = .nx ds') : ∀ (n : Nat) {ds : Sl} {o : Out}, whileD p f n ds = some o → ∃ ds', o = .nx ds'
  | 0, ds, o, h => by cases h
  | n + 1, ds, o, h => by
    obtain ⟨b, e1, e2⟩ := bind_some h
    cases b with
    | false => rw [if_neg Bool.false_ne_true] at e2; cases e2; exact ⟨_, rfl⟩
    | true =>
      rw [if_pos rfl] at e2
      obtain ⟨o1, e3, e4⟩ := bind_some e2
      obtain ⟨ds2, rfl⟩ := hf _ _ e3
      exact nx_while hf n e4
theorem eVar_some {i : Nat} {ds : Sl} {d : D} (h : eVar i ds = some d) : ds[i]? = some (some d) := by
  unfold eVar at h
  cases e : ds[i]? with
  | none => rw [e] at h; cases h
  | some u => rw [e] at h; cases u with
    | none => cases h
    | some d' => cases h; rfl
/-- a pair of which the second is a new list -/
def spPair (n : Nat) (F : List D → Option D) : L2.Sp := fun vs H Q _ => vs.length = n ∧ ∃ (M : MS) (l : List D) (dy : D) (de : List D), Ok M H ∧ RpAll M H vs l ∧ F l = some (.tuple [dy, .list de]) ∧
  ∀ (p le : Addr) (vy : L2.V) (xs : List L2.V) (H' : L2.Hp), L2.Same H H' → H le = none → H p = none → H' p = some (.tup [vy, .ref le]) → H' le = some (.lst xs) → Rp (fun a => M a ∨ a = le) H' vy dy → RpAll (fun a => M a ∨ a = le) H' xs de → Q (.ref p) H'
end Pu

set_option Elab.async false
set_option linter.all false
set_option maxRecDepth 100000
set_option maxHeartbeats 4000000
set_option autoImplicit false
/-! Lw: the readings that the laws share. -/
namespace Pu
open PySem PySem.Spec PyProof.Rows L2

theorem SlD.nones {M : MS} {H : Hp} (σ : St) : SlD M H σ (List.replicate σ.length none) := ⟨by simp, fun i d g => by
  rw [List.getElem?_replicate] at g
  split at g <;> cases g⟩
section
variable {K : PySem.W.Frag} {E E2 E3 : XK} {σ : St} {H : Hp} {Q : VK}
theorem rd_int {i : Int} (q : ∀ H', Same H H' → Q (.int i) H') : tP (eC (.int i)) σ H Q := tp_int (Ok.none H) (SlD.nones σ) rfl q
theorem rd_part {i : Int} {Q : Option Int → Hp → Prop} (q : ∀ H', Same H H' → Q (some i) H') : tPart (tP (eC (.int i))) σ H Q := tp_int (Ok.none H) (SlD.nones σ) rfl fun H' s' => ⟨i, rfl, q H' s'⟩
theorem rd_plan {a : Addr} {ns : List Int} {first mostI : Int} {most : Nat} (h0 : σ[0]? = some (some (.ref a))) (hS : SqL K H a (ns.map V.int)) (hf : 0 ≤ first) (hm : most ≤ 200) (hi : mostI = (most : Int))
    (q : ∀ b s v H', PlanOk most b s → Same H H' → (∀ M : MS, Ok M H → Rp M H' v (encP b s)) → Q v H') : tCall (spPlanZ K) [] E (tCons (tVar 0) (tCons (tP (eC (.int first))) (tCons (tP (eC (.int mostI))) tNil))) σ H Q := by
  subst hi
  refine ⟨_, h0, rd_int fun H1 s1 => rd_int fun H2 s2 => ?_⟩
  exact ⟨a, ns, first, most, rfl, (s1.trans s2).seq hS, hf, hm, fun b s v H3 Pl s3 fr => q b s v H3 Pl ((s1.trans s2).trans s3) fun M ok => fr M ((ok.same s1).same s2)⟩
theorem rd_cell {a : Addr} {ns : List Int} {k : Int} (h0 : σ[0]? = some (some (.ref a))) (hS : SqL K H a (ns.map V.int)) (hk : 0 ≤ k) (q : ∀ c H', Same H H' → Q (.int c) H') : tCall (spCellZ K) [] E (tCons (tVar 0) (tCons (tP (eC (.int k))) tNil)) σ H Q :=
  ⟨_, h0, rd_int fun H1 s1 => ⟨a, ns, k, rfl, s1.seq hS, hk, fun c H' s' => q c H' (s1.trans s')⟩⟩
/-- script[lo:hi] -/
theorem rd_cut {a : Addr} {ns : List Int} {lo hi : Int} (h0 : σ[0]? = some (some (.ref a))) (hS : SqL K H a (ns.map V.int)) (q : ∀ p (cs : List Int) H', cs.length ≤ ns.length → Same H H' → Rp M0 H' (.ref p) (.list (cs.map .int)) → Q (.ref p) H') :
    L2.tSl (rSlD K) (tVar 0) (tPart (tP (eC (.int lo)))) (tPart (tP (eC (.int hi)))) σ H Q := by
  refine ⟨_, h0, rd_part fun H1 s1 => rd_part fun H2 s2 => .inl ⟨a, _, rfl, (s1.trans s2).seq hS, fun p hp => ?_⟩⟩
  have scut : ∃ cs : List Int, cutV (ns.map V.int) (some lo) (some hi) = cs.map V.int ∧ cs.length ≤ ns.length := ⟨(ns.drop (HT.sIx (ns.map V.int).length 0 (some lo))).take (HT.sIx (ns.map V.int).length (ns.map V.int).length (some hi) - HT.sIx (ns.map V.int).length 0 (some lo)), by unfold cutV; rw [List.map_take, List.map_drop], by rw [List.length_take, List.length_drop]; omega⟩
  obtain ⟨cs, hcs, hcl⟩ := scut
  rw [hcs]
  obtain ⟨w1, w2⟩ := new_lst (M := M0) (Ok.none H2) hp (RpAll.of_ints cs)
  exact q p cs _ hcl ((s1.trans s2).trans w1) w2
/-- a weaving by the script's numbers -/
theorem rd_weav {a : Addr} {ns : List Int} {lo hi : Int} {gm : Sl → Option D} {ds : Sl} {m : Nat} (h0 : σ[0]? = some (some (.ref a))) (hS : SqL K H a (ns.map V.int)) (hn : ns.length ≤ 63) (sl : SlD M0 H σ ds) (hg : gm ds = some (.int (m : Int))) (m1 : 1 ≤ m) (m2 : m ≤ 12)
    (q : ∀ ws v H', ws.length ≤ 1890 → (∀ w ∈ ws, w < m) → Same H H' → Rp M0 H' v (.list (encN ws)) → Q v H') :
    tCall (spF 2 M_l_weaving_by) [] E (tCons (L2.tSl (rSlD K) (tVar 0) (tPart (tP (eC (.int lo)))) (tPart (tP (eC (.int hi))))) (tCons (tP gm) tNil)) σ H Q := by
  refine rd_cut h0 hS fun p cs H1 hc s1 r1 => ?_
  refine tp_int (Ok.none H1) (sl.same s1) hg fun H2 s2 => ?_
  obtain ⟨ws, w1, w2, w3⟩ := weaving_ev cs m m1 m2 (by omega)
  exact ⟨rfl, M0, _, _, Ok.none _, .cons (r1.same s2) (.cons (.int _) .nil), w3, fun v H3 s3 r3 => q ws v H3 (by omega) w2 ((s1.trans s2).trans s3) r3⟩
/-- woven(plan, started(plan), weaving) -/
theorem rd_woven {a : Addr} {ns : List Int} {lo hi : Int} {gp gm : Sl → Option D} {ds : Sl} {b s : LL} (h0 : σ[0]? = some (some (.ref a))) (hS : SqL K H a (ns.map V.int)) (hn : ns.length ≤ 63) (sl : SlD M0 H σ ds) (hp : gp ds = some (encP b s)) (hg : gm ds = some (.int (s.length : Int))) (P : PlanOk 200 b s)
    (q : ∀ ws v H', ws.length ≤ 1890 → (∀ w ∈ ws, w < s.length) → Same H H' → Rp M0 H' v (.tuple [encY (runY b (yard0 s) ws).1, .list ((runY b (yard0 s) ws).2.map encE)]) → Q v H') :
    tCall (spF 3 M_woven) [] E (tCons (tP gp) (tCons (tP (eCall M_started (esCons gp esNil))) (tCons (tCall (spF 2 M_l_weaving_by) [] E2 (tCons (L2.tSl (rSlD K) (tVar 0) (tPart (tP (eC (.int lo)))) (tPart (tP (eC (.int hi))))) (tCons (tP gm) tNil))) tNil))) σ H Q := by
  refine tp_ok (Ok.none H) sl hp fun vp H1 s1 rp => ?_
  refine tp_ok (Ok.none H1) (sl.same s1) (q_call (q_cons hp rfl) |>.trans (started_ev b s (by have := P.m2; unfold lim; omega))) fun vy H2 s2 ry => ?_
  have s12 := s1.trans s2
  refine rd_weav h0 (s12.seq hS) hn (sl.same s12) hg P.m1 P.m2 fun ws v H3 w1 w2 s3 r3 => ?_
  have hl : (yard0 s).rows.length = s.length := by unfold yard0; simp
  exact ⟨rfl, M0, _, _, Ok.none _, .cons ((rp.same s2).same s3) (.cons (ry.same s3) (.cons r3 .nil)), woven_ev (Gd.start P) (by omega) (by rw [hl]; exact w2) (A := .list (encN ws)) rfl, fun v4 H4 s4 r4 => q ws v4 H4 w1 w2 ((s12.trans s3).trans s4) r4⟩
/-- a plan of new lists -/
theorem rd_given {f g : Sl → Option D} {ds : Sl} {b s : LL} {i : Nat} (sl : SlD M0 H σ ds) (e0 : f ds = some (encLL b)) (e1 : g ds = some (encLL s)) (hi : i < σ.length) (hb : b.length ≤ 100000) (hs : s.length ≤ 100000)
    (q : ∀ p lb ls ab asr H', Same H H' → H p = none → New H lb ab → New H ls asr → Rows H' lb ab (b.map vN) → Rows H' ls asr (s.map vN) → (∀ x, (x = lb ∨ x ∈ ab) → x ≠ ls ∧ ¬ x ∈ asr) → H' p = some (.tup [.ref lb, .ref ls]) → Rp M0 H' (.ref p) (encP b s) → Q (.ref p) H') :
    tTup (tCons (tLc (iSeq K f) (gName i) tYes (tCB (rList K) (tCons (tVar i) tNil)) [i]) (tCons (tLc (iSeq K g) (gName i) tYes (tCB (rList K) (tCons (tVar i) tNil)) [i]) tNil)) σ H Q := by
  refine z_tup ?_
  refine z_cons ?_
  refine lc_copy (Ok.none H) sl e0 hi hb fun H4 lb ab Rb s4 nb => ?_
  refine z_cons ?_
  refine lc_copy (Ok.none H4) (sl.same s4) e1 hi hs fun H5 ls asr Rs s5 nsr => ?_
  refine ⟨by show 2 ≤ sizeLine; rw [sizeLine_eq]; decide, fun p hp => ?_⟩
  have s6 : Same H5 (upd H5 p (.tup [.ref lb, .ref ls])) := Pu.Same.new hp
  have Rb6 : Rows (upd H5 p (.tup [.ref lb, .ref ls])) lb ab (b.map vN) := Rb.same fun x o _ e => s6 x o (s5 x o e)
  have Rs6 : Rows (upd H5 p (.tup [.ref lb, .ref ls])) ls asr (s.map vN) := Rs.same fun x o _ e => s6 x o e
  have s46 := s4.trans s5
  refine q p lb ls ab asr _ (s46.trans s6) (s46.free hp) nb ⟨s4.free nsr.1, fun x hx => s4.free (nsr.2 x hx)⟩ Rb6 Rs6 (fun x hx => ?_) upd_same (.tup upd_same (fun z => z) (.cons (rows_rp Rb6 (fun z => z) fun _ _ z => z) (.cons (rows_rp Rs6 (fun z => z) fun _ _ z => z) .nil)))
  have hx4 : H4 x ≠ none := by
    rcases hx with rfl | hx
    · rw [Rb.top]; simp
    · obtain ⟨i, hi⟩ := List.mem_iff_getElem?.mp hx
      obtain ⟨r, _, h2⟩ := Rb.row i x hi
      rw [h2]; simp
  exact ⟨fun e => hx4 (e ▸ nsr.1), fun m => hx4 (nsr.2 x m)⟩

end
theorem Rp.old {H : Hp} {l : Addr} {v : V} {d : D} (r : Rp M0 H v d) (h : H l = none) : Rp (fun a => M0 a ∨ a = l) H v d := r.mono (fun a o n e => ⟨fun m => m.elim id fun m => (by rw [m, h] at e; cases e), e⟩) d v
theorem finR_len {b : LL} : ∀ (k : Nat) {n : Nat} {y : Yard} {r : Yard × List Evt} (G : Gd n b y), finR b k y = some r → r.2.length ≤ 12 * k
  | 0, n, y, r, G, h => by cases h
  | k + 1, n, y, r, G, h => by
    unfold finR at h
    by_cases ho : overY y = true
    · rw [if_pos ho] at h; cases h; exact Nat.zero_le _
    · rw [if_neg ho] at h
      obtain ⟨G1, hl⟩ := roundY_len G
      cases hz : finR b k (roundY b y).1 with
      | none => rw [hz] at h; cases h
      | some r' =>
        rw [hz] at h; cases h
        have := finR_len k G1 hz
        dsimp only
        rw [List.length_append]; omega
end Pu

set_option Elab.async false
set_option linter.all false
set_option maxRecDepth 100000
set_option maxHeartbeats 4000000
set_option autoImplicit false
/-! Xc: defs that raise. -/
namespace Pu
open PySem PySem.Spec PyProof.Rows L2

theorem fnok_or {P : Program} {w : World} {K : PySem.W.Frag} {mg : Str → Option Value} {base : Heap} {k j m : Nat} {f : Addr} {fd : FuncData} {ps : List Str} {sp1 sp2 : Sp} (F1 : FnOk P w K mg base CX0 k f fd ps sp1) (F2 : FnOk P w K mg base (L2.CX P w) j f fd ps sp2) (hk : k ≤ m) (hj : j ≤ m) :
    FnOk P w K mg base (L2.CX P w) m f fd ps (fun vs H Q E => sp1 vs H Q E ∨ sp2 vs H Q E) :=
  ⟨fun vs H Q E h => h.elim (F1.len vs H Q E) (F2.len vs H Q E), fun A outer s H args us vs Q E hr he hb hv hs => hs.elim
    (fun h => codeAny_mono ((F1.mono hk).run A outer s H args us vs Q E hr he hb hv h) fun r s' q => by
      cases r with
      | ok fl => cases fl <;> exact q
      | error e => exact q.elim)
    (fun h => (F2.mono hj).run A outer s H args us vs Q E hr he hb hv h)⟩
theorem pss_ex {X : Cx} {st : List Stmt} {ι : Type} {Pi : ι → Prop} {t : ι → TS} (h : ∀ i, Pi i → PSs X st (t i)) : PSs X st (fun D σ H => ∃ i, Pi i ∧ t i D σ H) := ⟨fun pins s σ H D I ⟨i, p, q⟩ => (h i p).run pins s σ H D I q⟩
/-- a def that raises one of two, each with no fields of its own, for such arguments -/
def spRaise (n : Nat) (Xf : List D → Option Addr) : Sp := fun vs H _ E => vs.length = n ∧ ∃ (M : MS) (l : List D) (C : Addr), Ok M H ∧ RpAll M H vs l ∧ Xf l = some C ∧ ∀ H', Same H H' → E (.ref C) none H'
/-- isinstance(e, c) -/
theorem pe_isE {X : Cx} {a D : Addr} {oe : Obj} {pn : List (Addr × Obj)} {i : Nat} {x c : Str} {p p1 p2 pos : Pos} {cv : V} {u : Value} (C : ExcC X.K D) (hz : Zc (.ref D) none oe) (hf : ∃ vs, oe.data = .fields vs)
    (hg : Gl X "isinstance") (hm : X.mg "isinstance" = none) (hN : X.N[i]? = some x) (hv : Vis X.env.scope x) (hc : PE (X.suite a ((a, oe) :: pn)) (.Name c p2) (tC cv)) (hd : (x == ("__debug__" : Str)) = false := by decide) (hcd : (x == ("__classdict__" : Str)) = false := by decide)
    (hs : starEach (.Name x p1 :: [.Name c p2]) X.env = (false, eval (.Name x p1) X.env) :: starEach [.Name c p2] X.env := by rfl) (hs2 : starEach (.Name c p2 :: []) X.env = (false, eval (.Name c p2) X.env) :: starEach [] X.env := by rfl) (hpl : (backTo pos (starEach [.Name c p2] X.env)).any (·.1) = false := by rfl) :
    PE (X.suite a ((a, oe) :: pn)) (.Call (.Name "isinstance" p) [.Name x p1, .Name c p2] [] pos) (tCB (rIsE X.K D a) (tCons (tVar i) (tCons (tC cv) tNil))) :=
  pe_callB (X := X.suite a ((a, oe) :: pn)) (call_isE C hz hf) hg hm (by decide +kernel) (pa_cons (pe_var hN hv hd hcd) (pa_cons hc pa_nil hs2) hs) (by decide) (by decide) hs hpl
/-- what isinstance tells of an error of class D -/
theorem isE_ok {K : PySem.W.Frag} {a D : Addr} {i : Nat} {cv : V} {u : Value} {b : Bool} {σ : St} {H : Hp} {Q : VK} (hσ : σ[i]? = some (some (.ref a))) (hu : ∀ w, RelV cv w → w = u) (e : PySem.W.kitOne K (.ref D) u = some b) (q : Q (.bl b) H) : tCB (rIsE K D a) (tCons (tVar i) (tCons (tC cv) tNil)) σ H Q :=
  ⟨_, hσ, cv, u, b, rfl, hu, e, q⟩
/-- which of two a step raises: true NoWorker, false NoStep -/
def K_stepped : List D → Option Bool
  | [_, .tuple [_, .tuple ss], .int w] => if 0 ≤ w ∧ w < (ss.length : Int) then (match ss[w.toNat]? with
      | some (.tuple (.str x :: _)) => if x = "rests" then some false else none
      | _ => none) else some true
  | _ => none
def X_stepped (CW CS : Addr) (l : List D) : Option Addr := (K_stepped l).map fun b => if b = true then CW else CS
def told8 (b : Bool) : List D := [.bool (!b), .bool b, .bool false, .bool false, .bool false, .bool false, .bool false, .bool true]
def M_l_told : List D → Option D := fun l => match K_stepped l with
  | some b => some (.list (told8 b))
  | none => M_stepped l
def X_woven (CW : Addr) : List D → Option Addr
  | [_, .tuple [.tuple rs, _], .list ws] => (intsOf ws).bind fun ns => if ns.all (fun w => decide (0 ≤ w ∧ w < (rs.length : Int))) = true then none else some CW
  | _ => none
theorem bt_ValueError : bootBuiltins "ValueError" = some (.type "ValueError") := by decide +kernel
/-- isinstance(e, c), read -/
abbrev tIE (K : PySem.W.Frag) (D a : Addr) (cv : V) : TE := tCB (rIsE K D a) (tCons (tVar 3) (tCons (tC cv) tNil))
theorem kit_ref {K : PySem.W.Frag} {t : Value} {C : Addr} {b : Bool} (h1 : PySem.W.isClsIn K C = true) (h2 : PySem.W.typeIn K (.ref C) = some (.type "type")) (h3 : PySem.W.subIn K t t = some true) (h4 : PySem.W.subIn K t (.ref C) = some b) : PySem.W.kitOne K t (.ref C) = some b := by
  unfold PySem.W.kitOne
  by_cases e : (t == .ref C) = true
  · rw [if_pos e]
    have e' : t = .ref C := beq_iff_eq.mp e
    rw [← e', h3] at h4
    exact h4
  · rw [if_neg e]
    unfold PySem.W.kitCls
    unfold PySem.W.isClsIn at h1
    dsimp only
    rw [h1, h2]
    have e2 : (true && (some (Value.type "type") == some (Value.type "type"))) = true := by rfl
    rw [if_pos e2]
    exact h4
theorem kit_VE {K : PySem.W.Frag} {C : Addr} (h : PySem.W.subIn K (.ref C) (.type "ValueError") = some true) : PySem.W.kitOne K (.ref C) (.type "ValueError") = some true := by
  unfold PySem.W.kitOne
  have e : ¬ ((Value.ref C == .type "ValueError") = true) := by intro e; cases beq_iff_eq.mp e
  rw [if_neg e]
  unfold PySem.W.kitCls
  dsimp only
  have e2 : PySem.W.kitMeta "ValueError" = true := by decide +kernel
  rw [if_pos e2]
  exact h
/-- both ways of an if, joined -/
theorem z_join {c : TT} {t u rest : TS} {D : Ends} {σ : St} {H : Hp} (P : St → Hp → Prop) (h1 : ∀ σ' H', P σ' H' → rest D σ' H') (h2 : (∀ σ' H', P σ' H' → rest D σ' H') → c σ H fun b H1 => if b = true then t { D with nx := fun σ H => rest D σ H } σ H1 else u { D with nx := fun σ H => rest D σ H } σ H1) : tSeq (tIfS c t u) rest D σ H := h2 h1
end Pu

set_option Elab.async false
set_option linter.all false
set_option maxRecDepth 100000
set_option maxHeartbeats 2000000
set_option autoImplicit false
/-! Pu6: list(range(n)), l.index(x), l.pop(). -/
namespace Pu
open PySem PySem.Spec PyProof.Rows L2

def eLstR (f : Sl → Option (List D)) : Sl → Option D := fun ds => (f ds).bind fun l => some (.list l)
theorem rgV_0 (n : Int) : rgV 0 n = (List.range n.toNat).map fun (i : Nat) => V.int (i : Int) := by
  unfold rgV
  rw [Int.sub_zero]
  exact List.map_congr_left fun i _ => by rw [Int.zero_add]
theorem rpAll_rng {M : MS} {H : Hp} (n : Int) : RpAll M H ((List.range n.toNat).map fun (i : Nat) => V.int (i : Int)) (rngD n) := by
  unfold rngD
  have z := RpAll.of_ints (M := M) (H := H) ((List.range n.toNat).map fun (i : Nat) => (i : Int))
  rw [List.map_map, List.map_map] at z
  exact z
section
variable {X : Cx} {a b n : Expr} {f g h : Sl → Option D} {p pos p1 pos1 apos cpos : Pos}
theorem pd_listRg (hc : X.calm = true) (hgl : Gl X "list") (hml : X.mg "list" = none) (hg : Gl X "range") (hm : X.mg "range" = none) (he : PE X n (tP h))
    (na : starEach [n] X.env = (false, eval n X.env) :: starEach [] X.env := by rfl) (nb : starEach [.Call (.Name "range" p1) [n] [] pos1] X.env = (false, eval (.Call (.Name "range" p1) [n] [] pos1) X.env) :: starEach [] X.env := by rfl) :
    PE X (.Call (.Name "list" p) [.Call (.Name "range" p1) [n] [] pos1] [] pos) (tP (eLstR (eRng h))) := pe_of (pe_listRg hc hgl hml (prg_1 hg hm he na) nb) fun σ H Q ⟨M, ds, d, ok, s, e, q⟩ => by
  obtain ⟨l, e1, e2⟩ := bind_some e
  cases e2
  obtain ⟨d0, e3, e4⟩ := bind_some e1
  split at e4
  · split at e4
    · rename_i k hk
      cases e4
      refine ⟨M, ds, _, ok, s, e3, fun v H1 s1 r1 => ?_⟩
      cases r1
      refine ⟨k, rfl, ⟨by omega, by omega, by omega, by omega, by omega⟩, fun p hp => ?_⟩
      rw [rgV_0]
      have z := new_lst (M := M) (ok.same s1) hp (rpAll_rng k)
      exact q _ _ (s1.trans z.1) z.2
    · cases e4
  · cases e4
def oIndex : D → D → Option D
  | .list l, x => if SeqAt.shaped (.list l) = true ∧ SeqAt.shaped x = true then (l.findIdx? fun z => PyData.eqv z x).map fun (j : Nat) => .int (j : Int) else none
  | _, _ => none
theorem pd_index (hu : X.A.units + 65 < cLine) (ha : PE X a (tP f)) (hb : PE X b (tP g)) (hbase : attributeBase a "index" X.env (eval a X.env) = eval a X.env := by rfl)
    (hfew : ((backTo cpos (starEach [b] X.env)).all (fun x => !x.1) && (backToKw cpos (keywordEach [] X.env)).all (fun x => x.1.isSome) && decide (([b] : List Expr).length + ([] : List Keyword).length + (if ([] : List Keyword).isEmpty then 0 else 1) < 30)) = true := by rfl)
    (hline : (apos.endLine == cpos.line) = true := by rfl) (hs : starEach [b] X.env = (false, eval b X.env) :: starEach [] X.env := by rfl) (hplain : (backTo cpos (starEach [] X.env)).any (·.1) = false := by rfl) :
    PE X (.Call (.Attribute a "index" apos) [b] [] cpos) (tP (eOp oIndex f g)) := pe_of (pe_bm PySem.F.plainAttrs_list PySem.F.slot_list_index PySem.F.type_list_index (mt_indexD hu) ha (pa_cons hb pa_nil hs) hbase hfew hline hs hplain) fun σ H Q ⟨M, ds, d, ok, s, e, q⟩ => by
  obtain ⟨x, e1, e⟩ := bind_some e
  obtain ⟨y, e2, e3⟩ := bind_some e
  unfold oIndex at e3
  split at e3
  · rename_i l
    split at e3
    · rename_i hz
      cases hj : l.findIdx? (fun z => PyData.eqv z y) with
      | none => rw [hj] at e3; cases e3
      | some j =>
        rw [hj] at e3
        cases e3
        rw [List.findIdx?_eq_some_iff_getElem] at hj
        obtain ⟨j1, j2, j3⟩ := hj
        refine ⟨M, ds, .list l, ok, s, e1, fun v H1 s1 r1 => ?_⟩
        cases r1 with
        | lst a1 n1 q1 =>
          rename_i la xs
          refine ⟨.inl ⟨rfl, xs, SqL.of a1⟩, M, ds, y, ok.same s1, s.same s1, e2, fun w H2 s2 r2 => ?_⟩
          have rl : Rp M H2 (.ref la) (.list l) := .lst (s2 _ _ a1) n1 (q1.same s2)
          refine ⟨la, w, y, l, j, l[j], rfl, rfl, rl.dp, r2.dp, hz.1, hz.2, List.getElem?_eq_getElem j1, j2, fun m z' hm hz' => ?_, q _ _ (s1.trans s2) (.int _)⟩
          have hml : m < l.length := by omega
          have e5 := j3 m hm
          rw [List.getElem?_eq_getElem hml] at hz'
          cases hz'
          simpa using e5
    · cases e3
  · cases e3
end
end Pu

set_option Elab.async false
set_option linter.all false
set_option maxRecDepth 100000
set_option maxHeartbeats 4000000
set_option autoImplicit false
/-! Rep: events with any numbers; what plain rows are behind them. -/
namespace Pu
open PySem

inductive EvI where
  | own (w t : Int) | taken (w o t : Int) | put (w t : Int) | done (w t : Int) | rests (w : Int)
def encI : EvI → D
  | .own w t => .tuple [.str "own", .int w, .int t]
  | .taken w o t => .tuple [.str "taken", .int w, .int o, .int t]
  | .put w t => .tuple [.str "put", .int w, .int t]
  | .done w t => .tuple [.str "done", .int w, .int t]
  | .rests w => .tuple [.str "rests", .int w]
def embI : Evt → EvI
  | .own w t => .own w t
  | .taken w o t => .taken w o t
  | .put w t => .put w t
  | .done w t => .done w t
  | .rests w => .rests w
theorem enc_emb (e : Evt) : encI (embI e) = encE e := by cases e <;> rfl
def wOf : EvI → Int
  | .own w _ => w
  | .taken w _ _ => w
  | .put w _ => w
  | .done w _ => w
  | .rests w => w
/-- what holds of plain rows in every replay -/
structure PlOk (b : LL) (p : Pl) : Prop where
  lh : p.holds.length = p.rows.length
  lr : p.rests.length = p.rows.length
  rs : ∀ r ∈ p.rows, ∀ t ∈ r, t < b.length
  hs : ∀ h, some h ∈ p.holds → h.1 < b.length ∧ h.2 ≤ (br b h.1).length
/-- an event of any numbers, done upon plain rows -/
def goI (b : LL) (p : Pl) (e : EvI) : Option Pl := if 0 ≤ wOf e ∧ wOf e < (p.rows.length : Int) ∧ p.Z (wOf e).toNat = false then (match e with
  | .own w t => if p.H w.toNat = none ∧ (p.R w.toNat).getLast?.map (fun (n : Nat) => (n : Int)) = some t then some ⟨p.rows.set w.toNat (p.R w.toNat).dropLast, p.holds.set w.toNat (some (t.toNat, 0)), p.rests⟩ else none
  | .taken w o t => if p.H w.toNat = none ∧ 0 ≤ o ∧ o < (p.rows.length : Int) ∧ o ≠ w ∧ (p.R o.toNat).head?.map (fun (n : Nat) => (n : Int)) = some t then some ⟨p.rows.set o.toNat (p.R o.toNat).tail, p.holds.set w.toNat (some (t.toNat, 0)), p.rests⟩ else none
  | .put w t => (p.H w.toNat).bind fun h => if ((br b h.1)[h.2]?).map (fun (n : Nat) => (n : Int)) = some t then some ⟨p.rows.set w.toNat (p.R w.toNat ++ [t.toNat]), p.holds.set w.toNat (some (h.1, h.2 + 1)), p.rests⟩ else none
  | .done w t => (p.H w.toNat).bind fun h => if (h.1 : Int) = t ∧ (br b h.1).length ≤ h.2 then some ⟨p.rows, p.holds.set w.toNat none, p.rests⟩ else none
  | .rests w => if p.H w.toNat = none ∧ p.R w.toNat = [] then some ⟨p.rows, p.holds, p.rests.set w.toNat true⟩ else none) else none
def goIs (b : LL) : Pl → List EvI → Option Pl
  | p, [] => some p
  | p, e :: es => (goI b p e).bind fun q => goIs b q es
theorem Pl.H_of {p : Pl} {w : Nat} {h : Nat × Nat} (e : p.H w = some h) : some h ∈ p.holds := by
  unfold Pl.H at e
  cases q : p.holds[w]? with
  | none => rw [q] at e; cases e
  | some o =>
    rw [q] at e
    have e' : o = some h := e
    rw [← e']
    exact List.mem_of_getElem? q
theorem Pl.R_in {p : Pl} {w t : Nat} (h : t ∈ p.R w) : ∃ r ∈ p.rows, t ∈ r := by
  unfold Pl.R at h
  cases q : p.rows[w]? with
  | none => rw [q] at h; cases h
  | some r => rw [q] at h; exact ⟨r, List.mem_of_getElem? q, h⟩
theorem br_lt {b : LL} {p n c : Nat} (hb : ∀ (p : Nat) (l : List Nat) (c : Nat), b[p]? = some l → c ∈ l → p < c ∧ c < b.length) (h : (br b p)[n]? = some c) : c < b.length := by
  unfold br at h
  cases e : b[p]? with
  | none => rw [e] at h; simp at h
  | some l => rw [e] at h; exact (hb p l c e (List.mem_of_getElem? h)).2
theorem PlOk.start {b s : LL} (P : PlanOk 200 b s) : PlOk b (pl0 s) := ⟨by unfold pl0; simp, by unfold pl0; simp, fun r hr t ht => by
  obtain ⟨i, hi⟩ := List.mem_iff_getElem?.mp hr
  exact P.ins i r t hi ht, fun h hm => by
  unfold pl0 at hm
  obtain ⟨_, _, e⟩ := List.mem_map.mp hm
  cases e⟩
theorem mem_set {α : Type} {l : List α} {i : Nat} {a x : α} (h : x ∈ l.set i a) : x ∈ l ∨ x = a := List.mem_or_eq_of_mem_set h
theorem PlOk.go {b : LL} {p q : Pl} {e : EvI} (hb : ∀ (p : Nat) (l : List Nat) (c : Nat), b[p]? = some l → c ∈ l → p < c ∧ c < b.length) (O : PlOk b p) (h : goI b p e = some q) : PlOk b q ∧ q.rows.length = p.rows.length := by
  unfold goI at h
  split at h
  · rename_i hw
    cases e with
    | own w t =>
      dsimp only at h
      split at h
      · rename_i c
        cases h
        obtain ⟨c1, c2⟩ := c
        cases hl : (p.R w.toNat).getLast? with
        | none => rw [hl] at c2; cases c2
        | some x =>
          rw [hl] at c2
          have ex : (x : Int) = t := Option.some.inj c2
          have hx : x ∈ p.R w.toNat := List.mem_of_getLast? hl
          refine ⟨⟨by simp [O.lh], by simp [O.lr], fun r hr u hu => ?_, fun g hg => ?_⟩, by simp⟩
          · rcases mem_set hr with m | rfl
            · exact O.rs r m u hu
            · obtain ⟨r', m1, m2⟩ := Pl.R_in (List.dropLast_subset _ hu)
              exact O.rs r' m1 u m2
          · rcases mem_set hg with m | m
            · exact O.hs g m
            · cases m
              obtain ⟨r', m1, m2⟩ := Pl.R_in hx
              have := O.rs r' m1 x m2
              exact ⟨by show t.toNat < _; omega, Nat.zero_le _⟩
      · cases h
    | taken w o t =>
      dsimp only at h
      split at h
      · rename_i c
        cases h
        obtain ⟨c1, c2, c3, c4, c5⟩ := c
        cases hl : (p.R o.toNat).head? with
        | none => rw [hl] at c5; cases c5
        | some x =>
          rw [hl] at c5
          have ex : (x : Int) = t := Option.some.inj c5
          have hx : x ∈ p.R o.toNat := List.mem_of_head? hl
          refine ⟨⟨by simp [O.lh], by simp [O.lr], fun r hr u hu => ?_, fun g hg => ?_⟩, by simp⟩
          · rcases mem_set hr with m | rfl
            · exact O.rs r m u hu
            · obtain ⟨r', m1, m2⟩ := Pl.R_in (List.mem_of_mem_tail hu)
              exact O.rs r' m1 u m2
          · rcases mem_set hg with m | m
            · exact O.hs g m
            · cases m
              obtain ⟨r', m1, m2⟩ := Pl.R_in hx
              have := O.rs r' m1 x m2
              exact ⟨by show t.toNat < _; omega, Nat.zero_le _⟩
      · cases h
    | put w t =>
      dsimp only at h
      obtain ⟨g, hg, h⟩ := bind_some h
      split at h
      · rename_i c
        cases h
        cases hl : (br b g.1)[g.2]? with
        | none => rw [hl] at c; cases c
        | some x =>
          rw [hl] at c
          have ex : (x : Int) = t := Option.some.inj c
          have hx := br_lt hb hl
          have og := O.hs g (Pl.H_of hg)
          have hlen := (List.getElem?_eq_some_iff.mp hl).1
          refine ⟨⟨by simp [O.lh], by simp [O.lr], fun r hr u hu => ?_, fun k hk => ?_⟩, by simp⟩
          · rcases mem_set hr with m | rfl
            · exact O.rs r m u hu
            · rcases List.mem_append.mp hu with m | m
              · obtain ⟨r', m1, m2⟩ := Pl.R_in m
                exact O.rs r' m1 u m2
              · have := List.mem_singleton.mp m
                omega
          · rcases mem_set hk with m | m
            · exact O.hs k m
            · cases m
              exact ⟨og.1, hlen⟩
      · cases h
    | done w t =>
      dsimp only at h
      obtain ⟨g, hg, h⟩ := bind_some h
      split at h
      · cases h
        refine ⟨⟨by simp [O.lh], by simp [O.lr], O.rs, fun k hk => ?_⟩, rfl⟩
        rcases mem_set hk with m | m
        · exact O.hs k m
        · cases m
      · cases h
    | rests w =>
      dsimp only at h
      split at h
      · cases h
        exact ⟨⟨O.lh, by simp [O.lr], O.rs, O.hs⟩, rfl⟩
      · cases h
  · cases h
/-- an event of the steps, done so, too -/
theorem goI_emb {b : LL} {p q : Pl} {e : Evt} (O : PlOk b p) (h : goP b p e = some q) : goI b p (embI e) = some q := by
  cases e with
  | own w t =>
    unfold goP at h; dsimp only at h
    split at h
    · rename_i c
      cases h
      obtain ⟨c1, c2, c3, c4⟩ := c
      unfold goI
      rw [if_pos ⟨by show (0 : Int) ≤ (w : Int); omega, by show (w : Int) < _; omega, by show p.Z ((w : Int).toNat) = false; rw [Int.toNat_natCast]; exact c2⟩]
      simp only [embI, Int.toNat_natCast]
      rw [if_pos ⟨c3, by rw [c4]; rfl⟩]
    · cases h
  | taken w o t =>
    unfold goP at h; dsimp only at h
    split at h
    · rename_i c
      cases h
      obtain ⟨c1, c2, c3, c4, c5, c6⟩ := c
      unfold goI
      rw [if_pos ⟨by show (0 : Int) ≤ (w : Int); omega, by show (w : Int) < _; omega, by show p.Z ((w : Int).toNat) = false; rw [Int.toNat_natCast]; exact c2⟩]
      simp only [embI, Int.toNat_natCast]
      rw [if_pos ⟨c3, by omega, by omega, by omega, by rw [c6]; rfl⟩]
    · cases h
  | put w t =>
    unfold goP at h; dsimp only at h
    split at h
    · rename_i c
      obtain ⟨g, h1, h⟩ := bind_some h
      obtain ⟨l, h2, h⟩ := bind_some h
      split at h
      · rename_i h3
        cases h
        unfold goI
        rw [if_pos ⟨by show (0 : Int) ≤ (w : Int); omega, by show (w : Int) < _; have := c.1; omega, by show p.Z ((w : Int).toNat) = false; rw [Int.toNat_natCast]; exact c.2⟩]
        simp only [embI, Int.toNat_natCast]
        rw [h1, Option.bind_some, br_of h2, h3]; simp
      · cases h
    · cases h
  | done w t =>
    unfold goP at h; dsimp only at h
    split at h
    · rename_i c
      obtain ⟨g, h1, h⟩ := bind_some h
      obtain ⟨l, h2, h⟩ := bind_some h
      split at h
      · rename_i h3
        cases h
        unfold goI
        rw [if_pos ⟨by show (0 : Int) ≤ (w : Int); omega, by show (w : Int) < _; have := c.1; omega, by show p.Z ((w : Int).toNat) = false; rw [Int.toNat_natCast]; exact c.2⟩]
        simp only [embI, Int.toNat_natCast]
        rw [h1, Option.bind_some, br_of h2, if_pos ⟨by rw [h3.1], by omega⟩]
      · cases h
    · cases h
  | rests w =>
    unfold goP at h; dsimp only at h
    split at h
    · rename_i c
      cases h
      obtain ⟨c1, c2, c3, c4⟩ := c
      unfold goI
      rw [if_pos ⟨by show (0 : Int) ≤ (w : Int); omega, by show (w : Int) < _; omega, by show p.Z ((w : Int).toNat) = false; rw [Int.toNat_natCast]; exact c2⟩]
      simp only [embI, Int.toNat_natCast]
      rw [if_pos ⟨c3, c4⟩]
    · cases h
theorem goIs_emb {b : LL} (hb : ∀ (p : Nat) (l : List Nat) (c : Nat), b[p]? = some l → c ∈ l → p < c ∧ c < b.length) : ∀ (es : List Evt) {p q : Pl} (O : PlOk b p) (h : goPs b p es = some q), goIs b p (es.map embI) = some q
  | [], p, q, O, h => h
  | e :: es, p, q, O, h => by
    obtain ⟨r, h1, h2⟩ := bind_some h
    have z := goI_emb O h1
    show ((goI b p (embI e)).bind fun q => goIs b q (es.map embI)) = _
    rw [z, Option.bind_some]
    exact goIs_emb hb es (O.go hb z).1 h2
/-! ### plain rows in memory -/
def encH : Option (Nat × Nat) → D
  | none => .none
  | some h => .tuple [.int (h.1 : Int), .int (h.2 : Int)]
/-- the lists that change: the rows' list l, the rows as, the holds' list hl -/
abbrev MG (l : Addr) (as : List Addr) (hl : Addr) : MS := fun a => a = l ∨ a ∈ as ∨ a = hl
structure Own3 (H : L2.Hp) (l : Addr) (as : List Addr) (hl : Addr) (p : Pl) : Prop where
  rows : Rows H l as (p.rows.map vN)
  holds : ∃ hv, H hl = some (.lst hv) ∧ RpAll (MG l as hl) H hv (p.holds.map encH)
  ne : hl ≠ l ∧ ¬ hl ∈ as
structure SizeP (b s : LL) (p : Pl) : Prop where
  bl : b.length ≤ 1000
  br : ∀ r ∈ b, r.length ≤ 1000
  sl : s.length ≤ 1000
  sr : ∀ r ∈ s, r.length ≤ 1000
  ml : p.rows.length ≤ 1000
  rl : ∀ r ∈ p.rows, r.length ≤ 900000
def spGone : L2.Sp := fun vs H Q _ => ∃ (l : Addr) (as : List Addr) (hl : Addr) (vp ve : L2.V) (b s : LL) (p : Pl) (e : EvI), vs = [vp, .ref l, .ref hl, ve] ∧ Own3 H l as hl p ∧ Rp (MG l as hl) H vp (encP b s) ∧ Rp (MG l as hl) H ve (encI e) ∧ PlOk b p ∧ SizeP b s p ∧
  0 ≤ wOf e ∧ wOf e < (p.rows.length : Int) ∧ p.Z (wOf e).toNat = false ∧
  (∀ q H', goI b p e = some q → (∀ a o, ¬ MG l as hl a → H a = some o → H' a = some o) → Own3 H' l as hl q → Q (.bl true) H') ∧
  (∀ H', goI b p e = none → (∀ a o, ¬ MG l as hl a → H a = some o → H' a = some o) → Q (.bl false) H')
/-- read as plain data -/
theorem Own3.rp {H : L2.Hp} {l hl : Addr} {as : List Addr} {p : Pl} (O : Own3 H l as hl p) : Rp M0 H (.ref l) (encLL p.rows) ∧ Rp M0 H (.ref hl) (.list (p.holds.map encH)) := by
  obtain ⟨hv, h1, h2⟩ := O.holds
  exact ⟨rows_rp O.rows (fun z => z) fun _ _ z => z, .lst h1 (fun z => z) (h2.mono (fun a o n e => ⟨fun z => z, e⟩) _ _)⟩
def wordI : EvI → Str
  | .own _ _ => "own"
  | .taken _ _ _ => "taken"
  | .put _ _ => "put"
  | .done _ _ => "done"
  | .rests _ => "rests"
theorem cut_2 {ds : Sl} {f : Sl → Option D} {e : EvI} (h : f ds = some (encI e)) : eSl f eNoPart (ePart (eC (.int 2))) ds = some (.tuple [.str (wordI e), .int (wOf e)]) := by
  have c : ∀ (a b : D) (l : List D), cutD (a :: b :: l) none (some 2) = [a, b] := fun a b l => by
    unfold cutD
    rw [HT.sIx_none, show (2 : Int) = ((2 : Nat) : Int) from rfl, HT.sIx_nat]
    simp
  unfold eSl ePart eNoPart eC
  rw [h]
  cases e <;> (show some (PyData.tuple (cutD _ none (some 2))) = _; unfold wordI wOf; dsimp only; rw [c])
theorem Own3.same {H H' : L2.Hp} {l hl : Addr} {as : List Addr} {p : Pl} (O : Own3 H l as hl p) (s : L2.Same H H') : Own3 H' l as hl p := by
  obtain ⟨hv, h1, h2⟩ := O.holds
  exact ⟨O.rows.same fun x o _ e => s x o e, ⟨hv, s _ _ h1, h2.same s⟩, O.ne⟩
theorem Own3.rest {H : L2.Hp} {l hl : Addr} {as : List Addr} {p q : Pl} (O : Own3 H l as hl p) (h1 : q.rows = p.rows) (h2 : q.holds = p.holds) : Own3 H l as hl q := ⟨by rw [h1]; exact O.rows, by rw [h2]; exact O.holds, O.ne⟩
theorem frm {l hl : Addr} {as : List Addr} {H H' : L2.Hp} (s : L2.Same H H') : ∀ a o, ¬ MG l as hl a → H a = some o → H' a = some o := fun a o _ e => s a o e
theorem held_ev {b : LL} {p : Pl} {w : Int} {ds : Sl} {f g : Sl → Option D} (PO : PlOk b p) (h0 : 0 ≤ w) (h1 : w < (p.rows.length : Int)) (hf : f ds = some (.list (p.holds.map encH))) (hg : g ds = some (.int w)) : eOp oIx f g ds = some (encH (p.H w.toNat)) := by
  rw [eOp_ev hf hg]
  refine ixL_at (at?_map ?_)
  unfold at?
  rw [if_pos h0]
  exact get_of (by have := PO.lh; omega)
theorem row_ev {p : Pl} {w : Int} {ds : Sl} {f g : Sl → Option D} (h0 : 0 ≤ w) (h1 : w < (p.rows.length : Int)) (hf : f ds = some (encLL p.rows)) (hg : g ds = some (.int w)) : eOp oIx f g ds = some (encL (p.R w.toNat)) := by
  rw [eOp_ev hf hg]
  refine ixL_at (at?_map ?_)
  unfold at?
  rw [if_pos h0]
  exact get_of (by omega)
theorem isn_encH (h : Option (Nat × Nat)) : isNon (encH h) = h.isNone := by cases h <;> rfl
/-- a row changes -/
theorem Own3.setRow {H : L2.Hp} {l hl a : Addr} {as : List Addr} {p : Pl} {i : Nat} {r : List Nat} (O : Own3 H l as hl p) (h : as[i]? = some a) : Own3 (L2.upd H a (.lst (vN r))) l as hl ⟨p.rows.set i r, p.holds, p.rests⟩ := by
  obtain ⟨hv, h1, h2⟩ := O.holds
  have hm := List.mem_of_getElem? h
  have ha : hl ≠ a := fun e => O.ne.2 (by rw [e]; exact hm)
  refine ⟨?_, ⟨hv, by rw [L2.upd_ne ha]; exact h1, h2.mono (fun x o n e => ⟨n, by rw [L2.upd_ne (fun (z : x = a) => n (.inr (.inl (by rw [z]; exact hm))))]; exact e⟩) _ _⟩, O.ne⟩
  have z := O.rows.set (r := vN r) h
  rw [map_set_vN] at z
  exact z
/-- what one holds changes -/
theorem Own3.setHold {H : L2.Hp} {l hl : Addr} {as : List Addr} {p : Pl} {hv : List L2.V} {i : Nat} {v : L2.V} {h : Option (Nat × Nat)} (O : Own3 H l as hl p) (e : H hl = some (.lst hv)) (r : Rp (MG l as hl) H v (encH h)) : Own3 (L2.upd H hl (.lst (hv.set i v))) l as hl ⟨p.rows, p.holds.set i h, p.rests⟩ := by
  obtain ⟨hv', h1, h2⟩ := O.holds
  rw [e] at h1
  cases h1
  have fr : ∀ a o, ¬ MG l as hl a → H a = some o → ¬ MG l as hl a ∧ (L2.upd H hl (.lst (hv.set i v))) a = some o := fun a o n z => ⟨n, by rw [L2.upd_ne (fun (y : a = hl) => n (.inr (.inr y)))]; exact z⟩
  refine ⟨O.rows.same fun x o hx z => by
    rw [L2.upd_ne (fun (y : x = hl) => ?_)]
    · exact z
    · rcases hx with q | q
      · exact O.ne.1 (by rw [← y, q])
      · exact O.ne.2 (by rw [← y]; exact q), ⟨_, L2.upd_same, ?_⟩, O.ne⟩
  rw [List.map_set]
  have set_all : ∀ (vs : List L2.V) (ds : List D) (i : Nat) (d : D), RpAll (MG l as hl) H vs ds → Rp (MG l as hl) H v d → RpAll (MG l as hl) H (vs.set i v) (ds.set i d) := by
    intro vs
    induction vs with
    | nil => intro ds i d q _; cases ds with
      | nil => exact .nil
      | cons => cases q
    | cons x vs ih =>
      intro ds i d q rd
      cases ds with
      | nil => cases q
      | cons y ds =>
        cases q with
        | cons q1 q2 =>
          cases i with
          | zero => exact .cons rd q2
          | succ i => exact .cons q1 (ih ds i d q2 rd)
  exact (set_all _ _ i _ h2 r).mono fr _ _
theorem vN_len (r : List Nat) : (vN r).length = r.length := by unfold vN; rw [List.length_map]
theorem vN_get {r : List Nat} {i c : Nat} (h : r[i]? = some c) : (vN r)[i]? = some (.int (c : Int)) := by unfold vN; rw [List.getElem?_map, h]; rfl
theorem vN_last (r : List Nat) : vN r.dropLast = (vN r).dropLast := by unfold vN; rw [List.map_dropLast]
theorem vN_tail (r : List Nat) : vN r.tail = (vN r).tail := by unfold vN; rw [List.map_tail]
end Pu

set_option Elab.async false
set_option linter.all false
set_option maxRecDepth 100000
set_option maxHeartbeats 4000000
set_option autoImplicit false
/-! Rep2: what the tests and the values of a going event are. -/
namespace Pu
open PySem

abbrev dG (b st : LL) (p : Pl) (e : EvI) (x7 x8 x9 : Option D) : Sl := [some (encP b st), some (encLL p.rows), some (.list (p.holds.map encH)), some (encI e), some (.str (wordI e)), some (.int (wOf e)), some (encH (p.H (wOf e).toNat)), x7, x8, x9]
def isTk : EvI → Bool
  | .own _ _ => true
  | .taken _ _ _ => true
  | _ => false
def isTaken : EvI → Bool
  | .taken _ _ _ => true
  | _ => false
def takO : EvI → Int
  | .own w _ => w
  | .taken _ o _ => o
  | _ => 0
def takT : EvI → Int
  | .own _ t => t
  | .taken _ _ t => t
  | _ => 0
def endOf (k : Bool) (r : List Nat) : Option Nat := if k = true then r.head? else r.getLast?
def cutEnd (k : Bool) (r : List Nat) : List Nat := if k = true then r.tail else r.dropLast
theorem sh_wordI (e : EvI) : SeqAt.shaped (.str (wordI e)) = true := by cases e <;> first | exact sh_own | exact sh_taken | exact sh_put | exact sh_done | exact sh_rests
theorem goI_take {b : LL} {p : Pl} {e : EvI} (h : isTk e = true) (w0 : 0 ≤ wOf e) (wm : wOf e < (p.rows.length : Int)) (wz : p.Z (wOf e).toNat = false) :
    goI b p e = if p.H (wOf e).toNat = none ∧ (isTaken e = true → takO e ≠ wOf e) ∧ 0 ≤ takO e ∧ takO e < (p.rows.length : Int) ∧ (endOf (isTaken e) (p.R (takO e).toNat)).map (fun (n : Nat) => (n : Int)) = some (takT e) then some ⟨p.rows.set (takO e).toNat (cutEnd (isTaken e) (p.R (takO e).toNat)), p.holds.set (wOf e).toNat (some ((takT e).toNat, 0)), p.rests⟩ else none := by
  unfold goI
  rw [if_pos ⟨w0, wm, wz⟩]
  cases e with
  | own w t =>
    have w0' : 0 ≤ w := w0
    have wm' : w < (p.rows.length : Int) := wm
    simp [isTaken, takO, takT, wOf, endOf, cutEnd, w0', wm']
  | taken w o t =>
    have c : ∀ (P Q R S T : Prop), (P ∧ Q ∧ R ∧ S ∧ T) = (P ∧ S ∧ Q ∧ R ∧ T) := fun P Q R S T => propext ⟨fun ⟨a, b, c, d, e⟩ => ⟨a, d, b, c, e⟩, fun ⟨a, b, c, d, e⟩ => ⟨a, c, d, b, e⟩⟩
    simp only [isTaken, takO, takT, wOf, endOf, cutEnd, if_true, forall_const, true_implies]
    congr 1
    exact c _ _ _ _ _
  | put w t => cases h
  | done w t => cases h
  | rests w => cases h
theorem gIn {b st : LL} {p : Pl} (e : EvI) (x7 x8 x9 : Option D) : bT (eOp oInA (eVar 4) (eLst (esCons (eC (.str "own")) (esCons (eC (.str "taken")) esNil)))) (dG b st p e x7 x8 x9) = some (isTk e) := by
  refine bT_of ?_
  rw [eOp_ev (eVar_get rfl) (q_lst (l := [.str "own", .str "taken"]) rfl (by simp))]
  have hs : SeqAt.shaped (.list [.str "own", .str "taken"]) = true := by decide +kernel
  show (if SeqAt.shaped (.str (wordI e)) = true ∧ SeqAt.shaped (.list [.str "own", .str "taken"]) = true then _ else _) = _
  rw [if_pos ⟨sh_wordI e, hs⟩]
  cases e <;> simp (config := {decide := true}) [wordI, eqv_strs, isTk]
theorem gTk {b st : LL} {p : Pl} {e : EvI} (h : isTk e = true) (x7 x8 x9 : Option D) : eOp oEq (eVar 4) (eC (.str "taken")) (dG b st p e x7 x8 x9) = some (.bool (isTaken e)) := by
  rw [eOp_ev (eVar_get rfl) rfl, oEq_str (sh_wordI e) sh_taken]
  cases e <;> first | (cases h; done) | rfl
theorem gOth {b st : LL} {p : Pl} {e : EvI} (h : isTk e = true) (x7 x8 x9 : Option D) : eOp oIx (eLst (esCons (eVar 5) (esCons (eOp oIx (eVar 3) (eC (.int 2))) esNil))) (eCall oInt (esCons (eOp oEq (eVar 4) (eC (.str "taken"))) esNil)) (dG b st p e x7 x8 x9) = some (.int (takO e)) := by
  have e1 : eCall oInt (esCons (eOp oEq (eVar 4) (eC (.str "taken"))) esNil) (dG b st p e x7 x8 x9) = some (.int (if isTaken e then 1 else 0)) := by
    rw [q_call (q_cons (gTk h x7 x8 x9) q_nil)]; rfl
  cases e with
  | own w t =>
    rw [eOp_ev (q_lst (q_cons (eVar_get rfl) (q_cons (d := .int t) (by rw [eOp_ev (eVar_get rfl) rfl]; exact oIx2) q_nil)) (by simp)) e1]
    exact ixL_at (by simp [isTaken, at?, takO, wOf])
  | taken w o t =>
    rw [eOp_ev (q_lst (q_cons (eVar_get rfl) (q_cons (d := .int o) (by rw [eOp_ev (eVar_get rfl) rfl]; exact oIx2) q_nil)) (by simp)) e1]
    exact ixL_at (by simp [isTaken, at?, takO, wOf])
  | put w t => cases h
  | done w t => cases h
  | rests w => cases h
theorem gIsN {b st : LL} {p : Pl} {e : EvI} (x7 x8 x9 : Option D) : eOp oIsA (eVar 6) (eC .none) (dG b st p e x7 x8 x9) = some (.bool (p.H (wOf e).toNat).isNone) := by
  rw [eOp_ev (eVar_get rfl) rfl]
  show some (PyData.bool (isNon (encH (p.H (wOf e).toNat)))) = _
  rw [isn_encH]
theorem gT1 {b st : LL} {p : Pl} {e : EvI} (h : isTk e = true) (x8 x9 : Option D) : bOr (bT (eOp oIsntA (eVar 6) (eC .none))) (bAnd (bT (eOp oEq (eVar 4) (eC (.str "taken")))) (bT (eOp oEq (eVar 7) (eVar 5)))) (dG b st p e (some (.int (takO e))) x8 x9) = some (!decide (p.H (wOf e).toNat = none ∧ (isTaken e = true → takO e ≠ wOf e))) := by
  have e1 : bT (eOp oIsntA (eVar 6) (eC .none)) (dG b st p e (some (.int (takO e))) x8 x9) = some (!(p.H (wOf e).toNat).isNone) := bT_of (by
    rw [eOp_ev (eVar_get rfl) rfl]
    show some (PyData.bool (!isNon (encH (p.H (wOf e).toNat)))) = _
    rw [isn_encH])
  have e2 : bAnd (bT (eOp oEq (eVar 4) (eC (.str "taken")))) (bT (eOp oEq (eVar 7) (eVar 5))) (dG b st p e (some (.int (takO e))) x8 x9) = some (isTaken e && (takO e == wOf e)) := and_ev (bT_of (gTk h _ _ _)) (eq_ev (eVar_get rfl) (eVar_get rfl))
  unfold bOr
  rw [e1, e2, Option.bind_some]
  cases hh : p.H (wOf e).toNat with
  | none =>
    cases ht : isTaken e <;> by_cases ho : takO e = wOf e <;> simp [ho]
  | some g => simp
theorem gLen {b st : LL} {p : Pl} {e : EvI} (x7 x8 x9 : Option D) : eCall oLen (esCons (eVar 1) esNil) (dG b st p e x7 x8 x9) = some (.int (p.rows.length : Int)) := by
  rw [q_call (q_cons (eVar_get rfl) q_nil)]
  show some (PyData.int ((p.rows.map encL).length : Int)) = _
  rw [List.length_map]
theorem gT2 {b st s : LL} {p : Pl} {e : EvI} (SZ : SizeP b s p) (x8 x9 : Option D) : bOr (bNot (bT (eChain oLe oLt (eC (.int 0)) (eVar 7) (eCall oLen (esCons (eVar 1) esNil))))) (bT (eOp oEq (eOp oIx (eVar 1) (eVar 7)) (eLst esNil))) (dG b st p e (some (.int (takO e))) x8 x9) = some (!decide (0 ≤ takO e ∧ takO e < (p.rows.length : Int) ∧ p.R (takO e).toNat ≠ [])) := by
  have e1 : bT (eChain oLe oLt (eC (.int 0)) (eVar 7) (eCall oLen (esCons (eVar 1) esNil))) (dG b st p e (some (.int (takO e))) x8 x9) = some (decide (0 ≤ takO e ∧ takO e < (p.rows.length : Int))) := by
    unfold bT eChain
    rw [gLen]
    by_cases h1 : 0 ≤ takO e <;> by_cases h2 : takO e < (p.rows.length : Int) <;> simp [eC, eVar, oLe, oLt, h1, h2]
  unfold bOr bNot
  rw [e1, Option.bind_some, Option.bind_some]
  by_cases h : 0 ≤ takO e ∧ takO e < (p.rows.length : Int)
  · rw [decide_eq_true h]
    have z : p.rows[(takO e).toNat]? = some (p.R (takO e).toNat) := get_of (by omega)
    have hle : (p.R (takO e).toNat).length ≤ 1000000 := by
      have := SZ.rl _ (List.mem_of_getElem? z)
      omega
    rw [bT_of (eqnil_ev (row_ev h.1 h.2 (eVar_get rfl) (eVar_get rfl)) hle)]
    simp [h]
  · have h' : ¬ (0 ≤ takO e ∧ takO e < (p.rows.length : Int) ∧ p.R (takO e).toNat ≠ []) := fun z => h ⟨z.1, z.2.1⟩
    rw [decide_eq_false h, decide_eq_false h']
    rfl
theorem gPop {b st : LL} {p : Pl} {e : EvI} (h : isTk e = true) (x7 x8 x9 : Option D) : eOp oMul (eOp oIndex (eLst (esCons (eC (.str "taken")) (esCons (eC (.str "own")) esNil))) (eVar 4)) (eUn oNeg (eC (.int 1))) (dG b st p e x7 x8 x9) = some (.int (if isTaken e then 0 else -1)) := by
  have hs : SeqAt.shaped (.list [.str "taken", .str "own"]) = true := by decide +kernel
  have e1 : eOp oIndex (eLst (esCons (eC (.str "taken")) (esCons (eC (.str "own")) esNil))) (eVar 4) (dG b st p e x7 x8 x9) = some (.int (if isTaken e then 0 else 1)) := by
    rw [eOp_ev (q_lst (l := [.str "taken", .str "own"]) rfl (by simp)) (eVar_get rfl)]
    show (if SeqAt.shaped (.list [.str "taken", .str "own"]) = true ∧ SeqAt.shaped (.str (wordI e)) = true then _ else _) = _
    rw [if_pos ⟨hs, sh_wordI e⟩]
    cases e with
    | own w t => simp (config := {decide := true}) [wordI, eqv_strs, isTaken, List.findIdx?_cons]
    | taken w o t => simp (config := {decide := true}) [wordI, eqv_strs, isTaken, List.findIdx?_cons]
    | put w t => cases h
    | done w t => cases h
    | rests w => cases h
  rw [mul_ev (y := -1) e1 rfl (.inr (by decide))]
  cases isTaken e <;> rfl
theorem pop_end (k : Bool) {r : List Nat} (hr : r ≠ []) : ∃ (j x : Nat), seqIndex? (if k then 0 else -1) (vN r).length = some j ∧ (vN r)[j]? = some (.int (x : Int)) ∧ (vN r).eraseIdx j = vN (cutEnd k r) ∧ endOf k r = some x := by
  have hl : 0 < r.length := List.length_pos_iff.mpr hr
  cases k with
  | true =>
    cases r with
    | nil => exact (hr rfl).elim
    | cons x r =>
      refine ⟨0, x, ?_, rfl, rfl, rfl⟩
      rw [vN_len]
      exact (L2.ixN_seq (n := (x :: r).length) (i := 0) (j := 0) (by unfold L2.ixN; rw [if_pos (by decide), if_pos (by simp only [List.length_cons]; omega)]; rfl)).1
  | false =>
    refine ⟨r.length - 1, r[r.length - 1]'(by omega), ?_, ?_, ?_, ?_⟩
    · rw [vN_len]
      have z := (L2.ixN_seq (n := r.length) (i := -1) (j := r.length - 1) (by
        unfold L2.ixN
        rw [if_neg (by decide), if_pos (by omega)]
        congr 1
        omega)).1
      exact z
    · exact vN_get (List.getElem?_eq_getElem _)
    · show _ = vN r.dropLast
      rw [vN_last, List.dropLast_eq_take, List.eraseIdx_eq_take_drop_succ, vN_len, List.drop_of_length_le (by rw [vN_len]; omega), List.append_nil]
    · show r.getLast? = _
      rw [List.getLast?_eq_getElem?, List.getElem?_eq_getElem (by omega)]
theorem gEnd {e : EvI} (h : isTk e = true) {ds : Sl} (h3 : ds[3]? = some (some (encI e))) : eOp oIx (eVar 3) (eUn oNeg (eC (.int 1))) ds = some (.int (takT e)) := by
  rw [eOp_ev (eVar_get h3) (show eUn oNeg (eC (.int 1)) ds = some (.int (-1)) from rfl)]
  cases e <;> first | (cases h; done) | rfl
/-! put and done -/
def tOf : EvI → Int
  | .own _ t => t
  | .taken _ _ t => t
  | .put _ t => t
  | .done _ t => t
  | .rests _ => 0
theorem cut_from (l : List D) (k : Nat) : cutD l (some (k : Int)) none = l.drop k := by
  unfold cutD
  rw [HT.sIx_none, HT.sIx_nat]
  rcases Nat.le_total k l.length with q | q
  · rw [Nat.min_eq_left q, List.take_of_length_le (by rw [List.length_drop]; exact Nat.le_refl _)]
  · rw [Nat.min_eq_right q, List.drop_of_length_le (Nat.le_refl _), List.drop_of_length_le q, List.take_nil]
theorem cut_to (l : List D) (k : Nat) : cutD l none (some (k : Int)) = l.take k := by
  unfold cutD
  rw [HT.sIx_none, HT.sIx_nat, List.drop_zero, Nat.sub_zero]
  rcases Nat.le_total k l.length with q | q
  · rw [Nat.min_eq_left q]
  · rw [Nat.min_eq_right q, List.take_of_length_le (Nat.le_refl _), List.take_of_length_le q]
theorem encN_drop (l : List Nat) (k : Nat) : (encN l).drop k = encN (l.drop k) := by unfold encN; rw [List.map_drop]
theorem encN_take (l : List Nat) (k : Nat) : (encN l).take k = encN (l.take k) := by unfold encN; rw [List.map_take]
theorem gLeft {b st : LL} {h : Nat × Nat} {ds : Sl} (h0 : ds[0]? = some (some (encP b st))) (h6 : ds[6]? = some (some (encH (some h)))) (hb : h.1 < b.length) :
    eSl (eOp oIx (eOp oIx (eVar 0) (eC (.int 0))) (eOp oIx (eVar 6) (eC (.int 0)))) (ePart (eOp oIx (eVar 6) (eC (.int 1)))) eNoPart ds = some (encL ((br b h.1).drop h.2)) := by
  have e0 : eOp oIx (eVar 6) (eC (.int 0)) ds = some (.int (h.1 : Int)) := by rw [eOp_ev (eVar_get h6) rfl]; exact oIx0
  have e1 : eOp oIx (eVar 6) (eC (.int 1)) ds = some (.int (h.2 : Int)) := by rw [eOp_ev (eVar_get h6) rfl]; exact oIx1
  have e2 : eOp oIx (eOp oIx (eVar 0) (eC (.int 0))) (eOp oIx (eVar 6) (eC (.int 0))) ds = some (encL (br b h.1)) := by
    rw [eOp_ev (eOp_ev (eVar_get h0) rfl |>.trans oIx0) e0]
    refine ixL_at (at?_map ?_)
    unfold at?
    rw [if_pos (by omega), Int.toNat_natCast]
    exact get_of hb
  unfold eSl ePart eNoPart
  rw [e2, e1]
  show some (PyData.list (cutD (encN (br b h.1)) (some (h.2 : Int)) none)) = _
  rw [cut_from, encN_drop]; rfl
theorem gHeld {h : Nat × Nat} {ds : Sl} (h6 : ds[6]? = some (some (encH (some h)))) : eTup (esCons (eOp oIx (eVar 6) (eC (.int 0))) (esCons (eOp oAdd (eOp oIx (eVar 6) (eC (.int 1))) (eC (.int 1))) esNil)) ds = some (encH (some (h.1, h.2 + 1))) := by
  have e0 : eOp oIx (eVar 6) (eC (.int 0)) ds = some (.int (h.1 : Int)) := by rw [eOp_ev (eVar_get h6) rfl]; exact oIx0
  have e1 : eOp oIx (eVar 6) (eC (.int 1)) ds = some (.int (h.2 : Int)) := by rw [eOp_ev (eVar_get h6) rfl]; exact oIx1
  rw [q_tup (q_cons e0 (q_cons (add_ev e1 rfl) q_nil)) (by simp)]
  rfl
theorem eqv_one (l : List Nat) (t : Int) : PyData.eqv (.list (encN (l.take 1))) (.list [.int t]) = decide ((l.head?).map (fun (n : Nat) => (n : Int)) = some t) := by
  cases l with
  | nil => simp [encN, PyData.eqv, PyData.eqvAll]
  | cons x l =>
    simp only [encN, List.take_succ_cons, List.take_zero, List.map_cons, List.map_nil, PyData.eqv, PyData.eqvAll, Bool.and_true, List.head?_cons, Option.map_some, Option.some.injEq]
    exact (Bool.beq_eq_decide_eq _ _)
theorem gLeft1 {l : List Nat} {t : Int} {ds : Sl} (h9 : ds[9]? = some (some (encL l))) (h3 : eOp oIx (eVar 3) (eC (.int 2)) ds = some (.int t)) :
    eOp oEq (eSl (eVar 9) eNoPart (ePart (eC (.int 1)))) (eLst (esCons (eOp oIx (eVar 3) (eC (.int 2))) esNil)) ds = some (.bool (decide ((l.head?).map (fun (n : Nat) => (n : Int)) = some t))) := by
  have e1 : eSl (eVar 9) eNoPart (ePart (eC (.int 1))) ds = some (.list (encN (l.take 1))) := by
    unfold eSl ePart eNoPart
    rw [eVar_get h9]
    show some (PyData.list (cutD (encN l) none (some ((1 : Nat) : Int)))) = _
    rw [cut_to, encN_take]
  rw [eOp_ev e1 (q_lst (q_cons h3 q_nil) (by simp))]
  have s1 : SeqAt.shaped (.list (encN (l.take 1))) = true := good_sh (good_L (l.take 1) (by rw [List.length_take]; omega)) (by omega)
  have s2 : SeqAt.shaped (.list [.int t]) = true := rfl
  unfold oEq
  rw [if_pos ⟨s1, s2⟩, eqv_one]
theorem gDone {h : Nat × Nat} {l : List Nat} {t : Int} {ds : Sl} (h9 : ds[9]? = some (some (encL l))) (hl : l.length ≤ 1000000) (h6 : ds[6]? = some (some (encH (some h)))) (h3 : eOp oIx (eVar 3) (eC (.int 2)) ds = some (.int t)) :
    eAnd (eOp oEq (eVar 9) (eLst esNil)) (eOp oEq (eOp oIx (eVar 6) (eC (.int 0))) (eOp oIx (eVar 3) (eC (.int 2)))) ds = some (.bool (decide ((h.1 : Int) = t ∧ l = []))) := by
  have e0 : eOp oIx (eVar 6) (eC (.int 0)) ds = some (.int (h.1 : Int)) := by rw [eOp_ev (eVar_get h6) rfl]; exact oIx0
  unfold eAnd
  rw [bT_of (eqnil_ev (eVar_get h9) hl), Option.bind_some, eOp_ev e0 h3, oEq_int]
  by_cases h1 : l = [] <;> by_cases h2 : (h.1 : Int) = t <;> simp [h1, h2]
theorem head_drop (l : List Nat) (k : Nat) : (l.drop k).head? = l[k]? := by rw [List.head?_drop]
theorem ev_2 {e : EvI} {w t : Int} {ds : Sl} (h : e = .put w t ∨ e = .done w t) (h3 : ds[3]? = some (some (encI e))) : eOp oIx (eVar 3) (eC (.int 2)) ds = some (.int t) := by
  rw [eOp_ev (eVar_get h3) rfl]
  rcases h with rfl | rfl <;> exact oIx2
theorem encH_M {M : MS} {H : L2.Hp} {v : L2.V} {h : Option (Nat × Nat)} (k : ∀ a, M a → ∀ xs, H a ≠ some (.tup xs)) (r : Rp M0 H v (encH h)) : Rp M H v (encH h) := Rp.nolist k _ v (by cases h <;> rfl) r
theorem Own3.notup {H : L2.Hp} {l hl : Addr} {as : List Addr} {p : Pl} (O : Own3 H l as hl p) : ∀ a, MG l as hl a → ∀ xs, H a ≠ some (.tup xs) := by
  intro a ha xs e
  obtain ⟨hv, h1, _⟩ := O.holds
  rcases ha with rfl | ha | rfl
  · rw [O.rows.top] at e; cases e
  · obtain ⟨i, hi⟩ := List.mem_iff_getElem?.mp ha
    obtain ⟨r, _, h2⟩ := O.rows.row i a hi
    rw [h2] at e; cases e
  · rw [h1] at e; cases e
theorem Own3.ok {H : L2.Hp} {l hl : Addr} {as : List Addr} {p : Pl} (O : Own3 H l as hl p) : Ok (MG l as hl) H := by
  intro a ha e
  obtain ⟨hv, h1, _⟩ := O.holds
  rcases ha with rfl | ha | rfl
  · rw [O.rows.top] at e; cases e
  · obtain ⟨i, hi⟩ := List.mem_iff_getElem?.mp ha
    obtain ⟨r, _, h2⟩ := O.rows.row i a hi
    rw [h2] at e; cases e
  · rw [h1] at e; cases e
end Pu

set_option Elab.async false
set_option linter.all false
set_option maxRecDepth 100000
set_option maxHeartbeats 4000000
set_option autoImplicit false
/-! Rep3: going through all events. -/
namespace Pu
open PySem PySem.Spec PyProof.Rows L2

theorem goIs_app {b : LL} : ∀ (es fs : List EvI) (p : Pl), goIs b p (es ++ fs) = (goIs b p es).bind fun q => goIs b q fs
  | [], _, _ => rfl
  | e :: es, fs, p => by
    show ((goI b p e).bind fun q => goIs b q (es ++ fs)) = ((goI b p e).bind fun q => goIs b q es).bind _
    cases goI b p e with
    | none => rfl
    | some q => exact goIs_app es fs q
theorem goIs_take {b : LL} {p q : Pl} {es : List EvI} {i : Nat} {e : EvI} (h : goIs b p (es.take i) = some q) (he : es[i]? = some e) : goIs b p (es.take (i + 1)) = goI b q e := by
  rw [List.take_add_one, he, goIs_app, h, Option.bind_some]
  show ((goI b q e).bind fun q => some q) = _
  cases goI b q e <;> rfl
theorem goIs_stop {b : LL} {p : Pl} {es : List EvI} {i : Nat} (h : goIs b p (es.take i) = none) : goIs b p es = none := by
  rw [← List.take_append_drop i es, goIs_app, h]; rfl
theorem goI_rests {b : LL} {p q : Pl} {e : EvI} (lr : p.rests.length = p.rows.length) (h : goI b p e = some q) : q.rests = p.rests.set (wOf e).toNat (decide (wordI e = "rests")) := by
  unfold goI at h
  split at h
  · rename_i hw
    have keep : p.rests = p.rests.set (wOf e).toNat false := by
      have hz := hw.2.2
      unfold Pl.Z at hz
      have hl : (wOf e).toNat < p.rests.length := by omega
      rw [List.getElem?_eq_getElem hl, Option.getD_some] at hz
      rw [← hz]
      exact (List.set_getElem_self hl).symm
    cases e with
    | own w t =>
      dsimp only at h
      split at h
      · cases h; exact keep
      · cases h
    | taken w o t =>
      dsimp only at h
      split at h
      · cases h; exact keep
      · cases h
    | put w t =>
      dsimp only at h
      obtain ⟨g, _, h⟩ := bind_some h
      split at h
      · cases h; exact keep
      · cases h
    | done w t =>
      dsimp only at h
      obtain ⟨g, _, h⟩ := bind_some h
      split at h
      · cases h; exact keep
      · cases h
    | rests w =>
      dsimp only at h
      split at h
      · cases h; rfl
      · cases h
  · cases h
theorem goI_rl {b : LL} {p q : Pl} {e : EvI} {N : Nat} (hr : ∀ r ∈ p.rows, r.length ≤ N) (h : goI b p e = some q) : ∀ r ∈ q.rows, r.length ≤ N + 1 := by
  have hR : ∀ w, (p.R w).length ≤ N := fun w => by
    unfold Pl.R
    cases e : p.rows[w]? with
    | none => simp
    | some r => exact hr r (List.mem_of_getElem? e)
  unfold goI at h
  split at h
  · cases e with
    | own w t =>
      dsimp only at h
      split at h
      · cases h
        intro r m
        rcases mem_set m with m | rfl
        · have := hr r m; omega
        · have := hR w.toNat; rw [List.length_dropLast]; omega
      · cases h
    | taken w o t =>
      dsimp only at h
      split at h
      · cases h
        intro r m
        rcases mem_set m with m | rfl
        · have := hr r m; omega
        · have := hR o.toNat; rw [List.length_tail]; omega
      · cases h
    | put w t =>
      dsimp only at h
      obtain ⟨g, _, h⟩ := bind_some h
      split at h
      · cases h
        intro r m
        rcases mem_set m with m | rfl
        · have := hr r m; omega
        · have := hR w.toNat; rw [List.length_append]; simp; omega
      · cases h
    | done w t =>
      dsimp only at h
      obtain ⟨g, _, h⟩ := bind_some h
      split at h
      · cases h
        intro r m
        have := hr r m; omega
      · cases h
    | rests w =>
      dsimp only at h
      split at h
      · cases h
        intro r m
        have := hr r m; omega
      · cases h
  · cases h
def encPl (q : Pl) : D := .tuple [encLL q.rows, .list (q.holds.map encH), .list (q.rests.map .bool)]
def spReplayed : Sp := fun vs H Q _ => ∃ (vp ve : V) (b s : LL) (es : List EvI), vs = [vp, ve] ∧ Rp M0 H vp (encP b s) ∧ Rp M0 H ve (.list (es.map encI)) ∧ PlanOk 200 b s ∧ es.length ≤ 800000 ∧
  (∀ H', goIs b (pl0 s) es = none → Same H H' → Q .non H') ∧
  (∀ q v H', goIs b (pl0 s) es = some q → Same H H' → Rp M0 H' v (encPl q) → Q v H')
/-- [c for x in l] -/
theorem lc_const {K : PySem.W.Frag} {M : MS} {σ : St} {ds : Sl} {f : Sl → Option D} {l : List D} {c : D} {cv : V} {H : Hp} {Q : VK} {i : Nat} (ok : Ok M H) (s : SlD M H σ ds) (e : f ds = some (.list l)) (hc : ∀ (H : Hp) (v : V), Rp M0 H v c → v = cv) (hz : l.length ≤ 100000)
    (q : ∀ H' Dl, H Dl = none → H' Dl = some (.lst (List.replicate l.length cv)) → Same H H' → Q (.ref Dl) H') : tLc (iSeq K f) (gName i) tYes (tP (eC c)) [i] σ H Q := by
  refine .inl (tp_ok ok s e fun v H1 s1 r1 => ?_)
  cases r1 with
  | lst a1 n1 r1 =>
    rename_i a xs
    have hlen : xs.length = l.length := r1.length
    refine ⟨a, rfl, ⟨_, SqL.of a1⟩, fun Dl hD => lc_list (te := tP (eC c)) (tt := tYes) (fun j H' => H' Dl = some (.lst (List.replicate j cv)) ∧ Same H1 H') ⟨upd_same, Pu.Same.new hD⟩ (fun j H' _ ⟨_, s'⟩ => SqL.of (s' _ _ a1)) (fun j x H' hx hP => ?_) (fun H' hP => ?_)⟩
    · obtain ⟨hl, s'⟩ := hP
      have hj := (List.getElem?_eq_some_iff.mp hx).1
      refine ⟨?_, ?_⟩
      · show ((σ.set i none).set i _).set i none = σ.set i none
        rw [set_set3, set_set3]
      · dsimp only [tYes]
        rw [if_pos rfl]
        refine tp_ok (Ok.none H') (SlD.nones _) rfl fun v H2 s2 rv => ?_
        have ev := hc H2 v rv
        subst ev
        refine ⟨_, s2 _ _ hl, by rw [List.length_replicate, sizeLine_eq]; omega, ?_, ?_⟩
        · rw [List.replicate_succ']; exact upd_same
        · exact Pu.Same.mut (L2.Same.trans s' s2) hD
    · obtain ⟨hl, s'⟩ := hP
      rw [hlen] at hl
      exact q H' Dl (s1.free hD) hl (L2.Same.trans s1 s')
theorem rd_planG {K : PySem.W.Frag} {E : XK} {σ : St} {H : Hp} {Q : VK} {te : TE} {a : Addr} {ns : List Int} {first : Int} {most : Nat} (h0 : σ[0]? = some (some (.ref a))) (hS : SqL K H a (ns.map V.int)) (hf : 0 ≤ first) (hm : most ≤ 200) (ht : ∀ (Q' : VK) (H1 : Hp), Same H H1 → (∀ H', Same H1 H' → Q' (.int (most : Int)) H') → te σ H1 Q')
    (q : ∀ b s v H', PlanOk most b s → Same H H' → (∀ M : MS, Ok M H → Rp M H' v (encP b s)) → Q v H') : tCall (spPlanZ K) [] E (tCons (tVar 0) (tCons (tP (eC (.int first))) (tCons te tNil))) σ H Q :=
  ⟨_, h0, rd_int fun H1 s1 => ht _ H1 s1 fun H2 s2 => ⟨a, ns, first, most, rfl, (s1.trans s2).seq hS, hf, hm, fun b s v H3 Pl s3 fr => q b s v H3 Pl ((s1.trans s2).trans s3) fun M ok => fr M ((ok.same s1).same s2)⟩⟩
theorem hc_none : ∀ (H : Hp) (v : V), Rp M0 H v .none → v = .non := fun H v r => by cases r; rfl
theorem hc_bool (b : Bool) : ∀ (H : Hp) (v : V), Rp M0 H v (.bool b) → v = .bl b := fun H v r => by cases r; rfl
theorem PlanOk.rowb {n : Nat} {b s : LL} (P : PlanOk n b s) : (∀ r ∈ b, r.length ≤ b.length) ∧ ∀ r ∈ s, r.length ≤ b.length := by
  refine ⟨fun r hr => ?_, fun r hr => ?_⟩
  · have h2 : r.Nodup := ((List.nodup_append.mp P.nd).1).sublist (List.sublist_flatten_of_mem hr)
    obtain ⟨j, hj⟩ := List.mem_iff_getElem?.mp hr
    have h3 := List.Nodup.length_le_of_subset h2 (l₂ := List.range b.length) (fun x hx => List.mem_range.mpr (P.inb j r x hj hx).2)
    rw [List.length_range] at h3
    exact h3
  · have h2 : r.Nodup := ((List.nodup_append.mp P.nd).2.1).sublist (List.sublist_flatten_of_mem hr)
    obtain ⟨j, hj⟩ := List.mem_iff_getElem?.mp hr
    have h3 := List.Nodup.length_le_of_subset h2 (l₂ := List.range b.length) (fun x hx => List.mem_range.mpr (P.ins j r x hj hx))
    rw [List.length_range] at h3
    exact h3
theorem rpAll_nones {M : MS} {H : Hp} : ∀ (l : LL), RpAll M H (List.replicate l.length V.non) ((l.map fun _ => (none : Option (Nat × Nat))).map encH)
  | [] => .nil
  | _ :: l => .cons .non (rpAll_nones l)
theorem rpAll_bls {M : MS} {H : Hp} : ∀ (l : List Bool), RpAll M H (l.map V.bl) (l.map .bool)
  | [] => .nil
  | b :: l => .cons (.bl b) (rpAll_bls l)
theorem nolists_H : ∀ l : List (Option (Nat × Nat)), nolists (l.map encH) = true
  | [] => rfl
  | none :: l => nolists_H l
  | some h :: l => by
    show (nolist (encH (some h)) && nolists (l.map encH)) = true
    rw [nolists_H l]; rfl
theorem rd_non {σ : St} {H : Hp} {Q : VK} (q : ∀ H', Same H H' → Q .non H') : tP (eC .none) σ H Q := tp_ok (Ok.none H) (SlD.nones σ) rfl fun v H' s' r => by cases r; exact q H' s'
theorem ge_ev {f g : Sl → Option D} {ds : Sl} {x y : Int} (hf : f ds = some (.int x)) (hg : g ds = some (.int y)) : bT (eOp oGe f g) ds = some (decide (y ≤ x)) := by
  unfold bT; rw [eOp_ev hf hg]; rfl
end Pu

set_option Elab.async false
set_option linter.all false
set_option maxRecDepth 100000
set_option maxHeartbeats 4000000
set_option autoImplicit false
/-! Rw: the program's plain rows (its class Rows). -/
namespace Pu
open PySem PySem.Spec PyProof.Rows L2

abbrev M5 (l : Addr) (as : List Addr) (hl rl x : Addr) : MS := fun a => MG l as hl a ∨ a = rl ∨ a = x
def flR (vb : V) (l hl rl : Addr) : List (Str × V) := putF "rests" (.ref rl) (putF "holds" (.ref hl) (putF "rows" (.ref l) (putF "brood" vb [])))
theorem k_1 : ¬ (("brood" : Str) = "rows") := by decide +kernel
theorem k_2 : ¬ (("brood" : Str) = "holds") := by decide +kernel
theorem k_3 : ¬ (("brood" : Str) = "rests") := by decide +kernel
theorem k_4 : ¬ (("rows" : Str) = "holds") := by decide +kernel
theorem k_5 : ¬ (("rows" : Str) = "rests") := by decide +kernel
theorem k_6 : ¬ (("holds" : Str) = "rests") := by decide +kernel
section
variable {vb : V} {l hl rl : Addr}
theorem fR_rests : (flR vb l hl rl).lookup ("rests" : Str) = some (.ref rl) := by unfold flR; rw [lookup_putF, if_pos rfl]
theorem fR_holds : (flR vb l hl rl).lookup ("holds" : Str) = some (.ref hl) := by unfold flR; rw [lookup_putF, if_neg k_6, lookup_putF, if_pos rfl]
theorem fR_rows : (flR vb l hl rl).lookup ("rows" : Str) = some (.ref l) := by unfold flR; rw [lookup_putF, if_neg k_5, lookup_putF, if_neg k_4, lookup_putF, if_pos rfl]
theorem fR_brood : (flR vb l hl rl).lookup ("brood" : Str) = some vb := by unfold flR; rw [lookup_putF, if_neg k_3, lookup_putF, if_neg k_2, lookup_putF, if_neg k_1, lookup_putF, if_pos rfl]
theorem fR_no {m : Str} (h1 : ¬ m = "rests") (h2 : ¬ m = "holds") (h3 : ¬ m = "rows") (h4 : ¬ m = "brood") : (flR vb l hl rl).lookup m = none := by
  unfold flR
  rw [lookup_putF, if_neg h1, lookup_putF, if_neg h2, lookup_putF, if_neg h3, lookup_putF, if_neg h4]; rfl
end
/-- what is asked of the class -/
structure RTx (K : PySem.W.Frag) (C : Addr) : Prop where
  cl : Cls K C
  nb : NoAttr K C "brood"
  nr : NoAttr K C "rows"
  nh : NoAttr K C "holds"
  nz : NoAttr K C "rests"
structure RwAt (C : Addr) (H : Hp) (x l : Addr) (as : List Addr) (hl rl : Addr) (vb : V) (b : LL) (p : Pl) : Prop where
  ob : ∃ dx, H x = some (.ins C dx (flR vb l hl rl))
  own : Own3 H l as hl p
  rs : H rl = some (.lst (p.rests.map V.bl))
  br : Rp (M5 l as hl rl x) H vb (encLL b)
  nrl : ¬ MG l as hl rl
section
variable {C x l hl rl : Addr} {as : List Addr} {vb : V} {b : LL} {p q : Pl} {H H' : Hp}
theorem Own3.lst (O : Own3 H l as hl p) : ∀ a, MG l as hl a → ∃ ys, H a = some (.lst ys) := fun a ha => by
  obtain ⟨hv, h1, _⟩ := O.holds
  rcases ha with rfl | ha | rfl
  · exact ⟨_, O.rows.top⟩
  · obtain ⟨i, hi⟩ := List.mem_iff_getElem?.mp ha
    obtain ⟨r, _, h2⟩ := O.rows.row i a hi
    exact ⟨_, h2⟩
  · exact ⟨_, h1⟩
theorem RwAt.nx (R : RwAt C H x l as hl rl vb b p) : ¬ MG l as hl x := fun m => by
  obtain ⟨ys, e⟩ := R.own.lst x m
  obtain ⟨dx, e2⟩ := R.ob
  rw [e] at e2; cases e2
theorem RwAt.xrl (R : RwAt C H x l as hl rl vb b p) : x ≠ rl := fun z => by
  obtain ⟨dx, e2⟩ := R.ob
  rw [z, R.rs] at e2; cases e2
theorem RwAt.notup (R : RwAt C H x l as hl rl vb b p) : ∀ a, M5 l as hl rl x a → ∀ xs, H a ≠ some (.tup xs) := fun a m xs e => by
  rcases m with m | rfl | rfl
  · exact R.own.notup a m xs e
  · rw [R.rs] at e; cases e
  · obtain ⟨dx, e2⟩ := R.ob
    rw [e2] at e; cases e
theorem RwAt.ok (R : RwAt C H x l as hl rl vb b p) : Ok (M5 l as hl rl x) H := fun a m e => by
  rcases m with m | rfl | rfl
  · exact R.own.ok a m e
  · rw [R.rs] at e; cases e
  · obtain ⟨dx, e2⟩ := R.ob
    rw [e2] at e; cases e
theorem RwAt.same (R : RwAt C H x l as hl rl vb b p) (s : Same H H') : RwAt C H' x l as hl rl vb b p := by
  obtain ⟨dx, e⟩ := R.ob
  exact ⟨⟨dx, s _ _ e⟩, R.own.same s, s _ _ R.rs, R.br.same s, R.nrl⟩
/-- rows and holds changed -/
theorem RwAt.put (R : RwAt C H x l as hl rl vb b p) (O : Own3 H' l as hl q) (hr : q.rests = p.rests) (f : ∀ a o, ¬ MG l as hl a → H a = some o → H' a = some o) : RwAt C H' x l as hl rl vb b q := by
  obtain ⟨dx, e⟩ := R.ob
  exact ⟨⟨dx, f _ _ R.nx e⟩, O, by rw [hr]; exact f _ _ R.nrl R.rs, R.br.mono (fun a o n z => ⟨n, f a o (fun m => n (.inl m)) z⟩) _ _, R.nrl⟩
variable {K : PySem.W.Frag} {σ : St} {Q : VK} {ds : Sl} {g : Sl → Option D} {w : Int} {M : MS}
theorem rd_rows (T : RTx K C) (R : RwAt C H x l as hl rl vb b p) (h0 : σ[0]? = some (some (.ref x))) (q : Q (.ref l) H) : tFld K (tVar 0) "rows" σ H Q := by
  obtain ⟨dx, e⟩ := R.ob
  exact ⟨_, h0, x, C, dx, _, _, rfl, e, T.cl, T.nr, fR_rows, q⟩
theorem rd_holds (T : RTx K C) (R : RwAt C H x l as hl rl vb b p) (h0 : σ[0]? = some (some (.ref x))) (q : Q (.ref hl) H) : tFld K (tVar 0) "holds" σ H Q := by
  obtain ⟨dx, e⟩ := R.ob
  exact ⟨_, h0, x, C, dx, _, _, rfl, e, T.cl, T.nh, fR_holds, q⟩
theorem rd_rests (T : RTx K C) (R : RwAt C H x l as hl rl vb b p) (h0 : σ[0]? = some (some (.ref x))) (q : Q (.ref rl) H) : tFld K (tVar 0) "rests" σ H Q := by
  obtain ⟨dx, e⟩ := R.ob
  exact ⟨_, h0, x, C, dx, _, _, rfl, e, T.cl, T.nz, fR_rests, q⟩
theorem rd_brood (T : RTx K C) (R : RwAt C H x l as hl rl vb b p) (h0 : σ[0]? = some (some (.ref x))) (q : Q vb H) : tFld K (tVar 0) "brood" σ H Q := by
  obtain ⟨dx, e⟩ := R.ob
  exact ⟨_, h0, x, C, dx, _, _, rfl, e, T.cl, T.nb, fR_brood, q⟩
theorem atI_in {α : Type} {xs : List α} {w : Int} {v : α} (h0 : 0 ≤ w) (h : xs[w.toNat]? = some v) : atI xs w = some v := by
  have e : w = ((w.toNat : Nat) : Int) := by omega
  rw [e]
  exact L2.atI_nat h
/-- self.holds[w] -/
theorem rd_hold (T : RTx K C) (R : RwAt C H x l as hl rl vb b p) (PO : PlOk b p) (h0 : σ[0]? = some (some (.ref x))) (ok : Ok M H) (sl : SlD M H σ ds) (hg : g ds = some (.int w)) (w0 : 0 ≤ w) (wm : w < (p.rows.length : Int))
    (q : ∀ v H', Same H H' → Rp (M5 l as hl rl x) H' v (encH (p.H w.toNat)) → Q v H') : tOp (rIxD K) (tFld K (tVar 0) "holds") (tP g) σ H Q := by
  refine z_op ?_
  refine rd_holds T R h0 ?_
  refine tp_int ok sl hg fun H1 s1 => ?_
  have R1 := R.same s1
  obtain ⟨hv, h1, h2⟩ := R1.own.holds
  have hh : (p.holds.map encH)[w.toNat]? = some (encH (p.H w.toNat)) := by
    rw [List.getElem?_map]
    have : p.holds[w.toNat]? = some (p.H w.toNat) := get_of (by have := PO.lh; omega)
    rw [this]; rfl
  obtain ⟨v, hv1, rv⟩ := h2.get hh
  exact .inl ⟨hl, hv, w, v, rfl, rfl, SqL.of h1, atI_in w0 hv1, q v H1 s1 (Rp.nolist R1.notup _ v (by cases p.H w.toNat <;> rfl) rv)⟩
/-- self.rows[w] -/
theorem rd_row (T : RTx K C) (R : RwAt C H x l as hl rl vb b p) (h0 : σ[0]? = some (some (.ref x))) (ok : Ok M H) (sl : SlD M H σ ds) (hg : g ds = some (.int w)) (w0 : 0 ≤ w) (wm : w < (p.rows.length : Int))
    (q : ∀ a H', Same H H' → as[w.toNat]? = some a → H' a = some (.lst (vN (p.R w.toNat))) → Q (.ref a) H') : tOp (rIxD K) (tFld K (tVar 0) "rows") (tP g) σ H Q := by
  refine z_op ?_
  refine rd_rows T R h0 ?_
  refine tp_int ok sl hg fun H1 s1 => ?_
  have O1 := (R.same s1).own
  obtain ⟨a, r, e1, e2, e3, e4⟩ := O1.rows.at (i := w.toNat) (by rw [List.length_map]; omega)
  have hR : p.rows[w.toNat]? = some (p.R w.toNat) := get_of (by omega)
  rw [List.getElem?_map, hR] at e2
  cases e2
  exact .inl ⟨l, _, w, .ref a, rfl, rfl, SqL.of O1.rows.top, atI_in w0 (by rw [List.getElem?_map, e1]; rfl), q a H1 s1 e1 e3⟩
/-- self.rests[w] -/
theorem rd_rest (T : RTx K C) (R : RwAt C H x l as hl rl vb b p) (PO : PlOk b p) (h0 : σ[0]? = some (some (.ref x))) (ok : Ok M H) (sl : SlD M H σ ds) (hg : g ds = some (.int w)) (w0 : 0 ≤ w) (wm : w < (p.rows.length : Int))
    (q : ∀ H', Same H H' → Q (.bl (p.Z w.toNat)) H') : tOp (rIxD K) (tFld K (tVar 0) "rests") (tP g) σ H Q := by
  refine z_op ?_
  refine rd_rests T R h0 ?_
  refine tp_int ok sl hg fun H1 s1 => ?_
  have hz : (p.rests.map V.bl)[w.toNat]? = some (.bl (p.Z w.toNat)) := by
    rw [List.getElem?_map]
    have : p.rests[w.toNat]? = some (p.Z w.toNat) := get_of (by have := PO.lr; omega)
    rw [this]; rfl
  exact .inl ⟨rl, _, w, _, rfl, rfl, SqL.of (s1 _ _ R.rs), atI_in w0 hz, q H1 s1⟩
/-- self.brood[t] -/
theorem rd_kids (T : RTx K C) (R : RwAt C H x l as hl rl vb b p) (h0 : σ[0]? = some (some (.ref x))) (ok : Ok M H) (sl : SlD M H σ ds) {t : Nat} (hg : g ds = some (.int (t : Int))) (ht : t < b.length)
    (q : ∀ v H', Same H H' → Rp (M5 l as hl rl x) H' v (encL (br b t)) → Q v H') : tOp (rIxD K) (tFld K (tVar 0) "brood") (tP g) σ H Q := by
  refine z_op ?_
  refine rd_brood T R h0 ?_
  refine tp_int ok sl hg fun H1 s1 => ?_
  have R1 := R.same s1
  refine os_ix (M5 l as hl rl x) H1 vb (.int (t : Int)) (encLL b) (.int (t : Int)) (encL (br b t)) _ R1.ok R1.br (.int _) ?_ fun v H2 s2 rv => q v H2 (s1.trans s2) rv
  refine ixL_at (at?_map ?_)
  unfold at?
  rw [if_pos (by omega), Int.toNat_natCast]
  exact get_of ht
end
/-! ### the promises -/
def ends (k : Bool) : Int := if k then 0 else -1
def tkPl (p : Pl) (w o t : Int) (k : Bool) : Pl := ⟨p.rows.set o.toNat (cutEnd k (p.R o.toNat)), p.holds.set w.toNat (some (t.toNat, 0)), p.rests⟩
def tkOk (p : Pl) (w o t : Int) (k : Bool) : Prop := p.H w.toNat = none ∧ (endOf k (p.R o.toNat)).map (fun (n : Nat) => (n : Int)) = some t
def spIsW (C : Addr) : Sp := fun vs H Q _ => ∃ (x l : Addr) (as : List Addr) (hl rl : Addr) (vb : V) (b : LL) (p : Pl) (n : Int), vs = [.ref x, .int n] ∧ RwAt C H x l as hl rl vb b p ∧ ∀ H', Same H H' → Q (.bl (decide (0 ≤ n ∧ n < (p.rows.length : Int)))) H'
def spTakes (C : Addr) : Sp := fun vs H Q _ => ∃ (x l : Addr) (as : List Addr) (hl rl : Addr) (vb : V) (b : LL) (p : Pl) (w o t : Int) (k : Bool), vs = [.ref x, .int w, .int o, .int t, .int (ends k)] ∧ RwAt C H x l as hl rl vb b p ∧ PlOk b p ∧ (∀ r ∈ p.rows, r.length ≤ 900000) ∧ 0 ≤ w ∧ w < (p.rows.length : Int) ∧ 0 ≤ o ∧ o < (p.rows.length : Int) ∧
  (∀ H', tkOk p w o t k → (∀ a o, ¬ MG l as hl a → H a = some o → H' a = some o) → Own3 H' l as hl (tkPl p w o t k) → Q (.bl true) H') ∧ (∀ H', ¬ tkOk p w o t k → (∀ a o, ¬ MG l as hl a → H a = some o → H' a = some o) → Q (.bl false) H')
def spPuts (C : Addr) : Sp := fun vs H Q _ => ∃ (x l : Addr) (as : List Addr) (hl rl : Addr) (vb : V) (b : LL) (p : Pl) (w t : Int), vs = [.ref x, .int w, .int t] ∧ RwAt C H x l as hl rl vb b p ∧ PlOk b p ∧ (∀ r ∈ p.rows, r.length ≤ 900000) ∧ 0 ≤ w ∧ w < (p.rows.length : Int) ∧ p.Z w.toNat = false ∧
  (∀ q H', goI b p (.put w t) = some q → (∀ a o, ¬ MG l as hl a → H a = some o → H' a = some o) → Own3 H' l as hl q → Q (.bl true) H') ∧ (∀ H', goI b p (.put w t) = none → (∀ a o, ¬ MG l as hl a → H a = some o → H' a = some o) → Q (.bl false) H')
def spDoes (C : Addr) : Sp := fun vs H Q _ => ∃ (x l : Addr) (as : List Addr) (hl rl : Addr) (vb : V) (b : LL) (p : Pl) (w t : Int), vs = [.ref x, .int w, .int t] ∧ RwAt C H x l as hl rl vb b p ∧ PlOk b p ∧ 0 ≤ w ∧ w < (p.rows.length : Int) ∧ p.Z w.toNat = false ∧
  (∀ q H', goI b p (.done w t) = some q → (∀ a o, ¬ MG l as hl a → H a = some o → H' a = some o) → Own3 H' l as hl q → Q (.bl true) H') ∧ (∀ H', goI b p (.done w t) = none → (∀ a o, ¬ MG l as hl a → H a = some o → H' a = some o) → Q (.bl false) H')
def spGoes (C : Addr) : Sp := fun vs H Q _ => ∃ (x l : Addr) (as : List Addr) (hl rl : Addr) (vb ve : V) (b : LL) (p : Pl) (e : EvI), vs = [.ref x, ve] ∧ RwAt C H x l as hl rl vb b p ∧ Rp (M5 l as hl rl x) H ve (encI e) ∧ PlOk b p ∧ (∀ r ∈ p.rows, r.length ≤ 900000) ∧
  (∀ q H', goI b p e = some q → (∀ a o, ¬ M5 l as hl rl x a → H a = some o → H' a = some o) → RwAt C H' x l as hl rl vb b q → Q (.bl true) H') ∧ (∀ H', goI b p e = none → (∀ a o, ¬ M5 l as hl rl x a → H a = some o → H' a = some o) → Q (.bl false) H')
def spInit (C : Addr) : Sp := fun vs H Q _ => ∃ (x dx : Addr) (vp : V) (b s : LL), vs = [.ref x, vp] ∧ H x = some (.ins C dx []) ∧ Rp (fun a => a = x) H vp (encP b s) ∧ PlanOk 200 b s ∧
  ∀ (l : Addr) (as : List Addr) (hl rl : Addr) (vb : V) (H' : Hp), RwAt C H' x l as hl rl vb b (pl0 s) → (∀ a o, a ≠ x → H a = some o → H' a = some o) → (∀ a, (MG l as hl a ∨ a = rl) → H a = none) → Q .non H'
def spRight : Sp := fun vs H Q _ => ∃ (vp ve : V) (b s : LL) (es : List EvI), vs = [vp, ve] ∧ Rp M0 H vp (encP b s) ∧ Rp M0 H ve (.list (es.map encI)) ∧ PlanOk 200 b s ∧ es.length ≤ 800000 ∧ ∀ H', Same H H' → Q (.bl (goIs b (pl0 s) es).isSome) H'
theorem ix_end {k : Bool} {r : List Nat} {x : Nat} (h : endOf k r = some x) : oIx (encL r) (.int (ends k)) = some (.int (x : Int)) := by
  cases k with
  | true =>
    unfold endOf at h
    rw [if_pos rfl] at h
    cases r with
    | nil => cases h
    | cons y r =>
      cases h
      exact ixL_at (by unfold at?; rw [if_pos (by decide)]; rfl)
  | false =>
    unfold endOf at h
    rw [if_neg Bool.false_ne_true] at h
    have hn : r ≠ [] := fun e => by rw [e] at h; cases h
    have hl : 0 < r.length := List.length_pos_iff.mpr hn
    show L2.atI (encN r) (-1) = _
    unfold L2.atI L2.ixN
    have hlen : (encN r).length = r.length := by unfold encN; rw [List.length_map]
    rw [if_neg (by decide), if_pos (by omega)]
    show (encN r)[((-1 : Int) + (encN r).length).toNat]? = _
    rw [List.getLast?_eq_getElem?] at h
    have e : ((-1 : Int) + ((encN r).length : Int)).toNat = r.length - 1 := by omega
    rw [e]
    unfold encN
    rw [List.getElem?_map, h]; rfl
theorem endOf_nil {k : Bool} : endOf k [] = none := by cases k <;> rfl
theorem endOf_ne {k : Bool} {r : List Nat} (h : r ≠ []) : ∃ x, endOf k r = some x := by
  obtain ⟨j, x, _, _, _, e⟩ := pop_end k h
  exact ⟨x, e⟩
theorem os_slL {K : PySem.W.Frag} (M : MS) (H : Hp) (v : V) (dl : List D) (lo hi : Option Int) (Q : VK) (ok : Ok M H) (r : Rp M H v (.list dl)) (q : ∀ v' H', Same H H' → Rp M H' v' (.list (cutD dl lo hi)) → Q v' H') : rSlD K v lo hi H Q := by
  cases r with
  | lst e n r =>
    refine .inl ⟨_, _, rfl, SqL.of e, fun p hp => ?_⟩
    have z := new_lst ok hp (r.cut lo hi)
    exact q _ _ z.1 z.2
theorem set_keep {b : LL} {p : Pl} {w : Int} (PO : PlOk b p) (wm : w < (p.rows.length : Int)) (w0 : 0 ≤ w) (wz : p.Z w.toNat = false) : p.rests.set w.toNat false = p.rests := by
  have hl : w.toNat < p.rests.length := by have := PO.lr; omega
  unfold Pl.Z at wz
  rw [List.getElem?_eq_getElem hl, Option.getD_some] at wz
  rw [← wz]
  exact List.set_getElem_self hl
theorem RwAt.rest {C x l hl rl : Addr} {as : List Addr} {vb : V} {b : LL} {p : Pl} {H : Hp} (R : RwAt C H x l as hl rl vb b p) (i : Nat) : RwAt C (upd H rl (.lst ((p.rests.map V.bl).set i (.bl true)))) x l as hl rl vb b ⟨p.rows, p.holds, p.rests.set i true⟩ := by
  obtain ⟨dx, e⟩ := R.ob
  have keep : ∀ a o, MG l as hl a → H a = some o → (upd H rl (.lst ((p.rests.map V.bl).set i (.bl true)))) a = some o := fun a o m z => by
    rw [upd_ne (fun (y : a = rl) => R.nrl (by rw [← y]; exact m))]; exact z
  obtain ⟨hv, h1, h2⟩ := R.own.holds
  have y3 : RpAll (fun a => MG l as hl a ∨ a = rl) H hv (p.holds.map encH) := RpAll.nolist (fun a ha xs z => by
    rcases ha with ha | rfl
    · exact R.own.notup a ha xs z
    · rw [R.rs] at z; cases z) _ hv (nolists_H _) h2
  refine ⟨⟨dx, by rw [upd_ne R.xrl]; exact e⟩, ⟨R.own.rows.same fun a o m z => keep a o (m.elim .inl fun m => .inr (.inl m)) z, ⟨hv, keep _ _ (.inr (.inr rfl)) h1, y3.mono (fun a o n z => ⟨fun m => n (.inl m), by rw [upd_ne (fun (y : a = rl) => n (.inr y))]; exact z⟩) _ _⟩, R.own.ne⟩, ?_, R.br.mono (fun a o n z => ⟨n, by rw [upd_ne (fun (y : a = rl) => n (.inr (.inl y)))]; exact z⟩) _ _, R.nrl⟩
  rw [upd_same, List.map_set]
/-- [c for x in e], e a list at hand -/
theorem lc_constL {K : PySem.W.Frag} {te : TE} {σ : St} {a : Addr} {xs : List V} {c : D} {cv : V} {H : Hp} {Q : VK} {i : Nat} (hte : ∀ R : VK, R (.ref a) H → te σ H R) (ea : H a = some (.lst xs)) (hc : ∀ (H : Hp) (v : V), Rp M0 H v c → v = cv) (hz : xs.length ≤ 100000)
    (q : ∀ H' Dl, H Dl = none → H' Dl = some (.lst (List.replicate xs.length cv)) → Same H H' → Q (.ref Dl) H') : tLc (iList K te) (gName i) tYes (tP (eC c)) [i] σ H Q := by
  refine hte _ ?_
  refine ⟨a, rfl, ⟨_, SqL.of ea⟩, fun Dl hD => lc_list (te := tP (eC c)) (tt := tYes) (fun j H' => H' Dl = some (.lst (List.replicate j cv)) ∧ Same H H') ⟨upd_same, Pu.Same.new hD⟩ (fun j H' _ ⟨_, s'⟩ => SqL.of (s' _ _ ea)) (fun j x H' hx hP => ?_) (fun H' hP => ?_)⟩
  · obtain ⟨hl, s'⟩ := hP
    have hj := (List.getElem?_eq_some_iff.mp hx).1
    refine ⟨?_, ?_⟩
    · show ((σ.set i none).set i _).set i none = σ.set i none
      rw [set_set3, set_set3]
    · dsimp only [tYes]
      rw [if_pos rfl]
      refine tp_ok (Ok.none H') (SlD.nones _) rfl fun v H2 s2 rv => ?_
      have ev := hc H2 v rv
      subst ev
      refine ⟨_, s2 _ _ hl, by rw [List.length_replicate, sizeLine_eq]; omega, ?_, ?_⟩
      · rw [List.replicate_succ']; exact upd_same
      · exact Pu.Same.mut (L2.Same.trans s' s2) hD
  · obtain ⟨hl, s'⟩ := hP
    exact q H' Dl hD hl s'
theorem putF_len (f : Str) (v : V) : ∀ fs : List (Str × V), (putF f v fs).length ≤ fs.length + 1
  | [] => Nat.le_refl _
  | (g, x) :: r => by
    show (if g = f then (g, v) :: r else (g, x) :: putF f v r).length ≤ _
    split
    · exact Nat.le_succ _
    · have := putF_len f v r
      simp only [List.length_cons]
      omega
end Pu

set_option Elab.async false
set_option linter.all false
set_option maxRecDepth 100000
set_option autoImplicit false
/-! Fs6: (printed) the function of l_event. -/
namespace Pu
open PySem

def F_l_event : S := (sSeq (sSet 4 (eOp oMod (eVar 1) (eC (.int 6)))) (sSeq (sSet 5 (eOp oDiv (eVar 1) (eC (.int 6)))) (sSeq (sUnp [6, 7] (eSl (eVar 0) eNoPart (ePart (eC (.int 2))))) (sSeq (sSet 8 (eOp oIx (eVar 0) (eUn oNeg (eC (.int 1))))) (sSeq (sIf (bT (eOp oEq (eVar 4) (eC (.int 0)))) (sRet (eOp oAdd (eTup (esCons (eVar 6) (esCons (eOp oIx (eLst (esCons (eOp oMod (eVar 5) (eVar 2)) (esCons (eVar 2) (esCons (eUn oNeg (eC (.int 1))) (esCons (eOp oAdd (eVar 2) (eOp oMod (eVar 5) (eC (.int 50)))) esNil))))) (eOp oMod (eOp oDiv (eVar 5) (eC (.int 12))) (eC (.int 4)))) esNil))) (eSl (eVar 0) (ePart (eC (.int 2))) eNoPart))) sNx) (sSeq (sIf (bAnd (bT (eOp oEq (eVar 4) (eC (.int 1)))) (bT (eOp oGt (eCall oLen (esCons (eVar 0) esNil)) (eC (.int 2))))) (sRet (eOp oAdd (eSl (eVar 0) eNoPart (ePart (eUn oNeg (eC (.int 1))))) (eTup (esCons (eOp oIx (eLst (esCons (eOp oMod (eVar 5) (eCall oMax (esCons (eC (.int 1)) (esCons (eVar 3) esNil)))) (esCons (eVar 3) (esCons (eUn oNeg (eC (.int 1))) (esCons (eOp oAdd (eVar 3) (eOp oMod (eVar 5) (eC (.int 50)))) esNil))))) (eOp oMod (eOp oDiv (eVar 5) (eC (.int 12))) (eC (.int 4)))) esNil)))) sNx) (sSeq (sIf (bAnd (bT (eOp oEq (eVar 4) (eC (.int 2)))) (bT (eOp oEq (eCall oLen (esCons (eVar 0) esNil)) (eC (.int 4))))) (sRet (eOp oAdd (eOp oAdd (eSl (eVar 0) eNoPart (ePart (eC (.int 2)))) (eTup (esCons (eOp oIx (eLst (esCons (eOp oMod (eVar 5) (eVar 2)) (esCons (eVar 7) (esCons (eVar 2) (esCons (eUn oNeg (eC (.int 1))) esNil))))) (eOp oMod (eOp oDiv (eVar 5) (eC (.int 12))) (eC (.int 4)))) esNil))) (eSl (eVar 0) (ePart (eC (.int 3))) eNoPart))) sNx) (sSeq (sIf (bT (eOp oEq (eVar 4) (eC (.int 3)))) (sSeq (sSet 9 (eLst (esCons (eTup (esCons (eC (.str "own")) (esCons (eVar 7) (esCons (eVar 8) esNil)))) (esCons (eTup (esCons (eC (.str "put")) (esCons (eVar 7) (esCons (eVar 8) esNil)))) (esCons (eTup (esCons (eC (.str "done")) (esCons (eVar 7) (esCons (eVar 8) esNil)))) (esCons (eTup (esCons (eC (.str "taken")) (esCons (eVar 7) (esCons (eOp oMod (eVar 5) (eVar 2)) (esCons (eVar 8) esNil))))) esNil)))))) (sRet (eOp oIx (eVar 9) (eOp oMod (eOp oDiv (eVar 5) (eC (.int 12))) (eC (.int 4)))))) sNx) (sSeq (sIf (bT (eOp oEq (eVar 4) (eC (.int 4)))) (sRet (eTup (esCons (eC (.str "rests")) (esCons (eVar 7) esNil)))) sNx) (sRet (eVar 0)))))))))))
def M_l_event : List D → Option D := runF 10 F_l_event
end Pu

set_option Elab.async false
set_option linter.all false
set_option maxRecDepth 100000
set_option maxHeartbeats 4000000
set_option autoImplicit false
/-! K10: events changed. -/
namespace Pu
open PySem PySem.Spec PyProof.Rows L2

/-- one of a list -/
theorem pick_ev {f g : Sl → Option D} {ds : Sl} {l : List D} {k : Int} (hf : f ds = some (.list l)) (hg : g ds = some (.int k)) (h0 : 0 ≤ k) (h1 : k < (l.length : Int)) : ∃ d, d ∈ l ∧ eOp oIx f g ds = some d := by
  have hl : k.toNat < l.length := by omega
  refine ⟨l[k.toNat], List.getElem_mem hl, ?_⟩
  rw [eOp_ev hf hg]
  refine ixL_at ?_
  unfold at?
  rw [if_pos h0]
  exact List.getElem?_eq_getElem hl
theorem mod_pick {f : Sl → Option D} {ds : Sl} {c n : Int} {g : Sl → Option D} {l : List D} {x : Sl → Option D} (hf : f ds = some (.list l)) (hg : g ds = some (.int c)) (hx : x ds = some (.int n)) (hn : 0 < n) (hl : n = (l.length : Int)) : ∃ d, d ∈ l ∧ eOp oIx f (eOp oMod g x) ds = some d := by
  have r := fmod_rng (a := c) (b := n) hn
  exact pick_ev hf (mod_ev hg hx (by omega)) (by omega) (by omega)
def lastI : EvI → Int
  | .own _ t => t
  | .taken _ _ t => t
  | .put _ t => t
  | .done _ t => t
  | .rests w => w
theorem last_ev {f : Sl → Option D} {ds : Sl} {e : EvI} (h : f ds = some (encI e)) : eOp oIx f (eUn oNeg (eC (.int 1))) ds = some (.int (lastI e)) := by
  rw [eOp_ev h rfl]
  cases e <;> rfl
theorem w_ev {f : Sl → Option D} {ds : Sl} {e : EvI} (h : f ds = some (encI e)) : eOp oIx f (eC (.int 1)) ds = some (.int (wOf e)) := by
  rw [eOp_ev h rfl]
  cases e <;> exact oIx1
theorem wordI_ev {f : Sl → Option D} {ds : Sl} {e : EvI} (h : f ds = some (encI e)) : eOp oIx f (eC (.int 0)) ds = some (.str (wordI e)) := by
  rw [eOp_ev h rfl]
  cases e <;> exact oIx0
abbrev dV (e : EvI) (c m n : Int) (x9 : Option D) : Sl := [some (encI e), some (.int c), some (.int m), some (.int n), some (.int (c.fmod 6)), some (.int (c.fdiv 6)), some (.str (wordI e)), some (.int (wOf e)), some (.int (lastI e)), x9]
theorem four {d : D} {a b c e : Int} (h : d ∈ [PyData.int a, .int b, .int c, .int e]) : ∃ x : Int, d = .int x := by
  simp only [List.mem_cons, List.not_mem_nil, or_false] at h
  rcases h with rfl | rfl | rfl | rfl <;> exact ⟨_, rfl⟩
theorem tup_1 {f : Sl → Option D} {ds : Sl} {d : D} (h : f ds = some d) : eTup (esCons f esNil) ds = some (.tuple [d]) := q_tup (q_cons h q_nil) (by simp)
theorem ev_way {c : Int} {e : EvI} {m n : Int} {x9 : Option D} (j : Int) : bT (eOp oEq (eVar 4) (eC (.int j))) (dV e c m n x9) = some (c.fmod 6 == j) := eq_ev (eVar_get rfl) rfl
theorem ev_rest {c : Int} {e : EvI} {m n : Int} {x9 : Option D} {g : Sl → Option D} {k : Int} (hg : g (dV e c m n x9) = some (.int k)) (hk : 0 < k) : eOp oMod (eVar 5) g (dV e c m n x9) = some (.int ((c.fdiv 6).fmod k)) := mod_ev (eVar_get rfl) hg (by omega)
theorem len_I {f : Sl → Option D} {ds : Sl} {e : EvI} (h : f ds = some (encI e)) : ∃ k : Int, eCall oLen (esCons f esNil) ds = some (.int k) ∧ ((2 : Int) < k ↔ ∀ w, e ≠ .rests w) ∧ (k = 4 ↔ ∃ w o t, e = .taken w o t) := by
  rw [q_call (q_cons h q_nil)]
  cases e with
  | own w t => exact ⟨3, rfl, by simp, by simp⟩
  | taken w o t => exact ⟨4, rfl, by simp, by simp⟩
  | put w t => exact ⟨3, rfl, by simp, by simp⟩
  | done w t => exact ⟨3, rfl, by simp, by simp⟩
  | rests w => exact ⟨2, rfl, by simp, by simp⟩
theorem l_event_ev (e : EvI) (c m n : Int) (m1 : 0 < m) : ∃ e', M_l_event [encI e, .int c, .int m, .int n] = some (encI e') := by
  have hu : M_l_event [encI e, .int c, .int m, .int n] = (F_l_event [some (encI e), some (.int c), some (.int m), some (.int n), none, none, none, none, none, none]).bind endD := rfl
  rw [hu]
  unfold F_l_event
  rw [q_seqS (d := .int (c.fmod 6)) (mod_ev (eVar_get rfl) rfl (by decide))]
  dsimp only [List.set]
  rw [q_seqS (d := .int (c.fdiv 6)) (div_ev (eVar_get rfl) rfl (by decide) (by decide))]
  dsimp only [List.set]
  rw [q_seq (q_unp (l := [.str (wordI e), .int (wOf e)]) (ds' := [some (encI e), some (.int c), some (.int m), some (.int n), some (.int (c.fmod 6)), some (.int (c.fdiv 6)), some (.str (wordI e)), some (.int (wOf e)), none, none]) (cut_2 (eVar_get rfl)) rfl)]
  rw [q_seqS (d := .int (lastI e)) (last_ev (eVar_get rfl))]
  dsimp only [List.set]
  have r6 := fmod_rng (a := c) (b := 6) (by decide)
  have r12 := fmod_rng (a := (c.fdiv 6).fdiv 12) (b := 4) (by decide)
  have pk : ∀ {f : Sl → Option D} {l : List D} {x9 : Option D}, f (dV e c m n x9) = some (.list l) → l.length = 4 → ∃ d, d ∈ l ∧ eOp oIx f (eOp oMod (eOp oDiv (eVar 5) (eC (.int 12))) (eC (.int 4))) (dV e c m n x9) = some d := fun hf hl => pick_ev hf (mod_ev (div_ev (eVar_get rfl) rfl (by decide) (by decide)) rfl (by decide)) (by omega) (by rw [hl]; omega)
  -- way 0
  by_cases h0 : c.fmod 6 = 0
  · have l0 : eLst (esCons (eOp oMod (eVar 5) (eVar 2)) (esCons (eVar 2) (esCons (eUn oNeg (eC (.int 1))) (esCons (eOp oAdd (eVar 2) (eOp oMod (eVar 5) (eC (.int 50)))) esNil)))) (dV e c m n none) = some (.list [.int ((c.fdiv 6).fmod m), .int m, .int (-1), .int (m + (c.fdiv 6).fmod 50)]) := q_lst (q_cons (ev_rest (eVar_get rfl) m1) (q_cons (eVar_get rfl) (q_cons rfl (q_cons (add_ev (eVar_get rfl) (ev_rest rfl (by decide))) q_nil)))) (by simp)
    obtain ⟨d, hd, ed⟩ := pk l0 rfl
    obtain ⟨x, rfl⟩ := four hd
    have ft := q_tup (q_cons (e := eVar 6) (ds := dV e c m n none) (eVar_get rfl) (q_cons ed q_nil)) (by simp)
    have key : ∃ e', eOp oAdd (eTup (esCons (eVar 6) (esCons (eOp oIx (eLst (esCons (eOp oMod (eVar 5) (eVar 2)) (esCons (eVar 2) (esCons (eUn oNeg (eC (.int 1))) (esCons (eOp oAdd (eVar 2) (eOp oMod (eVar 5) (eC (.int 50)))) esNil))))) (eOp oMod (eOp oDiv (eVar 5) (eC (.int 12))) (eC (.int 4)))) esNil))) (eSl (eVar 0) (ePart (eC (.int 2))) eNoPart) (dV e c m n none) = some (encI e') := by
      cases e with
      | own w t => exact ⟨.own x t, by rw [eOp_ev ft rfl]; rfl⟩
      | taken w o t => exact ⟨.taken x o t, by rw [eOp_ev ft rfl]; rfl⟩
      | put w t => exact ⟨.put x t, by rw [eOp_ev ft rfl]; rfl⟩
      | done w t => exact ⟨.done x t, by rw [eOp_ev ft rfl]; rfl⟩
      | rests w => exact ⟨.rests x, by rw [eOp_ev ft rfl]; rfl⟩
    obtain ⟨e', he⟩ := key
    refine ⟨e', ?_⟩
    rw [q_seqR ((q_ift (g := sNx) ((ev_way 0).trans (by rw [h0]; rfl))).trans (q_ret he))]
    rfl
  · rw [q_seq ((q_iff (g := sNx) ((ev_way 0).trans (by simp [h0]))).trans rfl)]
    obtain ⟨k, hk, k2, k4⟩ := len_I (f := eVar 0) (e := e) (ds := dV e c m n none) (eVar_get rfl)
    -- way 1
    have t1 : bAnd (bT (eOp oEq (eVar 4) (eC (.int 1)))) (bT (eOp oGt (eCall oLen (esCons (eVar 0) esNil)) (eC (.int 2)))) (dV e c m n none) = some ((c.fmod 6 == 1) && decide (2 < k)) := and_ev (ev_way 1) (bT_of (by rw [eOp_ev hk rfl]; rfl))
    by_cases h1 : c.fmod 6 = 1 ∧ 2 < k
    · have l0 : eLst (esCons (eOp oMod (eVar 5) (eCall oMax (esCons (eC (.int 1)) (esCons (eVar 3) esNil)))) (esCons (eVar 3) (esCons (eUn oNeg (eC (.int 1))) (esCons (eOp oAdd (eVar 3) (eOp oMod (eVar 5) (eC (.int 50)))) esNil)))) (dV e c m n none) = some (.list [.int ((c.fdiv 6).fmod (if n > 1 then n else 1)), .int n, .int (-1), .int (n + (c.fdiv 6).fmod 50)]) := q_lst (q_cons (ev_rest (k := if n > 1 then n else 1) ((q_call (q_cons (e := eC (.int 1)) rfl (q_cons (eVar_get rfl) q_nil))).trans rfl) (by split <;> omega)) (q_cons (eVar_get rfl) (q_cons rfl (q_cons (add_ev (eVar_get rfl) (ev_rest rfl (by decide))) q_nil)))) (by simp)
      obtain ⟨d, hd, ed⟩ := pk l0 rfl
      obtain ⟨x, rfl⟩ := four hd
      have ft := tup_1 ed
      have key : ∃ e', eOp oAdd (eSl (eVar 0) eNoPart (ePart (eUn oNeg (eC (.int 1))))) (eTup (esCons (eOp oIx (eLst (esCons (eOp oMod (eVar 5) (eCall oMax (esCons (eC (.int 1)) (esCons (eVar 3) esNil)))) (esCons (eVar 3) (esCons (eUn oNeg (eC (.int 1))) (esCons (eOp oAdd (eVar 3) (eOp oMod (eVar 5) (eC (.int 50)))) esNil))))) (eOp oMod (eOp oDiv (eVar 5) (eC (.int 12))) (eC (.int 4)))) esNil)) (dV e c m n none) = some (encI e') := by
        cases e with
        | own w t => exact ⟨.own w x, by rw [eOp_ev rfl ft]; rfl⟩
        | taken w o t => exact ⟨.taken w o x, by rw [eOp_ev rfl ft]; rfl⟩
        | put w t => exact ⟨.put w x, by rw [eOp_ev rfl ft]; rfl⟩
        | done w t => exact ⟨.done w x, by rw [eOp_ev rfl ft]; rfl⟩
        | rests w => exact ((k2.mp h1.2) w rfl).elim
      obtain ⟨e', he⟩ := key
      refine ⟨e', ?_⟩
      rw [q_seqR ((q_ift (g := sNx) (t1.trans (by rw [h1.1, decide_eq_true h1.2]; rfl))).trans (q_ret he))]
      rfl
    · rw [q_seq ((q_iff (g := sNx) (t1.trans (by
        by_cases a1 : c.fmod 6 = 1
        · have a2 : ¬ 2 < k := fun z => h1 ⟨a1, z⟩
          simp [a2]
        · simp [a1]))).trans rfl)]
      -- way 2
      have t2 : bAnd (bT (eOp oEq (eVar 4) (eC (.int 2)))) (bT (eOp oEq (eCall oLen (esCons (eVar 0) esNil)) (eC (.int 4)))) (dV e c m n none) = some ((c.fmod 6 == 2) && (k == 4)) := and_ev (ev_way 2) (eq_ev hk rfl)
      by_cases h2 : c.fmod 6 = 2 ∧ k = 4
      · have l0 : eLst (esCons (eOp oMod (eVar 5) (eVar 2)) (esCons (eVar 7) (esCons (eVar 2) (esCons (eUn oNeg (eC (.int 1))) esNil)))) (dV e c m n none) = some (.list [.int ((c.fdiv 6).fmod m), .int (wOf e), .int m, .int (-1)]) := q_lst (q_cons (ev_rest (eVar_get rfl) m1) (q_cons (eVar_get rfl) (q_cons (eVar_get rfl) (q_cons rfl q_nil)))) (by simp)
        obtain ⟨d, hd, ed⟩ := pk l0 rfl
        obtain ⟨x, rfl⟩ := four hd
        have ft := tup_1 ed
        obtain ⟨w, o, t, rfl⟩ := k4.mp h2.2
        have he : eOp oAdd (eOp oAdd (eSl (eVar 0) eNoPart (ePart (eC (.int 2)))) (eTup (esCons (eOp oIx (eLst (esCons (eOp oMod (eVar 5) (eVar 2)) (esCons (eVar 7) (esCons (eVar 2) (esCons (eUn oNeg (eC (.int 1))) esNil))))) (eOp oMod (eOp oDiv (eVar 5) (eC (.int 12))) (eC (.int 4)))) esNil))) (eSl (eVar 0) (ePart (eC (.int 3))) eNoPart) (dV (.taken w o t) c m n none) = some (encI (.taken w x t)) := by
          have a := (eOp_ev (o := oAdd) (f := eSl (eVar 0) eNoPart (ePart (eC (.int 2)))) (ds := dV (.taken w o t) c m n none) rfl ft)
          rw [eOp_ev a rfl]; rfl
        refine ⟨.taken w x t, ?_⟩
        rw [q_seqR ((q_ift (g := sNx) (t2.trans (by rw [h2.1, h2.2]; rfl))).trans (q_ret he))]
        rfl
      · rw [q_seq ((q_iff (g := sNx) (t2.trans (by
          by_cases a1 : c.fmod 6 = 2
          · have a2 : ¬ k = 4 := fun z => h2 ⟨a1, z⟩
            simp [a2]
          · simp [a1]))).trans rfl)]
        -- way 3
        by_cases h3 : c.fmod 6 = 3
        · have l0 : eLst (esCons (eTup (esCons (eC (.str "own")) (esCons (eVar 7) (esCons (eVar 8) esNil)))) (esCons (eTup (esCons (eC (.str "put")) (esCons (eVar 7) (esCons (eVar 8) esNil)))) (esCons (eTup (esCons (eC (.str "done")) (esCons (eVar 7) (esCons (eVar 8) esNil)))) (esCons (eTup (esCons (eC (.str "taken")) (esCons (eVar 7) (esCons (eOp oMod (eVar 5) (eVar 2)) (esCons (eVar 8) esNil))))) esNil)))) (dV e c m n none) = some (.list [encI (.own (wOf e) (lastI e)), encI (.put (wOf e) (lastI e)), encI (.done (wOf e) (lastI e)), encI (.taken (wOf e) ((c.fdiv 6).fmod m) (lastI e))]) := by
            have a3 : ∀ x : Str, eTup (esCons (eC (.str x)) (esCons (eVar 7) (esCons (eVar 8) esNil))) (dV e c m n none) = some (.tuple [.str x, .int (wOf e), .int (lastI e)]) := fun x => q_tup (q_cons rfl (q_cons (eVar_get rfl) (q_cons (eVar_get rfl) q_nil))) (by simp)
            exact q_lst (q_cons (a3 _) (q_cons (a3 _) (q_cons (a3 _) (q_cons (q_tup (q_cons (e := eC (.str "taken")) rfl (q_cons (eVar_get rfl) (q_cons (ev_rest (eVar_get rfl) m1) (q_cons (eVar_get rfl) q_nil)))) (by simp)) q_nil)))) (by simp)
          obtain ⟨d, hd, ed⟩ := pk (f := eVar 9) (x9 := some (.list [encI (.own (wOf e) (lastI e)), encI (.put (wOf e) (lastI e)), encI (.done (wOf e) (lastI e)), encI (.taken (wOf e) ((c.fdiv 6).fmod m) (lastI e))])) (eVar_get rfl) rfl
          have hd' : ∃ e', d = encI e' := by
            simp only [List.mem_cons, List.not_mem_nil, or_false] at hd
            rcases hd with rfl | rfl | rfl | rfl <;> exact ⟨_, rfl⟩
          obtain ⟨e', rfl⟩ := hd'
          refine ⟨e', ?_⟩
          rw [q_seqR ((q_ift (g := sNx) ((ev_way 3).trans (by rw [h3]; rfl))).trans ((q_seqS l0).trans (q_ret ed)))]
          rfl
        · rw [q_seq ((q_iff (g := sNx) ((ev_way 3).trans (by simp [h3]))).trans rfl)]
          by_cases h4 : c.fmod 6 = 4
          · refine ⟨.rests (wOf e), ?_⟩
            rw [q_seqR ((q_ift (g := sNx) ((ev_way 4).trans (by rw [h4]; rfl))).trans (q_ret (q_tup (q_cons (e := eC (.str "rests")) rfl (q_cons (eVar_get rfl) q_nil)) (by simp))))]
            rfl
          · refine ⟨e, ?_⟩
            rw [q_seq ((q_iff (g := sNx) ((ev_way 4).trans (by simp [h4]))).trans rfl), q_ret (eVar_get rfl)]
            rfl
/-! ### lists of events -/
theorem oAdd_Is {xs ys : List EvI} (h : xs.length + ys.length ≤ 900000) : oAdd (.list (xs.map encI)) (.list (ys.map encI)) = some (.list ((xs ++ ys).map encI)) := by
  show (if (xs.map encI).length + (ys.map encI).length ≤ lim then some (PyData.list (xs.map encI ++ ys.map encI)) else none) = _
  rw [if_pos (by rw [List.length_map, List.length_map]; unfold lim; omega), List.map_append]
theorem to_ev {f g : Sl → Option D} {ds : Sl} {es : List EvI} {a : Nat} (hf : f ds = some (.list (es.map encI))) (hg : g ds = some (.int (a : Int))) : eSl f eNoPart (ePart g) ds = some (.list ((es.take a).map encI)) := by
  unfold eSl ePart eNoPart
  rw [hf, hg]
  show some (PyData.list (cutD (es.map encI) none (some (a : Int)))) = _
  rw [cut_to, List.map_take]
theorem from_ev {f g : Sl → Option D} {ds : Sl} {es : List EvI} {a : Nat} (hf : f ds = some (.list (es.map encI))) (hg : g ds = some (.int (a : Int))) : eSl f (ePart g) eNoPart ds = some (.list ((es.drop a).map encI)) := by
  unfold eSl ePart eNoPart
  rw [hf, hg]
  show some (PyData.list (cutD (es.map encI) (some (a : Int)) none)) = _
  rw [cut_from, List.map_drop]
theorem two_ev {f g h : Sl → Option D} {ds : Sl} {es : List EvI} {a b : Nat} (hf : f ds = some (.list (es.map encI))) (hg : g ds = some (.int (a : Int))) (hh : h ds = some (.int (b : Int))) : ∃ l : List EvI, eSl f (ePart g) (ePart h) ds = some (.list (l.map encI)) ∧ l.length ≤ b - a ∧ l.length ≤ es.length - a := by
  refine ⟨(es.drop (HT.sIx es.length 0 (some (a : Int)))).take (HT.sIx es.length es.length (some (b : Int)) - HT.sIx es.length 0 (some (a : Int))), ?_, ?_, ?_⟩
  · unfold eSl ePart
    rw [hf, hg, hh]
    show some (PyData.list (cutD (es.map encI) (some (a : Int)) (some (b : Int)))) = _
    unfold cutD
    rw [List.length_map, List.map_take, List.map_drop]
  · rw [HT.sIx_nat, HT.sIx_nat, List.length_take, List.length_drop]; omega
  · rw [HT.sIx_nat, HT.sIx_nat, List.length_take, List.length_drop]; omega
theorem at_ev {f g : Sl → Option D} {ds : Sl} {es : List EvI} {a : Nat} {e : EvI} (hf : f ds = some (.list (es.map encI))) (hg : g ds = some (.int (a : Int))) (he : es[a]? = some e) : eOp oIx f g ds = some (encI e) := by
  rw [eOp_ev hf hg]
  refine ixL_at (at?_map ?_)
  unfold at?
  rw [if_pos (by omega), Int.toNat_natCast]
  exact he
theorem one_I {f : Sl → Option D} {ds : Sl} {e : EvI} (h : f ds = some (encI e)) : eLst (esCons f esNil) ds = some (.list ([e].map encI)) := q_lst (q_cons h q_nil) (by simp)
theorem add_I {f g : Sl → Option D} {ds : Sl} {xs ys : List EvI} (hf : f ds = some (.list (xs.map encI))) (hg : g ds = some (.list (ys.map encI))) (h : xs.length + ys.length ≤ 900000) : eOp oAdd f g ds = some (.list ((xs ++ ys).map encI)) := by
  rw [eOp_ev hf hg, oAdd_Is h]
theorem good_Iv (e : EvI) : good 3 (encI e) := by
  have g1 : ∀ x : Str, SeqAt.shaped (.str x) = true → good 2 (.str x) := fun x h => h
  cases e <;> (refine ⟨by simp, fun y hy => ?_⟩; simp only [List.mem_cons, List.not_mem_nil, or_false] at hy; rcases hy with rfl | hy; · first | exact sh_own | exact sh_taken | exact sh_put | exact sh_done | exact sh_rests) <;> (repeat (first | (rcases hy with rfl | hy; · trivial) | (subst hy; trivial)))
theorem good_Is (es : List EvI) (h : es.length ≤ 1000000) : good 4 (.list (es.map encI)) := ⟨by rw [List.length_map]; exact h, fun x hx => by
  obtain ⟨e, _, rfl⟩ := List.mem_map.mp hx
  exact good_Iv e⟩
theorem nil_I (es : List EvI) : (PyData.list (es.map encI) = .list []) ↔ es = [] := by
  constructor
  · intro h
    injection h with h
    exact List.map_eq_nil_iff.mp h
  · intro h; subst h; rfl
theorem eqnil_I {es : List EvI} {ds : Sl} {f : Sl → Option D} (h : f ds = some (.list (es.map encI))) (hl : es.length ≤ 1000000) : bT (eOp oEq f (eLst esNil)) ds = some (decide (es = [])) := bT_of (by
  rw [eOp_ev h (q_lst rfl (by simp)), oEq_g (good_Is es hl) good_nil (by omega) (by omega) (k := decide (es = [])) (by rw [decide_eq_true_iff]; exact (nil_I es).symm)])
theorem nenil_N {l : List Nat} {ds : Sl} {f : Sl → Option D} (h : f ds = some (encL l)) (hl : l.length ≤ 1000000) : bT (eOp oNe f (eLst esNil)) ds = some (!decide (l = [])) := bT_of (by
  rw [eOp_ev h (q_lst rfl (by simp)), show encL l = .list (encN l) from rfl, oNe_g (good_L l hl) good_nil (by omega) (by omega) (k := decide (l = [])) (by rw [decide_eq_true_iff]; exact (encN_nil l).symm)])
theorem len_Is {es : List EvI} {ds : Sl} {f : Sl → Option D} (h : f ds = some (.list (es.map encI))) : eCall oLen (esCons f esNil) ds = some (.int (es.length : Int)) := by
  rw [q_call (q_cons h q_nil)]
  show some (PyData.int ((es.map encI).length : Int)) = _
  rw [List.length_map]
theorem len_N {l : List Nat} {ds : Sl} {f : Sl → Option D} (h : f ds = some (encL l)) : eCall oLen (esCons f esNil) ds = some (.int (l.length : Int)) := by
  rw [q_call (q_cons h q_nil)]
  show some (PyData.int ((encN l).length : Int)) = _
  unfold encN; rw [List.length_map]
theorem in_N {l : List Nat} {ds : Sl} {f g x : Sl → Option D} {c : Int} (hf : f ds = some (encL l)) (hg : g ds = some (.int c)) (hx : x ds = some (.int (l.length : Int))) (hl : l ≠ []) : ∃ i ∈ l, eOp oIx f (eOp oMod g x) ds = some (.int (i : Int)) := by
  have hp : 0 < l.length := List.length_pos_iff.mpr hl
  obtain ⟨d, hd, e⟩ := mod_pick (l := encN l) hf hg hx (by omega) (by unfold encN; rw [List.length_map])
  unfold encN at hd
  obtain ⟨i, hi, rfl⟩ := List.mem_map.mp hd
  exact ⟨i, hi, e⟩
theorem in_tk (e : EvI) : oInA (.str (wordI e)) (.list [.str "own", .str "taken"]) = some (.bool (isTk e)) := by
  have hs : SeqAt.shaped (.list [.str "own", .str "taken"]) = true := by decide +kernel
  show (if SeqAt.shaped (.str (wordI e)) = true ∧ SeqAt.shaped (.list [.str "own", .str "taken"]) = true then _ else _) = _
  rw [if_pos ⟨sh_wordI e, hs⟩]
  cases e <;> simp (config := {decide := true}) [wordI, eqv_strs, isTk]
/-- where one takes -/
def plc (es : List EvI) : List Nat := (List.range es.length).filter fun i => ((es[i]?).map isTk).getD false
theorem plc_lt {es : List EvI} {i : Nat} (h : i ∈ plc es) : i < es.length := List.mem_range.mp (List.mem_filter.mp h).1
theorem plc_len (es : List EvI) : (plc es).length ≤ es.length := by
  have := List.length_filter_le (fun i => ((es[i]?).map isTk).getD false) (List.range es.length)
  rw [List.length_range] at this
  exact this
theorem plc_lc {es : List EvI} {ds : Sl} (h1 : ds[1]? = some (some (.list (es.map encI)))) (hd : ds.length = 15) (hl : es.length ≤ 800000) : eLc 8 (eRng (eCall oLen (esCons (eVar 1) esNil))) (bT (eOp oInA (eOp oIx (eOp oIx (eVar 1) (eVar 8)) (eC (.int 0))) (eLst (esCons (eC (.str "own")) (esCons (eC (.str "taken")) esNil))))) (eVar 8) ds = some (encL (plc es)) := by
  have it : eRng (eCall oLen (esCons (eVar 1) esNil)) ds = some ((List.range es.length).map fun (w : Nat) => PyData.int (w : Int)) := by
    unfold eRng
    rw [len_Is (eVar_get h1), Option.bind_some]
    dsimp only
    rw [if_pos (by omega)]
    unfold rngD
    rw [Int.toNat_natCast]
  refine lc_filter (g := fun (w : Nat) => PyData.int (w : Int)) it (by rw [List.length_range]; unfold lim; omega) fun i hi => ?_
  have hi' := List.mem_range.mp hi
  have h8 : ((ds.set 8 none).set 8 (some (.int (i : Int))))[8]? = some (some (.int (i : Int))) := List.getElem?_set_self (by rw [List.length_set, hd]; decide)
  have h1' : ((ds.set 8 none).set 8 (some (.int (i : Int))))[1]? = some (some (.list (es.map encI))) := by rw [List.getElem?_set_ne (by decide), List.getElem?_set_ne (by decide)]; exact h1
  refine ⟨bT_of ?_, eVar_get h8⟩
  have he : es[i]? = some es[i] := List.getElem?_eq_getElem hi'
  rw [eOp_ev (wordI_ev (at_ev (eVar_get h1') (eVar_get h8) he)) (q_lst (l := [.str "own", .str "taken"]) rfl (by simp)), in_tk, he]
  rfl
/-! ### plain rows come to -/
theorem goIs_inv {b : LL} (hb : ∀ (p : Nat) (l : List Nat) (c : Nat), b[p]? = some l → c ∈ l → p < c ∧ c < b.length) : ∀ (es : List EvI) {p q : Pl} {N : Nat}, PlOk b p → (∀ r ∈ p.rows, r.length ≤ N) → goIs b p es = some q → PlOk b q ∧ q.rows.length = p.rows.length ∧ ∀ r ∈ q.rows, r.length ≤ N + es.length
  | [], p, q, N, O, h, g => by cases g; exact ⟨O, rfl, h⟩
  | e :: es, p, q, N, O, h, g => by
    obtain ⟨r, h1, h2⟩ := bind_some g
    obtain ⟨O1, l1⟩ := O.go hb h1
    have rl := goI_rl h h1
    obtain ⟨O2, l2, l3⟩ := goIs_inv hb es O1 rl h2
    refine ⟨O2, l2.trans l1, fun x hx => ?_⟩
    have := l3 x hx
    rw [List.length_cons]
    omega
/-- who holds none and has some -/
def freeL (q : Pl) : List Nat := (List.range q.rows.length).filter fun w => decide (q.H w = none) && !decide (q.R w = [])
theorem isA_H (h : Option (Nat × Nat)) : oIsA (encH h) .none = some (.bool (decide (h = none))) := by
  cases h <;> rfl
theorem free_lc {b : LL} {q : Pl} {ds : Sl} (O : PlOk b q) (hr : ∀ r ∈ q.rows, r.length ≤ 900000) (h4 : ds[4]? = some (some (.int (q.rows.length : Int)))) (h10 : ds[10]? = some (some (encPl q))) (hd : ds.length = 15) (hl : q.rows.length ≤ 800000) :
    eLc 9 (eRng (eVar 4)) (bAnd (bT (eOp oIsA (eOp oIx (eOp oIx (eVar 10) (eC (.int 1))) (eVar 9)) (eC .none))) (bT (eOp oNe (eOp oIx (eOp oIx (eVar 10) (eC (.int 0))) (eVar 9)) (eLst esNil)))) (eVar 9) ds = some (encL (freeL q)) := by
  have it : eRng (eVar 4) ds = some ((List.range q.rows.length).map fun (w : Nat) => PyData.int (w : Int)) := by
    unfold eRng
    rw [eVar_get h4, Option.bind_some]
    dsimp only
    rw [if_pos (by omega)]
    unfold rngD
    rw [Int.toNat_natCast]
  refine lc_filter (g := fun (w : Nat) => PyData.int (w : Int)) it (by rw [List.length_range]; unfold lim; omega) fun i hi => ?_
  have hi' := List.mem_range.mp hi
  have h9 : ((ds.set 9 none).set 9 (some (.int (i : Int))))[9]? = some (some (.int (i : Int))) := List.getElem?_set_self (by rw [List.length_set, hd]; decide)
  have h10' : ((ds.set 9 none).set 9 (some (.int (i : Int))))[10]? = some (some (encPl q)) := by rw [List.getElem?_set_ne (by decide), List.getElem?_set_ne (by decide)]; exact h10
  refine ⟨?_, eVar_get h9⟩
  have a1 : eOp oIx (eVar 10) (eC (.int 1)) ((ds.set 9 none).set 9 (some (.int (i : Int)))) = some (.list (q.holds.map encH)) := by rw [eOp_ev (eVar_get h10') rfl]; exact oIx1
  have a0 : eOp oIx (eVar 10) (eC (.int 0)) ((ds.set 9 none).set 9 (some (.int (i : Int)))) = some (encLL q.rows) := by rw [eOp_ev (eVar_get h10') rfl]; exact oIx0
  have e1 := held_ev (w := (i : Int)) O (by omega) (by omega) a1 (eVar_get h9)
  have e0 := row_ev (w := (i : Int)) (p := q) (by omega) (by omega) a0 (eVar_get h9)
  rw [Int.toNat_natCast] at e1 e0
  have hR : (q.R i).length ≤ 900000 := by
    unfold Pl.R
    rw [List.getElem?_eq_getElem hi', Option.getD_some]
    exact hr _ (List.getElem_mem hi')
  exact and_ev (bT_of (by rw [eOp_ev e1 rfl, isA_H])) (nenil_N e0 (by omega))
theorem freeL_in {q : Pl} {w : Nat} (h : w ∈ freeL q) : w < q.rows.length ∧ q.R w ≠ [] := by
  obtain ⟨h1, h2⟩ := List.mem_filter.mp h
  refine ⟨List.mem_range.mp h1, fun z => ?_⟩
  rw [z] at h2
  simp at h2
theorem first_ev {q : Pl} {ds : Sl} {w : Nat} {f g : Sl → Option D} (hw : w < q.rows.length) (hne : q.R w ≠ []) (hf : f ds = some (encPl q)) (hg : g ds = some (.int (w : Int))) : ∃ t : Nat, eOp oIx (eOp oIx (eOp oIx f (eC (.int 0))) g) (eC (.int 0)) ds = some (.int (t : Int)) := by
  have a0 : eOp oIx f (eC (.int 0)) ds = some (encLL q.rows) := by rw [eOp_ev hf rfl]; exact oIx0
  have e0 := row_ev (w := (w : Int)) (p := q) (by omega) (by omega) a0 hg
  rw [Int.toNat_natCast] at e0
  cases hR : q.R w with
  | nil => exact (hne hR).elim
  | cons t r =>
    rw [hR] at e0
    refine ⟨t, ?_⟩
    rw [eOp_ev e0 rfl]
    refine ixL_at ?_
    unfold at?
    rw [if_pos (by decide)]
    rfl
theorem RpAll.rev {M : MS} {H : Hp} {vs : List V} {ds : List D} (h : RpAll M H vs ds) : RpAll M H vs.reverse ds.reverse := by
  induction vs generalizing ds with
  | nil => cases h; exact .nil
  | cons v vs ih =>
    cases h with
    | cons h1 h2 =>
      rw [List.reverse_cons, List.reverse_cons]
      exact (ih h2).append (.cons h1 .nil)
theorem emb10 (es : List Evt) : (es.map embI).map encI = es.map encE := by
  rw [List.map_map]
  exact List.map_congr_left fun e _ => enc_emb e
def spChanged : Sp := fun vs H Q _ => ∃ (vp ve : V) (b s : LL) (es : List EvI) (c k : Int), vs = [vp, ve, .int c, .int k] ∧ Rp M0 H vp (encP b s) ∧ Rp M0 H ve (.list (es.map encI)) ∧ PlanOk 200 b s ∧ es.length ≤ 790000 ∧
  ∀ (es' : List EvI) (v : V) (H' : Hp), es'.length ≤ es.length + 1 → Same H H' → Rp M0 H' v (.list (es'.map encI)) → Q v H'
end Pu

set_option Elab.async false
set_option linter.all false
set_option maxRecDepth 100000
set_option maxHeartbeats 4000000
set_option autoImplicit false
namespace Law
open PySem PySem.Spec PyProof.Rows L2 Pu
def topS (i : Nat) : Stmt := PySem.Challenge.pw_stealyard_k10_events_right.main.body.getD i (.Pass ⟨0, 0, 0, 0⟩)
abbrev s_are_right : Stmt := topS 6
abbrev N_are_right : List Str := ["plan", "events", "rows", "event"]
theorem sc_are_right : FnScope N_are_right ["plan", "events"] (defScope s_are_right) := ⟨rfl, rfl, rfl, by decide +kernel, rfl, by decide +kernel, by decide +kernel⟩
abbrev s_put_in : Stmt := topS 8
abbrev N_put_in : List Str := ["things", "at", "thing"]
theorem sc_put_in : FnScope N_put_in ["things", "at", "thing"] (defScope s_put_in) := ⟨rfl, rfl, rfl, by decide +kernel, rfl, by decide +kernel, by decide +kernel⟩
abbrev s_advanced : Stmt := topS 9
abbrev N_advanced : List Str := ["row", "seen", "head", "tail", "places"]
theorem sc_advanced : FnScope N_advanced ["row", "seen"] (defScope s_advanced) := ⟨rfl, rfl, rfl, by decide +kernel, rfl, by decide +kernel, by decide +kernel⟩
abbrev s_rested : Stmt := topS 10
abbrev N_rested : List Str := ["worker"]
theorem sc_rested : FnScope N_rested ["worker"] (defScope s_rested) := ⟨rfl, rfl, rfl, by decide +kernel, rfl, by decide +kernel, by decide +kernel⟩
abbrev s_own_looked : Stmt := topS 11
abbrev N_own_looked : List Str := ["worker", "row", "head", "tail", "places"]
theorem sc_own_looked : FnScope N_own_looked ["worker", "row"] (defScope s_own_looked) := ⟨rfl, rfl, rfl, by decide +kernel, rfl, by decide +kernel, by decide +kernel⟩
abbrev s_own_step : Stmt := topS 12
abbrev N_own_step : List Str := ["worker", "row", "state", "many", "head", "tail", "places", "behind", "event", "is_taken", "task"]
theorem sc_own_step : FnScope N_own_step ["worker", "row", "state", "many"] (defScope s_own_step) := ⟨rfl, rfl, rfl, by decide +kernel, rfl, by decide +kernel, by decide +kernel⟩
abbrev s_other_step : Stmt := topS 13
abbrev N_other_step : List Str := ["worker", "other", "row", "state", "many", "word", "k", "is_taken", "behind", "event"]
theorem sc_other_step : FnScope N_other_step ["worker", "other", "row", "state", "many"] (defScope s_other_step) := ⟨rfl, rfl, rfl, by decide +kernel, rfl, by decide +kernel, by decide +kernel⟩
abbrev s_task_step : Stmt := topS 14
abbrev N_task_step : List Str := ["worker", "row", "state", "brood", "head", "tail", "places", "word", "task", "n"]
theorem sc_task_step : FnScope N_task_step ["worker", "row", "state", "brood"] (defScope s_task_step) := ⟨rfl, rfl, rfl, by decide +kernel, rfl, by decide +kernel, by decide +kernel⟩
abbrev s_stepped : Stmt := topS 15
abbrev N_stepped : List Str := ["plan", "yard", "worker", "rows", "states", "state", "at", "row", "behind", "event"]
theorem sc_stepped : FnScope N_stepped ["plan", "yard", "worker"] (defScope s_stepped) := ⟨rfl, rfl, rfl, by decide +kernel, rfl, by decide +kernel, by decide +kernel⟩
abbrev s_started : Stmt := topS 17
abbrev N_started : List Str := ["plan", "rows", "row"]
theorem sc_started : FnScope N_started ["plan"] (defScope s_started) := ⟨rfl, rfl, rfl, by decide +kernel, rfl, by decide +kernel, by decide +kernel⟩
abbrev s_is_over : Stmt := topS 18
abbrev N_is_over : List Str := ["yard", "state"]
theorem sc_is_over : FnScope N_is_over ["yard"] (defScope s_is_over) := ⟨rfl, rfl, rfl, by decide +kernel, rfl, by decide +kernel, by decide +kernel⟩
abbrev s_one_more : Stmt := topS 20
abbrev N_one_more : List Str := ["plan", "yard", "worker", "events", "event"]
theorem sc_one_more : FnScope N_one_more ["plan", "yard", "worker", "events"] (defScope s_one_more) := ⟨rfl, rfl, rfl, by decide +kernel, rfl, by decide +kernel, by decide +kernel⟩
abbrev s_woven : Stmt := topS 21
abbrev N_woven : List Str := ["plan", "yard", "weaving", "worker", "events"]
theorem sc_woven : FnScope N_woven ["plan", "yard", "weaving"] (defScope s_woven) := ⟨rfl, rfl, rfl, by decide +kernel, rfl, by decide +kernel, by decide +kernel⟩
abbrev s_finished : Stmt := topS 22
abbrev N_finished : List Str := ["plan", "yard", "events", "worker"]
theorem sc_finished : FnScope N_finished ["plan", "yard"] (defScope s_finished) := ⟨rfl, rfl, rfl, by decide +kernel, rfl, by decide +kernel, by decide +kernel⟩
abbrev s_l_cell_at : Stmt := topS 24
abbrev N_l_cell_at : List Str := ["_law_script", "_law_k"]
theorem sc_l_cell_at : FnScope N_l_cell_at ["_law_script", "_law_k"] (defScope s_l_cell_at) := ⟨rfl, rfl, rfl, by decide +kernel, rfl, by decide +kernel, by decide +kernel⟩
abbrev s_l_plan_by : Stmt := topS 25
abbrev N_l_plan_by : List Str := ["_law_script", "_law_first", "_law_most", "_law_cell", "_law_many", "_law_size", "_law_brood", "_law_task", "_law_starts", "_law_worker", "_law_way"]
theorem sc_l_plan_by : FnScope N_l_plan_by ["_law_script", "_law_first", "_law_most"] (defScope s_l_plan_by) := ⟨rfl, rfl, rfl, by decide +kernel, rfl, by decide +kernel, by decide +kernel⟩
abbrev s_l_weaving_by : Stmt := topS 26
abbrev N_l_weaving_by : List Str := ["_law_cells", "_law_many", "_law_weaving", "_law_cell", "_law_k"]
theorem sc_l_weaving_by : FnScope N_l_weaving_by ["_law_cells", "_law_many"] (defScope s_l_weaving_by) := ⟨rfl, rfl, rfl, by decide +kernel, rfl, by decide +kernel, by decide +kernel⟩
abbrev s_l_replayed : Stmt := topS 27
abbrev N_l_replayed : List Str := ["_law_plan", "_law_events", "_law_rows", "_law_row", "_law_holds", "_law_rests", "_law_event_here", "_law_word", "_law_w"]
theorem sc_l_replayed : FnScope N_l_replayed ["_law_plan", "_law_events"] (defScope s_l_replayed) := ⟨rfl, rfl, rfl, by decide +kernel, rfl, by decide +kernel, by decide +kernel⟩
abbrev s_l_gone : Stmt := topS 28
abbrev N_l_gone : List Str := ["_law_plan", "_law_rows", "_law_holds", "_law_event_here", "_law_word", "_law_w", "_law_held", "_law_other", "_law_task", "_law_left"]
theorem sc_l_gone : FnScope N_l_gone ["_law_plan", "_law_rows", "_law_holds", "_law_event_here"] (defScope s_l_gone) := ⟨rfl, rfl, rfl, by decide +kernel, rfl, by decide +kernel, by decide +kernel⟩
abbrev s_l_event : Stmt := topS 29
abbrev N_l_event : List Str := ["_law_event_here", "_law_cell", "_law_many", "_law_size", "_law_way", "_law_rest", "_law_word", "_law_w", "_law_task", "_law_some"]
theorem sc_l_event : FnScope N_l_event ["_law_event_here", "_law_cell", "_law_many", "_law_size"] (defScope s_l_event) := ⟨rfl, rfl, rfl, by decide +kernel, rfl, by decide +kernel, by decide +kernel⟩
abbrev s_l_changed : Stmt := topS 30
abbrev N_l_changed : List Str := ["_law_plan", "_law_events", "_law_cell", "_law_some", "_law_many", "_law_at", "_law_way", "_law_places", "_law_k", "_law_w", "_law_state", "_law_free", "_law_two", "_law_place", "_law_event_here"]
theorem sc_l_changed : FnScope N_l_changed ["_law_plan", "_law_events", "_law_cell", "_law_some"] (defScope s_l_changed) := ⟨rfl, rfl, rfl, by decide +kernel, rfl, by decide +kernel, by decide +kernel⟩
abbrev s_law : Stmt := topS 31
abbrev N_law : List Str := ["_law_script", "_law_plan", "_law_many", "_law_cell", "_law_yard", "_law_right", "_law_events", "_law_k", "_law_some", "_law_kept", "_law_given", "_law_row", "_law_one", "_law_found"]
theorem sc_law : FnScope N_law ["_law_script"] (defScope s_law) := ⟨rfl, rfl, rfl, by decide +kernel, rfl, by decide +kernel, by decide +kernel⟩
abbrev s_init : Stmt := inClass (topS 5) 0
abbrev N_init : List Str := ["self", "plan", "row"]
theorem sc_init : FnScope N_init ["self", "plan"] (defScope s_init) := ⟨rfl, rfl, rfl, by decide +kernel, rfl, by decide +kernel, by decide +kernel⟩
abbrev s_is_worker : Stmt := inClass (topS 5) 1
abbrev N_is_worker : List Str := ["self", "number"]
theorem sc_is_worker : FnScope N_is_worker ["self", "number"] (defScope s_is_worker) := ⟨rfl, rfl, rfl, by decide +kernel, rfl, by decide +kernel, by decide +kernel⟩
abbrev s_takes : Stmt := inClass (topS 5) 2
abbrev N_takes : List Str := ["self", "worker", "other", "task", "at", "row"]
theorem sc_takes : FnScope N_takes ["self", "worker", "other", "task", "at"] (defScope s_takes) := ⟨rfl, rfl, rfl, by decide +kernel, rfl, by decide +kernel, by decide +kernel⟩
abbrev s_puts : Stmt := inClass (topS 5) 3
abbrev N_puts : List Str := ["self", "worker", "task", "parent", "n"]
theorem sc_puts : FnScope N_puts ["self", "worker", "task"] (defScope s_puts) := ⟨rfl, rfl, rfl, by decide +kernel, rfl, by decide +kernel, by decide +kernel⟩
abbrev s_does : Stmt := inClass (topS 5) 4
abbrev N_does : List Str := ["self", "worker", "task"]
theorem sc_does : FnScope N_does ["self", "worker", "task"] (defScope s_does) := ⟨rfl, rfl, rfl, by decide +kernel, rfl, by decide +kernel, by decide +kernel⟩
abbrev s_goes : Stmt := inClass (topS 5) 5
abbrev N_goes : List Str := ["self", "event", "word", "worker"]
theorem sc_goes : FnScope N_goes ["self", "event"] (defScope s_goes) := ⟨rfl, rfl, rfl, by decide +kernel, rfl, by decide +kernel, by decide +kernel⟩
/-- what the top has written -/
structure Txt (K : PySem.W.Frag) (mg : Str → Option Value) where
  f_are_right : Addr
  fd_are_right : FuncData
  F_are_right : Fun K "are_right" "are_right" s_are_right f_are_right fd_are_right
  m_are_right : mg "are_right" = some (.ref f_are_right)
  b_are_right : Binds K fd_are_right ["plan", "events"] []
  f_put_in : Addr
  fd_put_in : FuncData
  F_put_in : Fun K "put_in" "put_in" s_put_in f_put_in fd_put_in
  m_put_in : mg "put_in" = some (.ref f_put_in)
  b_put_in : Binds K fd_put_in ["things", "at", "thing"] []
  f_advanced : Addr
  fd_advanced : FuncData
  F_advanced : Fun K "advanced" "advanced" s_advanced f_advanced fd_advanced
  m_advanced : mg "advanced" = some (.ref f_advanced)
  b_advanced : Binds K fd_advanced ["row", "seen"] []
  f_rested : Addr
  fd_rested : FuncData
  F_rested : Fun K "rested" "rested" s_rested f_rested fd_rested
  m_rested : mg "rested" = some (.ref f_rested)
  b_rested : Binds K fd_rested ["worker"] []
  f_own_looked : Addr
  fd_own_looked : FuncData
  F_own_looked : Fun K "own_looked" "own_looked" s_own_looked f_own_looked fd_own_looked
  m_own_looked : mg "own_looked" = some (.ref f_own_looked)
  b_own_looked : Binds K fd_own_looked ["worker", "row"] []
  f_own_step : Addr
  fd_own_step : FuncData
  F_own_step : Fun K "own_step" "own_step" s_own_step f_own_step fd_own_step
  m_own_step : mg "own_step" = some (.ref f_own_step)
  b_own_step : Binds K fd_own_step ["worker", "row", "state", "many"] []
  f_other_step : Addr
  fd_other_step : FuncData
  F_other_step : Fun K "other_step" "other_step" s_other_step f_other_step fd_other_step
  m_other_step : mg "other_step" = some (.ref f_other_step)
  b_other_step : Binds K fd_other_step ["worker", "other", "row", "state", "many"] []
  f_task_step : Addr
  fd_task_step : FuncData
  F_task_step : Fun K "task_step" "task_step" s_task_step f_task_step fd_task_step
  m_task_step : mg "task_step" = some (.ref f_task_step)
  b_task_step : Binds K fd_task_step ["worker", "row", "state", "brood"] []
  f_stepped : Addr
  fd_stepped : FuncData
  F_stepped : Fun K "stepped" "stepped" s_stepped f_stepped fd_stepped
  m_stepped : mg "stepped" = some (.ref f_stepped)
  b_stepped : Binds K fd_stepped ["plan", "yard", "worker"] []
  f_started : Addr
  fd_started : FuncData
  F_started : Fun K "started" "started" s_started f_started fd_started
  m_started : mg "started" = some (.ref f_started)
  b_started : Binds K fd_started ["plan"] []
  f_is_over : Addr
  fd_is_over : FuncData
  F_is_over : Fun K "is_over" "is_over" s_is_over f_is_over fd_is_over
  m_is_over : mg "is_over" = some (.ref f_is_over)
  b_is_over : Binds K fd_is_over ["yard"] []
  f_one_more : Addr
  fd_one_more : FuncData
  F_one_more : Fun K "one_more" "one_more" s_one_more f_one_more fd_one_more
  m_one_more : mg "one_more" = some (.ref f_one_more)
  b_one_more : Binds K fd_one_more ["plan", "yard", "worker", "events"] []
  f_woven : Addr
  fd_woven : FuncData
  F_woven : Fun K "woven" "woven" s_woven f_woven fd_woven
  m_woven : mg "woven" = some (.ref f_woven)
  b_woven : Binds K fd_woven ["plan", "yard", "weaving"] []
  f_finished : Addr
  fd_finished : FuncData
  F_finished : Fun K "finished" "finished" s_finished f_finished fd_finished
  m_finished : mg "finished" = some (.ref f_finished)
  b_finished : Binds K fd_finished ["plan", "yard"] []
  f_l_cell_at : Addr
  fd_l_cell_at : FuncData
  F_l_cell_at : Fun K "_law_cell_at" "_law_cell_at" s_l_cell_at f_l_cell_at fd_l_cell_at
  m_l_cell_at : mg "_law_cell_at" = some (.ref f_l_cell_at)
  b_l_cell_at : Binds K fd_l_cell_at ["_law_script", "_law_k"] []
  f_l_plan_by : Addr
  fd_l_plan_by : FuncData
  F_l_plan_by : Fun K "_law_plan_by" "_law_plan_by" s_l_plan_by f_l_plan_by fd_l_plan_by
  m_l_plan_by : mg "_law_plan_by" = some (.ref f_l_plan_by)
  b_l_plan_by : Binds K fd_l_plan_by ["_law_script", "_law_first", "_law_most"] []
  f_l_weaving_by : Addr
  fd_l_weaving_by : FuncData
  F_l_weaving_by : Fun K "_law_weaving_by" "_law_weaving_by" s_l_weaving_by f_l_weaving_by fd_l_weaving_by
  m_l_weaving_by : mg "_law_weaving_by" = some (.ref f_l_weaving_by)
  b_l_weaving_by : Binds K fd_l_weaving_by ["_law_cells", "_law_many"] []
  f_l_replayed : Addr
  fd_l_replayed : FuncData
  F_l_replayed : Fun K "_law_replayed" "_law_replayed" s_l_replayed f_l_replayed fd_l_replayed
  m_l_replayed : mg "_law_replayed" = some (.ref f_l_replayed)
  b_l_replayed : Binds K fd_l_replayed ["_law_plan", "_law_events"] []
  f_l_gone : Addr
  fd_l_gone : FuncData
  F_l_gone : Fun K "_law_gone" "_law_gone" s_l_gone f_l_gone fd_l_gone
  m_l_gone : mg "_law_gone" = some (.ref f_l_gone)
  b_l_gone : Binds K fd_l_gone ["_law_plan", "_law_rows", "_law_holds", "_law_event_here"] []
  f_l_event : Addr
  fd_l_event : FuncData
  F_l_event : Fun K "_law_event" "_law_event" s_l_event f_l_event fd_l_event
  m_l_event : mg "_law_event" = some (.ref f_l_event)
  b_l_event : Binds K fd_l_event ["_law_event_here", "_law_cell", "_law_many", "_law_size"] []
  f_l_changed : Addr
  fd_l_changed : FuncData
  F_l_changed : Fun K "_law_changed" "_law_changed" s_l_changed f_l_changed fd_l_changed
  m_l_changed : mg "_law_changed" = some (.ref f_l_changed)
  b_l_changed : Binds K fd_l_changed ["_law_plan", "_law_events", "_law_cell", "_law_some"] []
  C_R : Addr
  cl : Cls K C_R
  mgC : mg "Rows" = some (.ref C_R)
  n_brood : NoAttr K C_R "brood"
  n_rows : NoAttr K C_R "rows"
  n_holds : NoAttr K C_R "holds"
  n_rests : NoAttr K C_R "rests"
  f_init : Addr
  fd_init : FuncData
  F_init : Fun K "__init__" "Rows.__init__" s_init f_init fd_init
  mk_R : Mk K C_R f_init
  b_init : Binds K fd_init ["self", "plan"] []
  f_is_worker : Addr
  fd_is_worker : FuncData
  F_is_worker : Fun K "is_worker" "Rows.is_worker" s_is_worker f_is_worker fd_is_worker
  m_is_worker : Meth K C_R "is_worker" f_is_worker
  b_is_worker : Binds K fd_is_worker ["self", "number"] []
  f_takes : Addr
  fd_takes : FuncData
  F_takes : Fun K "takes" "Rows.takes" s_takes f_takes fd_takes
  m_takes : Meth K C_R "takes" f_takes
  b_takes : Binds K fd_takes ["self", "worker", "other", "task", "at"] []
  f_puts : Addr
  fd_puts : FuncData
  F_puts : Fun K "puts" "Rows.puts" s_puts f_puts fd_puts
  m_puts : Meth K C_R "puts" f_puts
  b_puts : Binds K fd_puts ["self", "worker", "task"] []
  f_does : Addr
  fd_does : FuncData
  F_does : Fun K "does" "Rows.does" s_does f_does fd_does
  m_does : Meth K C_R "does" f_does
  b_does : Binds K fd_does ["self", "worker", "task"] []
  f_goes : Addr
  fd_goes : FuncData
  F_goes : Fun K "goes" "Rows.goes" s_goes f_goes fd_goes
  m_goes : Meth K C_R "goes" f_goes
  b_goes : Binds K fd_goes ["self", "event"] []
  z_all : mg "all" = none
  z_bool : mg "bool" = none
  z_int : mg "int" = none
  z_isinstance : mg "isinstance" = none
  z_len : mg "len" = none
  z_list : mg "list" = none
  z_max : mg "max" = none
  z_range : mg "range" = none
  z_tuple : mg "tuple" = none
theorem ok_put_in {P : Program} {w : World} {K : PySem.W.Frag} {mg : Str → Option Value} {base : Heap} (T : Txt K mg) : FnOk P w K mg base CX0 1 T.f_put_in T.fd_put_in ["things", "at", "thing"] (spF 3 M_put_in) := by
  exact ok_fun T.F_put_in sc_put_in rfl fun cdv A outer s H E hr => (psd_one (psd_ret (pd_op or_addD os_add (pd_op or_addD os_add (pd_sl (pd_name 0) po_n (po_p (pd_name 1))) (pd_tup (pda_cons (pd_name 2) pda_nil))) (pd_sl (pd_name 0) (po_p (pd_op or_addD os_add (pd_name 1) pd_int)) po_n))))
theorem ok_advanced {P : Program} {w : World} {K : PySem.W.Frag} {mg : Str → Option Value} {base : Heap} (T : Txt K mg) : FnOk P w K mg base CX0 1 T.f_advanced T.fd_advanced ["row", "seen"] (spF 2 M_advanced) := by
  exact ok_fun T.F_advanced sc_advanced rfl fun cdv A outer s H E hr => (psd_cons (psd_unp (pd_name 0) (pgd_tup rfl (pgs_cons (pg_name (i := 2) sc_advanced.nd rfl (by first | exact Or.inl rfl | exact Or.inr rfl)) (pgs_cons (pg_name (i := 3) sc_advanced.nd rfl (by first | exact Or.inl rfl | exact Or.inr rfl)) (pgs_cons (pg_name (i := 4) sc_advanced.nd rfl (by first | exact Or.inl rfl | exact Or.inr rfl)) pgs_nil))) (tgs_cons (tgs_cons (tgs_cons tgs_nil))) rfl)) (psd_cons (psd_if (ptd_cmp (op_neD hr.units) os_ne (pd_name 2) (pd_name 1) (nomark _)) (psd_one (psd_ret (pd_tup (pda_cons (pd_name 0) (pda_cons pd_bl pda_nil))))) psd_nil) (psd_one (psd_ret (pd_tup (pda_cons (pd_tup (pda_cons (pd_op or_addD os_add (pd_name 2) pd_int) (pda_cons (pd_name 3) (pda_cons (pd_name 4) pda_nil)))) (pda_cons pd_bl pda_nil)))))))
theorem ok_rested {P : Program} {w : World} {K : PySem.W.Frag} {mg : Str → Option Value} {base : Heap} (T : Txt K mg) : FnOk P w K mg base CX0 1 T.f_rested T.fd_rested ["worker"] (spF 1 M_rested) := by
  exact ok_fun T.F_rested sc_rested rfl fun cdv A outer s H E hr => (psd_one (psd_ret (pd_tup (pda_cons (pd_tup (pda_cons pd_str pda_nil)) (pda_cons (pd_tup (pda_cons pd_str (pda_cons (pd_name 0) pda_nil))) pda_nil)))))
theorem ok_own_looked {P : Program} {w : World} {K : PySem.W.Frag} {mg : Str → Option Value} {base : Heap} (T : Txt K mg) : FnOk P w K mg base CX0 1 T.f_own_looked T.fd_own_looked ["worker", "row"] (spF 2 M_own_looked) := by
  exact ok_fun T.F_own_looked sc_own_looked rfl fun cdv A outer s H E hr => (psd_cons (psd_unp (pd_name 1) (pgd_tup rfl (pgs_cons (pg_name (i := 2) sc_own_looked.nd rfl (by first | exact Or.inl rfl | exact Or.inr rfl)) (pgs_cons (pg_name (i := 3) sc_own_looked.nd rfl (by first | exact Or.inl rfl | exact Or.inr rfl)) (pgs_cons (pg_name (i := 4) sc_own_looked.nd rfl (by first | exact Or.inl rfl | exact Or.inr rfl)) pgs_nil))) (tgs_cons (tgs_cons (tgs_cons tgs_nil))) rfl)) (psd_cons (psd_if (ptd_cmp op_lt os_lt (pd_name 2) (pd_name 3) (nomark _)) (psd_one (psd_ret (pd_tup (pda_cons (pd_tup (pda_cons pd_str (pda_cons (pd_ix (pd_name 4) (pd_name 3)) (pda_cons pd_int pda_nil)))) (pda_cons (pd_tup (pda_cons pd_str (pda_cons (pd_name 0) (pda_cons (pd_ix (pd_name 4) (pd_name 3)) pda_nil)))) pda_nil))))) psd_nil) (psd_cons (psd_if (ptd_cmp (op_eqD hr.units) os_eq (pd_name 2) (pd_name 3) (nomark _)) (psd_one (psd_ret (pd_tup (pda_cons (pd_tup (pda_cons pd_str (pda_cons (pd_name 2) pda_nil))) (pda_cons pd_non pda_nil))))) psd_nil) (psd_one (psd_ret (pd_tup (pda_cons (pd_tup (pda_cons pd_str (pda_cons (pd_op or_addD os_add (pd_name 3) pd_int) (pda_cons pd_non pda_nil)))) (pda_cons pd_non pda_nil))))))))
theorem ok_own_step {P : Program} {w : World} {K : PySem.W.Frag} {mg : Str → Option Value} {base : Heap} (T : Txt K mg) : FnOk P w K mg base CX0 2 T.f_own_step T.fd_own_step ["worker", "row", "state", "many"] (spF 4 M_own_step) := by
  have G_own_looked := ok_own_looked (P := P) (w := w) (base := base) T
  have G_advanced := ok_advanced (P := P) (w := w) (base := base) T
  have G_rested := ok_rested (P := P) (w := w) (base := base) T
  exact ok_fun T.F_own_step sc_own_step rfl fun cdv A outer s H E hr => (psd_cons (psd_unp (pd_name 1) (pgd_tup rfl (pgs_cons (pg_name (i := 4) sc_own_step.nd rfl (by first | exact Or.inl rfl | exact Or.inr rfl)) (pgs_cons (pg_name (i := 5) sc_own_step.nd rfl (by first | exact Or.inl rfl | exact Or.inr rfl)) (pgs_cons (pg_name (i := 6) sc_own_step.nd rfl (by first | exact Or.inl rfl | exact Or.inr rfl)) pgs_nil))) (tgs_cons (tgs_cons (tgs_cons tgs_nil))) rfl)) (psd_cons (psd_if (ptd_cmp (op_eqD hr.units) os_eq (pd_ix (pd_name 2) pd_int) pd_str (nomark _)) (psd_one (psd_ret (pd_tup (pda_cons (pd_tup (pda_cons (pd_name 4) (pda_cons (pd_op op_sub os_sub (pd_name 5) pd_int) (pda_cons (pd_name 6) pda_nil)))) (pda_cons (pd_tup (pda_cons pd_str pda_nil)) (pda_cons pd_non pda_nil)))))) psd_nil) (psd_cons (psd_if (ptd_cmp (op_eqD hr.units) os_eq (pd_ix (pd_name 2) pd_int) pd_str (nomark _)) (psd_cons (psd_unp (pd_call G_own_looked (hr.mono (by decide)) rfl T.m_own_looked T.F_own_looked.kp T.b_own_looked pass0 (pda_cons (pd_name 0) (pda_cons (pd_name 1) pda_nil)) (es_len (es_len es_len0))) (pgd_tup rfl (pgs_cons (pg_name (i := 7) sc_own_step.nd rfl (by first | exact Or.inl rfl | exact Or.inr rfl)) (pgs_cons (pg_name (i := 8) sc_own_step.nd rfl (by first | exact Or.inl rfl | exact Or.inr rfl)) pgs_nil)) (tgs_cons (tgs_cons tgs_nil)) rfl)) (psd_one (psd_ret (pd_tup (pda_cons (pd_name 1) (pda_cons (pd_name 7) (pda_cons (pd_name 8) pda_nil))))))) psd_nil) (psd_cons (psd_if (ptd_cmp (op_eqD hr.units) os_eq (pd_ix (pd_name 2) pd_int) pd_str (nomark _)) (psd_cons (psd_unp (pd_call G_advanced (hr.mono (by decide)) rfl T.m_advanced T.F_advanced.kp T.b_advanced pass0 (pda_cons (pd_name 1) (pda_cons (pd_ix (pd_name 2) pd_int) pda_nil)) (es_len (es_len es_len0))) (pgd_tup rfl (pgs_cons (pg_name (i := 1) sc_own_step.nd rfl (by first | exact Or.inl rfl | exact Or.inr rfl)) (pgs_cons (pg_name (i := 9) sc_own_step.nd rfl (by first | exact Or.inl rfl | exact Or.inr rfl)) pgs_nil)) (tgs_cons (tgs_cons tgs_nil)) rfl)) (psd_cons (psd_if (ptd_val (pd_name 9)) (psd_cons (psd_set (i := 10) sc_own_step.nd rfl (by first | exact Or.inl rfl | exact Or.inr rfl) (pd_ix (pd_name 6) (pd_ix (pd_name 2) pd_int))) (psd_one (psd_ret (pd_tup (pda_cons (pd_name 1) (pda_cons (pd_tup (pda_cons pd_str (pda_cons (pd_op or_addD os_add (pd_ix (pd_name 2) pd_int) pd_int) (pda_cons (pd_name 10) pda_nil)))) (pda_cons (pd_tup (pda_cons pd_str (pda_cons (pd_name 0) (pda_cons (pd_name 10) pda_nil)))) pda_nil))))))) psd_nil) (psd_one (psd_ret (pd_tup (pda_cons (pd_name 1) (pda_cons (pd_tup (pda_cons pd_str (pda_cons (pd_op or_addD os_add (pd_ix (pd_name 2) pd_int) pd_int) (pda_cons pd_non pda_nil)))) (pda_cons pd_non pda_nil)))))))) psd_nil) (psd_cons (psd_set (i := 1) sc_own_step.nd rfl (by first | exact Or.inl rfl | exact Or.inr rfl) (pd_tup (pda_cons (pd_name 4) (pda_cons (pd_ix (pd_name 2) pd_int) (pda_cons (pd_name 6) pda_nil))))) (psd_cons (psd_if (ptd_cmp op_isntA os_isntA (pd_ix (pd_name 2) pd_int) pd_non (nomark _)) (psd_one (psd_ret (pd_tup (pda_cons (pd_name 1) (pda_cons (pd_tup (pda_cons pd_str (pda_cons (pd_ix (pd_name 2) pd_int) (pda_cons pd_int pda_nil)))) (pda_cons pd_non pda_nil)))))) psd_nil) (psd_cons (psd_if (ptd_cmp (op_eqD hr.units) os_eq (pd_name 3) pd_int (nomark _)) (psd_cons (psd_unp (pd_call G_rested (hr.mono (by decide)) rfl T.m_rested T.F_rested.kp T.b_rested pass0 (pda_cons (pd_name 0) pda_nil) (es_len es_len0)) (pgd_tup rfl (pgs_cons (pg_name (i := 7) sc_own_step.nd rfl (by first | exact Or.inl rfl | exact Or.inr rfl)) (pgs_cons (pg_name (i := 8) sc_own_step.nd rfl (by first | exact Or.inl rfl | exact Or.inr rfl)) pgs_nil)) (tgs_cons (tgs_cons tgs_nil)) rfl)) (psd_one (psd_ret (pd_tup (pda_cons (pd_name 1) (pda_cons (pd_name 7) (pda_cons (pd_name 8) pda_nil))))))) psd_nil) (psd_one (psd_ret (pd_tup (pda_cons (pd_name 1) (pda_cons (pd_tup (pda_cons pd_str (pda_cons pd_int pda_nil))) (pda_cons pd_non pda_nil)))))))))))))
theorem ok_other_step {P : Program} {w : World} {K : PySem.W.Frag} {mg : Str → Option Value} {base : Heap} (T : Txt K mg) : FnOk P w K mg base CX0 2 T.f_other_step T.fd_other_step ["worker", "other", "row", "state", "many"] (spF 5 M_other_step) := by
  have G_advanced := ok_advanced (P := P) (w := w) (base := base) T
  have G_rested := ok_rested (P := P) (w := w) (base := base) T
  exact ok_fun T.F_other_step sc_other_step rfl fun cdv A outer s H E hr => (psd_cons (psd_unp (pd_sl (pd_name 3) po_n (po_p pd_int)) (pgd_tup rfl (pgs_cons (pg_name (i := 5) sc_other_step.nd rfl (by first | exact Or.inl rfl | exact Or.inr rfl)) (pgs_cons (pg_name (i := 6) sc_other_step.nd rfl (by first | exact Or.inl rfl | exact Or.inr rfl)) pgs_nil)) (tgs_cons (tgs_cons tgs_nil)) rfl)) (psd_cons (psd_if (ptd_cmp (op_eqD hr.units) os_eq (pd_name 5) pd_str (nomark _)) (psd_one (psd_ret (pd_tup (pda_cons (pd_name 2) (pda_cons (pd_tup (pda_cons pd_str (pda_cons (pd_name 6) (pda_cons (pd_ix (pd_name 2) pd_int) pda_nil)))) (pda_cons pd_non pda_nil)))))) psd_nil) (psd_cons (psd_if (ptd_cmp (op_eqD hr.units) os_eq (pd_name 5) pd_str (nomark _)) (psd_one (psd_ret (pd_tup (pda_cons (pd_name 2) (pda_cons (pd_tup (pda_cons pd_str (pda_cons (pd_name 6) (pda_cons (pd_ix (pd_name 3) pd_int) (pda_cons (pd_ix (pd_ix (pd_name 2) pd_int) (pd_ix (pd_name 3) pd_int)) pda_nil))))) (pda_cons pd_non pda_nil)))))) psd_nil) (psd_cons (psd_if (ptd_cmp (op_eqD hr.units) os_eq (pd_name 5) pd_str (nomark _)) (psd_cons (psd_unp (pd_call G_advanced (hr.mono (by decide)) rfl T.m_advanced T.F_advanced.kp T.b_advanced pass0 (pda_cons (pd_name 2) (pda_cons (pd_ix (pd_name 3) pd_int) pda_nil)) (es_len (es_len es_len0))) (pgd_tup rfl (pgs_cons (pg_name (i := 2) sc_other_step.nd rfl (by first | exact Or.inl rfl | exact Or.inr rfl)) (pgs_cons (pg_name (i := 7) sc_other_step.nd rfl (by first | exact Or.inl rfl | exact Or.inr rfl)) pgs_nil)) (tgs_cons (tgs_cons tgs_nil)) rfl)) (psd_cons (psd_if (ptd_val (pd_name 7)) (psd_one (psd_ret (pd_tup (pda_cons (pd_name 2) (pda_cons (pd_tup (pda_cons pd_str (pda_cons (pd_ix (pd_name 3) pd_int) (pda_cons pd_int pda_nil)))) (pda_cons (pd_tup (pda_cons pd_str (pda_cons (pd_name 0) (pda_cons (pd_name 1) (pda_cons (pd_ix (pd_name 3) pd_int) pda_nil))))) pda_nil)))))) psd_nil) (psd_one (psd_ret (pd_tup (pda_cons (pd_name 2) (pda_cons (pd_tup (pda_cons pd_str (pda_cons (pd_name 6) pda_nil))) (pda_cons pd_non pda_nil)))))))) psd_nil) (psd_cons (psd_if (ptd_cmp op_lt os_lt (pd_ix (pd_name 3) pd_int) (pd_ix (pd_name 2) pd_int) (nomark _)) (psd_one (psd_ret (pd_tup (pda_cons (pd_name 2) (pda_cons (pd_tup (pda_cons pd_str (pda_cons (pd_name 6) (pda_cons (pd_ix (pd_name 3) pd_int) pda_nil)))) (pda_cons pd_non pda_nil)))))) psd_nil) (psd_cons (psd_if (ptd_cmp op_lt os_lt (pd_op or_addD os_add (pd_name 6) pd_int) (pd_name 4) (nomark _)) (psd_one (psd_ret (pd_tup (pda_cons (pd_name 2) (pda_cons (pd_tup (pda_cons pd_str (pda_cons (pd_op or_addD os_add (pd_name 6) pd_int) pda_nil))) (pda_cons pd_non pda_nil)))))) psd_nil) (psd_cons (psd_unp (pd_call G_rested (hr.mono (by decide)) rfl T.m_rested T.F_rested.kp T.b_rested pass0 (pda_cons (pd_name 0) pda_nil) (es_len es_len0)) (pgd_tup rfl (pgs_cons (pg_name (i := 8) sc_other_step.nd rfl (by first | exact Or.inl rfl | exact Or.inr rfl)) (pgs_cons (pg_name (i := 9) sc_other_step.nd rfl (by first | exact Or.inl rfl | exact Or.inr rfl)) pgs_nil)) (tgs_cons (tgs_cons tgs_nil)) rfl)) (psd_one (psd_ret (pd_tup (pda_cons (pd_name 2) (pda_cons (pd_name 8) (pda_cons (pd_name 9) pda_nil)))))))))))))
theorem ok_task_step {P : Program} {w : World} {K : PySem.W.Frag} {mg : Str → Option Value} {base : Heap} (T : Txt K mg) : FnOk P w K mg base CX0 2 T.f_task_step T.fd_task_step ["worker", "row", "state", "brood"] (spF 4 M_task_step) := by
  have G_put_in := ok_put_in (P := P) (w := w) (base := base) T
  exact ok_fun T.F_task_step sc_task_step rfl fun cdv A outer s H E hr => (psd_cons (psd_unp (pd_name 1) (pgd_tup rfl (pgs_cons (pg_name (i := 4) sc_task_step.nd rfl (by first | exact Or.inl rfl | exact Or.inr rfl)) (pgs_cons (pg_name (i := 5) sc_task_step.nd rfl (by first | exact Or.inl rfl | exact Or.inr rfl)) (pgs_cons (pg_name (i := 6) sc_task_step.nd rfl (by first | exact Or.inl rfl | exact Or.inr rfl)) pgs_nil))) (tgs_cons (tgs_cons (tgs_cons tgs_nil))) rfl)) (psd_cons (psd_unp (pd_name 2) (pgd_tup rfl (pgs_cons (pg_name (i := 7) sc_task_step.nd rfl (by first | exact Or.inl rfl | exact Or.inr rfl)) (pgs_cons (pg_name (i := 8) sc_task_step.nd rfl (by first | exact Or.inl rfl | exact Or.inr rfl)) (pgs_cons (pg_name (i := 9) sc_task_step.nd rfl (by first | exact Or.inl rfl | exact Or.inr rfl)) pgs_nil))) (tgs_cons (tgs_cons (tgs_cons tgs_nil))) rfl)) (psd_cons (psd_if (ptd_cmp (op_eqD hr.units) os_eq (pd_name 7) pd_str (nomark _)) (psd_one (psd_ret (pd_tup (pda_cons (pd_tup (pda_cons (pd_name 4) (pda_cons (pd_op or_addD os_add (pd_name 5) pd_int) (pda_cons (pd_name 6) pda_nil)))) (pda_cons (pd_tup (pda_cons pd_str (pda_cons (pd_name 8) (pda_cons (pd_op or_addD os_add (pd_name 9) pd_int) pda_nil)))) (pda_cons (pd_tup (pda_cons pd_str (pda_cons (pd_name 0) (pda_cons (pd_ix (pd_ix (pd_name 3) (pd_name 8)) (pd_name 9)) pda_nil)))) pda_nil)))))) psd_nil) (psd_cons (psd_if (ptd_cmp op_lt os_lt (pd_name 9) (pd_callB cr_len cs_len rfl T.z_len bt_len (pda_cons (pd_ix (pd_name 3) (pd_name 8)) pda_nil)) (nomark _)) (psd_one (psd_ret (pd_tup (pda_cons (pd_tup (pda_cons (pd_name 4) (pda_cons (pd_name 5) (pda_cons (pd_call G_put_in (hr.mono (by decide)) rfl T.m_put_in T.F_put_in.kp T.b_put_in pass0 (pda_cons (pd_name 6) (pda_cons (pd_name 5) (pda_cons (pd_ix (pd_ix (pd_name 3) (pd_name 8)) (pd_name 9)) pda_nil))) (es_len (es_len (es_len es_len0)))) pda_nil)))) (pda_cons (pd_tup (pda_cons pd_str (pda_cons (pd_name 8) (pda_cons (pd_name 9) pda_nil)))) (pda_cons pd_non pda_nil)))))) psd_nil) (psd_one (psd_ret (pd_tup (pda_cons (pd_name 1) (pda_cons (pd_tup (pda_cons pd_str pda_nil)) (pda_cons (pd_tup (pda_cons pd_str (pda_cons (pd_name 0) (pda_cons (pd_name 8) pda_nil)))) pda_nil))))))))))
theorem ok_stepped {P : Program} {w : World} {K : PySem.W.Frag} {mg : Str → Option Value} {base : Heap} (T : Txt K mg) : FnOk P w K mg base CX0 3 T.f_stepped T.fd_stepped ["plan", "yard", "worker"] (spF 3 M_stepped) := by
  have G_own_step := ok_own_step (P := P) (w := w) (base := base) T
  have G_task_step := ok_task_step (P := P) (w := w) (base := base) T
  have G_other_step := ok_other_step (P := P) (w := w) (base := base) T
  have G_put_in := ok_put_in (P := P) (w := w) (base := base) T
  exact ok_fun T.F_stepped sc_stepped rfl fun cdv A outer s H E hr => (psd_cons (psd_unp (pd_name 1) (pgd_tup rfl (pgs_cons (pg_name (i := 3) sc_stepped.nd rfl (by first | exact Or.inl rfl | exact Or.inr rfl)) (pgs_cons (pg_name (i := 4) sc_stepped.nd rfl (by first | exact Or.inl rfl | exact Or.inr rfl)) pgs_nil)) (tgs_cons (tgs_cons tgs_nil)) rfl)) (psd_cons (psd_if (ptd_not (ptd_chain op_le os_le op_lt os_lt pd_int (pd_name 2) (pd_callB cr_len cs_len rfl T.z_len bt_len (pda_cons (pd_name 4) pda_nil)))) (psd_one psd_never) psd_nil) (psd_cons (psd_set (i := 5) sc_stepped.nd rfl (by first | exact Or.inl rfl | exact Or.inr rfl) (pd_ix (pd_name 4) (pd_name 2))) (psd_cons (psd_set (i := 6) sc_stepped.nd rfl (by first | exact Or.inl rfl | exact Or.inr rfl) (pd_name 2)) (psd_cons (psd_if (ptd_cmp (op_eqD hr.units) os_eq (pd_ix (pd_name 5) pd_int) pd_str (nomark _)) (psd_one psd_never) psd_nil) (psd_cons (psd_if (ptd_cmp (op_inA (room65 hr)) os_inA (pd_ix (pd_name 5) pd_int) (pd_tup (pda_cons pd_str (pda_cons pd_str (pda_cons pd_str (pda_cons pd_str pda_nil))))) rfl) (psd_one (psd_unp (pd_call G_own_step (hr.mono (by decide)) rfl T.m_own_step T.F_own_step.kp T.b_own_step pass0 (pda_cons (pd_name 2) (pda_cons (pd_ix (pd_name 3) (pd_name 2)) (pda_cons (pd_name 5) (pda_cons (pd_callB cr_len cs_len rfl T.z_len bt_len (pda_cons (pd_name 3) pda_nil)) pda_nil)))) (es_len (es_len (es_len (es_len es_len0))))) (pgd_tup rfl (pgs_cons (pg_name (i := 7) sc_stepped.nd rfl (by first | exact Or.inl rfl | exact Or.inr rfl)) (pgs_cons (pg_name (i := 8) sc_stepped.nd rfl (by first | exact Or.inl rfl | exact Or.inr rfl)) (pgs_cons (pg_name (i := 9) sc_stepped.nd rfl (by first | exact Or.inl rfl | exact Or.inr rfl)) pgs_nil))) (tgs_cons (tgs_cons (tgs_cons tgs_nil))) rfl))) (psd_one (psd_if (ptd_cmp (op_inA (room65 hr)) os_inA (pd_ix (pd_name 5) pd_int) (pd_tup (pda_cons pd_str (pda_cons pd_str pda_nil))) rfl) (psd_one (psd_unp (pd_call G_task_step (hr.mono (by decide)) rfl T.m_task_step T.F_task_step.kp T.b_task_step pass0 (pda_cons (pd_name 2) (pda_cons (pd_ix (pd_name 3) (pd_name 2)) (pda_cons (pd_name 5) (pda_cons (pd_ix (pd_name 0) pd_int) pda_nil)))) (es_len (es_len (es_len (es_len es_len0))))) (pgd_tup rfl (pgs_cons (pg_name (i := 7) sc_stepped.nd rfl (by first | exact Or.inl rfl | exact Or.inr rfl)) (pgs_cons (pg_name (i := 8) sc_stepped.nd rfl (by first | exact Or.inl rfl | exact Or.inr rfl)) (pgs_cons (pg_name (i := 9) sc_stepped.nd rfl (by first | exact Or.inl rfl | exact Or.inr rfl)) pgs_nil))) (tgs_cons (tgs_cons (tgs_cons tgs_nil))) rfl))) (psd_cons (psd_set (i := 6) sc_stepped.nd rfl (by first | exact Or.inl rfl | exact Or.inr rfl) (pd_op op_modN os_mod (pd_op or_addD os_add (pd_name 2) (pd_ix (pd_name 5) pd_int)) (pd_callB cr_len cs_len rfl T.z_len bt_len (pda_cons (pd_name 3) pda_nil)))) (psd_one (psd_unp (pd_call G_other_step (hr.mono (by decide)) rfl T.m_other_step T.F_other_step.kp T.b_other_step pass0 (pda_cons (pd_name 2) (pda_cons (pd_name 6) (pda_cons (pd_ix (pd_name 3) (pd_name 6)) (pda_cons (pd_name 5) (pda_cons (pd_callB cr_len cs_len rfl T.z_len bt_len (pda_cons (pd_name 3) pda_nil)) pda_nil))))) (es_len (es_len (es_len (es_len (es_len es_len0)))))) (pgd_tup rfl (pgs_cons (pg_name (i := 7) sc_stepped.nd rfl (by first | exact Or.inl rfl | exact Or.inr rfl)) (pgs_cons (pg_name (i := 8) sc_stepped.nd rfl (by first | exact Or.inl rfl | exact Or.inr rfl)) (pgs_cons (pg_name (i := 9) sc_stepped.nd rfl (by first | exact Or.inl rfl | exact Or.inr rfl)) pgs_nil))) (tgs_cons (tgs_cons (tgs_cons tgs_nil))) rfl))))))) (psd_one (psd_ret (pd_tup (pda_cons (pd_tup (pda_cons (pd_call G_put_in (hr.mono (by decide)) rfl T.m_put_in T.F_put_in.kp T.b_put_in pass0 (pda_cons (pd_name 3) (pda_cons (pd_name 6) (pda_cons (pd_name 7) pda_nil))) (es_len (es_len (es_len es_len0)))) (pda_cons (pd_call G_put_in (hr.mono (by decide)) rfl T.m_put_in T.F_put_in.kp T.b_put_in pass0 (pda_cons (pd_name 4) (pda_cons (pd_name 2) (pda_cons (pd_name 8) pda_nil))) (es_len (es_len (es_len es_len0)))) pda_nil))) (pda_cons (pd_name 9) pda_nil)))))))))))
theorem ok_started {P : Program} {w : World} {K : PySem.W.Frag} {mg : Str → Option Value} {base : Heap} (T : Txt K mg) : FnOk P w K mg base CX0 1 T.f_started T.fd_started ["plan"] (spF 1 M_started) := by
  exact ok_fun T.F_started sc_started rfl fun cdv A outer s H E hr => (psd_cons (psd_set (i := 1) sc_started.nd rfl (by first | exact Or.inl rfl | exact Or.inr rfl) (pd_callTy cr_tuple cs_tuple rfl T.z_tuple bt_tuple (pda_cons (pd_lc rfl sc_started.nd (pd_ix (pd_name 0) pd_int) (blkOk_by (N := N_started) (sc := defScope s_started) (own := [("row", 2)]) (by decide +kernel)) (fun _ _ _ _ _ => pg_name (i := 2) sc_started.nd rfl (Or.inl rfl)) (fun _ _ _ _ _ => ptsd_nil) (fun _ _ _ _ _ => (pd_tup (pda_cons pd_int (pda_cons (pd_callB cr_len cs_len rfl T.z_len bt_len (pda_cons (pd_name 2) pda_nil)) (pda_cons (pd_callTy cr_tuple cs_tuple rfl T.z_tuple bt_tuple (pda_cons (pd_name 2) pda_nil)) pda_nil)))))) pda_nil))) (psd_one (psd_ret (pd_tup (pda_cons (pd_name 1) (pda_cons (pd_callTy cr_tuple cs_tuple rfl T.z_tuple bt_tuple (pda_cons (pd_lc rfl sc_started.nd (pd_name 1) (blkOk_by (N := N_started) (sc := defScope s_started) (own := [("row", 2)]) (by decide +kernel)) (fun _ _ _ _ _ => pg_name (i := 2) sc_started.nd rfl (Or.inl rfl)) (fun _ _ _ _ _ => ptsd_nil) (fun _ _ _ _ _ => (pd_tup (pda_cons pd_str pda_nil)))) pda_nil)) pda_nil))))))
theorem ok_is_over {P : Program} {w : World} {K : PySem.W.Frag} {mg : Str → Option Value} {base : Heap} (T : Txt K mg) : FnOk P w K mg base CX0 1 T.f_is_over T.fd_is_over ["yard"] (spF 1 M_is_over) := by
  exact ok_fun T.F_is_over sc_is_over rfl fun cdv A outer s H E hr => (psd_one (psd_ret (pd_callB (cr_all rfl) cs_all rfl T.z_all bt_all (pda_cons (pd_lc rfl sc_is_over.nd (pd_ix (pd_name 0) pd_int) (blkOk_by (N := N_is_over) (sc := defScope s_is_over) (own := [("state", 1)]) (by decide +kernel)) (fun _ _ _ _ _ => pg_name (i := 1) sc_is_over.nd rfl (Or.inl rfl)) (fun _ _ _ _ _ => ptsd_nil) (fun _ _ _ _ _ => (pd_cmp (op_eqD hr.units) os_eq (pd_ix (pd_name 1) pd_int) pd_str (nomark _)))) pda_nil))))
theorem ok_l_weaving_by {P : Program} {w : World} {K : PySem.W.Frag} {mg : Str → Option Value} {base : Heap} (T : Txt K mg) : FnOk P w K mg base CX0 1 T.f_l_weaving_by T.fd_l_weaving_by ["_law_cells", "_law_many"] (spF 2 M_l_weaving_by) := by
  exact ok_fun T.F_l_weaving_by sc_l_weaving_by rfl fun cdv A outer s H E hr => (psd_cons (psd_set (i := 2) sc_l_weaving_by.nd rfl (by first | exact Or.inl rfl | exact Or.inr rfl) (pd_lst pda_nil)) (psd_cons (psd_for (pd_name 0) (pgd_name (i := 3) sc_l_weaving_by.nd rfl (by first | exact Or.inl rfl | exact Or.inr rfl)) (psd_one (psd_if (ptd_cmp (op_eqD hr.units) os_eq (pd_op op_modN os_mod (pd_name 3) pd_int) pd_int (nomark _)) (psd_one (psd_set (i := 2) sc_l_weaving_by.nd rfl (by first | exact Or.inl rfl | exact Or.inr rfl) (pd_op or_addD os_add (pd_name 2) (pd_lcR rfl T.z_range rfl sc_l_weaving_by.nd (pd_name 1) (blkOk_by (N := N_l_weaving_by) (sc := defScope s_l_weaving_by) (own := [("_law_k", 4)]) (by decide +kernel)) (fun _ _ _ _ _ => pg_name (i := 4) sc_l_weaving_by.nd rfl (Or.inl rfl)) (fun _ _ _ _ _ => ptsd_nil) (fun _ _ _ _ _ => (pd_op op_modN os_mod (pd_op or_addD os_add (pd_name 4) (pd_op op_fdivN os_div (pd_name 3) pd_int)) (pd_name 1))))))) (psd_one (psd_if (ptd_cmp (op_eqD hr.units) os_eq (pd_op op_modN os_mod (pd_name 3) pd_int) pd_int (nomark _)) (psd_one (psd_set (i := 2) sc_l_weaving_by.nd rfl (by first | exact Or.inl rfl | exact Or.inr rfl) (pd_op or_addD os_add (pd_name 2) (pd_op or_mulD os_mul (pd_lst (pda_cons (pd_op op_modN os_mod (pd_op op_fdivN os_div (pd_name 3) pd_int) (pd_name 1)) pda_nil)) (pd_op or_addD os_add pd_int (pd_op op_modN os_mod (pd_op op_fdivN os_div (pd_op op_fdivN os_div (pd_name 3) pd_int) (pd_name 1)) pd_int)))))) (psd_one (psd_set (i := 2) sc_l_weaving_by.nd rfl (by first | exact Or.inl rfl | exact Or.inr rfl) (pd_op or_addD os_add (pd_name 2) (pd_op or_mulD os_mul (pd_lst (pda_cons (pd_op op_modN os_mod (pd_op op_fdivN os_div (pd_name 3) pd_int) (pd_name 1)) pda_nil)) (pd_op or_addD os_add pd_int (pd_op op_modN os_mod (pd_name 3) pd_int))))))))))) (psd_one (psd_ret (pd_name 2)))))
theorem ok_one_more {P : Program} {w : World} {K : PySem.W.Frag} {mg : Str → Option Value} {base : Heap} (T : Txt K mg) : FnOk P w K mg base CX0 4 T.f_one_more T.fd_one_more ["plan", "yard", "worker", "events"] (spO 3 M_one_more) := by
  have G_stepped := ok_stepped (P := P) (w := w) (base := base) T
  refine T.F_one_more.ok sc_one_more (fun vs H Q E h => ?_) (fun cdv A outer s H vs Q E hr h => ⟨_, (pss_cons (ps_if (ptd_cmp (op_eqD hr.units) os_eq (pd_ix (pd_ix (pd_ix (pd_name 1) pd_int) (pd_name 2)) pd_int) pd_str (nomark _)) (pss_one (ps_ret (pd_name 1))) pss_nil) (pss_cons (ps_asg (pd_call G_stepped (hr.mono (by decide)) rfl T.m_stepped T.F_stepped.kp T.b_stepped pass0 (pda_cons (pd_name 0) (pda_cons (pd_name 1) (pda_cons (pd_name 2) pda_nil))) (es_len (es_len (es_len es_len0)))) (pg_tup rfl (pgs_cons (pg_name (i := 1) sc_one_more.nd rfl (by first | exact Or.inl rfl | exact Or.inr rfl)) (pgs_cons (pg_name (i := 4) sc_one_more.nd rfl (by first | exact Or.inl rfl | exact Or.inr rfl)) pgs_nil)))) (pss_cons (ps_if (ptd_cmp op_isntA os_isntA (pd_name 4) pd_non (nomark _)) (pss_one (ps_expr (pe_bm PySem.F.plainAttrs_list PySem.F.slot_list_append PySem.F.type_list_append mt_append (pv 3) (pa_cons (pd_name 4) pa_nil)))) pss_nil) (pss_one (ps_ret (pd_name 1)))))), ?_⟩)
  · obtain ⟨M, us, l, xs, args, dl, r, rfl, hl, _⟩ := h
    rw [List.length_append, hl]; rfl
  · obtain ⟨M, us, l, xs, args, dl, r, rfl, hl, ok, ml, h1, rx, ra, e, q⟩ := h
    match args, ra, e with
    | [dp, dy, dw], ra, e =>
      cases ra with
      | cons r0 ra =>
        cases ra with
        | cons r1 ra =>
          cases ra with
          | cons r2 ra =>
            cases ra
            rename_i v0 v1 v2
            obtain ⟨b, e1, e2⟩ := bind_some e
            have sl : ∀ {H' : Hp} {x : Option V}, Same H H' → SlD M H' [some v0, some v1, some v2, some (.ref l), x] [some dp, some dy, some dw, none, none] := fun {H' x} s' => .yes (r0.same s') (.yes (r1.same s') (.yes (r2.same s') (.no _ (.no _ .nil))))
            refine ⟨M, _, b, ok, sl (L2.Same.refl H), e1, fun H1 s1 => ?_⟩
            cases b with
            | true =>
              rw [if_pos rfl] at e2 ⊢
              cases e2
              exact tp_ok (ok.same s1) (sl s1) (eVar_get rfl) fun v H2 s2 rv => q v H2 xs (fun a o n z => s2 _ _ (s1 _ _ z)) (s2 _ _ (s1 _ _ h1)) ((rx.same s1).same s2) rv
            | false =>
              rw [if_neg Bool.false_ne_true] at e2 ⊢
              obtain ⟨d, e3, e4⟩ := bind_some e2
              refine ⟨M, _, d, ok.same s1, sl s1, q_call (q_cons (eVar_get rfl) (q_cons (eVar_get rfl) (q_cons (eVar_get rfl) rfl))) |>.trans e3, fun v H2 s2 rv => ?_⟩
              have s12 := L2.Same.trans s1 s2
              split at e4
              · rename_i y' ev
                cases rv with
                | tup a1 n1 rv =>
                  cases rv with
                  | cons ry rv =>
                    cases rv with
                    | cons re rv =>
                      cases rv
                      rename_i pa vy ve
                      refine ⟨_, _, rfl, SqT.of a1, rfl, vy, _, rfl, ve, _, rfl, rfl, ?_⟩
                      have sl2 : ∀ {H' : Hp}, Same H2 H' → SlD M H' [some v0, some vy, some v2, some (.ref l), some ve] [some dp, some y', some dw, none, some ev] := fun {H'} s' => .yes ((r0.same s12).same s') (.yes (ry.same s') (.yes ((r2.same s12).same s') (.no _ (.yes (re.same s') .nil))))
                      refine ⟨M, _, !isNon ev, ok.same s12, sl2 (L2.Same.refl H2), ?_, fun H3 s3 => ?_⟩
                      · unfold bT
                        rw [eOp_ev (eVar_get rfl) rfl]
                        rfl
                      · cases hn : isNon ev with
                        | true =>
                          rw [hn, if_pos rfl] at e4
                          cases e4
                          refine iteF ?_
                          exact tp_ok ((ok.same s12).same s3) (sl2 s3) (eVar_get rfl) fun v4 H4 s4 rv4 => q v4 H4 xs (fun a o n z => s4 _ _ (s3 _ _ (s12 _ _ z))) (s4 _ _ (s3 _ _ (s12 _ _ h1))) (((rx.same s12).same s3).same s4) rv4
                        | false =>
                          rw [hn, if_neg Bool.false_ne_true] at e4
                          split at e4
                          · rename_i hz
                            cases e4
                            refine iteT ?_
                            have s13 := L2.Same.trans s12 s3
                            refine ⟨_, rfl, .inl ⟨rfl, _, SqL.of (s13 _ _ h1)⟩, M, _, ev, ok.same s13, sl2 s3, eVar_get rfl, fun v4 H4 s4 rv4 => ?_⟩
                            have s14 := L2.Same.trans s13 s4
                            have rx4 := rx.same s14
                            have fr : ∀ a o, ¬ M a → H4 a = some o → ¬ M a ∧ (upd H4 l (.lst (xs ++ [v4]))) a = some o := fun a o n z => ⟨n, by rw [upd_ne (fun (z2 : a = l) => n (by rw [z2]; exact ml))]; exact z⟩
                            refine ⟨l, xs, v4, rfl, rfl, s14 _ _ h1, by rw [rx.length]; exact Nat.lt_of_lt_of_le (by omega : dl.length < lim) lim_le, ?_⟩
                            have ok5 : Ok M (upd H4 l (.lst (xs ++ [v4]))) := fun a m => by
                              by_cases z : a = l
                              · rw [z, upd_same]; simp
                              · rw [upd_ne z]; exact (ok.same s14) a m
                            refine tp_ok ok5 ((sl2 (L2.Same.trans s3 s4)).mono fr) (eVar_get rfl) fun v6 H6 s6 rv6 => ?_
                            refine q v6 H6 (xs ++ [v4]) (fun a o n z => s6 _ _ (by rw [upd_ne n]; exact s14 _ _ z)) (s6 _ _ upd_same) ?_ rv6
                            exact ((rx4.snoc rv4).mono fr _ _).same s6
                          · cases e4
              · cases e4

theorem ok_woven {P : Program} {w : World} {K : PySem.W.Frag} {mg : Str → Option Value} {base : Heap} (T : Txt K mg) : FnOk P w K mg base CX0 5 T.f_woven T.fd_woven ["plan", "yard", "weaving"] (spF 3 M_woven) := by
  have G_one_more := ok_one_more (P := P) (w := w) (base := base) T
  exact ok_funO T.F_woven sc_woven rfl (by intro i h; simp at h; omega) fun cdv A outer s H E hr => (o_cons (o_for (pd_name 2) (pgo_name (i := 3) rfl sc_woven.nd rfl (by first | exact Or.inl rfl | exact Or.inr rfl)) (o_one (o_if (ptd_not (ptd_chain op_le os_le op_lt os_lt pd_int (pd_name 3) (pd_callB cr_len cs_len rfl T.z_len bt_len (pda_cons (pd_ix (pd_name 1) pd_int) pda_nil)))) (o_one o_never) o_nil))) (o_cons (o_new (i := 4) rfl sc_woven.nd rfl (by first | exact Or.inl rfl | exact Or.inr rfl)) (o_cons (o_for (pd_name 2) (pgo_name (i := 3) rfl sc_woven.nd rfl (by first | exact Or.inl rfl | exact Or.inr rfl)) (o_one (o_call (j := 1) (i := 4) G_one_more (hr.mono (by decide)) rfl T.m_one_more T.F_one_more.kp T.b_one_more pass0 rfl rfl (pla_cons (pd_name 0) (pla_cons (pd_name 1) (pla_cons (pd_name 3) (pla_nil (i := 4) rfl (by first | exact Or.inl rfl | exact Or.inr (Or.inl rfl) | exact Or.inr (Or.inr rfl)))))) (es_len (es_len (es_len es_len0))) sc_woven.nd rfl (by first | exact Or.inl rfl | exact Or.inr rfl)))) (o_one (o_ret (pd_tup (pda_cons (pd_name 1) (pda_cons (pd_name 4) pda_nil))))))))
theorem ok_finished {P : Program} {w : World} {K : PySem.W.Frag} {mg : Str → Option Value} {base : Heap} (T : Txt K mg) (n : Nat) : FnOk P w K mg base CX0 5 T.f_finished T.fd_finished ["plan", "yard"] (spF 2 (M_finished n)) := by
  have G_is_over := ok_is_over (P := P) (w := w) (base := base) T
  have G_one_more := ok_one_more (P := P) (w := w) (base := base) T
  exact ok_funO T.F_finished sc_finished rfl (by intro i h; simp at h; omega) fun cdv A outer s H E hr => (o_cons (o_new (i := 2) rfl sc_finished.nd rfl (by first | exact Or.inl rfl | exact Or.inr rfl)) (o_cons (o_while (n := n) (ptd_not (ptd_val (pd_call G_is_over (hr.mono (by decide)) rfl T.m_is_over T.F_is_over.kp T.b_is_over pass0 (pda_cons (pd_name 1) pda_nil) (es_len es_len0)))) (o_one (o_forR rfl T.z_range (pd_callB cr_len cs_len rfl T.z_len bt_len (pda_cons (pd_ix (pd_name 1) pd_int) pda_nil)) (pgo_name (i := 3) rfl sc_finished.nd rfl (by first | exact Or.inl rfl | exact Or.inr rfl)) (o_one (o_call (j := 1) (i := 2) G_one_more (hr.mono (by decide)) rfl T.m_one_more T.F_one_more.kp T.b_one_more pass0 rfl rfl (pla_cons (pd_name 0) (pla_cons (pd_name 1) (pla_cons (pd_name 3) (pla_nil (i := 2) rfl (by first | exact Or.inl rfl | exact Or.inr (Or.inl rfl) | exact Or.inr (Or.inr rfl)))))) (es_len (es_len (es_len es_len0))) sc_finished.nd rfl (by first | exact Or.inl rfl | exact Or.inr rfl)))))) (o_one (o_ret (pd_tup (pda_cons (pd_name 1) (pda_cons (pd_name 2) pda_nil)))))))
theorem ok_l_gone {P : Program} {w : World} {K : PySem.W.Frag} {mg : Str → Option Value} {base : Heap} (T : Txt K mg) : FnOk P w K mg base CX0 1 T.f_l_gone T.fd_l_gone ["_law_plan", "_law_rows", "_law_holds", "_law_event_here"] spGone := by
  refine T.F_l_gone.ok sc_l_gone (fun vs H Q E h => ?_) (fun cdv A outer s H vs Q E hr h => ⟨_, (pss_cons (ps_asg (pd_sl (pd_name 3) po_n (po_p pd_int)) (pg_tup rfl (pgs_cons (pg_name (i := 4) sc_l_gone.nd rfl (by first | exact Or.inl rfl | exact Or.inr rfl)) (pgs_cons (pg_name (i := 5) sc_l_gone.nd rfl (by first | exact Or.inl rfl | exact Or.inr rfl)) pgs_nil)))) (pss_cons (ps_set (i := 6) sc_l_gone.nd rfl (by first | exact Or.inl rfl | exact Or.inr rfl) (pd_ix (pd_name 2) (pd_name 5))) (pss_cons (ps_if (ptd_cmp (op_eqD hr.units) os_eq (pd_name 4) pd_str (nomark _)) (pss_one (ps_ret (pd_and (pd_cmp op_isA os_isA (pd_name 6) pd_non (nomark _)) (pd_one (pd_cmp (op_eqD hr.units) os_eq (pd_ix (pd_name 1) (pd_name 5)) (pd_lst pda_nil) (nomark _)))))) pss_nil) (pss_cons (ps_if (ptd_cmp (op_inA (room65 hr)) os_inA (pd_name 4) (pd_lst (pda_cons pd_str (pda_cons pd_str pda_nil))) rfl) (pss_cons (ps_set (i := 7) sc_l_gone.nd rfl (by first | exact Or.inl rfl | exact Or.inr rfl) (pd_ix (pd_lst (pda_cons (pd_name 5) (pda_cons (pd_ix (pd_name 3) pd_int) pda_nil))) (pd_callTy cr_int cs_int rfl T.z_int bt_int (pda_cons (pd_cmp (op_eqD hr.units) os_eq (pd_name 4) pd_str (nomark _)) pda_nil)))) (pss_cons (ps_if (PW.pt (ptd_or (ptd_cmp op_isntA os_isntA (pd_name 6) pd_non (nomark _)) (ptd_or1 (PW.pt (ptd_and (ptd_cmp (op_eqD hr.units) os_eq (pd_name 4) pd_str (nomark _)) (ptd_and1 (ptd_cmp (op_eqD hr.units) os_eq (pd_name 7) (pd_name 5) (nomark _)))))))) (pss_one (ps_ret pd_bl)) pss_nil) (pss_cons (ps_if (PW.pt (ptd_or (ptd_not (ptd_chain op_le os_le op_lt os_lt pd_int (pd_name 7) (pd_callB cr_len cs_len rfl T.z_len bt_len (pda_cons (pd_name 1) pda_nil)))) (ptd_or1 (ptd_cmp (op_eqD hr.units) os_eq (pd_ix (pd_name 1) (pd_name 7)) (pd_lst pda_nil) (nomark _))))) (pss_one (ps_ret pd_bl)) pss_nil) (pss_cons (ps_set (i := 8) sc_l_gone.nd rfl (by first | exact Or.inl rfl | exact Or.inr rfl) (pe_bm PySem.F.plainAttrs_list PySem.F.slot_list_pop PySem.F.type_list_pop mt_popAt (pe_ix ix_D (pv 1) (pd_name 7) (fun _ _ => rfl)) (pa_cons (pd_op or_mulD os_mul (pd_index (room65 hr) (pd_lst (pda_cons pd_str (pda_cons pd_str pda_nil))) (pd_name 4)) (pd_un un_neg us_neg pd_int)) pa_nil))) (pss_cons (ps_asg (pd_tup (pda_cons (pd_name 8) (pda_cons pd_int pda_nil))) (pg_sub (pv 2) (pd_name 5) set_list)) (pss_one (ps_ret (pd_cmp (op_eqD hr.units) os_eq (pd_name 8) (pd_ix (pd_name 3) (pd_un un_neg us_neg pd_int)) (nomark _))))))))) pss_nil) (pss_cons (ps_if (ptd_cmp op_isA os_isA (pd_name 6) pd_non (nomark _)) (pss_one (ps_ret pd_bl)) pss_nil) (pss_cons (ps_set (i := 9) sc_l_gone.nd rfl (by first | exact Or.inl rfl | exact Or.inr rfl) (pd_sl (pd_ix (pd_ix (pd_name 0) pd_int) (pd_ix (pd_name 6) pd_int)) (po_p (pd_ix (pd_name 6) pd_int)) po_n)) (pss_cons (ps_if (ptd_cmp (op_eqD hr.units) os_eq (pd_name 4) pd_str (nomark _)) (pss_cons (ps_asg (pd_tup (pda_cons (pd_ix (pd_name 6) pd_int) (pda_cons (pd_op or_addD os_add (pd_ix (pd_name 6) pd_int) pd_int) pda_nil))) (pg_sub (pv 2) (pd_name 5) set_list)) (pss_cons (ps_expr (pe_bm PySem.F.plainAttrs_list PySem.F.slot_list_append PySem.F.type_list_append mt_append (pe_ix ix_D (pv 1) (pd_name 5) (fun _ _ => rfl)) (pa_cons (pd_ix (pd_name 3) pd_int) pa_nil))) (pss_one (ps_ret (pd_cmp (op_eqD hr.units) os_eq (pd_sl (pd_name 9) po_n (po_p pd_int)) (pd_lst (pda_cons (pd_ix (pd_name 3) pd_int) pda_nil)) (nomark _)))))) pss_nil) (pss_cons (ps_asg pd_non (pg_sub (pv 2) (pd_name 5) set_list)) (pss_one (ps_ret (pd_and (pd_cmp (op_eqD hr.units) os_eq (pd_name 9) (pd_lst pda_nil) (nomark _)) (pd_one (pd_cmp (op_eqD hr.units) os_eq (pd_ix (pd_name 6) pd_int) (pd_ix (pd_name 3) pd_int) (nomark _)))))))))))))), ?_⟩)
  · obtain ⟨l, as, hl, vp, ve, b, s, p, e, rfl, _⟩ := h
    rfl
  · obtain ⟨l, as, hl, vp, ve, b, st, p, e, rfl, O, rp, re, PO, SZ, w0, wm, wz, qs, qn⟩ := h
    have sl : ∀ {H' : Hp} {x4 x5 x6 x7 x8 x9 : Option V}, Same H H' → SlD M0 H' [some vp, some (.ref l), some (.ref hl), some ve, x4, x5, x6, x7, x8, x9] [some (encP b st), some (encLL p.rows), some (.list (p.holds.map encH)), some (encI e), none, none, none, none, none, none] := fun {H' x4 x5 x6 x7 x8 x9} s' =>
      .yes ((rp.mono (fun a o n e => ⟨fun z => z, e⟩) _ _).same s') (.yes (O.rp.1.same s') (.yes (O.rp.2.same s') (.yes ((re.mono (fun a o n e => ⟨fun z => z, e⟩) _ _).same s') (.no _ (.no _ (.no _ (.no _ (.no _ (.no _ .nil)))))))))
    refine z_seq ?_
    refine z_asg ?_
    refine tp_ok (Ok.none H) (sl (L2.Same.refl _)) (cut_2 (eVar_get rfl)) fun v1 H1 s1 r1 => ?_
    cases r1 with
    | tup a1 n1 r1 =>
      cases r1 with
      | cons ra r1 =>
        cases r1 with
        | cons rb r1 =>
          cases r1
          cases ra
          cases rb
          refine ⟨_, _, rfl, SqT.of a1, rfl, .str _, _, rfl, .int _, _, rfl, rfl, ?_⟩
          dsimp only
          refine z_seq ?_
          refine z_asg ?_
          have hH : ∀ {ds : Sl} {f g : Sl → Option D}, f ds = some (.list (p.holds.map encH)) → g ds = some (.int (wOf e)) → eOp oIx f g ds = some (encH (p.H (wOf e).toNat)) := fun hf hg => held_ev PO w0 wm hf hg
          have sl5 : ∀ {H' : Hp} {x6 x7 x8 x9 : Option V}, Same H1 H' → SlD M0 H' [some vp, some (.ref l), some (.ref hl), some ve, some (.str (wordI e)), some (.int (wOf e)), x6, x7, x8, x9] [some (encP b st), some (encLL p.rows), some (.list (p.holds.map encH)), some (encI e), some (.str (wordI e)), some (.int (wOf e)), none, none, none, none] := fun {H' x6 x7 x8 x9} s' =>
            ((sl (x4 := none) (x5 := none) (x6 := x6) (x7 := x7) (x8 := x8) (x9 := x9) (L2.Same.trans s1 s')).set 4 (.str _)).set 5 (.int _)
          refine tp_ok (Ok.none H1) (sl5 (L2.Same.refl _)) (hH (eVar_get rfl) (eVar_get rfl)) fun v6 H2 s2 r6 => ?_
          have s02 := L2.Same.trans s1 s2
          have sl6 : ∀ {H' : Hp} {x7 x8 x9 : Option V}, Same H2 H' → SlD M0 H' [some vp, some (.ref l), some (.ref hl), some ve, some (.str (wordI e)), some (.int (wOf e)), some v6, x7, x8, x9] [some (encP b st), some (encLL p.rows), some (.list (p.holds.map encH)), some (encI e), some (.str (wordI e)), some (.int (wOf e)), some (encH (p.H (wOf e).toNat)), none, none, none] := fun {H' x7 x8 x9} s' =>
            (sl5 (x6 := none) (x7 := x7) (x8 := x8) (x9 := x9) (L2.Same.trans s2 s')).set 6 (r6.same s')
          refine z_name ?_
          dsimp only
          refine z_seq ?_
          refine z_if ?_
          have tw : ∀ (x : Str) (x7 x8 x9 : Option D), SeqAt.shaped (.str x) = true → bT (eOp oEq (eVar 4) (eC (.str x))) [some (encP b st), some (encLL p.rows), some (.list (p.holds.map encH)), some (encI e), some (.str (wordI e)), some (.int (wOf e)), some (encH (p.H (wOf e).toNat)), x7, x8, x9] = some (decide (wordI e = x)) := fun x x7 x8 x9 hx => by
            have hs : SeqAt.shaped (.str (wordI e)) = true := by cases e <;> first | exact sh_own | exact sh_taken | exact sh_put | exact sh_done | exact sh_rests
            unfold bT
            rw [eOp_ev (eVar_get rfl) rfl, oEq_str hs hx]; rfl
          refine tpt_ok (Ok.none H2) (sl6 (L2.Same.refl _)) (tw "rests" _ _ _ sh_rests) fun H3 s3 => ?_
          have s03 := L2.Same.trans s02 s3
          by_cases hk : isTk e = true
          · have hnr : wordI e ≠ "rests" := by cases e <;> first | (cases hk; done) | (simp only [wordI]; decide)
            refine if_false_of (decide_eq_false hnr) ?_
            dsimp only [tNext]
            refine z_seq ?_
            refine z_if ?_
            refine tpt_ok (Ok.none H3) (sl6 s3) (gIn e _ _ _) fun H4 s4 => ?_
            refine if_true_of hk ?_
            refine z_seq ?_
            refine z_asg ?_
            refine tp_int (Ok.none H4) (sl6 (L2.Same.trans s3 s4)) (gOth hk _ _ _) fun H5 s5 => ?_
            refine z_name ?_
            dsimp only
            have s25 := L2.Same.trans (L2.Same.trans s3 s4) s5
            have sl7 : ∀ {H' : Hp} {x8 x9 : Option V}, Same H5 H' → SlD M0 H' [some vp, some (.ref l), some (.ref hl), some ve, some (.str (wordI e)), some (.int (wOf e)), some v6, some (.int (takO e)), x8, x9] (dG b st p e (some (.int (takO e))) none none) := fun {H' x8 x9} s' =>
              (sl6 (x7 := none) (x8 := x8) (x9 := x9) (L2.Same.trans s25 s')).set 7 (.int _)
            have s05 := L2.Same.trans s02 s25
            have go := goI_take (b := b) hk w0 wm wz
            refine z_seq ?_
            refine z_if ?_
            refine tpt_ok (Ok.none H5) (sl7 (L2.Same.refl _)) (gT1 hk _ _) fun H6 s6 => ?_
            have s06 := L2.Same.trans s05 s6
            by_cases c1 : p.H (wOf e).toNat = none ∧ (isTaken e = true → takO e ≠ wOf e)
            · rw [decide_eq_true c1]
              refine iteF ?_
              dsimp only [tNext]
              refine z_seq ?_
              refine z_if ?_
              refine tpt_ok (Ok.none H6) (sl7 s6) (gT2 SZ _ _) fun H7 s7 => ?_
              have s07 := L2.Same.trans s06 s7
              by_cases c2 : 0 ≤ takO e ∧ takO e < (p.rows.length : Int) ∧ p.R (takO e).toNat ≠ []
              · rw [decide_eq_true c2]
                refine iteF ?_
                dsimp only [tNext]
                obtain ⟨j, x, p1, p2, p3, p4⟩ := pop_end (isTaken e) c2.2.2
                have O7 := O.same s07
                obtain ⟨ao, ro, e1, e2, e3, e4⟩ := O7.rows.at (i := (takO e).toNat) (by rw [List.length_map]; omega)
                have hR : p.rows[(takO e).toNat]? = some (p.R (takO e).toNat) := get_of (by omega)
                rw [List.getElem?_map, hR] at e2
                cases e2
                have hao := List.mem_of_getElem? e1
                refine z_seq ?_
                refine z_asg ?_
                refine ⟨_, rfl, tp_int (Ok.none H7) (sl7 (L2.Same.trans s6 s7)) (eVar_get rfl) fun G1 t1 => ?_⟩
                have O1 := O7.same t1
                refine .inl ⟨l, _, _, .ref ao, rfl, rfl, SqL.of O1.rows.top, at_of (j := (takO e).toNat) (by omega) (by rw [List.getElem?_map, e1]; rfl), .inl ⟨rfl, _, SqL.of (t1 _ _ e3)⟩, ?_⟩
                refine tp_int (Ok.none G1) (sl7 (L2.Same.trans (L2.Same.trans s6 s7) t1)) (gPop hk _ _ _) fun G2 t2 => ?_
                have t12 := L2.Same.trans t1 t2
                have O2 := O1.same t2
                refine ⟨ao, _, _, j, _, rfl, rfl, t12 _ _ e3, by cases isTaken e <;> decide, by cases isTaken e <;> decide, p1, p2, ?_⟩
                rw [p3]
                have O3 := O2.setRow (r := cutEnd (isTaken e) (p.R (takO e).toNat)) e1
                have f3 : ∀ a o, ¬ MG l as hl a → H a = some o → L2.upd G2 ao (.lst (vN (cutEnd (isTaken e) (p.R (takO e).toNat)))) a = some o := fun a o n z => by
                  rw [L2.upd_ne (fun (y : a = ao) => n (.inr (.inl (by rw [y]; exact hao))))]
                  exact (L2.Same.trans s07 t12) a o z
                revert O3 f3
                generalize L2.upd G2 ao (.lst (vN (cutEnd (isTaken e) (p.R (takO e).toNat)))) = G3
                intro O3 f3
                refine z_name ?_
                dsimp only
                refine z_seq ?_
                refine z_asg ?_
                have re3 : ∀ {G : Hp}, (∀ a o, ¬ MG l as hl a → H a = some o → G a = some o) → Rp M0 G ve (encI e) := fun f => re.mono (fun a o n z => ⟨fun y => y, f a o n z⟩) _ _
                have sl8 : ∀ {G : Hp}, (∀ a o, ¬ MG l as hl a → H a = some o → G a = some o) → SlD M0 G [some vp, some (.ref l), some (.ref hl), some ve, some (.str (wordI e)), some (.int (wOf e)), some v6, some (.int (takO e)), some (.int (x : Int)), none] [none, none, none, some (encI e), none, some (.int (wOf e)), none, none, some (.int (x : Int)), none] := fun f =>
                  .no _ (.no _ (.no _ (.yes (re3 f) (.no _ (.yes (.int _) (.no _ (.no _ (.yes (.int _) (.no _ .nil)))))))))
                refine tp_ok (Ok.none G3) (sl8 f3) (show _ = some (encH (some (x, 0))) from q_tup (q_cons (eVar_get rfl) (q_cons rfl q_nil)) (by simp)) fun v G4 t4 rv => ?_
                have f4 : ∀ a o, ¬ MG l as hl a → H a = some o → G4 a = some o := fun a o n z => t4 a o (f3 a o n z)
                have O4 := O3.same t4
                refine ⟨_, rfl, ?_⟩
                refine tp_int (Ok.none G4) (sl8 f4) (eVar_get rfl) fun G5 t5 => ?_
                have f5 : ∀ a o, ¬ MG l as hl a → H a = some o → G5 a = some o := fun a o n z => t5 a o (f4 a o n z)
                have O5 := O4.same t5
                obtain ⟨hv, h1, h2⟩ := O5.holds
                have hlen : hv.length = p.rows.length := by
                  have := h2.length
                  rw [List.length_map] at this
                  rw [this]
                  exact PO.lh
                have hix : ixN hv.length (wOf e) = some (wOf e).toNat := by
                  unfold ixN
                  rw [if_pos w0, if_pos (by omega)]
                refine ⟨hl, hv, _, _, rfl, rfl, h1, hix, ?_⟩
                have O6 := O5.setHold (i := (wOf e).toNat) (h := some (x, 0)) h1 (encH_M O5.notup (rv.same t5))
                have f6 : ∀ a o, ¬ MG l as hl a → H a = some o → L2.upd G5 hl (.lst (hv.set (wOf e).toNat v)) a = some o := fun a o n z => by
                  rw [L2.upd_ne (fun (y : a = hl) => n (.inr (.inr y)))]
                  exact f5 a o n z
                revert O6 f6
                generalize L2.upd G5 hl (.lst (hv.set (wOf e).toNat v)) = G6
                intro O6 f6
                dsimp only
                refine z_ret ?_
                refine tp_ok (Ok.none G6) (sl8 f6) (show _ = some (.bool ((x : Int) == takT e)) by rw [eOp_ev (eVar_get rfl) (gEnd hk rfl), oEq_int]) fun r7 G7 t7 rr => ?_
                cases rr
                have f7 : ∀ a o, ¬ MG l as hl a → H a = some o → G7 a = some o := fun a o n z => t7 a o (f6 a o n z)
                rw [p4] at go
                by_cases c3 : (x : Int) = takT e
                · rw [show ((x : Int) == takT e) = true from beq_iff_eq.mpr c3]
                  rw [if_pos ⟨c1.1, c1.2, c2.1, c2.2.1, by rw [Option.map_some, c3]⟩] at go
                  refine qs _ _ go f7 ?_
                  have hx : (takT e).toNat = x := by omega
                  rw [hx]
                  exact O6.same t7
                · rw [show ((x : Int) == takT e) = false from beq_eq_false_iff_ne.mpr c3]
                  refine qn _ (go.trans (if_neg fun z => c3 ?_)) f7
                  have := z.2.2.2.2
                  rw [Option.map_some] at this
                  exact Option.some.inj this
              · rw [decide_eq_false c2]
                refine iteT ?_
                refine z_ret ?_
                refine tp_ok (Ok.none H7) (sl7 (L2.Same.trans s6 s7)) rfl fun r8 H8 s8 rr => ?_
                cases rr
                refine qn _ (go.trans (if_neg fun z => c2 ⟨z.2.2.1, z.2.2.2.1, fun y => ?_⟩)) (frm (L2.Same.trans s07 s8))
                have := z.2.2.2.2
                rw [y] at this
                unfold endOf at this
                split at this <;> cases this
            · rw [decide_eq_false c1]
              refine iteT ?_
              refine z_ret ?_
              refine tp_ok (Ok.none H6) (sl7 s6) rfl fun r8 H8 s8 rr => ?_
              cases rr
              exact qn _ (go.trans (if_neg fun z => c1 ⟨z.1, z.2.1⟩)) (frm (L2.Same.trans s06 s8))
          · cases e with
            | own w t => exact (hk rfl).elim
            | taken w o t => exact (hk rfl).elim
            | rests w =>
              refine iteT ?_
              dsimp only [wOf] at w0 wm wz
              have hR : eOp oIx (eVar 1) (eVar 5) [some (encP b st), some (encLL p.rows), some (.list (p.holds.map encH)), some (encI (.rests w)), some (.str (wordI (.rests w))), some (.int (wOf (.rests w))), some (encH (p.H w.toNat)), none, none, none] = some (encL (p.R w.toNat)) := row_ev w0 wm (eVar_get rfl) (eVar_get rfl)
              have hle : (p.R w.toNat).length ≤ 1000000 := by
                have z : p.rows[w.toNat]? = some (p.R w.toNat) := get_of (by omega)
                have := SZ.rl _ (List.mem_of_getElem? z)
                omega
              have evA : eAnd (eOp oIsA (eVar 6) (eC .none)) (eOp oEq (eOp oIx (eVar 1) (eVar 5)) (eLst esNil)) [some (encP b st), some (encLL p.rows), some (.list (p.holds.map encH)), some (encI (.rests w)), some (.str (wordI (.rests w))), some (.int (wOf (.rests w))), some (encH (p.H w.toNat)), none, none, none] = some (.bool (decide (p.H w.toNat = none ∧ p.R w.toNat = []))) := by
                unfold eAnd
                have a1 : bT (eOp oIsA (eVar 6) (eC .none)) [some (encP b st), some (encLL p.rows), some (.list (p.holds.map encH)), some (encI (.rests w)), some (.str (wordI (.rests w))), some (.int (wOf (.rests w))), some (encH (p.H w.toNat)), none, none, none] = some (p.H w.toNat).isNone := bT_of (by
                  rw [eOp_ev (eVar_get rfl) rfl]
                  show some (PyData.bool (isNon (encH (p.H w.toNat)))) = _
                  rw [isn_encH])
                rw [a1, Option.bind_some, eqnil_ev hR hle]
                cases p.H w.toNat <;> simp
              refine tp_ok (Ok.none H3) (sl6 s3) evA fun v7 H4 s4 r7 => ?_
              cases r7
              have s04 := L2.Same.trans s03 s4
              have go : goI b p (.rests w) = if p.H w.toNat = none ∧ p.R w.toNat = [] then some ⟨p.rows, p.holds, p.rests.set w.toNat true⟩ else none := by
                unfold goI
                rw [if_pos ⟨w0, wm, wz⟩]
              by_cases c : p.H w.toNat = none ∧ p.R w.toNat = []
              · rw [decide_eq_true c]
                exact qs _ _ (go.trans (if_pos c)) (frm s04) ((O.same s04).rest rfl rfl)
              · rw [decide_eq_false c]
                exact qn _ (go.trans (if_neg c)) (frm s04)
            | put w t =>
              refine if_false_of (decide_eq_false (show ¬ (("put" : Str) = "rests") by decide)) ?_
              dsimp only [tNext]
              dsimp only [wOf] at w0 wm wz
              refine z_seq ?_
              refine z_if ?_
              refine tpt_ok (Ok.none H3) (sl6 s3) (gIn (.put w t) _ _ _) fun H4 s4 => ?_
              refine iteF ?_
              dsimp only [tNext]
              refine z_seq ?_
              refine z_if ?_
              refine tpt_ok (Ok.none H4) (sl6 (L2.Same.trans s3 s4)) (bT_of (gIsN _ _ _)) fun H5 s5 => ?_
              have s25 := L2.Same.trans (L2.Same.trans s3 s4) s5
              have s05 := L2.Same.trans s02 s25
              have hcase : p.H w.toNat = none ∨ ∃ g, p.H w.toNat = some g := by
                cases p.H w.toNat with
                | none => exact .inl rfl
                | some g => exact .inr ⟨g, rfl⟩
              rcases hcase with hh | ⟨g, hh⟩
              · refine if_true_of (show (p.H w.toNat).isNone = true by rw [hh]; rfl) ?_
                refine z_ret ?_
                refine tp_ok (Ok.none H5) (sl6 s25) rfl fun r8 H8 s8 rr => ?_
                cases rr
                refine qn _ ?_ (frm (L2.Same.trans s05 s8))
                unfold goI
                rw [if_pos ⟨w0, wm, wz⟩]
                dsimp only
                rw [hh]; rfl
              · refine if_false_of (show (p.H w.toNat).isNone = false by rw [hh]; rfl) ?_
                dsimp only [tNext]
                have og := PO.hs g (Pl.H_of hh)
                refine z_seq ?_
                refine z_asg ?_
                have r6' : Rp M0 H5 v6 (encH (some g)) := by
                  have z := r6.same s25
                  dsimp only [wOf] at z
                  rw [hh] at z
                  exact z
                have OO5 := O.same s05
                have r6M : Rp (MG l as hl) H5 v6 (encH (some g)) := encH_M OO5.notup r6'
                refine tp_ok (M := MG l as hl) OO5.ok (ds := [some (encP b st), none, none, none, none, none, some (encH (some g)), none, none, none]) (.yes (rp.same s05) (.no _ (.no _ (.no _ (.no _ (.no _ (.yes r6M (.no _ (.no _ (.no _ .nil)))))))))) (gLeft rfl rfl og.1) fun v9 H6 s6 r9 => ?_
                refine z_name ?_
                dsimp only
                have s06 := L2.Same.trans s05 s6
                have sl9 : ∀ {G : Hp}, (∀ a o, ¬ MG l as hl a → H6 a = some o → G a = some o) → SlD M0 G [some vp, some (.ref l), some (.ref hl), some ve, some (.str (wordI (.put w t))), some (.int w), some v6, none, none, some v9] [none, none, none, some (encI (.put w t)), some (.str (wordI (.put w t))), some (.int w), some (encH (some g)), none, none, some (encL ((br b g.1).drop g.2))] := fun f =>
                  .no _ (.no _ (.no _ (.yes (re.mono (fun a o n z => ⟨fun y => y, f a o n (s06 a o z)⟩) _ _) (.yes (.str _) (.yes (.int _) (.yes ((r6M.same s6).mono (fun a o n z => ⟨fun y => y, f a o n z⟩) _ _) (.no _ (.no _ (.yes (r9.mono (fun a o n z => ⟨fun y => y, f a o n z⟩) _ _) .nil)))))))))
                refine z_seq ?_
                refine z_if ?_
                refine tpt_ok (Ok.none H6) (sl9 fun a o _ z => z) (b := true) (bT_of (by rw [eOp_ev (eVar_get rfl) rfl, oEq_str (sh_wordI _) sh_put]; rfl)) fun H7 s7 => ?_
                have O7 := OO5.same (L2.Same.trans s6 s7)
                refine iteT ?_
                refine z_seq ?_
                refine z_asg ?_
                refine tp_ok (Ok.none H7) (sl9 fun a o _ z => s7 a o z) (gHeld rfl) fun v G4 t4 rv => ?_
                refine ⟨_, rfl, ?_⟩
                have g4 : ∀ a o, ¬ MG l as hl a → H6 a = some o → G4 a = some o := fun a o _ z => t4 a o (s7 a o z)
                refine tp_int (Ok.none G4) (sl9 g4) (eVar_get rfl) fun G5 t5 => ?_
                have O5 := (O7.same t4).same t5
                obtain ⟨hv, h1, h2⟩ := O5.holds
                have hlen : hv.length = p.rows.length := by
                  have := h2.length
                  rw [List.length_map] at this
                  rw [this]
                  exact PO.lh
                have hix : ixN hv.length w = some w.toNat := by
                  unfold ixN
                  rw [if_pos w0, if_pos (by omega)]
                refine ⟨hl, hv, _, _, rfl, rfl, h1, hix, ?_⟩
                have O6 := O5.setHold (i := w.toNat) (h := some (g.1, g.2 + 1)) h1 (encH_M O5.notup (rv.same t5))
                have f6 : ∀ a o, ¬ MG l as hl a → H6 a = some o → L2.upd G5 hl (.lst (hv.set w.toNat v)) a = some o := fun a o n z => by
                  rw [L2.upd_ne (fun (y : a = hl) => n (.inr (.inr y)))]
                  exact t5 a o (g4 a o n z)
                revert O6 f6
                generalize L2.upd G5 hl (.lst (hv.set w.toNat v)) = G6
                intro O6 f6
                dsimp only
                refine z_seq ?_
                refine z_drop ?_
                refine ⟨_, rfl, tp_int (Ok.none G6) (sl9 f6) (eVar_get rfl) fun G7 t7 => ?_⟩
                have O8 := O6.same t7
                have g7 : ∀ a o, ¬ MG l as hl a → H6 a = some o → G7 a = some o := fun a o n z => t7 a o (f6 a o n z)
                have hR : p.rows[w.toNat]? = some (p.R w.toNat) := get_of (by omega)
                obtain ⟨ao, ro, e1, e2, e3, e4⟩ := O8.rows.at (i := w.toNat) (by rw [List.length_map]; show w.toNat < p.rows.length; omega)
                have e2' : (p.rows.map vN)[w.toNat]? = some ro := e2
                rw [List.getElem?_map, hR] at e2'
                cases e2'
                have hao := List.mem_of_getElem? e1
                have hle : (p.R w.toNat).length ≤ 900000 := SZ.rl _ (List.mem_of_getElem? hR)
                refine .inl ⟨l, _, _, .ref ao, rfl, rfl, SqL.of O8.rows.top, at_of (j := w.toNat) (by omega) (by rw [List.getElem?_map, e1]; rfl), .inl ⟨rfl, _, SqL.of e3⟩, ?_⟩
                refine tp_int (Ok.none G7) (sl9 g7) (ev_2 (.inl rfl) rfl) fun G8 t8 => ?_
                refine ⟨ao, _, _, rfl, rfl, t8 _ _ e3, by rw [vN_len, sizeLine_eq]; omega, ?_⟩
                have O9 := (O8.same t8).setRow (r := p.R w.toNat ++ [t.toNat]) e1
                have f9 : ∀ a o, ¬ MG l as hl a → H6 a = some o → L2.upd G8 ao (.lst (vN (p.R w.toNat) ++ [.int t])) a = some o := fun a o n z => by
                  rw [L2.upd_ne (fun (y : a = ao) => n (.inr (.inl (by rw [y]; exact hao))))]
                  exact t8 a o (g7 a o n z)
                dsimp only
                refine z_ret ?_
                refine tp_ok (Ok.none _) (sl9 f9) (gLeft1 rfl (ev_2 (.inl rfl) rfl)) fun r7 G9 t9 rr => ?_
                rw [head_drop] at rr
                have fF : ∀ a o, ¬ MG l as hl a → H a = some o → G9 a = some o := fun a o n z => t9 a o (f9 a o n (s06 a o z))
                have go : goI b p (.put w t) = if ((br b g.1)[g.2]?).map (fun (n : Nat) => (n : Int)) = some t then some ⟨p.rows.set w.toNat (p.R w.toNat ++ [t.toNat]), p.holds.set w.toNat (some (g.1, g.2 + 1)), p.rests⟩ else none := by
                  unfold goI
                  rw [if_pos ⟨w0, wm, wz⟩]
                  dsimp only
                  rw [hh, Option.bind_some]
                by_cases c : ((br b g.1)[g.2]?).map (fun (n : Nat) => (n : Int)) = some t
                · rw [decide_eq_true c] at rr
                  cases rr
                  refine qs _ _ (go.trans (if_pos c)) fF ?_
                  have ht : ((t.toNat : Nat) : Int) = t := by
                    cases hx : (br b g.1)[g.2]? with
                    | none => rw [hx] at c; cases c
                    | some x =>
                      rw [hx, Option.map_some] at c
                      have := Option.some.inj c
                      omega
                  have hv9 : vN (p.R w.toNat ++ [t.toNat]) = vN (p.R w.toNat) ++ [.int t] := by
                    unfold vN
                    rw [List.map_append, List.map_singleton, ht]
                  rw [hv9] at O9
                  exact O9.same t9
                · rw [decide_eq_false c] at rr
                  cases rr
                  exact qn _ (go.trans (if_neg c)) fF
            | done w t =>
              refine if_false_of (decide_eq_false (show ¬ (("done" : Str) = "rests") by decide)) ?_
              dsimp only [tNext]
              dsimp only [wOf] at w0 wm wz
              refine z_seq ?_
              refine z_if ?_
              refine tpt_ok (Ok.none H3) (sl6 s3) (gIn (.done w t) _ _ _) fun H4 s4 => ?_
              refine iteF ?_
              dsimp only [tNext]
              refine z_seq ?_
              refine z_if ?_
              refine tpt_ok (Ok.none H4) (sl6 (L2.Same.trans s3 s4)) (bT_of (gIsN _ _ _)) fun H5 s5 => ?_
              have s25 := L2.Same.trans (L2.Same.trans s3 s4) s5
              have s05 := L2.Same.trans s02 s25
              have hcase : p.H w.toNat = none ∨ ∃ g, p.H w.toNat = some g := by
                cases p.H w.toNat with
                | none => exact .inl rfl
                | some g => exact .inr ⟨g, rfl⟩
              rcases hcase with hh | ⟨g, hh⟩
              · refine if_true_of (show (p.H w.toNat).isNone = true by rw [hh]; rfl) ?_
                refine z_ret ?_
                refine tp_ok (Ok.none H5) (sl6 s25) rfl fun r8 H8 s8 rr => ?_
                cases rr
                refine qn _ ?_ (frm (L2.Same.trans s05 s8))
                unfold goI
                rw [if_pos ⟨w0, wm, wz⟩]
                dsimp only
                rw [hh]; rfl
              · refine if_false_of (show (p.H w.toNat).isNone = false by rw [hh]; rfl) ?_
                dsimp only [tNext]
                have og := PO.hs g (Pl.H_of hh)
                refine z_seq ?_
                refine z_asg ?_
                have r6' : Rp M0 H5 v6 (encH (some g)) := by
                  have z := r6.same s25
                  dsimp only [wOf] at z
                  rw [hh] at z
                  exact z
                have OO5 := O.same s05
                have r6M : Rp (MG l as hl) H5 v6 (encH (some g)) := encH_M OO5.notup r6'
                refine tp_ok (M := MG l as hl) OO5.ok (ds := [some (encP b st), none, none, none, none, none, some (encH (some g)), none, none, none]) (.yes (rp.same s05) (.no _ (.no _ (.no _ (.no _ (.no _ (.yes r6M (.no _ (.no _ (.no _ .nil)))))))))) (gLeft rfl rfl og.1) fun v9 H6 s6 r9 => ?_
                refine z_name ?_
                dsimp only
                have s06 := L2.Same.trans s05 s6
                have sl9 : ∀ {G : Hp}, (∀ a o, ¬ MG l as hl a → H6 a = some o → G a = some o) → SlD M0 G [some vp, some (.ref l), some (.ref hl), some ve, some (.str (wordI (.done w t))), some (.int w), some v6, none, none, some v9] [none, none, none, some (encI (.done w t)), some (.str (wordI (.done w t))), some (.int w), some (encH (some g)), none, none, some (encL ((br b g.1).drop g.2))] := fun f =>
                  .no _ (.no _ (.no _ (.yes (re.mono (fun a o n z => ⟨fun y => y, f a o n (s06 a o z)⟩) _ _) (.yes (.str _) (.yes (.int _) (.yes ((r6M.same s6).mono (fun a o n z => ⟨fun y => y, f a o n z⟩) _ _) (.no _ (.no _ (.yes (r9.mono (fun a o n z => ⟨fun y => y, f a o n z⟩) _ _) .nil)))))))))
                refine z_seq ?_
                refine z_if ?_
                refine tpt_ok (Ok.none H6) (sl9 fun a o _ z => z) (b := false) (bT_of (by rw [eOp_ev (eVar_get rfl) rfl, oEq_str (sh_wordI _) sh_put]; rfl)) fun H7 s7 => ?_
                have O7 := OO5.same (L2.Same.trans s6 s7)
                refine iteF ?_
                dsimp only [tNext]
                refine z_seq ?_
                refine z_asg ?_
                refine tp_ok (Ok.none H7) (sl9 fun a o _ z => s7 a o z) (show eC .none _ = some (encH none) from rfl) fun v G4 t4 rv => ?_
                refine ⟨_, rfl, ?_⟩
                have g4 : ∀ a o, ¬ MG l as hl a → H6 a = some o → G4 a = some o := fun a o _ z => t4 a o (s7 a o z)
                refine tp_int (Ok.none G4) (sl9 g4) (eVar_get rfl) fun G5 t5 => ?_
                have O5 := (O7.same t4).same t5
                obtain ⟨hv, h1, h2⟩ := O5.holds
                have hlen : hv.length = p.rows.length := by
                  have := h2.length
                  rw [List.length_map] at this
                  rw [this]
                  exact PO.lh
                have hix : ixN hv.length w = some w.toNat := by
                  unfold ixN
                  rw [if_pos w0, if_pos (by omega)]
                refine ⟨hl, hv, _, _, rfl, rfl, h1, hix, ?_⟩
                have O6 := O5.setHold (i := w.toNat) (h := none) h1 (encH_M O5.notup (rv.same t5))
                have f6 : ∀ a o, ¬ MG l as hl a → H6 a = some o → L2.upd G5 hl (.lst (hv.set w.toNat v)) a = some o := fun a o n z => by
                  rw [L2.upd_ne (fun (y : a = hl) => n (.inr (.inr y)))]
                  exact t5 a o (g4 a o n z)
                revert O6 f6
                generalize L2.upd G5 hl (.lst (hv.set w.toNat v)) = G6
                intro O6 f6
                dsimp only
                refine z_ret ?_
                have hbl : (br b g.1).length ≤ 1000 := by
                  have z : b[g.1]? = some (br b g.1) := get_of og.1
                  exact SZ.br _ (List.mem_of_getElem? z)
                refine tp_ok (Ok.none G6) (sl9 f6) (gDone rfl (by rw [List.length_drop]; omega) rfl (ev_2 (.inr rfl) rfl)) fun r7 G9 t9 rr => ?_
                have fF : ∀ a o, ¬ MG l as hl a → H a = some o → G9 a = some o := fun a o n z => t9 a o (f6 a o n (s06 a o z))
                have go : goI b p (.done w t) = if (g.1 : Int) = t ∧ (br b g.1).length ≤ g.2 then some ⟨p.rows, p.holds.set w.toNat none, p.rests⟩ else none := by
                  unfold goI
                  rw [if_pos ⟨w0, wm, wz⟩]
                  dsimp only
                  rw [hh, Option.bind_some]
                by_cases c : (g.1 : Int) = t ∧ (br b g.1).length ≤ g.2
                · rw [decide_eq_true (show (g.1 : Int) = t ∧ (br b g.1).drop g.2 = [] from ⟨c.1, List.drop_eq_nil_iff.mpr c.2⟩)] at rr
                  cases rr
                  exact qs _ _ (go.trans (if_pos c)) fF (O6.same t9)
                · rw [decide_eq_false (show ¬ ((g.1 : Int) = t ∧ (br b g.1).drop g.2 = []) from fun z => c ⟨z.1, List.drop_eq_nil_iff.mp z.2⟩)] at rr
                  cases rr
                  exact qn _ (go.trans (if_neg c)) fF

theorem ok_l_replayed {P : Program} {w : World} {K : PySem.W.Frag} {mg : Str → Option Value} {base : Heap} (T : Txt K mg) : FnOk P w K mg base CX0 2 T.f_l_replayed T.fd_l_replayed ["_law_plan", "_law_events"] spReplayed := by
  have G_l_gone := ok_l_gone (P := P) (w := w) (base := base) T
  refine T.F_l_replayed.ok sc_l_replayed (fun vs H Q E h => ?_) (fun cdv A outer s H vs Q E hr h => ⟨_, (pss_cons (ps_setLc (i := 2) rfl sc_l_replayed.nd rfl rfl (sw_true rfl rfl rfl (by decide +kernel)) (pi_seq (pd_ix (pd_name 0) pd_int)) (blkOk_by (N := N_l_replayed) (sc := defScope s_l_replayed) (own := [("_law_row", 3)]) (by decide +kernel)) (fun _ _ _ _ _ => pg_name (i := 3) sc_l_replayed.nd rfl (Or.inl rfl)) (fun _ _ _ _ _ => pts_nil) (fun _ _ _ _ _ => (show PE _ _ (tCB (rList K) (tCons (tVar 3) tNil)) from pe_callTy cr_list rfl T.z_list bt_list (pa_cons (pv 3) pa_nil)))) (pss_cons (ps_setLc (i := 4) rfl sc_l_replayed.nd rfl rfl (sw_true rfl rfl rfl (by decide +kernel)) (pi_seq (pd_name 2)) (blkOk_by (N := N_l_replayed) (sc := defScope s_l_replayed) (own := [("_law_row", 3)]) (by decide +kernel)) (fun _ _ _ _ _ => pg_name (i := 3) sc_l_replayed.nd rfl (Or.inl rfl)) (fun _ _ _ _ _ => pts_nil) (fun _ _ _ _ _ => pd_non)) (pss_cons (ps_setLc (i := 5) rfl sc_l_replayed.nd rfl rfl (sw_true rfl rfl rfl (by decide +kernel)) (pi_seq (pd_name 2)) (blkOk_by (N := N_l_replayed) (sc := defScope s_l_replayed) (own := [("_law_row", 3)]) (by decide +kernel)) (fun _ _ _ _ _ => pg_name (i := 3) sc_l_replayed.nd rfl (Or.inl rfl)) (fun _ _ _ _ _ => pts_nil) (fun _ _ _ _ _ => pd_bl)) (pss_cons (ps_for PassesOwn.never rfl (pi_seq (pd_name 1)) (pg_name (i := 6) sc_l_replayed.nd rfl (by first | exact Or.inl rfl | exact Or.inr rfl)) (pss_cons (ps_asg (pd_sl (pd_name 6) po_n (po_p pd_int)) (pg_tup rfl (pgs_cons (pg_name (i := 7) sc_l_replayed.nd rfl (by first | exact Or.inl rfl | exact Or.inr rfl)) (pgs_cons (pg_name (i := 8) sc_l_replayed.nd rfl (by first | exact Or.inl rfl | exact Or.inr rfl)) pgs_nil)))) (pss_cons (ps_if (PW.pt (pw_or (ptd_cmp op_lt os_lt (pd_name 8) pd_int (nomark _)) (pw_or (ptd_cmp op_ge os_ge (pd_name 8) (pd_callB cr_len cs_len rfl T.z_len bt_len (pda_cons (pd_name 2) pda_nil)) (nomark _)) (pw_or (ptd_val (pd_ix (pd_name 5) (pd_name 8))) (pw_or1 (pt_not (pt_val (pe_call G_l_gone (hr.mono (by decide)) rfl T.m_l_gone T.F_l_gone.kp T.b_l_gone .nil pass0 (pa_cons (pd_name 0) (pa_cons (pv 2) (pa_cons (pv 4) (pa_cons (pd_name 6) pa_nil)))))))))))) (pss_one (ps_ret pd_non)) pss_nil) (pss_one (ps_asg (pd_cmp (op_eqD hr.units) os_eq (pd_name 7) pd_str (nomark _)) (pg_sub (pv 5) (pd_name 8) set_list)))))) (pss_one (ps_ret (pe_tup (pa_cons (pv 2) (pa_cons (pv 4) (pa_cons (pv 5) pa_nil)))))))))), ?_⟩)
  · obtain ⟨vp, ve, b, s, es, rfl, _⟩ := h
    rfl
  · obtain ⟨vp, ve, b, st, es, rfl, rp, re, PL, hes, qn, qs⟩ := h
    have hb1 := PL.size
    have hm2 := PL.m2
    have hrb := PL.rowb
    have bb : ∀ (p : Nat) (l : List Nat) (c : Nat), b[p]? = some l → c ∈ l → p < c ∧ c < b.length := PL.inb
    -- rows
    refine z_seq ?_
    refine z_asg ?_
    refine lc_copy (Ok.none H) (ds := [some (encP b st), none, none, none, none, none, none, none, none]) (.yes rp (.no _ (.no _ (.no _ (.no _ (.no _ (.no _ (.no _ (.no _ .nil))))))))) (by rw [eOp_ev (eVar_get rfl) rfl]; exact oIx1) (by show 3 < 9; decide) (by omega) fun H1 l as R1 s1 nw => ?_
    refine z_name ?_
    dsimp only
    -- holds
    refine z_seq ?_
    refine z_asg ?_
    refine lc_const (l := st.map encL) (cv := V.non) (Ok.none H1) (ds := [none, none, some (encLL st), none, none, none, none, none, none]) (.no _ (.no _ (.yes (rows_rp R1 (fun z => z) fun _ _ z => z) (.no _ (.no _ (.no _ (.no _ (.no _ (.no _ .nil))))))))) (eVar_get rfl) hc_none (by rw [List.length_map]; omega) fun H2 hl f2 h2 s2 => ?_
    rw [List.length_map] at h2
    refine z_name ?_
    dsimp only
    have R2 : Rows H2 l as (st.map vN) := R1.same fun x o _ e => s2 x o e
    -- rests
    refine z_seq ?_
    refine z_asg ?_
    refine lc_const (l := st.map encL) (cv := V.bl false) (Ok.none H2) (ds := [none, none, some (encLL st), none, none, none, none, none, none]) (.no _ (.no _ (.yes (rows_rp R2 (fun z => z) fun _ _ z => z) (.no _ (.no _ (.no _ (.no _ (.no _ (.no _ .nil))))))))) (eVar_get rfl) (hc_bool false) (by rw [List.length_map]; omega) fun H3 rl f3 h3 s3 => ?_
    rw [List.length_map] at h3
    refine z_name ?_
    dsimp only
    have R3 : Rows H3 l as (st.map vN) := R2.same fun x o _ e => s3 x o e
    have s13 := L2.Same.trans s1 (L2.Same.trans s2 s3)
    have inR1 : ∀ x, (x = l ∨ x ∈ as) → H1 x ≠ none := fun x hx e => by
      rcases hx with rfl | hx
      · rw [R1.top] at e; cases e
      · obtain ⟨i, hi⟩ := List.mem_iff_getElem?.mp hx
        obtain ⟨r, _, h2⟩ := R1.row i x hi
        rw [h2] at e; cases e
    have hne : hl ≠ l ∧ ¬ hl ∈ as := ⟨fun e => inR1 hl (.inl e) f2, fun e => inR1 hl (.inr e) f2⟩
    have rne : rl ≠ l ∧ ¬ rl ∈ as ∧ rl ≠ hl := by
      refine ⟨fun e => ?_, fun e => ?_, fun e => ?_⟩
      · rw [e, R2.top] at f3; cases f3
      · obtain ⟨i, hi⟩ := List.mem_iff_getElem?.mp e
        obtain ⟨r, _, h2⟩ := R2.row i rl hi
        rw [h2] at f3; cases f3
      · rw [e, h2] at f3; cases f3
    have O3 : Own3 H3 l as hl (pl0 st) := ⟨R3, ⟨_, s3 _ _ h2, rpAll_nones st⟩, hne⟩
    -- nothing of these was there before
    have newM : ∀ a, (MG l as hl a ∨ a = rl) → H a = none := fun a ha => by
      rcases ha with (rfl | ha | rfl) | rfl
      · exact nw.1
      · exact nw.2 a ha
      · exact s1.free f2
      · exact s1.free (s2.free f3)
    -- the loop
    refine z_seq ?_
    have okM : Ok (fun a => MG l as hl a ∨ a = rl) H3 := fun a ha e => by
      rcases ha with ha | rfl
      · exact O3.ok a ha e
      · rw [h3] at e; cases e
    have reM : ∀ {v : V} {d : D}, Rp M0 H v d → Rp (fun a => MG l as hl a ∨ a = rl) H3 v d := fun r => r.mono (fun a o _ e => ⟨fun m => (by rw [newM a m] at e; cases e), s13 _ _ e⟩) _ _
    refine .inl (tp_ok okM (ds := [none, some (.list (es.map encI)), none, none, none, none, none, none, none]) (.no _ (.yes (reM re) (.no _ (.no _ (.no _ (.no _ (.no _ (.no _ (.no _ .nil))))))))) (eVar_get rfl) fun v H4 s4 r4 => ?_)
    have rpM : Rp (fun a => MG l as hl a ∨ a = rl) H4 vp (encP b st) := (reM rp).same s4
    cases r4 with
    | lst a4 n4 r4 =>
      rename_i al xs
      have hlen : xs.length = es.length := by rw [r4.length, List.length_map]
      have s04 := L2.Same.trans s13 s4
      refine ⟨al, rfl, ⟨_, SqL.of a4⟩, for_list (fun i σ' H' => ∃ (p : Pl) (x3 x6 x7 x8 : Option V), σ' = [some vp, some ve, some (.ref l), x3, some (.ref hl), some (.ref rl), x6, x7, x8] ∧ goIs b (pl0 st) (es.take i) = some p ∧ Own3 H' l as hl p ∧ H' rl = some (.lst (p.rests.map .bl)) ∧ PlOk b p ∧ (∀ r ∈ p.rows, r.length ≤ 1000 + i) ∧ p.rows.length = st.length ∧ ∀ a o, ¬ (MG l as hl a ∨ a = rl) → H4 a = some o → H' a = some o) ?_ (fun i σ' H' _ ⟨_, _, _, _, _, _, _, _, _, _, _, _, fr⟩ => SqL.of (fr _ _ n4 a4)) (fun i x σ' H' hx hP => ?_) (fun σ' H' hP => ?_)⟩
      · refine ⟨pl0 st, _, _, _, _, rfl, rfl, O3.same s4, ?_, PlOk.start PL, fun r hr => ?_, rfl, fun a o _ e => e⟩
        · have e : (pl0 st).rests.map V.bl = List.replicate st.length (V.bl false) := by
            unfold pl0
            rw [List.map_map]
            exact List.map_const' ..
          rw [e]
          exact s4 _ _ h3
        · have := hrb.2 r hr; omega
      · obtain ⟨p, x3, x6, x7, x8, rfl, gp, O, hr1, PO, rlen, ml, fr⟩ := hP
        have hi := (List.getElem?_eq_some_iff.mp hx).1
        obtain ⟨d, hd, rx⟩ := r4.get' hx
        rw [List.getElem?_map] at hd
        cases he : es[i]? with
        | none => rw [he] at hd; cases hd
        | some e =>
          rw [he] at hd
          cases hd
          have rx' : ∀ {G : Hp}, (∀ a o, ¬ (MG l as hl a ∨ a = rl) → H4 a = some o → G a = some o) → Rp (fun a => MG l as hl a ∨ a = rl) G x (encI e) := fun f => rx.mono (fun a o n z => ⟨n, f a o n z⟩) _ _
          refine z_name ?_
          dsimp only
          have toM0 : ∀ {G : Hp} {v : V} {d : D}, Rp (fun a => MG l as hl a ∨ a = rl) G v d → Rp M0 G v d := fun r => r.mono (fun a o n z => ⟨fun y => y, z⟩) _ _
          refine z_seq ?_
          refine z_asg ?_
          refine tp_ok (Ok.none H') (ds := [none, none, none, none, none, none, some (encI e), none, none]) (.no _ (.no _ (.no _ (.no _ (.no _ (.no _ (.yes (toM0 (rx' fr)) (.no _ (.no _ .nil))))))))) (cut_2 (eVar_get rfl)) fun v1 G1 t1 r1 => ?_
          cases r1 with
          | tup a1 n1 r1 =>
            cases r1 with
            | cons ra r1 =>
              cases r1 with
              | cons rb r1 =>
                cases r1
                cases ra
                cases rb
                refine ⟨_, _, rfl, SqT.of a1, rfl, .str _, _, rfl, .int _, _, rfl, rfl, ?_⟩
                dsimp only
                have O1 := O.same t1
                have go' := goIs_take gp he
                -- the test
                refine z_seq ?_
                refine z_if ?_
                have slW : ∀ {G : Hp}, (Same G1 G) → SlD M0 G [some vp, some ve, some (.ref l), x3, some (.ref hl), some (.ref rl), some x, some (.str (wordI e)), some (.int (wOf e))] [none, none, some (encLL p.rows), none, none, some (.list (p.rests.map .bool)), none, some (.str (wordI e)), some (.int (wOf e))] := fun f =>
                  .no _ (.no _ (.yes ((O1.same f).rp.1) (.no _ (.no _ (.yes (.lst (f _ _ (t1 _ _ hr1)) (fun z => z) (rpAll_bls _)) (.no _ (.yes (.str _) (.yes (.int _) .nil))))))))
                have stop : ∀ {G : Hp}, goI b p e = none → (∀ a o, ¬ (MG l as hl a ∨ a = rl) → H4 a = some o → G a = some o) → Q .non G := fun {G} h f => by
                  refine qn G (goIs_stop (i := i + 1) (go'.trans h)) fun a o z => f a o (fun m => by rw [newM a m] at z; cases z) (s04 a o z)
                have no : ¬ (0 ≤ wOf e ∧ wOf e < (p.rows.length : Int) ∧ p.Z (wOf e).toNat = false) → goI b p e = none := fun h => by
                  unfold goI
                  rw [if_neg h]
                refine tpt_ok (Ok.none G1) (slW (L2.Same.refl _)) (lt_ev (eVar_get rfl) rfl) fun G2 t2 => ?_
                have f2' : ∀ a o, ¬ (MG l as hl a ∨ a = rl) → H4 a = some o → G2 a = some o := fun a o n z => t2 _ _ (t1 _ _ (fr a o n z))
                by_cases c0 : wOf e < 0
                · rw [decide_eq_true c0]
                  refine iteT ?_
                  refine iteT ?_
                  refine z_ret ?_
                  refine rd_non fun G3 t3 => ?_
                  exact stop (no fun z => by omega) fun a o n z => t3 _ _ (f2' a o n z)
                rw [decide_eq_false c0]
                refine iteF ?_
                have lenE : eCall oLen (esCons (eVar 2) esNil) [none, none, some (encLL p.rows), none, none, some (.list (p.rests.map .bool)), none, some (.str (wordI e)), some (.int (wOf e))] = some (.int (p.rows.length : Int)) := by
                  rw [q_call (q_cons (eVar_get rfl) q_nil)]
                  show some (PyData.int ((p.rows.map encL).length : Int)) = _
                  rw [List.length_map]
                refine tpt_ok (Ok.none G2) (slW t2) (ge_ev (eVar_get rfl) lenE) fun G3 t3 => ?_
                have f3' : ∀ a o, ¬ (MG l as hl a ∨ a = rl) → H4 a = some o → G3 a = some o := fun a o n z => t3 _ _ (f2' a o n z)
                by_cases c1 : (p.rows.length : Int) ≤ wOf e
                · rw [decide_eq_true c1]
                  refine iteT ?_
                  refine iteT ?_
                  refine z_ret ?_
                  refine rd_non fun G4 t4 => ?_
                  exact stop (no fun z => by omega) fun a o n z => t4 _ _ (f3' a o n z)
                rw [decide_eq_false c1]
                refine iteF ?_
                have w0 : 0 ≤ wOf e := by omega
                have wm : wOf e < (p.rows.length : Int) := by omega
                have restE : eOp oIx (eVar 5) (eVar 8) [none, none, some (encLL p.rows), none, none, some (.list (p.rests.map .bool)), none, some (.str (wordI e)), some (.int (wOf e))] = some (.bool (p.Z (wOf e).toNat)) := by
                  rw [eOp_ev (eVar_get rfl) (eVar_get rfl)]
                  refine ixL_at (at?_map ?_)
                  unfold at?
                  rw [if_pos w0]
                  exact get_of (by have := PO.lr; omega)
                refine tpt_ok (Ok.none G3) (slW (L2.Same.trans t2 t3)) (bT_of restE) fun G4 t4 => ?_
                have f4' : ∀ a o, ¬ (MG l as hl a ∨ a = rl) → H4 a = some o → G4 a = some o := fun a o n z => t4 _ _ (f3' a o n z)
                cases wz : p.Z (wOf e).toNat with
                | true =>
                  refine iteT ?_
                  refine iteT ?_
                  refine z_ret ?_
                  refine rd_non fun G5 t5 => ?_
                  exact stop (no fun z => by rw [wz] at z; cases z.2.2) fun a o n z => t5 _ _ (f4' a o n z)
                | false =>
                  refine iteF ?_
                  have t14 := L2.Same.trans (L2.Same.trans t2 t3) t4
                  -- gone
                  refine tp_ok (M := fun a => MG l as hl a ∨ a = rl) (fun a ha e => ?_) (ds := [some (encP b st), none, none, none, none, none, some (encI e), none, none]) (.yes (rpM.mono (fun a o n z => ⟨n, f4' a o n z⟩) _ _) (.no _ (.no _ (.no _ (.no _ (.no _ (.yes (rx' f4') (.no _ (.no _ .nil))))))))) (eVar_get (i := 0) rfl) fun vq G5 t5 rq => ?_
                  · rcases ha with ha | rfl
                    · exact (O1.same t14).ok a ha e
                    · rw [t14 _ _ (t1 _ _ hr1)] at e; cases e
                  refine ⟨_, rfl, ⟨_, rfl, ?_⟩⟩
                  have f5' : ∀ a o, ¬ (MG l as hl a ∨ a = rl) → H4 a = some o → G5 a = some o := fun a o n z => t5 _ _ (f4' a o n z)
                  refine tp_ok (M := fun a => MG l as hl a ∨ a = rl) (fun a ha e => ?_) (ds := [none, none, none, none, none, none, some (encI e), none, none]) (.no _ (.no _ (.no _ (.no _ (.no _ (.no _ (.yes (rx' f5') (.no _ (.no _ .nil))))))))) (eVar_get (i := 6) rfl) fun vx G6 t6 rx6 => ?_
                  · rcases ha with ha | rfl
                    · exact ((O1.same t14).same t5).ok a ha e
                    · rw [t5 _ _ (t14 _ _ (t1 _ _ hr1))] at e; cases e
                  have t16 := L2.Same.trans t14 (L2.Same.trans t5 t6)
                  have O6 := O1.same t16
                  have hr6 := t16 _ _ (t1 _ _ hr1)
                  have f6' : ∀ a o, ¬ (MG l as hl a ∨ a = rl) → H4 a = some o → G6 a = some o := fun a o n z => t6 _ _ (f5' a o n z)
                  have toMG : ∀ {G : Hp} {v : V} {d : D}, Rp (fun a => MG l as hl a ∨ a = rl) G v d → Rp (MG l as hl) G v d := fun r => r.mono (fun a o n z => ⟨fun y => n (.inl y), z⟩) _ _
                  have nrl : ¬ MG l as hl rl := fun m => by
                    rcases m with m | m | m
                    · exact rne.1 m
                    · exact rne.2.1 m
                    · exact rne.2.2 m
                  refine ⟨l, as, hl, vq, vx, b, st, p, e, rfl, O6, toMG (rq.same t6), toMG rx6, PO, ⟨by omega, fun r hr => by have := hrb.1 r hr; omega, by omega, fun r hr => by have := hrb.2 r hr; omega, by omega, fun r hr => by have := rlen r hr; omega⟩, w0, wm, wz, fun q H' hg fr' O' => ?_, fun H' hg fr' => ?_⟩
                  · refine ⟨true, rfl, ?_⟩
                    refine iteF ?_
                    dsimp only [tNext]
                    have f7 : ∀ a o, ¬ (MG l as hl a ∨ a = rl) → H4 a = some o → H' a = some o := fun a o n z => fr' _ _ (fun y => n (.inl y)) (f6' a o n z)
                    have hr7 := fr' _ _ nrl hr6
                    obtain ⟨PO', ml'⟩ := PO.go bb hg
                    have slZ : ∀ {G : Hp}, SlD M0 G [some vp, some ve, some (.ref l), x3, some (.ref hl), some (.ref rl), some x, some (.str (wordI e)), some (.int (wOf e))] [none, none, none, none, none, none, none, some (.str (wordI e)), some (.int (wOf e))] :=
                      .no _ (.no _ (.no _ (.no _ (.no _ (.no _ (.no _ (.yes (.str _) (.yes (.int _) .nil))))))))
                    refine z_asg ?_
                    refine tp_ok (Ok.none H') slZ (show _ = some (.bool (decide (wordI e = "rests"))) by rw [eOp_ev (eVar_get rfl) rfl, oEq_str (sh_wordI e) sh_rests]) fun vr G7 t7 rr => ?_
                    cases rr
                    refine ⟨_, rfl, ?_⟩
                    refine tp_int (Ok.none G7) slZ (eVar_get rfl) fun G8 t8 => ?_
                    have t78 := L2.Same.trans t7 t8
                    have hix : ixN (p.rests.map V.bl).length (wOf e) = some (wOf e).toNat := by
                      unfold ixN
                      rw [if_pos w0, if_pos (by rw [List.length_map, PO.lr]; exact wm)]
                    refine ⟨rl, _, _, _, rfl, rfl, t78 _ _ hr7, hix, ?_⟩
                    dsimp only
                    refine ⟨q, _, _, _, _, rfl, go'.trans hg, ?_, ?_, PO', fun r hr => ?_, ml'.trans ml, fun a o n z => ?_⟩
                    · obtain ⟨hv, y1, y2⟩ := O'.holds
                      have fu : ∀ a o, MG l as hl a → H' a = some o → (L2.upd G8 rl (.lst ((p.rests.map V.bl).set (wOf e).toNat (.bl (decide (wordI e = "rests")))))) a = some o := fun a o m z => by
                        rw [L2.upd_ne (fun (y : a = rl) => nrl (by rw [← y]; exact m))]
                        exact t78 _ _ z
                      refine ⟨O'.rows.same fun a o m z => fu a o (m.elim .inl fun m => .inr (.inl m)) z, ⟨hv, fu _ _ (.inr (.inr rfl)) y1, ?_⟩, O'.ne⟩
                      have y3 : RpAll (fun a => MG l as hl a ∨ a = rl) H' hv (q.holds.map encH) := RpAll.nolist (fun a ha xs z => by
                        rcases ha with ha | rfl
                        · exact O'.notup a ha xs z
                        · rw [hr7] at z; cases z) _ hv (nolists_H _) y2
                      exact y3.mono (fun a o n z => ⟨fun m => n (.inl m), by
                        rw [L2.upd_ne (fun (y : a = rl) => n (.inr y))]
                        exact t78 _ _ z⟩) _ _
                    · rw [goI_rests PO.lr hg, List.map_set]
                      exact L2.upd_same
                    · have := goI_rl rlen hg r hr; omega
                    · rw [L2.upd_ne (fun (y : a = rl) => n (.inr y))]
                      exact t78 _ _ (f7 a o n z)
                  · refine ⟨false, rfl, ?_⟩
                    refine iteT ?_
                    refine z_ret ?_
                    refine rd_non fun G7 t7 => ?_
                    exact stop hg fun a o n z => t7 _ _ (fr' _ _ (fun y => n (.inl y)) (f6' a o n z))
      · obtain ⟨p, x3, x6, x7, x8, rfl, gp, O, hr1, PO, rlen, ml, fr⟩ := hP
        rw [hlen, List.take_length] at gp
        dsimp only
        refine z_ret ?_
        refine ⟨_, rfl, _, rfl, _, rfl, by show 3 ≤ sizeLine; rw [sizeLine_eq]; decide, fun pp hp => ?_⟩
        have sp := Pu.Same.new (o := .tup [.ref l, .ref hl, .ref rl]) hp
        have fH : Same H H' := fun a o z => fr a o (fun m => by rw [newM a m] at z; cases z) (s04 a o z)
        have O2 := O.same sp
        exact qs p _ _ gp (L2.Same.trans fH sp) (.tup L2.upd_same (fun z => z) (.cons O2.rp.1 (.cons O2.rp.2 (.cons (.lst (sp _ _ hr1) (fun z => z) (rpAll_bls _)) .nil))))

theorem ok_init {P : Program} {w : World} {K : PySem.W.Frag} {mg : Str → Option Value} {base : Heap} (T : Txt K mg) : FnOk P w K mg base CX0 1 T.f_init T.fd_init ["self", "plan"] (spInit T.C_R) := by
  have RT : RTx K T.C_R := ⟨T.cl, T.n_brood, T.n_rows, T.n_holds, T.n_rests⟩
  refine T.F_init.ok sc_init (fun vs H Q E h => ?_) (fun cdv A outer s H vs Q E hr h => ⟨_, (pss_cons (ps_fld (pv 0) (pd_ix (pd_name 1) pd_int) rfl) (pss_cons (ps_fld (pv 0) (pe_lc rfl sc_init.nd (pi_seq (pd_ix (pd_name 1) pd_int)) (blkOk_by (N := N_init) (sc := defScope s_init) (own := [("row", 2)]) (by decide +kernel)) (fun _ _ _ _ _ => pg_name (i := 2) sc_init.nd rfl (Or.inl rfl)) (fun _ _ _ _ _ => pts_nil) (fun _ _ _ _ _ => (show PE _ _ (tCB (rList K) (tCons (tVar 2) tNil)) from pe_callTy cr_list rfl T.z_list bt_list (pa_cons (pv 2) pa_nil)))) rfl) (pss_cons (ps_fld (pv 0) (pe_lc rfl sc_init.nd (pi_list (pe_fld (pv 0) rfl)) (blkOk_by (N := N_init) (sc := defScope s_init) (own := [("row", 2)]) (by decide +kernel)) (fun _ _ _ _ _ => pg_name (i := 2) sc_init.nd rfl (Or.inl rfl)) (fun _ _ _ _ _ => pts_nil) (fun _ _ _ _ _ => pd_non)) rfl) (pss_one (ps_fld (pv 0) (pe_lc rfl sc_init.nd (pi_list (pe_fld (pv 0) rfl)) (blkOk_by (N := N_init) (sc := defScope s_init) (own := [("row", 2)]) (by decide +kernel)) (fun _ _ _ _ _ => pg_name (i := 2) sc_init.nd rfl (Or.inl rfl)) (fun _ _ _ _ _ => pts_nil) (fun _ _ _ _ _ => pd_bl)) rfl))))), ?_⟩)
  · obtain ⟨x, dx, vp, b, st, rfl, _⟩ := h
    rfl
  · obtain ⟨x, dx, vp, b, st, rfl, hx, rp, PL, q⟩ := h
    have hm := PL.m2
    have okx : Ok (fun a => a = x) H := fun a m e => by rw [m, hx] at e; cases e
    have slp : ∀ {G : Hp}, (∀ a o, a ≠ x → H a = some o → G a = some o) → SlD (fun a => a = x) G [some (.ref x), some vp, none] [none, some (encP b st), none] := fun f => .no _ (.yes (rp.mono (fun a o n z => ⟨n, f a o n z⟩) _ _) (.no _ .nil))
    -- brood
    refine z_seq ?_
    refine tp_ok okx (slp fun a o _ z => z) (show _ = some (encLL b) by rw [eOp_ev (eVar_get rfl) rfl]; exact oIx0) fun vb H1 s1 rb => ?_
    refine ⟨_, rfl, x, T.C_R, dx, [], rfl, s1 _ _ hx, T.cl, T.n_brood, by show 0 < 1000; decide, ?_⟩
    have f1 : ∀ a o, a ≠ x → H a = some o → (upd H1 x (.ins T.C_R dx (putF "brood" vb []))) a = some o := fun a o n z => by rw [upd_ne n]; exact s1 _ _ z
    have rb1 : Rp (fun a => a = x) (upd H1 x (.ins T.C_R dx (putF "brood" vb []))) vb (encLL b) := rb.mono (fun a o n z => ⟨n, by rw [upd_ne n]; exact z⟩) _ _
    have x1 : (upd H1 x (.ins T.C_R dx (putF "brood" vb []))) x = some (.ins T.C_R dx (putF "brood" vb [])) := upd_same
    revert f1 rb1 x1
    generalize upd H1 x (.ins T.C_R dx (putF "brood" vb [])) = G1
    intro f1 rb1 x1
    have okx1 : Ok (fun a => a = x) G1 := fun a m e => by rw [m, x1] at e; cases e
    dsimp only
    -- rows
    refine z_seq ?_
    refine lc_copy okx1 (slp f1) (by rw [eOp_ev (eVar_get rfl) rfl]; exact oIx1) (by show 2 < 3; decide) (by omega) fun H2 l as R2 s2 nw => ?_
    refine ⟨_, rfl, x, T.C_R, dx, _, rfl, s2 _ _ x1, T.cl, T.n_rows, by have := putF_len "brood" vb []; simp only [List.length_nil] at this; omega, ?_⟩
    have xl : ∀ a, (a = l ∨ a ∈ as) → a ≠ x := fun a m z => by
      have h : G1 a = none := m.elim (fun m => m ▸ nw.1) (nw.2 a)
      rw [z, x1] at h; cases h
    have R3 : Rows (upd H2 x (.ins T.C_R dx (putF "rows" (.ref l) (putF "brood" vb [])))) l as (st.map vN) := R2.same fun a o m z => by rw [upd_ne (xl a m)]; exact z
    have f3 : ∀ a o, a ≠ x → G1 a = some o → (upd H2 x (.ins T.C_R dx (putF "rows" (.ref l) (putF "brood" vb [])))) a = some o := fun a o n z => by rw [upd_ne n]; exact s2 _ _ z
    have x3 : (upd H2 x (.ins T.C_R dx (putF "rows" (.ref l) (putF "brood" vb [])))) x = some (.ins T.C_R dx (putF "rows" (.ref l) (putF "brood" vb []))) := upd_same
    revert R3 f3 x3
    generalize upd H2 x (.ins T.C_R dx (putF "rows" (.ref l) (putF "brood" vb []))) = G3
    intro R3 f3 x3
    dsimp only
    have lenR : (as.map V.ref).length = st.length := by
      have := R3.len
      rw [List.length_map] at this
      rw [List.length_map, this]
    have lkR : ∀ {G : Hp} {fs : List (Str × V)} (R : VK), G x = some (.ins T.C_R dx fs) → fs.lookup ("rows" : Str) = some (.ref l) → R (.ref l) G → tFld K (tVar 0) "rows" [some (.ref x), some vp, none] G R := fun R e e2 h => ⟨_, rfl, x, T.C_R, dx, _, _, rfl, e, T.cl, T.n_rows, e2, h⟩
    -- holds
    refine z_seq ?_
    refine lc_constL (fun R h => lkR R x3 (by rw [lookup_putF, if_pos rfl]) h) R3.top hc_none (by omega) fun H4 hl nh eh s4 => ?_
    refine ⟨_, rfl, x, T.C_R, dx, _, rfl, s4 _ _ x3, T.cl, T.n_holds, by
      have h1 := putF_len "rows" (.ref l) (putF "brood" vb [])
      have h2 := putF_len "brood" vb []
      simp only [List.length_nil] at h2
      omega, ?_⟩
    have hlx : hl ≠ x := fun z => by rw [z, x3] at nh; cases nh
    have inR3 : ∀ a, (a = l ∨ a ∈ as) → G3 a ≠ none := fun a m e => by
      rcases m with rfl | m
      · rw [R3.top] at e; cases e
      · obtain ⟨i, hi⟩ := List.mem_iff_getElem?.mp m
        obtain ⟨r, _, h2⟩ := R3.row i a hi
        rw [h2] at e; cases e
    have hne : hl ≠ l ∧ ¬ hl ∈ as := ⟨fun e => inR3 hl (.inl e) nh, fun e => inR3 hl (.inr e) nh⟩
    have f5 : ∀ a o, a ≠ x → G3 a = some o → (upd H4 x (.ins T.C_R dx (putF "holds" (.ref hl) (putF "rows" (.ref l) (putF "brood" vb []))))) a = some o := fun a o n z => by rw [upd_ne n]; exact s4 _ _ z
    have h5 : (upd H4 x (.ins T.C_R dx (putF "holds" (.ref hl) (putF "rows" (.ref l) (putF "brood" vb []))))) hl = some (.lst (List.replicate st.length V.non)) := by rw [upd_ne hlx, eh, lenR]
    have x5 : (upd H4 x (.ins T.C_R dx (putF "holds" (.ref hl) (putF "rows" (.ref l) (putF "brood" vb []))))) x = some (.ins T.C_R dx (putF "holds" (.ref hl) (putF "rows" (.ref l) (putF "brood" vb [])))) := upd_same
    revert f5 h5 x5
    generalize upd H4 x (.ins T.C_R dx (putF "holds" (.ref hl) (putF "rows" (.ref l) (putF "brood" vb [])))) = G5
    intro f5 h5 x5
    have R5 : Rows G5 l as (st.map vN) := R3.same fun a o m z => f5 a o (xl a m) z
    dsimp only
    -- rests
    refine lc_constL (fun R h => lkR R x5 (by rw [lookup_putF, if_neg k_4, lookup_putF, if_pos rfl]) h) R5.top (hc_bool false) (by omega) fun H6 rl nr er s6 => ?_
    refine ⟨_, rfl, x, T.C_R, dx, _, rfl, s6 _ _ x5, T.cl, T.n_rests, by
      have h0 := putF_len "holds" (.ref hl) (putF "rows" (.ref l) (putF "brood" vb []))
      have h1 := putF_len "rows" (.ref l) (putF "brood" vb [])
      have h2 := putF_len "brood" vb []
      simp only [List.length_nil] at h2
      omega, ?_⟩
    have rlx : rl ≠ x := fun z => by rw [z, x5] at nr; cases nr
    have nrl : ¬ MG l as hl rl := fun m => by
      rcases m with m | m | m
      · rw [m, R5.top] at nr; cases nr
      · obtain ⟨i, hi⟩ := List.mem_iff_getElem?.mp m
        obtain ⟨r, _, h2⟩ := R5.row i rl hi
        rw [h2] at nr; cases nr
      · rw [m, h5] at nr; cases nr
    have f7 : ∀ a o, a ≠ x → G5 a = some o → (upd H6 x (.ins T.C_R dx (flR vb l hl rl))) a = some o := fun a o n z => by rw [upd_ne n]; exact s6 _ _ z
    have R7 : Rows (upd H6 x (.ins T.C_R dx (flR vb l hl rl))) l as (st.map vN) := R5.same fun a o m z => f7 a o (xl a m) z
    have fH : ∀ a o, a ≠ x → H a = some o → (upd H6 x (.ins T.C_R dx (flR vb l hl rl))) a = some o := fun a o n z => f7 a o n (f5 a o n (f3 a o n (f1 a o n z)))
    have new : ∀ a, (MG l as hl a ∨ a = rl) → H a = none := fun a m => by
      have ne : a ≠ x := by
        rcases m with (m | m | m) | m
        · exact xl a (.inl m)
        · exact xl a (.inr m)
        · rw [m]; exact hlx
        · rw [m]; exact rlx
      cases h : H a with
      | none => rfl
      | some o =>
        have g1 := f1 a o ne h
        have g3 := f3 a o ne g1
        have g5 := f5 a o ne g3
        rcases m with (m | m | m) | m
        · rw [m, nw.1] at g1; cases g1
        · rw [nw.2 a m] at g1; cases g1
        · rw [m, nh] at g3; cases g3
        · rw [m, nr] at g5; cases g5
    refine q l as hl rl vb _ ⟨⟨dx, upd_same⟩, ⟨R7, ⟨_, f7 _ _ hlx h5, rpAll_nones st⟩, hne⟩, ?_, ?_, nrl⟩ fH new
    · have e : (pl0 st).rests.map V.bl = List.replicate st.length (V.bl false) := by
        unfold pl0
        rw [List.map_map]
        exact List.map_const' ..
      rw [e, upd_ne rlx, er, lenR]
    · refine rb1.mono (fun a o n z => ⟨fun m => ?_, f7 a o n (f5 a o n (f3 a o n z))⟩) _ _
      have g3 := f3 a o n z
      have g5 := f5 a o n g3
      rcases m with (m | m | m) | m | m
      · rw [m, nw.1] at z; cases z
      · rw [nw.2 a m] at z; cases z
      · rw [m, nh] at g3; cases g3
      · rw [m, nr] at g5; cases g5
      · exact n m

theorem ok_is_worker {P : Program} {w : World} {K : PySem.W.Frag} {mg : Str → Option Value} {base : Heap} (T : Txt K mg) : FnOk P w K mg base CX0 1 T.f_is_worker T.fd_is_worker ["self", "number"] (spIsW T.C_R) := by
  have RT : RTx K T.C_R := ⟨T.cl, T.n_brood, T.n_rows, T.n_holds, T.n_rests⟩
  refine T.F_is_worker.ok sc_is_worker (fun vs H Q E h => ?_) (fun cdv A outer s H vs Q E hr h => ⟨_, (pss_one (ps_ret (pe_chain op_le op_lt pd_int (pd_name 1) (pe_callB cr_len rfl T.z_len bt_len (pa_cons (pe_fld (pv 0) rfl) pa_nil))))), ?_⟩)
  · obtain ⟨x, l, as, hl, rl, vb, b, p, n, rfl, _⟩ := h
    rfl
  · obtain ⟨x, l, as, hl, rl, vb, b, p, n, rfl, R, q⟩ := h
    refine z_ret ?_
    refine rd_int fun H1 s1 => ?_
    refine tp_int (i := n) (Ok.none H1) (ds := [none, some (.int n)]) (.no _ (.yes (.int _) .nil)) rfl fun H2 s2 => ?_
    have s12 := L2.Same.trans s1 s2
    refine ⟨_, _, rfl, rfl, _, rfl, ?_⟩
    by_cases h0 : 0 ≤ n
    · rw [decide_eq_true h0]
      refine iteT ?_
      have R2 := R.same s12
      refine rd_rows RT R2 rfl ?_
      refine ⟨l, _, rfl, .inl (SqL.of R2.own.rows.top), ?_⟩
      refine ⟨_, _, rfl, rfl, ?_⟩
      have e : decide (n < ((as.map V.ref).length : Int)) = decide (0 ≤ n ∧ n < (p.rows.length : Int)) := by
        have hl := R2.own.rows.len
        rw [List.length_map] at hl
        rw [List.length_map, hl]
        simp [h0]
      show Q (V.bl (decide (n < ((as.map V.ref).length : Int)))) H2
      rw [e]
      exact q H2 s12
    · rw [decide_eq_false h0]
      refine iteF ?_
      have z := q H2 s12
      rw [decide_eq_false (fun y => h0 y.1)] at z
      exact z

theorem ok_takes {P : Program} {w : World} {K : PySem.W.Frag} {mg : Str → Option Value} {base : Heap} (T : Txt K mg) : FnOk P w K mg base CX0 1 T.f_takes T.fd_takes ["self", "worker", "other", "task", "at"] (spTakes T.C_R) := by
  have RT : RTx K T.C_R := ⟨T.cl, T.n_brood, T.n_rows, T.n_holds, T.n_rests⟩
  refine T.F_takes.ok sc_takes (fun vs H Q E h => ?_) (fun cdv A outer s H vs Q E hr h => ⟨_, (pss_cons (ps_set (i := 5) sc_takes.nd rfl (by first | exact Or.inl rfl | exact Or.inr rfl) (pe_ix ix_D (pe_fld (pv 0) rfl) (pd_name 2) (fun _ _ => rfl))) (pss_cons (ps_if (PW.pt (pw_or (pt_cmpR op_isntA (pe_ix ix_D (pe_fld (pv 0) rfl) (pd_name 1) (fun _ _ => rfl)) pd_non (nomark _)) (pw_or (ptd_cmp (op_eqD hr.units) os_eq (pd_name 5) (pd_lst pda_nil) (nomark _)) (pw_or1 (ptd_cmp (op_neD hr.units) os_ne (pd_ix (pd_name 5) (pd_name 4)) (pd_name 3) (nomark _)))))) (pss_one (ps_ret pd_bl)) pss_nil) (pss_cons (ps_expr (pe_bm PySem.F.plainAttrs_list PySem.F.slot_list_pop PySem.F.type_list_pop mt_popAt (pv 5) (pa_cons (pd_name 4) pa_nil))) (pss_cons (ps_asg (pd_tup (pda_cons (pd_name 3) (pda_cons pd_int pda_nil))) (pg_sub (pe_fld (pv 0) rfl) (pd_name 1) set_list)) (pss_one (ps_ret pd_bl)))))), ?_⟩)
  · obtain ⟨x, l, as, hl, rl, vb, b, p, wi, o, t, k, rfl, _⟩ := h
    rfl
  · obtain ⟨x, l, as, hl, rl, vb, b, p, wi, o, t, k, rfl, R, PO, rll, w0, wm, o0, om, qs, qn⟩ := h
    have sl : ∀ {G : Hp} {x5 : Option V}, SlD M0 G [some (.ref x), some (.int wi), some (.int o), some (.int t), some (.int (ends k)), x5] [none, some (.int wi), some (.int o), some (.int t), some (.int (ends k)), none] := fun {G x5} => .no _ (.yes (.int _) (.yes (.int _) (.yes (.int _) (.yes (.int _) (.no _ .nil)))))
    -- row
    refine z_seq ?_
    refine z_asg ?_
    refine rd_row RT R rfl (Ok.none H) sl (eVar_get rfl) o0 om fun ao H1 s1 e1 hao => ?_
    have R1 := R.same s1
    refine z_name ?_
    dsimp only
    have hm := List.mem_of_getElem? e1
    have hR : p.rows[o.toNat]? = some (p.R o.toNat) := get_of (by omega)
    have hle := rll _ (List.mem_of_getElem? hR)
    -- the tests
    refine z_seq ?_
    refine z_if ?_
    refine z_op ?_
    refine rd_hold RT R1 PO rfl (Ok.none H1) sl (eVar_get rfl) w0 wm fun vh H2 s2 rh => ?_
    refine rd_non fun H3 s3 => ?_
    have s13 := L2.Same.trans s2 s3
    have R3 := R1.same s13
    refine os_isntA (M5 l as hl rl x) H3 _ _ (encH (p.H wi.toNat)) .none (.bool (!(p.H wi.toNat).isNone)) _ R3.ok (rh.same s3) .non (by show some (PyData.bool (!isNon (encH (p.H wi.toNat)))) = _; rw [isn_encH]) fun v4 H4 s4 r4 => ?_
    cases r4
    refine ⟨_, rfl, ?_⟩
    have s14 := L2.Same.trans s13 s4
    have s04 := L2.Same.trans s1 s14
    by_cases c1 : p.H wi.toNat = none
    · refine if_false_of (by rw [c1]; rfl) ?_
      have R4 := R1.same s14
      have slr : ∀ {G : Hp}, Same H4 G → SlD M0 G [some (.ref x), some (.int wi), some (.int o), some (.int t), some (.int (ends k)), some (.ref ao)] [none, some (.int wi), some (.int o), some (.int t), some (.int (ends k)), some (encL (p.R o.toNat))] := fun g => .no _ (.yes (.int _) (.yes (.int _) (.yes (.int _) (.yes (.int _) (.yes (.lst (g _ _ (s14 _ _ hao)) (fun z => z) (rpN _)) .nil)))))
      refine tpt_ok (Ok.none H4) (slr (L2.Same.refl _)) (bT_of (eqnil_ev (eVar_get rfl) (by omega))) fun H5 s5 => ?_
      by_cases c2 : p.R o.toNat = []
      · refine if_true_of (decide_eq_true c2) ?_
        refine iteT ?_
        refine z_ret ?_
        refine tp_ok (Ok.none H5) (SlD.nones _) (show eC (.bool false) _ = some (.bool false) from rfl) fun v6 H6 s6 r6 => ?_
        cases r6
        refine qn _ (fun z => ?_) (frm (L2.Same.trans s04 (L2.Same.trans s5 s6)))
        have := z.2
        rw [c2, endOf_nil] at this
        cases this
      · refine if_false_of (decide_eq_false c2) ?_
        obtain ⟨y, hy⟩ := endOf_ne (k := k) c2
        have ey : eOp oIx (eVar 5) (eVar 4) [none, some (.int wi), some (.int o), some (.int t), some (.int (ends k)), some (encL (p.R o.toNat))] = some (.int (y : Int)) := by
          rw [eOp_ev (eVar_get rfl) (eVar_get rfl)]
          exact ix_end hy
        refine tpt_ok (Ok.none H5) (slr s5) (ne_ev ey (eVar_get rfl)) fun H6 s6 => ?_
        have s46 := L2.Same.trans s5 s6
        by_cases c3 : (y : Int) = t
        · refine if_false_of (show (!((y : Int) == t)) = false by rw [c3]; simp) ?_
          dsimp only [tNext]
          have okk : tkOk p wi o t k := ⟨c1, by rw [hy, Option.map_some, c3]⟩
          -- row.pop(at)
          refine z_seq ?_
          refine z_drop ?_
          obtain ⟨j, y', p1, p2, p3, p4⟩ := pop_end k c2
          rw [hy] at p4
          cases p4
          refine ⟨_, rfl, .inl ⟨rfl, _, SqL.of (L2.Same.trans s14 s46 _ _ hao)⟩, ?_⟩
          refine tp_int (i := ends k) (Ok.none H6) sl (eVar_get rfl) fun H7 s7 => ?_
          have s47 := L2.Same.trans s46 s7
          have R7 := R4.same s47
          refine ⟨ao, _, _, j, _, rfl, rfl, L2.Same.trans s14 s47 _ _ hao, by cases k <;> decide, by cases k <;> decide, p1, p2, ?_⟩
          rw [p3]
          have O8 := R7.own.setRow (r := cutEnd k (p.R o.toNat)) e1
          have f8 : ∀ a o', ¬ MG l as hl a → H a = some o' → L2.upd H7 ao (.lst (vN (cutEnd k (p.R o.toNat)))) a = some o' := fun a o' n z => by
            rw [L2.upd_ne (fun (y : a = ao) => n (.inr (.inl (by rw [y]; exact hm))))]
            exact L2.Same.trans s04 s47 _ _ z
          have R8 := (R.put (q := ⟨p.rows.set o.toNat (cutEnd k (p.R o.toNat)), p.holds, p.rests⟩) O8 rfl f8)
          revert O8 f8 R8
          generalize L2.upd H7 ao (.lst (vN (cutEnd k (p.R o.toNat)))) = G8
          intro O8 f8 R8
          -- self.holds[worker] = (task, 0)
          dsimp only
          refine z_seq ?_
          refine z_asg ?_
          have ht : t = ((t.toNat : Nat) : Int) := by omega
          refine tp_ok (Ok.none G8) sl (show _ = some (encH (some (t.toNat, 0))) by rw [q_tup (q_cons (eVar_get (i := 3) (d := .int t) rfl) (q_cons (e := eC (.int 0)) rfl q_nil)) (by simp)]; show some (PyData.tuple [.int t, .int 0]) = some (PyData.tuple [.int ((t.toNat : Nat) : Int), .int ((0 : Nat) : Int)]); rw [← ht]; rfl) fun v9 G9 t9 r9 => ?_
          have R9 := R8.same t9
          refine rd_holds RT R9 rfl ?_
          refine tp_int (i := wi) (Ok.none G9) sl (eVar_get rfl) fun G10 t10 => ?_
          have R10 := R9.same t10
          obtain ⟨hv, h1, h2⟩ := R10.own.holds
          have hlen : hv.length = p.rows.length := by
            have := h2.length
            rw [List.length_map] at this
            rw [this]
            exact PO.lh
          have hix : ixN hv.length wi = some wi.toNat := by
            unfold ixN
            rw [if_pos w0, if_pos (by omega)]
          refine ⟨hl, hv, _, _, rfl, rfl, h1, hix, ?_⟩
          have O11 := R10.own.setHold (i := wi.toNat) (h := some (t.toNat, 0)) h1 (encH_M R10.own.notup (r9.same t10))
          have f11 : ∀ a o', ¬ MG l as hl a → H a = some o' → L2.upd G10 hl (.lst (hv.set wi.toNat v9)) a = some o' := fun a o' n z => by
            rw [L2.upd_ne (fun (y : a = hl) => n (.inr (.inr y)))]
            exact t10 _ _ (t9 _ _ (f8 a o' n z))
          dsimp only
          refine z_ret ?_
          refine tp_ok (Ok.none _) (SlD.nones _) (show eC (.bool true) _ = some (.bool true) from rfl) fun v12 G12 t12 r12 => ?_
          cases r12
          exact qs _ okk (fun a o' n z => t12 _ _ (f11 a o' n z)) (O11.same t12)
        · refine if_true_of (show (!((y : Int) == t)) = true by rw [beq_eq_false_iff_ne.mpr c3]; rfl) ?_
          refine z_ret ?_
          refine tp_ok (Ok.none H6) (SlD.nones _) (show eC (.bool false) _ = some (.bool false) from rfl) fun v7 H7 s7 r7 => ?_
          cases r7
          refine qn _ (fun z => c3 ?_) (frm (L2.Same.trans s04 (L2.Same.trans s46 s7)))
          have := z.2
          rw [hy, Option.map_some] at this
          exact Option.some.inj this
    · refine if_true_of (by cases z : p.H wi.toNat with | none => exact (c1 z).elim | some g => rfl) ?_
      refine iteT ?_
      refine z_ret ?_
      refine tp_ok (Ok.none H4) (SlD.nones _) (show eC (.bool false) _ = some (.bool false) from rfl) fun v6 H6 s6 r6 => ?_
      cases r6
      exact qn _ (fun z => c1 z.1) (frm (L2.Same.trans s04 s6))

theorem ok_puts {P : Program} {w : World} {K : PySem.W.Frag} {mg : Str → Option Value} {base : Heap} (T : Txt K mg) : FnOk P w K mg base CX0 1 T.f_puts T.fd_puts ["self", "worker", "task"] (spPuts T.C_R) := by
  have RT : RTx K T.C_R := ⟨T.cl, T.n_brood, T.n_rows, T.n_holds, T.n_rests⟩
  refine T.F_puts.ok sc_puts (fun vs H Q E h => ?_) (fun cdv A outer s H vs Q E hr h => ⟨_, (pss_cons (ps_if (pt_cmpR op_isA (pe_ix ix_D (pe_fld (pv 0) rfl) (pd_name 1) (fun _ _ => rfl)) pd_non (nomark _)) (pss_one (ps_ret pd_bl)) pss_nil) (pss_cons (ps_asg (pe_ix ix_D (pe_fld (pv 0) rfl) (pd_name 1) (fun _ _ => rfl)) (pg_tup rfl (pgs_cons (pg_name (i := 3) sc_puts.nd rfl (by first | exact Or.inl rfl | exact Or.inr rfl)) (pgs_cons (pg_name (i := 4) sc_puts.nd rfl (by first | exact Or.inl rfl | exact Or.inr rfl)) pgs_nil)))) (pss_cons (ps_if (pt_cmpR (op_neD hr.units) (pe_slice sl_D (pe_ix ix_D (pe_fld (pv 0) rfl) (pd_name 3) (fun _ _ => rfl)) (po_some (pd_name 4)) (po_some (pd_op or_addD os_add (pd_name 4) pd_int))) (pd_lst (pda_cons (pd_name 2) pda_nil)) (nomark _)) (pss_one (ps_ret pd_bl)) pss_nil) (pss_cons (ps_asg (pd_tup (pda_cons (pd_name 3) (pda_cons (pd_op or_addD os_add (pd_name 4) pd_int) pda_nil))) (pg_sub (pe_fld (pv 0) rfl) (pd_name 1) set_list)) (pss_cons (ps_expr (pe_bm PySem.F.plainAttrs_list PySem.F.slot_list_append PySem.F.type_list_append mt_append (pe_ix ix_D (pe_fld (pv 0) rfl) (pd_name 1) (fun _ _ => rfl)) (pa_cons (pd_name 2) pa_nil))) (pss_one (ps_ret pd_bl))))))), ?_⟩)
  · obtain ⟨x, l, as, hl, rl, vb, b, p, wi, t, rfl, _⟩ := h
    rfl
  · obtain ⟨x, l, as, hl, rl, vb, b, p, wi, t, rfl, R, PO, rll, w0, wm, wz, qs, qn⟩ := h
    have sl : ∀ {G : Hp} {x3 x4 : Option V}, SlD M0 G [some (.ref x), some (.int wi), some (.int t), x3, x4] [none, some (.int wi), some (.int t), none, none] := fun {G x3 x4} => .no _ (.yes (.int _) (.yes (.int _) (.no _ (.no _ .nil))))
    have go : goI b p (.put wi t) = (p.H wi.toNat).bind fun h => if ((br b h.1)[h.2]?).map (fun (n : Nat) => (n : Int)) = some t then some ⟨p.rows.set wi.toNat (p.R wi.toNat ++ [t.toNat]), p.holds.set wi.toNat (some (h.1, h.2 + 1)), p.rests⟩ else none := by
      unfold goI
      rw [if_pos ⟨w0, wm, wz⟩]
    -- holds nothing?
    refine z_seq ?_
    refine z_if ?_
    refine z_op ?_
    refine rd_hold RT R PO rfl (Ok.none H) sl (eVar_get rfl) w0 wm fun vh H1 s1 rh => ?_
    refine rd_non fun H2 s2 => ?_
    have s12 := L2.Same.trans s1 s2
    have R2 := R.same s12
    refine os_isA (M5 l as hl rl x) H2 _ _ (encH (p.H wi.toNat)) .none (.bool (p.H wi.toNat).isNone) _ R2.ok (rh.same s2) .non (by show some (PyData.bool (isNon (encH (p.H wi.toNat)))) = _; rw [isn_encH]) fun v3 H3 s3 r3 => ?_
    cases r3
    refine ⟨_, rfl, ?_⟩
    have s13 := L2.Same.trans s12 s3
    have hcase : p.H wi.toNat = none ∨ ∃ g, p.H wi.toNat = some g := by
      cases p.H wi.toNat with
      | none => exact .inl rfl
      | some g => exact .inr ⟨g, rfl⟩
    rcases hcase with hh | ⟨g, hh⟩
    · refine if_true_of (by rw [hh]; rfl) ?_
      refine z_ret ?_
      refine tp_ok (Ok.none H3) (SlD.nones _) (show eC (.bool false) _ = some (.bool false) from rfl) fun v6 H6 s6 r6 => ?_
      cases r6
      exact qn _ (by rw [go, hh]; rfl) (frm (L2.Same.trans s13 s6))
    · refine if_false_of (by rw [hh]; rfl) ?_
      dsimp only [tNext]
      have R3 := R.same s13
      have og := PO.hs g (Pl.H_of hh)
      -- parent, n
      refine z_seq ?_
      refine z_asg ?_
      refine rd_hold RT R3 PO rfl (Ok.none H3) sl (eVar_get rfl) w0 wm fun vh2 H4 s4 rh2 => ?_
      rw [hh] at rh2
      cases rh2 with
      | tup a1 n1 r1 =>
        cases r1 with
        | cons ra r1 =>
          cases r1 with
          | cons rb r1 =>
            cases r1
            cases ra
            cases rb
            refine ⟨_, _, rfl, SqT.of a1, rfl, .int _, _, rfl, .int _, _, rfl, rfl, ?_⟩
            dsimp only
            have s34 := s4
            have R4 := R3.same s4
            have sl4 : ∀ {G : Hp}, SlD M0 G [some (.ref x), some (.int wi), some (.int t), some (.int (g.1 : Int)), some (.int (g.2 : Int))] [none, some (.int wi), some (.int t), some (.int (g.1 : Int)), some (.int (g.2 : Int))] := fun {G} => .no _ (.yes (.int _) (.yes (.int _) (.yes (.int _) (.yes (.int _) .nil))))
            -- brood[parent][n:n+1] != [task]
            refine z_seq ?_
            refine z_if ?_
            refine z_op ?_
            refine rd_kids RT R4 rfl (Ok.none H4) sl4 (eVar_get rfl) og.1 fun vk H5 s5 rk => ?_
            refine tp_int (i := (g.2 : Int)) (Ok.none H5) sl4 (eVar_get rfl) fun H6 s6 => ⟨_, rfl, ?_⟩
            refine tp_int (i := (g.2 : Int) + 1) (Ok.none H6) sl4 (add_ev (eVar_get rfl) rfl) fun H7 s7 => ⟨_, rfl, ?_⟩
            have s57 := L2.Same.trans s6 s7
            have cutE : Pu.cutD (encN (br b g.1)) (some (g.2 : Int)) (some ((g.2 : Int) + 1)) = encN (((br b g.1).drop g.2).take 1) := by
              have e : ((g.2 : Int) + 1) = ((g.2 + 1 : Nat) : Int) := by omega
              unfold Pu.cutD
              rw [e, HT.sIx_nat, HT.sIx_nat]
              have hl2 : (encN (br b g.1)).length = (br b g.1).length := by unfold encN; rw [List.length_map]
              rw [hl2, Nat.min_eq_left og.2]
              rcases Nat.lt_or_ge g.2 (br b g.1).length with q | q
              · rw [Nat.min_eq_left (by omega), encN_drop, encN_take]
                congr 2; omega
              · rw [Nat.min_eq_right (by omega), encN_drop, encN_take, List.drop_of_length_le q]
                simp
            refine os_slL (M5 l as hl rl x) H7 vk (encN (br b g.1)) _ _ _ (R4.same (L2.Same.trans s5 s57)).ok (rk.same s57) fun vc H8 s8 rc => ?_
            rw [cutE] at rc
            refine tp_ok (Ok.none H8) sl4 (show eLst (esCons (eVar 2) esNil) _ = some (.list [.int t]) from q_lst (q_cons (eVar_get rfl) q_nil) (by show 1 ≤ 1000; decide)) fun vt H9 s9 rt => ?_
            have neE : oNe (.list (encN (((br b g.1).drop g.2).take 1))) (.list [.int t]) = some (.bool (!decide (((br b g.1)[g.2]?).map (fun (n : Nat) => (n : Int)) = some t))) := by
              have q1 : SeqAt.shaped (.list (encN (((br b g.1).drop g.2).take 1))) = true := good_sh (good_L _ (by rw [List.length_take]; omega)) (by omega)
              have q2 : SeqAt.shaped (.list [.int t]) = true := rfl
              unfold oNe
              rw [if_pos ⟨q1, q2⟩, eqv_one, head_drop]
            refine os_ne M0 H9 vc vt (.list (encN (((br b g.1).drop g.2).take 1))) (.list [.int t]) _ _ (Ok.none _) ((rc.mono (fun a o n e => ⟨fun z => z, e⟩) _ _).same s9) rt neE fun v10 H10 s10 r10 => ?_
            cases r10
            refine ⟨_, rfl, ?_⟩
            have s410 := L2.Same.trans s5 (L2.Same.trans s57 (L2.Same.trans s8 (L2.Same.trans s9 s10)))
            have s010 := L2.Same.trans s13 (L2.Same.trans s4 s410)
            have R10 := R4.same s410
            by_cases c : ((br b g.1)[g.2]?).map (fun (n : Nat) => (n : Int)) = some t
            · refine if_false_of (by rw [decide_eq_true c]; rfl) ?_
              dsimp only [tNext]
              have ht : ((t.toNat : Nat) : Int) = t := by
                cases hx : (br b g.1)[g.2]? with
                | none => rw [hx] at c; cases c
                | some y =>
                  rw [hx, Option.map_some] at c
                  have := Option.some.inj c
                  omega
              -- holds
              refine z_seq ?_
              refine z_asg ?_
              refine tp_ok (Ok.none H10) sl4 (show _ = some (encH (some (g.1, g.2 + 1))) by rw [q_tup (q_cons (eVar_get (i := 3) (d := .int (g.1 : Int)) rfl) (q_cons (add_ev (f := eVar 4) (x := (g.2 : Int)) (y := 1) (eVar_get rfl) rfl) q_nil)) (by simp)]; rfl) fun v11 H11 s11 r11 => ?_
              have R11 := R10.same s11
              refine rd_holds RT R11 rfl ?_
              refine tp_int (i := wi) (Ok.none H11) sl4 (eVar_get rfl) fun H12 s12' => ?_
              have R12 := R11.same s12'
              obtain ⟨hv, h1, h2⟩ := R12.own.holds
              have hlen : hv.length = p.rows.length := by
                have := h2.length
                rw [List.length_map] at this
                rw [this]
                exact PO.lh
              have hix : ixN hv.length wi = some wi.toNat := by
                unfold ixN
                rw [if_pos w0, if_pos (by omega)]
              refine ⟨hl, hv, _, _, rfl, rfl, h1, hix, ?_⟩
              have O13 := R12.own.setHold (i := wi.toNat) (h := some (g.1, g.2 + 1)) h1 (encH_M R12.own.notup (r11.same s12'))
              have f13 : ∀ a o', ¬ MG l as hl a → H a = some o' → L2.upd H12 hl (.lst (hv.set wi.toNat v11)) a = some o' := fun a o' n z => by
                rw [L2.upd_ne (fun (y : a = hl) => n (.inr (.inr y)))]
                exact s12' _ _ (s11 _ _ (s010 _ _ z))
              have R13 := R.put (q := ⟨p.rows, p.holds.set wi.toNat (some (g.1, g.2 + 1)), p.rests⟩) O13 rfl f13
              revert O13 f13 R13
              generalize L2.upd H12 hl (.lst (hv.set wi.toNat v11)) = G13
              intro O13 f13 R13
              dsimp only
              -- rows
              refine z_seq ?_
              refine z_drop ?_
              refine rd_row RT R13 rfl (Ok.none G13) sl4 (eVar_get rfl) w0 wm fun ao G14 t14 e1 hao => ?_
              have hm := List.mem_of_getElem? e1
              have hR : p.rows[wi.toNat]? = some (p.R wi.toNat) := get_of (by omega)
              have hle := rll _ (List.mem_of_getElem? hR)
              have hao' : G14 ao = some (.lst (vN (p.R wi.toNat))) := hao
              refine ⟨.inl ⟨rfl, _, SqL.of hao'⟩, ?_⟩
              refine tp_int (i := t) (Ok.none G14) sl4 (eVar_get rfl) fun G15 t15 => ?_
              refine ⟨ao, _, _, rfl, rfl, t15 _ _ hao', by rw [vN_len, sizeLine_eq]; omega, ?_⟩
              have hv9 : vN (p.R wi.toNat ++ [t.toNat]) = vN (p.R wi.toNat) ++ [.int t] := by
                unfold vN
                rw [List.map_append, List.map_singleton, ht]
              have O16 := ((O13.same t14).same t15).setRow (r := p.R wi.toNat ++ [t.toNat]) e1
              rw [hv9] at O16
              have f16 : ∀ a o', ¬ MG l as hl a → H a = some o' → L2.upd G15 ao (.lst (vN (p.R wi.toNat) ++ [.int t])) a = some o' := fun a o' n z => by
                rw [L2.upd_ne (fun (y : a = ao) => n (.inr (.inl (by rw [y]; exact hm))))]
                exact t15 _ _ (t14 _ _ (f13 a o' n z))
              dsimp only
              refine z_ret ?_
              refine tp_ok (Ok.none _) (SlD.nones _) (show eC (.bool true) _ = some (.bool true) from rfl) fun v17 G17 t17 r17 => ?_
              cases r17
              exact qs _ _ (by rw [go, hh, Option.bind_some, if_pos c]) (fun a o' n z => t17 _ _ (f16 a o' n z)) (O16.same t17)
            · refine if_true_of (by rw [decide_eq_false c]; rfl) ?_
              refine z_ret ?_
              refine tp_ok (Ok.none H10) (SlD.nones _) (show eC (.bool false) _ = some (.bool false) from rfl) fun v11 H11 s11 r11 => ?_
              cases r11
              exact qn _ (by rw [go, hh, Option.bind_some, if_neg c]) (frm (L2.Same.trans s010 s11))

theorem ok_does {P : Program} {w : World} {K : PySem.W.Frag} {mg : Str → Option Value} {base : Heap} (T : Txt K mg) : FnOk P w K mg base CX0 1 T.f_does T.fd_does ["self", "worker", "task"] (spDoes T.C_R) := by
  have RT : RTx K T.C_R := ⟨T.cl, T.n_brood, T.n_rows, T.n_holds, T.n_rests⟩
  refine T.F_does.ok sc_does (fun vs H Q E h => ?_) (fun cdv A outer s H vs Q E hr h => ⟨_, (pss_cons (ps_if (PW.pt (pw_or (pt_cmpR op_isA (pe_ix ix_D (pe_fld (pv 0) rfl) (pd_name 1) (fun _ _ => rfl)) pd_non (nomark _)) (pw_or1 (pt_cmpR (op_neD hr.units) (pe_ix ix_D (pe_ix ix_D (pe_fld (pv 0) rfl) (pd_name 1) (fun _ _ => rfl)) pd_int (fun _ _ => rfl)) (pd_name 2) (nomark _))))) (pss_one (ps_ret pd_bl)) pss_nil) (pss_cons (ps_if (pt_cmpR op_lt (pe_ix ix_D (pe_ix ix_D (pe_fld (pv 0) rfl) (pd_name 1) (fun _ _ => rfl)) pd_int (fun _ _ => rfl)) (pe_callB cr_len rfl T.z_len bt_len (pa_cons (pe_ix ix_D (pe_fld (pv 0) rfl) (pd_name 2) (fun _ _ => rfl)) pa_nil)) (nomark _)) (pss_one (ps_ret pd_bl)) pss_nil) (pss_cons (ps_asg pd_non (pg_sub (pe_fld (pv 0) rfl) (pd_name 1) set_list)) (pss_one (ps_ret pd_bl))))), ?_⟩)
  · obtain ⟨x, l, as, hl, rl, vb, b, p, wi, t, rfl, _⟩ := h
    rfl
  · obtain ⟨x, l, as, hl, rl, vb, b, p, wi, t, rfl, R, PO, w0, wm, wz, qs, qn⟩ := h
    have sl : ∀ {G : Hp}, SlD M0 G [some (.ref x), some (.int wi), some (.int t)] [none, some (.int wi), some (.int t)] := fun {G} => .no _ (.yes (.int _) (.yes (.int _) .nil))
    have go : goI b p (.done wi t) = (p.H wi.toNat).bind fun h => if (h.1 : Int) = t ∧ (br b h.1).length ≤ h.2 then some ⟨p.rows, p.holds.set wi.toNat none, p.rests⟩ else none := by
      unfold goI
      rw [if_pos ⟨w0, wm, wz⟩]
    -- the first test
    refine z_seq ?_
    refine z_if ?_
    refine z_op ?_
    refine rd_hold RT R PO rfl (Ok.none H) sl (eVar_get rfl) w0 wm fun vh H1 s1 rh => ?_
    refine rd_non fun H2 s2 => ?_
    have s12 := L2.Same.trans s1 s2
    have R2 := R.same s12
    refine os_isA (M5 l as hl rl x) H2 _ _ (encH (p.H wi.toNat)) .none (.bool (p.H wi.toNat).isNone) _ R2.ok (rh.same s2) .non (by show some (PyData.bool (isNon (encH (p.H wi.toNat)))) = _; rw [isn_encH]) fun v3 H3 s3 r3 => ?_
    cases r3
    refine ⟨_, rfl, ?_⟩
    have s13 := L2.Same.trans s12 s3
    have R3 := R.same s13
    have hcase : p.H wi.toNat = none ∨ ∃ g, p.H wi.toNat = some g := by
      cases p.H wi.toNat with
      | none => exact .inl rfl
      | some g => exact .inr ⟨g, rfl⟩
    rcases hcase with hh | ⟨g, hh⟩
    · refine if_true_of (by rw [hh]; rfl) ?_
      refine iteT ?_
      refine tp_ok (Ok.none _) (SlD.nones _) (show eC (.bool false) _ = some (.bool false) from rfl) fun v6 H6 s6 r6 => ?_
      cases r6
      exact qn _ (by rw [go, hh]; rfl) (frm (L2.Same.trans s13 s6))
    · refine if_false_of (by rw [hh]; rfl) ?_
      have og := PO.hs g (Pl.H_of hh)
      refine z_op ?_
      refine z_op ?_
      refine rd_hold RT R3 PO rfl (Ok.none H3) sl (eVar_get rfl) w0 wm fun vh2 H4 s4 rh2 => ?_
      rw [hh] at rh2
      refine rd_int fun H5 s5 => ?_
      have R5 := R3.same (L2.Same.trans s4 s5)
      refine os_ix (M5 l as hl rl x) H5 _ _ (encH (some g)) (.int 0) (.int (g.1 : Int)) _ R5.ok (rh2.same s5) (.int _) oIx0 fun v6 H6 s6 r6 => ?_
      cases r6
      refine tp_int (i := t) (Ok.none H6) sl (eVar_get rfl) fun H7 s7 => ?_
      refine os_ne M0 H7 _ _ (.int (g.1 : Int)) (.int t) (.bool (!((g.1 : Int) == t))) _ (Ok.none _) (.int _) (.int _) (oNe_int _ _) fun v8 H8 s8 r8 => ?_
      cases r8
      refine ⟨_, rfl, ?_⟩
      have s38 := L2.Same.trans s4 (L2.Same.trans s5 (L2.Same.trans s6 (L2.Same.trans s7 s8)))
      have s08 := L2.Same.trans s13 s38
      by_cases c1 : (g.1 : Int) = t
      · refine if_false_of (show (!((g.1 : Int) == t)) = false by rw [c1]; simp) ?_
        dsimp only [tNext]
        have R8 := R3.same s38
        -- the second test
        refine z_seq ?_
        refine z_if ?_
        refine z_op ?_
        refine z_op ?_
        refine rd_hold RT R8 PO rfl (Ok.none H8) sl (eVar_get rfl) w0 wm fun vh3 H9 s9 rh3 => ?_
        rw [hh] at rh3
        refine rd_int fun H10 s10 => ?_
        have R10 := R8.same (L2.Same.trans s9 s10)
        refine os_ix (M5 l as hl rl x) H10 _ _ (encH (some g)) (.int 1) (.int (g.2 : Int)) _ R10.ok (rh3.same s10) (.int _) oIx1 fun v11 H11 s11 r11 => ?_
        cases r11
        have R11 := R10.same s11
        refine rd_kids RT R11 rfl (Ok.none H11) sl (t := g.1) (by rw [c1]; exact eVar_get rfl) og.1 fun vk H12 s12' rk => ?_
        dsimp only [tNil]
        refine cs_len (M5 l as hl rl x) H12 [vk] [encL (br b g.1)] (.int ((br b g.1).length : Int)) _ (R11.same s12').ok (.cons rk .nil) (by show some (PyData.int ((encN (br b g.1)).length : Int)) = _; unfold encN; rw [List.length_map]) fun v13 H13 s13' r13 => ?_
        cases r13
        refine ⟨_, _, rfl, rfl, _, rfl, ?_⟩
        have s813 := L2.Same.trans s9 (L2.Same.trans s10 (L2.Same.trans s11 (L2.Same.trans s12' s13')))
        have s013 := L2.Same.trans s08 s813
        by_cases c2 : (br b g.1).length ≤ g.2
        · refine if_false_of (decide_eq_false (by omega)) ?_
          dsimp only [tNext]
          have R13 := R8.same s813
          refine z_seq ?_
          refine z_asg ?_
          refine rd_non fun H14 s14 => ?_
          have R14 := R13.same s14
          refine rd_holds RT R14 rfl ?_
          refine tp_int (i := wi) (Ok.none H14) sl (eVar_get rfl) fun H15 s15 => ?_
          have R15 := R14.same s15
          obtain ⟨hv, h1, h2⟩ := R15.own.holds
          have hlen : hv.length = p.rows.length := by
            have := h2.length
            rw [List.length_map] at this
            rw [this]
            exact PO.lh
          have hix : ixN hv.length wi = some wi.toNat := by
            unfold ixN
            rw [if_pos w0, if_pos (by omega)]
          refine ⟨hl, hv, _, _, rfl, rfl, h1, hix, ?_⟩
          have O16 := R15.own.setHold (i := wi.toNat) (v := .non) (h := none) h1 .non
          have f16 : ∀ a o', ¬ MG l as hl a → H a = some o' → L2.upd H15 hl (.lst (hv.set wi.toNat .non)) a = some o' := fun a o' n z => by
            rw [L2.upd_ne (fun (y : a = hl) => n (.inr (.inr y)))]
            exact s15 _ _ (s14 _ _ (s013 _ _ z))
          dsimp only
          refine z_ret ?_
          refine tp_ok (Ok.none _) (SlD.nones _) (show eC (.bool true) _ = some (.bool true) from rfl) fun v17 G17 t17 r17 => ?_
          cases r17
          exact qs _ _ (by rw [go, hh, Option.bind_some, if_pos ⟨c1, c2⟩]) (fun a o' n z => t17 _ _ (f16 a o' n z)) (O16.same t17)
        · refine if_true_of (decide_eq_true (by omega)) ?_
          refine tp_ok (Ok.none _) (SlD.nones _) (show eC (.bool false) _ = some (.bool false) from rfl) fun v14 H14 s14 r14 => ?_
          cases r14
          exact qn _ (by rw [go, hh, Option.bind_some, if_neg fun z => c2 z.2]) (frm (L2.Same.trans s013 s14))
      · refine if_true_of (show (!((g.1 : Int) == t)) = true by rw [beq_eq_false_iff_ne.mpr c1]; rfl) ?_
        refine z_ret ?_
        refine tp_ok (Ok.none _) (SlD.nones _) (show eC (.bool false) _ = some (.bool false) from rfl) fun v9 H9 s9 r9 => ?_
        cases r9
        exact qn _ (by rw [go, hh, Option.bind_some, if_neg fun z => c1 z.1]) (frm (L2.Same.trans s08 s9))

theorem ok_goes {P : Program} {w : World} {K : PySem.W.Frag} {mg : Str → Option Value} {base : Heap} (T : Txt K mg) : FnOk P w K mg base CX0 2 T.f_goes T.fd_goes ["self", "event"] (spGoes T.C_R) := by
  have RT : RTx K T.C_R := ⟨T.cl, T.n_brood, T.n_rows, T.n_holds, T.n_rests⟩
  have G_is_worker := ok_is_worker (P := P) (w := w) (base := base) T
  have G_takes := ok_takes (P := P) (w := w) (base := base) T
  have G_puts := ok_puts (P := P) (w := w) (base := base) T
  have G_does := ok_does (P := P) (w := w) (base := base) T
  refine T.F_goes.ok sc_goes (fun vs H Q E h => ?_) (fun cdv A outer s H vs Q E hr h => ⟨_, (pss_cons (ps_asg (pd_sl (pd_name 1) po_n (po_p pd_int)) (pg_tup rfl (pgs_cons (pg_name (i := 2) sc_goes.nd rfl (by first | exact Or.inl rfl | exact Or.inr rfl)) (pgs_cons (pg_name (i := 3) sc_goes.nd rfl (by first | exact Or.inl rfl | exact Or.inr rfl)) pgs_nil)))) (pss_cons (ps_if (PW.pt (pw_or (pt_not (pt_val (pe_meth (pv 0) T.cl T.m_is_worker G_is_worker (hr.mono (by decide)) T.b_is_worker .nil pass0 (pa_cons (pd_name 3) pa_nil)))) (pw_or1 (pt_val (pe_ix ix_D (pe_fld (pv 0) rfl) (pd_name 3) (fun _ _ => rfl)))))) (pss_one (ps_ret pd_bl)) pss_nil) (pss_cons (ps_if (ptd_cmp (op_eqD hr.units) os_eq (pd_name 2) pd_str (nomark _)) (pss_one (ps_ret (pe_meth (pv 0) T.cl T.m_takes G_takes (hr.mono (by decide)) T.b_takes .nil pass0 (pa_cons (pd_name 3) (pa_cons (pd_name 3) (pa_cons (pd_ix (pd_name 1) pd_int) (pa_cons (pd_un un_neg us_neg pd_int) pa_nil))))))) pss_nil) (pss_cons (ps_if (ptd_cmp (op_eqD hr.units) os_eq (pd_name 2) pd_str (nomark _)) (pss_cons (ps_if (PW.pt (pw_or (pt_not (pt_val (pe_meth (pv 0) T.cl T.m_is_worker G_is_worker (hr.mono (by decide)) T.b_is_worker .nil pass0 (pa_cons (pd_ix (pd_name 1) pd_int) pa_nil)))) (pw_or1 (ptd_cmp (op_eqD hr.units) os_eq (pd_ix (pd_name 1) pd_int) (pd_name 3) (nomark _))))) (pss_one (ps_ret pd_bl)) pss_nil) (pss_one (ps_ret (pe_meth (pv 0) T.cl T.m_takes G_takes (hr.mono (by decide)) T.b_takes .nil pass0 (pa_cons (pd_name 3) (pa_cons (pd_ix (pd_name 1) pd_int) (pa_cons (pd_ix (pd_name 1) pd_int) (pa_cons pd_int pa_nil)))))))) pss_nil) (pss_cons (ps_if (ptd_cmp (op_eqD hr.units) os_eq (pd_name 2) pd_str (nomark _)) (pss_one (ps_ret (pe_meth (pv 0) T.cl T.m_puts G_puts (hr.mono (by decide)) T.b_puts .nil pass0 (pa_cons (pd_name 3) (pa_cons (pd_ix (pd_name 1) pd_int) pa_nil))))) pss_nil) (pss_cons (ps_if (ptd_cmp (op_eqD hr.units) os_eq (pd_name 2) pd_str (nomark _)) (pss_one (ps_ret (pe_meth (pv 0) T.cl T.m_does G_does (hr.mono (by decide)) T.b_does .nil pass0 (pa_cons (pd_name 3) (pa_cons (pd_ix (pd_name 1) pd_int) pa_nil))))) pss_nil) (pss_cons (ps_asg pd_bl (pg_sub (pe_fld (pv 0) rfl) (pd_name 3) set_list)) (pss_one (ps_ret (pe_and (pe_cmpR op_isA (pe_ix ix_D (pe_fld (pv 0) rfl) (pd_name 3) (fun _ _ => rfl)) pd_non (nomark _)) (pe_one (pe_cmpR (op_eqD hr.units) (pe_ix ix_D (pe_fld (pv 0) rfl) (pd_name 3) (fun _ _ => rfl)) (pd_lst pda_nil) (nomark _))))))))))))), ?_⟩)
  · obtain ⟨x, l, as, hl, rl, vb, ve, b, p, e, rfl, _⟩ := h
    rfl
  · obtain ⟨x, l, as, hl, rl, vb, ve, b, p, e, rfl, R, re, PO, rll, qs, qn⟩ := h
    have sl1 : ∀ {G : Hp} {x2 x3 : Option V}, Same H G → SlD M0 G [some (.ref x), some ve, x2, x3] [none, some (encI e), none, none] := fun {G x2 x3} s' => .no _ (.yes ((re.same s').mono (fun a o n z => ⟨fun y => y, z⟩) _ _) (.no _ (.no _ .nil)))
    have fS : ∀ {G : Hp}, Same H G → ∀ a o, ¬ M5 l as hl rl x a → H a = some o → G a = some o := fun s' a o _ z => s' a o z
    -- word, worker
    refine z_seq ?_
    refine z_asg ?_
    refine tp_ok (Ok.none H) (sl1 (L2.Same.refl _)) (cut_2 (eVar_get rfl)) fun v1 H1 s1 r1 => ?_
    cases r1 with
    | tup a1 n1 r1 =>
      cases r1 with
      | cons ra r1 =>
        cases r1 with
        | cons rb r1 =>
          cases r1
          cases ra
          cases rb
          refine ⟨_, _, rfl, SqT.of a1, rfl, .str _, _, rfl, .int _, _, rfl, rfl, ?_⟩
          dsimp only
          have slW : ∀ {G : Hp}, Same H G → SlD M0 G [some (.ref x), some ve, some (.str (wordI e)), some (.int (wOf e))] [none, some (encI e), some (.str (wordI e)), some (.int (wOf e))] := fun {G} s' => ((sl1 (x2 := none) (x3 := none) s').set 2 (.str _)).set 3 (.int _)
          have no : ¬ (0 ≤ wOf e ∧ wOf e < (p.rows.length : Int) ∧ p.Z (wOf e).toNat = false) → goI b p e = none := fun h => by
            unfold goI
            rw [if_neg h]
          have R1 := R.same s1
          obtain ⟨dx, ob1⟩ := R1.ob
          -- the first test
          refine z_seq ?_
          refine z_if ?_
          refine ⟨_, rfl, x, dx, _, rfl, ob1, fR_no (by decide +kernel) (by decide +kernel) (by decide +kernel) (by decide +kernel), ?_⟩
          refine tp_int (i := wOf e) (Ok.none H1) (slW s1) (eVar_get rfl) fun H2 s2 => ?_
          refine ⟨x, l, as, hl, rl, vb, b, p, wOf e, rfl, R1.same s2, fun H3 s3 => ?_⟩
          have s13 := L2.Same.trans s2 s3
          have s03 := L2.Same.trans s1 s13
          refine ⟨_, rfl, ?_⟩
          by_cases c0 : 0 ≤ wOf e ∧ wOf e < (p.rows.length : Int)
          · obtain ⟨w0, wm⟩ := c0
            refine if_false_of (show (!decide (0 ≤ wOf e ∧ wOf e < (p.rows.length : Int))) = false by rw [decide_eq_true ⟨w0, wm⟩]; rfl) ?_
            have R3 := R.same s03
            refine rd_rest RT R3 PO rfl (Ok.none H3) (slW s03) (eVar_get rfl) w0 wm fun H4 s4 => ?_
            refine ⟨_, rfl, ?_⟩
            have s04 := L2.Same.trans s03 s4
            have hz : p.Z (wOf e).toNat = true ∨ p.Z (wOf e).toNat = false := by cases p.Z (wOf e).toNat <;> simp
            rcases hz with wz | wz
            · refine if_true_of wz ?_
              refine z_ret ?_
              refine tp_ok (Ok.none _) (SlD.nones _) (show eC (.bool false) _ = some (.bool false) from rfl) fun v5 H5 s5 r5 => ?_
              cases r5
              exact qn _ (no fun z => by rw [wz] at z; cases z.2.2) (fS (L2.Same.trans s04 s5))
            · refine if_false_of wz ?_
              dsimp only [tNext]
              have tw : ∀ (y : Str), SeqAt.shaped (.str y) = true → bT (eOp oEq (eVar 2) (eC (.str y))) [none, some (encI e), some (.str (wordI e)), some (.int (wOf e))] = some (decide (wordI e = y)) := fun y hy => bT_of (by rw [eOp_ev (eVar_get rfl) rfl, oEq_str (sh_wordI e) hy])
              have R4 := R.same s04
              -- own
              refine z_seq ?_
              refine z_if ?_
              refine tpt_ok (Ok.none H4) (slW s04) (tw "own" sh_own) fun H5 s5 => ?_
              have s05 := L2.Same.trans s04 s5
              cases e with
              | own wi t =>
                refine iteT ?_
                dsimp only [wOf] at w0 wm wz
                refine z_ret ?_
                obtain ⟨dx5, ob5⟩ := (R.same s05).ob
                refine ⟨_, rfl, x, dx5, _, rfl, ob5, fR_no (by decide +kernel) (by decide +kernel) (by decide +kernel) (by decide +kernel), ?_⟩
                refine tp_int (i := wi) (Ok.none H5) (slW s05) (eVar_get rfl) fun G1 t1 => ?_
                refine tp_int (i := wi) (Ok.none G1) (slW (L2.Same.trans s05 t1)) (eVar_get rfl) fun G2 t2 => ?_
                refine tp_int (i := t) (Ok.none G2) (slW (L2.Same.trans s05 (L2.Same.trans t1 t2))) (by rw [eOp_ev (eVar_get rfl) rfl]; exact oIx2) fun G3 t3 => ?_
                refine tp_int (i := -1) (Ok.none G3) (SlD.nones _) rfl fun G4 t4 => ?_
                have t14 := L2.Same.trans t1 (L2.Same.trans t2 (L2.Same.trans t3 t4))
                have sG := L2.Same.trans s05 t14
                have go := goI_take (b := b) (e := .own wi t) rfl w0 wm wz
                refine ⟨x, l, as, hl, rl, vb, b, p, wi, wi, t, false, rfl, R.same sG, PO, rll, w0, wm, w0, wm, fun H' okk f O => ?_, fun H' okk f => ?_⟩
                · refine qs _ H' (go.trans (if_pos ⟨okk.1, fun z => (by cases z), w0, wm, okk.2⟩)) (fun a o n z => f a o (fun m => n (.inl m)) (sG _ _ z)) ?_
                  exact (R.same sG).put O rfl f
                · exact qn H' (go.trans (if_neg fun z => okk ⟨z.1, z.2.2.2.2⟩)) (fun a o n z => f a o (fun m => n (.inl m)) (sG _ _ z))
              | taken wi o t =>
                refine iteF ?_
                dsimp only [tNext]
                dsimp only [wOf] at w0 wm wz
                refine z_seq ?_
                refine z_if ?_
                refine tpt_ok (Ok.none H5) (slW s05) (tw "taken" sh_taken) fun H6 s6 => ?_
                refine iteT ?_
                have s06 := L2.Same.trans s05 s6
                obtain ⟨dx6, ob6⟩ := (R.same s06).ob
                have i2 : eOp oIx (eVar 1) (eC (.int 2)) [none, some (encI (.taken wi o t)), some (.str (wordI (.taken wi o t))), some (.int (wOf (.taken wi o t)))] = some (.int o) := by rw [eOp_ev (eVar_get rfl) rfl]; exact oIx2
                have i3 : eOp oIx (eVar 1) (eC (.int 3)) [none, some (encI (.taken wi o t)), some (.str (wordI (.taken wi o t))), some (.int (wOf (.taken wi o t)))] = some (.int t) := by rw [eOp_ev (eVar_get rfl) rfl]; rfl
                have go := goI_take (b := b) (e := .taken wi o t) rfl w0 wm wz
                refine z_seq ?_
                refine z_if ?_
                refine ⟨_, rfl, x, dx6, _, rfl, ob6, fR_no (by decide +kernel) (by decide +kernel) (by decide +kernel) (by decide +kernel), ?_⟩
                refine tp_int (i := o) (Ok.none H6) (slW s06) i2 fun H7 s7 => ?_
                have s07 := L2.Same.trans s06 s7
                refine ⟨x, l, as, hl, rl, vb, b, p, o, rfl, R.same s07, fun H8 s8 => ?_⟩
                have s08 := L2.Same.trans s07 s8
                refine ⟨_, rfl, ?_⟩
                by_cases c1 : 0 ≤ o ∧ o < (p.rows.length : Int)
                · refine if_false_of (show (!decide (0 ≤ o ∧ o < (p.rows.length : Int))) = false by rw [decide_eq_true c1]; rfl) ?_
                  refine tpt_ok (Ok.none H8) (slW s08) (eq_ev i2 (eVar_get rfl)) fun H9 s9 => ?_
                  have s09 := L2.Same.trans s08 s9
                  by_cases c2 : o = wi
                  · refine if_true_of (show (o == wi) = true from beq_iff_eq.mpr c2) ?_
                    refine z_ret ?_
                    refine tp_ok (Ok.none _) (SlD.nones _) (show eC (.bool false) _ = some (.bool false) from rfl) fun v10 H10 s10 r10 => ?_
                    cases r10
                    exact qn _ (go.trans (if_neg fun z => z.2.1 rfl c2)) (fS (L2.Same.trans s09 s10))
                  · refine if_false_of (show (o == wi) = false from beq_eq_false_iff_ne.mpr c2) ?_
                    dsimp only [tNext]
                    refine z_ret ?_
                    obtain ⟨dx9, ob9⟩ := (R.same s09).ob
                    refine ⟨_, rfl, x, dx9, _, rfl, ob9, fR_no (by decide +kernel) (by decide +kernel) (by decide +kernel) (by decide +kernel), ?_⟩
                    refine tp_int (i := wi) (Ok.none H9) (slW s09) (eVar_get rfl) fun G1 t1 => ?_
                    refine tp_int (i := o) (Ok.none G1) (slW (L2.Same.trans s09 t1)) i2 fun G2 t2 => ?_
                    refine tp_int (i := t) (Ok.none G2) (slW (L2.Same.trans s09 (L2.Same.trans t1 t2))) i3 fun G3 t3 => ?_
                    refine tp_int (i := 0) (Ok.none G3) (SlD.nones _) rfl fun G4 t4 => ?_
                    have t14 := L2.Same.trans t1 (L2.Same.trans t2 (L2.Same.trans t3 t4))
                    have sG := L2.Same.trans s09 t14
                    refine ⟨x, l, as, hl, rl, vb, b, p, wi, o, t, true, rfl, R.same sG, PO, rll, w0, wm, c1.1, c1.2, fun H' okk f O => ?_, fun H' okk f => ?_⟩
                    · refine qs _ H' (go.trans (if_pos ⟨okk.1, fun _ => c2, c1.1, c1.2, okk.2⟩)) (fun a o n z => f a o (fun m => n (.inl m)) (sG _ _ z)) ?_
                      exact (R.same sG).put O rfl f
                    · exact qn H' (go.trans (if_neg fun z => okk ⟨z.1, z.2.2.2.2⟩)) (fun a o n z => f a o (fun m => n (.inl m)) (sG _ _ z))
                · refine if_true_of (show (!decide (0 ≤ o ∧ o < (p.rows.length : Int))) = true by rw [decide_eq_false c1]; rfl) ?_
                  refine iteT ?_
                  refine z_ret ?_
                  refine tp_ok (Ok.none _) (SlD.nones _) (show eC (.bool false) _ = some (.bool false) from rfl) fun v10 H10 s10 r10 => ?_
                  cases r10
                  exact qn _ (go.trans (if_neg fun z => c1 ⟨z.2.2.1, z.2.2.2.1⟩)) (fS (L2.Same.trans s08 s10))
              | put wi t =>
                refine iteF ?_
                dsimp only [tNext]
                dsimp only [wOf] at w0 wm wz
                refine z_seq ?_
                refine z_if ?_
                refine tpt_ok (Ok.none H5) (slW s05) (tw "taken" sh_taken) fun H6 s6 => ?_
                refine iteF ?_
                dsimp only [tNext]
                have s06 := L2.Same.trans s05 s6
                refine z_seq ?_
                refine z_if ?_
                refine tpt_ok (Ok.none H6) (slW s06) (tw "put" sh_put) fun H7 s7 => ?_
                refine iteT ?_
                have s07 := L2.Same.trans s06 s7
                refine z_ret ?_
                obtain ⟨dx7, ob7⟩ := (R.same s07).ob
                refine ⟨_, rfl, x, dx7, _, rfl, ob7, fR_no (by decide +kernel) (by decide +kernel) (by decide +kernel) (by decide +kernel), ?_⟩
                refine tp_int (i := wi) (Ok.none H7) (slW s07) (eVar_get rfl) fun G1 t1 => ?_
                refine tp_int (i := t) (Ok.none G1) (slW (L2.Same.trans s07 t1)) (by rw [eOp_ev (eVar_get rfl) rfl]; exact oIx2) fun G2 t2 => ?_
                have sG := L2.Same.trans s07 (L2.Same.trans t1 t2)
                refine ⟨x, l, as, hl, rl, vb, b, p, wi, t, rfl, R.same sG, PO, rll, w0, wm, wz, fun q H' hg f O => ?_, fun H' hg f => ?_⟩
                · refine qs _ H' hg (fun a o n z => f a o (fun m => n (.inl m)) (sG _ _ z)) ?_
                  refine (R.same sG).put O ?_ f
                  have z := goI_rests PO.lr hg
                  rw [z]
                  exact set_keep PO (show wOf (.put wi t) < _ from wm) w0 wz
                · exact qn H' hg (fun a o n z => f a o (fun m => n (.inl m)) (sG _ _ z))
              | done wi t =>
                refine iteF ?_
                dsimp only [tNext]
                dsimp only [wOf] at w0 wm wz
                refine z_seq ?_
                refine z_if ?_
                refine tpt_ok (Ok.none H5) (slW s05) (tw "taken" sh_taken) fun H6 s6 => ?_
                refine iteF ?_
                dsimp only [tNext]
                have s06 := L2.Same.trans s05 s6
                refine z_seq ?_
                refine z_if ?_
                refine tpt_ok (Ok.none H6) (slW s06) (tw "put" sh_put) fun H7 s7 => ?_
                refine iteF ?_
                dsimp only [tNext]
                have s07 := L2.Same.trans s06 s7
                refine z_seq ?_
                refine z_if ?_
                refine tpt_ok (Ok.none H7) (slW s07) (tw "done" sh_done) fun H8 s8 => ?_
                refine iteT ?_
                have s08 := L2.Same.trans s07 s8
                refine z_ret ?_
                obtain ⟨dx8, ob8⟩ := (R.same s08).ob
                refine ⟨_, rfl, x, dx8, _, rfl, ob8, fR_no (by decide +kernel) (by decide +kernel) (by decide +kernel) (by decide +kernel), ?_⟩
                refine tp_int (i := wi) (Ok.none H8) (slW s08) (eVar_get rfl) fun G1 t1 => ?_
                refine tp_int (i := t) (Ok.none G1) (slW (L2.Same.trans s08 t1)) (by rw [eOp_ev (eVar_get rfl) rfl]; exact oIx2) fun G2 t2 => ?_
                have sG := L2.Same.trans s08 (L2.Same.trans t1 t2)
                refine ⟨x, l, as, hl, rl, vb, b, p, wi, t, rfl, R.same sG, PO, w0, wm, wz, fun q H' hg f O => ?_, fun H' hg f => ?_⟩
                · refine qs _ H' hg (fun a o n z => f a o (fun m => n (.inl m)) (sG _ _ z)) ?_
                  refine (R.same sG).put O ?_ f
                  have z := goI_rests PO.lr hg
                  rw [z]
                  exact set_keep PO (show wOf (.done wi t) < _ from wm) w0 wz
                · exact qn H' hg (fun a o n z => f a o (fun m => n (.inl m)) (sG _ _ z))
              | rests wi =>
                refine iteF ?_
                dsimp only [tNext]
                dsimp only [wOf] at w0 wm wz
                refine z_seq ?_
                refine z_if ?_
                refine tpt_ok (Ok.none H5) (slW s05) (tw "taken" sh_taken) fun H6 s6 => ?_
                refine iteF ?_
                dsimp only [tNext]
                have s06 := L2.Same.trans s05 s6
                refine z_seq ?_
                refine z_if ?_
                refine tpt_ok (Ok.none H6) (slW s06) (tw "put" sh_put) fun H7 s7 => ?_
                refine iteF ?_
                dsimp only [tNext]
                have s07 := L2.Same.trans s06 s7
                refine z_seq ?_
                refine z_if ?_
                refine tpt_ok (Ok.none H7) (slW s07) (tw "done" sh_done) fun H8 s8 => ?_
                refine iteF ?_
                dsimp only [tNext]
                have s08 := L2.Same.trans s07 s8
                -- self.rests[worker] = True
                refine z_seq ?_
                refine z_asg ?_
                refine tp_ok (Ok.none H8) (SlD.nones _) (show eC (.bool true) _ = some (.bool true) from rfl) fun v9 H9 s9 r9 => ?_
                cases r9
                have R9 := R.same (L2.Same.trans s08 s9)
                refine rd_rests RT R9 rfl ?_
                refine tp_int (i := wi) (Ok.none H9) (slW (L2.Same.trans s08 s9)) (eVar_get rfl) fun H10 s10 => ?_
                have s010 := L2.Same.trans s08 (L2.Same.trans s9 s10)
                have R10 := R.same s010
                have hix : ixN (p.rests.map V.bl).length wi = some wi.toNat := by
                  unfold ixN
                  rw [if_pos w0, if_pos (by rw [List.length_map, PO.lr]; exact wm)]
                refine ⟨rl, _, _, _, rfl, rfl, R10.rs, hix, ?_⟩
                have RZ := R10.rest (wi.toNat)
                have f11 : ∀ a o, ¬ M5 l as hl rl x a → H a = some o → L2.upd H10 rl (.lst ((p.rests.map V.bl).set wi.toNat (.bl true))) a = some o := fun a o n z => by
                  rw [L2.upd_ne (fun (y : a = rl) => n (.inr (.inl y)))]
                  exact s010 _ _ z
                revert RZ f11
                generalize L2.upd H10 rl (.lst ((p.rests.map V.bl).set wi.toNat (.bl true))) = G11
                intro RZ f11
                have PZ : PlOk b ⟨p.rows, p.holds, p.rests.set wi.toNat true⟩ := ⟨PO.lh, by rw [List.length_set]; exact PO.lr, PO.rs, PO.hs⟩
                have slx : ∀ {G : Hp}, SlD M0 G [some (.ref x), some ve, some (.str (wordI (.rests wi))), some (.int wi)] [none, none, none, some (.int wi)] := fun {G} => .no _ (.no _ (.no _ (.yes (.int _) .nil)))
                have go : goI b p (.rests wi) = if p.H wi.toNat = none ∧ p.R wi.toNat = [] then some ⟨p.rows, p.holds, p.rests.set wi.toNat true⟩ else none := by
                  unfold goI
                  rw [if_pos ⟨w0, wm, wz⟩]
                dsimp only
                refine z_ret ?_
                -- holds none and rows == []
                refine z_op ?_
                refine rd_hold RT RZ PZ rfl (Ok.none G11) slx (eVar_get rfl) w0 wm fun vh G12 t12 rh => ?_
                refine rd_non fun G13 t13 => ?_
                have t1113 := L2.Same.trans t12 t13
                have hH : (Pl.mk p.rows p.holds (p.rests.set wi.toNat true)).H wi.toNat = p.H wi.toNat := rfl
                rw [hH] at rh
                refine os_isA (M5 l as hl rl x) G13 _ _ (encH (p.H wi.toNat)) .none (.bool (p.H wi.toNat).isNone) _ (RZ.same t1113).ok (rh.same t13) .non (by show some (PyData.bool (isNon (encH (p.H wi.toNat)))) = _; rw [isn_encH]) fun v14 G14 t14 r14 => ?_
                cases r14
                have t1114 := L2.Same.trans t1113 t14
                have hcase : p.H wi.toNat = none ∨ ∃ g, p.H wi.toNat = some g := by
                  cases p.H wi.toNat with
                  | none => exact .inl rfl
                  | some g => exact .inr ⟨g, rfl⟩
                refine ⟨_, rfl, ?_⟩
                rcases hcase with hh | ⟨g, hh⟩
                · refine if_true_of (by rw [hh]; rfl) ?_
                  have R14 := RZ.same t1114
                  refine z_op ?_
                  refine rd_row RT R14 rfl (Ok.none G14) slx (eVar_get rfl) w0 wm fun ao G15 t15 e1 hao => ?_
                  refine tp_ok (Ok.none G15) (SlD.nones _) (show eLst esNil _ = some (.list []) from q_lst q_nil (by show 0 ≤ 1000; decide)) fun v16 G16 t16 r16 => ?_
                  have hR : p.rows[wi.toNat]? = some (p.R wi.toNat) := get_of (by omega)
                  have hle := rll _ (List.mem_of_getElem? hR)
                  refine os_eq M0 G16 _ _ (encL (p.R wi.toNat)) (.list []) (.bool (decide (p.R wi.toNat = []))) _ (Ok.none _) (.lst (t16 _ _ hao) (fun z => z) (rpN _)) r16 (by
                    show oEq (.list (encN (p.R wi.toNat))) (.list []) = _
                    exact oEq_g (good_L _ (by omega)) good_nil (by omega) (by omega) (k := decide (p.R wi.toNat = [])) (by rw [decide_eq_true_iff]; exact (encN_nil _).symm)) fun v17 G17 t17 r17 => ?_
                  cases r17
                  have t1117 := L2.Same.trans t1114 (L2.Same.trans t15 (L2.Same.trans t16 t17))
                  have f17 : ∀ a o, ¬ M5 l as hl rl x a → H a = some o → G17 a = some o := fun a o n z => t1117 _ _ (f11 a o n z)
                  by_cases c : p.R wi.toNat = []
                  · rw [decide_eq_true c]
                    exact qs _ _ (go.trans (if_pos ⟨hh, c⟩)) f17 (RZ.same t1117)
                  · rw [decide_eq_false c]
                    exact qn _ (go.trans (if_neg fun z => c z.2)) f17
                · refine if_false_of (by rw [hh]; rfl) ?_
                  have z := qn G14 (go.trans (if_neg fun z => by rw [hh] at z; cases z.1)) (fun a o n z => t1114 _ _ (f11 a o n z))
                  exact z
          · refine if_true_of (show (!decide (0 ≤ wOf e ∧ wOf e < (p.rows.length : Int))) = true by rw [decide_eq_false c0]; rfl) ?_
            refine iteT ?_
            refine z_ret ?_
            refine tp_ok (Ok.none _) (SlD.nones _) (show eC (.bool false) _ = some (.bool false) from rfl) fun v5 H5 s5 r5 => ?_
            cases r5
            exact qn _ (no fun z => c0 ⟨z.1, z.2.1⟩) (fS (L2.Same.trans s03 s5))

theorem ok_are_right {P : Program} {w : World} {K : PySem.W.Frag} {mg : Str → Option Value} {base : Heap} (T : Txt K mg) : FnOk P w K mg base CX0 3 T.f_are_right T.fd_are_right ["plan", "events"] spRight := by
  have G_init := ok_init (P := P) (w := w) (base := base) T
  have G_goes := ok_goes (P := P) (w := w) (base := base) T
  refine T.F_are_right.ok sc_are_right (fun vs H Q E h => ?_) (fun cdv A outer s H vs Q E hr h => ⟨_, (pss_cons (ps_set (i := 2) sc_are_right.nd rfl (by first | exact Or.inl rfl | exact Or.inr rfl) (pe_make T.mk_R G_init hr rfl T.mgC T.b_init .nil pass0 (pa_cons (pd_name 0) pa_nil))) (pss_cons (ps_for PassesOwn.never rfl (pi_seq (pd_name 1)) (pg_name (i := 3) sc_are_right.nd rfl (by first | exact Or.inl rfl | exact Or.inr rfl)) (pss_one (ps_if (pt_not (pt_val (pe_meth (pv 2) T.cl T.m_goes G_goes (hr.mono (by decide)) T.b_goes .nil pass0 (pa_cons (pd_name 3) pa_nil)))) (pss_one (ps_ret pd_bl)) pss_nil))) (pss_one (ps_ret pd_bl)))), ?_⟩)
  · obtain ⟨vp, ve, b, st, es, rfl, _⟩ := h
    rfl
  · obtain ⟨vp, ve, b, st, es, rfl, rp, re, PL, hz, q⟩ := h
    have hrb := PL.rowb
    have hb1 := PL.size
    have bb : ∀ (p : Nat) (l : List Nat) (c : Nat), b[p]? = some l → c ∈ l → p < c ∧ c < b.length := PL.inb
    refine z_seq ?_
    refine z_asg ?_
    refine tp_ok (Ok.none H) (ds := [some (encP b st), none, none, none]) (.yes rp (.no _ (.no _ (.no _ .nil)))) (eVar_get rfl) fun v1 H1 s1 r1 => ?_
    intro x dx hx hdx hne
    have eX : (upd (upd H1 dx (.own x)) x (.ins T.C_R dx [])) x = some (.ins T.C_R dx []) := upd_same
    have fX : ∀ a o, H1 a = some o → (upd (upd H1 dx (.own x)) x (.ins T.C_R dx [])) a = some o := fun a o z => by
      rw [upd_ne (fun y : a = x => by rw [y, hx] at z; cases z), upd_ne (fun y : a = dx => by rw [y, hdx] at z; cases z)]
      exact z
    have rX : Rp (fun a => a = x) (upd (upd H1 dx (.own x)) x (.ins T.C_R dx [])) v1 (encP b st) := r1.mono (fun a o _ z => ⟨fun m => (by rw [m, hx] at z; cases z), fX a o z⟩) _ _
    refine ⟨x, dx, v1, b, st, rfl, eX, rX, PL, fun l as hl rl vb H2 R2 f2 new => ⟨rfl, ?_⟩⟩
    have s2 : Same H1 H2 := fun a o z => f2 a o (fun y => by rw [y, hx] at z; cases z) (fX a o z)
    have s02 := L2.Same.trans s1 s2
    have new5 : ∀ a, M5 l as hl rl x a → H a = none := fun a m => by
      have h0 : H1 a = none := by
        rcases m with m | m | m
        · cases h : H1 a with
          | none => rfl
          | some o => have := fX a o h; rw [new a (.inl m)] at this; cases this
        · cases h : H1 a with
          | none => rfl
          | some o => have := fX a o h; rw [new a (.inr m)] at this; cases this
        · rw [m]; exact hx
      exact s1.free h0
    refine z_name ?_
    dsimp only
    -- the events
    refine z_seq ?_
    have reM : Rp (M5 l as hl rl x) H2 ve (.list (es.map encI)) := re.mono (fun a o _ z => ⟨fun m => (by rw [new5 a m] at z; cases z), s02 _ _ z⟩) _ _
    refine .inl (tp_ok R2.ok (ds := [none, some (.list (es.map encI)), none, none]) (.no _ (.yes reM (.no _ (.no _ .nil)))) (eVar_get rfl) fun v3 H3 s3 r3 => ?_)
    cases r3 with
    | lst a3 n3 r3 =>
      rename_i al xs
      have hlen : xs.length = es.length := by rw [r3.length, List.length_map]
      refine ⟨al, rfl, ⟨_, SqL.of a3⟩, for_list (fun i σ' H' => ∃ (p : Pl) (x3 : Option V), σ' = [some vp, some ve, some (.ref x), x3] ∧ goIs b (pl0 st) (es.take i) = some p ∧ RwAt T.C_R H' x l as hl rl vb b p ∧ PlOk b p ∧ (∀ r ∈ p.rows, r.length ≤ 1000 + i) ∧ ∀ a o, ¬ M5 l as hl rl x a → H3 a = some o → H' a = some o) ⟨pl0 st, _, rfl, rfl, R2.same s3, PlOk.start PL, fun r hr => by have := hrb.2 r hr; omega, fun a o _ z => z⟩ (fun i σ' H' _ ⟨_, _, _, _, _, _, _, f⟩ => SqL.of (f _ _ n3 a3)) (fun i y σ' H' hy hP => ?_) (fun σ' H' hP => ?_)⟩
      · obtain ⟨p, x3, rfl, gp, R, PO, rll, f⟩ := hP
        have hi := (List.getElem?_eq_some_iff.mp hy).1
        obtain ⟨d, hd, ry⟩ := r3.get' hy
        rw [List.getElem?_map] at hd
        cases he : es[i]? with
        | none => rw [he] at hd; cases hd
        | some e =>
          rw [he] at hd
          cases hd
          refine z_name ?_
          dsimp only
          have go' := goIs_take gp he
          have ryM : ∀ {G : Hp}, (∀ a o, ¬ M5 l as hl rl x a → H3 a = some o → G a = some o) → Rp (M5 l as hl rl x) G y (encI e) := fun g => ry.mono (fun a o n z => ⟨n, g a o n z⟩) _ _
          refine z_if ?_
          obtain ⟨dy, ob⟩ := R.ob
          refine ⟨_, rfl, x, dy, _, rfl, ob, fR_no (by decide +kernel) (by decide +kernel) (by decide +kernel) (by decide +kernel), ?_⟩
          refine tp_ok R.ok (ds := [none, none, none, some (encI e)]) (.no _ (.no _ (.no _ (.yes (ryM f) .nil)))) (eVar_get rfl) fun v4 H4 s4 r4 => ?_
          have fH : ∀ {G : Hp}, (∀ a o, ¬ M5 l as hl rl x a → H4 a = some o → G a = some o) → Same H G := fun g a o z => by
            have n : ¬ M5 l as hl rl x a := fun m => by rw [new5 a m] at z; cases z
            exact g a o n (s4 _ _ (f a o n (s3 _ _ (s02 _ _ z))))
          refine ⟨x, l, as, hl, rl, vb, v4, b, p, e, rfl, R.same s4, r4, PO, fun r hr => by have := rll r hr; omega, fun q' H5 hg f5 R5 => ?_, fun H5 hg f5 => ?_⟩
          · refine ⟨true, rfl, ?_⟩
            refine iteF ?_
            obtain ⟨PO', _⟩ := PO.go bb hg
            exact ⟨q', _, rfl, go'.trans hg, R5, PO', fun r hr => by have := goI_rl rll hg r hr; omega, fun a o n z => f5 a o n (s4 _ _ (f a o n z))⟩
          · refine ⟨false, rfl, ?_⟩
            refine iteT ?_
            refine z_ret ?_
            refine tp_ok (Ok.none _) (SlD.nones _) (show eC (.bool false) _ = some (.bool false) from rfl) fun v6 H6 s6 r6 => ?_
            cases r6
            have z := q H6 (L2.Same.trans (fH f5) s6)
            rw [goIs_stop (i := i + 1) (go'.trans hg)] at z
            exact z
      · obtain ⟨p, x3, rfl, gp, R, PO, rll, f⟩ := hP
        rw [hlen, List.take_length] at gp
        dsimp only
        refine z_ret ?_
        refine tp_ok (Ok.none _) (SlD.nones _) (show eC (.bool true) _ = some (.bool true) from rfl) fun v6 H6 s6 r6 => ?_
        cases r6
        have fH : Same H H' := fun a o z => by
          have n : ¬ M5 l as hl rl x a := fun m => by rw [new5 a m] at z; cases z
          exact f a o n (s3 _ _ (s02 _ _ z))
        have z := q H6 (L2.Same.trans fH s6)
        rw [gp] at z
        exact z

theorem ok_l_event {P : Program} {w : World} {K : PySem.W.Frag} {mg : Str → Option Value} {base : Heap} (T : Txt K mg) : FnOk P w K mg base CX0 1 T.f_l_event T.fd_l_event ["_law_event_here", "_law_cell", "_law_many", "_law_size"] (spF 4 M_l_event) := by
  exact ok_fun T.F_l_event sc_l_event rfl fun cdv A outer s H E hr => (psd_cons (psd_set (i := 4) sc_l_event.nd rfl (by first | exact Or.inl rfl | exact Or.inr rfl) (pd_op op_modN os_mod (pd_name 1) pd_int)) (psd_cons (psd_set (i := 5) sc_l_event.nd rfl (by first | exact Or.inl rfl | exact Or.inr rfl) (pd_op op_fdivN os_div (pd_name 1) pd_int)) (psd_cons (psd_unp (pd_sl (pd_name 0) po_n (po_p pd_int)) (pgd_tup rfl (pgs_cons (pg_name (i := 6) sc_l_event.nd rfl (by first | exact Or.inl rfl | exact Or.inr rfl)) (pgs_cons (pg_name (i := 7) sc_l_event.nd rfl (by first | exact Or.inl rfl | exact Or.inr rfl)) pgs_nil)) (tgs_cons (tgs_cons tgs_nil)) rfl)) (psd_cons (psd_set (i := 8) sc_l_event.nd rfl (by first | exact Or.inl rfl | exact Or.inr rfl) (pd_ix (pd_name 0) (pd_un un_neg us_neg pd_int))) (psd_cons (psd_if (ptd_cmp (op_eqD hr.units) os_eq (pd_name 4) pd_int (nomark _)) (psd_one (psd_ret (pd_op or_addD os_add (pd_tup (pda_cons (pd_name 6) (pda_cons (pd_ix (pd_lst (pda_cons (pd_op op_modN os_mod (pd_name 5) (pd_name 2)) (pda_cons (pd_name 2) (pda_cons (pd_un un_neg us_neg pd_int) (pda_cons (pd_op or_addD os_add (pd_name 2) (pd_op op_modN os_mod (pd_name 5) pd_int)) pda_nil))))) (pd_op op_modN os_mod (pd_op op_fdivN os_div (pd_name 5) pd_int) pd_int)) pda_nil))) (pd_sl (pd_name 0) (po_p pd_int) po_n)))) psd_nil) (psd_cons (psd_if (PW.pt (ptd_and (ptd_cmp (op_eqD hr.units) os_eq (pd_name 4) pd_int (nomark _)) (ptd_and1 (ptd_cmp op_gt os_gt (pd_callB cr_len cs_len rfl T.z_len bt_len (pda_cons (pd_name 0) pda_nil)) pd_int (nomark _))))) (psd_one (psd_ret (pd_op or_addD os_add (pd_sl (pd_name 0) po_n (po_p (pd_un un_neg us_neg pd_int))) (pd_tup (pda_cons (pd_ix (pd_lst (pda_cons (pd_op op_modN os_mod (pd_name 5) (pd_callB (cr_max2 rfl) cs_max rfl T.z_max bt_max (pda_cons pd_int (pda_cons (pd_name 3) pda_nil)))) (pda_cons (pd_name 3) (pda_cons (pd_un un_neg us_neg pd_int) (pda_cons (pd_op or_addD os_add (pd_name 3) (pd_op op_modN os_mod (pd_name 5) pd_int)) pda_nil))))) (pd_op op_modN os_mod (pd_op op_fdivN os_div (pd_name 5) pd_int) pd_int)) pda_nil))))) psd_nil) (psd_cons (psd_if (PW.pt (ptd_and (ptd_cmp (op_eqD hr.units) os_eq (pd_name 4) pd_int (nomark _)) (ptd_and1 (ptd_cmp (op_eqD hr.units) os_eq (pd_callB cr_len cs_len rfl T.z_len bt_len (pda_cons (pd_name 0) pda_nil)) pd_int (nomark _))))) (psd_one (psd_ret (pd_op or_addD os_add (pd_op or_addD os_add (pd_sl (pd_name 0) po_n (po_p pd_int)) (pd_tup (pda_cons (pd_ix (pd_lst (pda_cons (pd_op op_modN os_mod (pd_name 5) (pd_name 2)) (pda_cons (pd_name 7) (pda_cons (pd_name 2) (pda_cons (pd_un un_neg us_neg pd_int) pda_nil))))) (pd_op op_modN os_mod (pd_op op_fdivN os_div (pd_name 5) pd_int) pd_int)) pda_nil))) (pd_sl (pd_name 0) (po_p pd_int) po_n)))) psd_nil) (psd_cons (psd_if (ptd_cmp (op_eqD hr.units) os_eq (pd_name 4) pd_int (nomark _)) (psd_cons (psd_set (i := 9) sc_l_event.nd rfl (by first | exact Or.inl rfl | exact Or.inr rfl) (pd_lst (pda_cons (pd_tup (pda_cons pd_str (pda_cons (pd_name 7) (pda_cons (pd_name 8) pda_nil)))) (pda_cons (pd_tup (pda_cons pd_str (pda_cons (pd_name 7) (pda_cons (pd_name 8) pda_nil)))) (pda_cons (pd_tup (pda_cons pd_str (pda_cons (pd_name 7) (pda_cons (pd_name 8) pda_nil)))) (pda_cons (pd_tup (pda_cons pd_str (pda_cons (pd_name 7) (pda_cons (pd_op op_modN os_mod (pd_name 5) (pd_name 2)) (pda_cons (pd_name 8) pda_nil))))) pda_nil)))))) (psd_one (psd_ret (pd_ix (pd_name 9) (pd_op op_modN os_mod (pd_op op_fdivN os_div (pd_name 5) pd_int) pd_int))))) psd_nil) (psd_cons (psd_if (ptd_cmp (op_eqD hr.units) os_eq (pd_name 4) pd_int (nomark _)) (psd_one (psd_ret (pd_tup (pda_cons pd_str (pda_cons (pd_name 7) pda_nil))))) psd_nil) (psd_one (psd_ret (pd_name 0))))))))))))
theorem ok_l_changed {P : Program} {w : World} {K : PySem.W.Frag} {mg : Str → Option Value} {base : Heap} (T : Txt K mg) : FnOk P w K mg base CX0 3 T.f_l_changed T.fd_l_changed ["_law_plan", "_law_events", "_law_cell", "_law_some"] spChanged := by
  have G_l_replayed := ok_l_replayed (P := P) (w := w) (base := base) T
  have G_l_event := ok_l_event (P := P) (w := w) (base := base) T
  refine T.F_l_changed.ok sc_l_changed (fun vs H Q E h => ?_) (fun cdv A outer s H vs Q E hr h => ⟨_, (pss_cons (ps_set (i := 4) sc_l_changed.nd rfl (by first | exact Or.inl rfl | exact Or.inr rfl) (pd_callB cr_len cs_len rfl T.z_len bt_len (pda_cons (pd_ix (pd_name 0) pd_int) pda_nil))) (pss_cons (ps_if (ptd_cmp (op_eqD hr.units) os_eq (pd_name 1) (pd_lst pda_nil) (nomark _)) (pss_one (ps_ret (pd_ix (pd_lst (pda_cons (pd_lst (pda_cons (pd_tup (pda_cons pd_str (pda_cons pd_int pda_nil))) pda_nil)) (pda_cons (pd_lst (pda_cons (pd_tup (pda_cons pd_str (pda_cons pd_int (pda_cons pd_int pda_nil)))) pda_nil)) (pda_cons (pd_lst (pda_cons (pd_tup (pda_cons pd_str (pda_cons pd_int (pda_cons pd_int pda_nil)))) pda_nil)) (pda_cons (pd_lst (pda_cons (pd_tup (pda_cons pd_str (pda_cons (pd_name 4) pda_nil))) pda_nil)) pda_nil))))) (pd_op op_modN os_mod (pd_name 2) pd_int)))) pss_nil) (pss_cons (ps_set (i := 5) sc_l_changed.nd rfl (by first | exact Or.inl rfl | exact Or.inr rfl) (pd_op op_modN os_mod (pd_name 3) (pd_callB cr_len cs_len rfl T.z_len bt_len (pda_cons (pd_name 1) pda_nil)))) (pss_cons (ps_set (i := 6) sc_l_changed.nd rfl (by first | exact Or.inl rfl | exact Or.inr rfl) (pd_op op_modN os_mod (pd_name 2) pd_int)) (pss_cons (ps_setLc (i := 7) rfl sc_l_changed.nd rfl rfl (sw_true rfl rfl rfl (by decide +kernel)) (pi_range1 rfl T.z_range (pa_cons (pd_callB cr_len cs_len rfl T.z_len bt_len (pda_cons (pd_name 1) pda_nil)) pa_nil)) (blkOk_by (N := N_l_changed) (sc := defScope s_l_changed) (own := [("_law_k", 8)]) (by decide +kernel)) (fun _ _ _ _ _ => pg_name (i := 8) sc_l_changed.nd rfl (Or.inl rfl)) (fun _ _ _ _ _ => (pts_one (ptd_cmp (op_inA (room65 hr)) os_inA (pd_ix (pd_ix (pd_name 1) (pd_name 8)) pd_int) (pd_lst (pda_cons pd_str (pda_cons pd_str pda_nil))) rfl))) (fun _ _ _ _ _ => (pd_name 8))) (pss_cons (ps_if (PW.pt (ptd_and (ptd_cmp (op_eqD hr.units) os_eq (pd_name 6) pd_int (nomark _)) (ptd_and1 (ptd_cmp (op_neD hr.units) os_ne (pd_name 7) (pd_lst pda_nil) (nomark _))))) (pss_cons (ps_set (i := 5) sc_l_changed.nd rfl (by first | exact Or.inl rfl | exact Or.inr rfl) (pd_ix (pd_name 7) (pd_op op_modN os_mod (pd_name 3) (pd_callB cr_len cs_len rfl T.z_len bt_len (pda_cons (pd_name 7) pda_nil))))) (pss_cons (ps_set (i := 9) sc_l_changed.nd rfl (by first | exact Or.inl rfl | exact Or.inr rfl) (pd_ix (pd_ix (pd_name 1) (pd_name 5)) pd_int)) (pss_one (ps_ret (pd_op or_addD os_add (pd_sl (pd_name 1) po_n (po_p (pd_op or_addD os_add (pd_name 5) pd_int))) (pd_ix (pd_lst (pda_cons (pd_lst (pda_cons (pd_tup (pda_cons pd_str (pda_cons (pd_name 9) (pda_cons (pd_ix (pd_ix (pd_name 1) (pd_name 5)) (pd_un un_neg us_neg pd_int)) pda_nil)))) pda_nil)) (pda_cons (pd_lst (pda_cons (pd_tup (pda_cons pd_str (pda_cons (pd_name 9) pda_nil))) pda_nil)) pda_nil))) (pd_op op_modN os_mod (pd_op op_fdivN os_div (pd_name 2) pd_int) pd_int))))))) pss_nil) (pss_cons (ps_if (ptd_cmp (op_eqD hr.units) os_eq (pd_name 6) pd_int (nomark _)) (pss_cons (ps_set (i := 10) sc_l_changed.nd rfl (by first | exact Or.inl rfl | exact Or.inr rfl) (pe_call G_l_replayed (hr.mono (by decide)) rfl T.m_l_replayed T.F_l_replayed.kp T.b_l_replayed .nil pass0 (pa_cons (pd_name 0) (pa_cons (pd_sl (pd_name 1) po_n (po_p (pd_name 5))) pa_nil)))) (pss_cons (ps_set (i := 11) sc_l_changed.nd rfl (by first | exact Or.inl rfl | exact Or.inr rfl) (pd_lst pda_nil)) (pss_cons (ps_if (ptd_cmp op_isntA os_isntA (pd_name 10) pd_non (nomark _)) (pss_one (ps_setLc (i := 11) rfl sc_l_changed.nd rfl rfl (sw_true rfl rfl rfl (by decide +kernel)) (pi_range1 rfl T.z_range (pa_cons (pd_name 4) pa_nil)) (blkOk_by (N := N_l_changed) (sc := defScope s_l_changed) (own := [("_law_w", 9)]) (by decide +kernel)) (fun _ _ _ _ _ => pg_name (i := 9) sc_l_changed.nd rfl (Or.inl rfl)) (fun _ _ _ _ _ => (pts_one (PW.pt (ptd_and (ptd_cmp op_isA os_isA (pd_ix (pd_ix (pd_name 10) pd_int) (pd_name 9)) pd_non (nomark _)) (ptd_and1 (ptd_cmp (op_neD hr.units) os_ne (pd_ix (pd_ix (pd_name 10) pd_int) (pd_name 9)) (pd_lst pda_nil) (nomark _))))))) (fun _ _ _ _ _ => (pd_name 9)))) pss_nil) (pss_one (ps_if (ptd_cmp (op_neD hr.units) os_ne (pd_name 11) (pd_lst pda_nil) (nomark _)) (pss_cons (ps_set (i := 9) sc_l_changed.nd rfl (by first | exact Or.inl rfl | exact Or.inr rfl) (pd_ix (pd_name 11) (pd_op op_modN os_mod (pd_op op_fdivN os_div (pd_name 2) pd_int) (pd_callB cr_len cs_len rfl T.z_len bt_len (pda_cons (pd_name 11) pda_nil))))) (pss_one (ps_ret (pd_op or_addD os_add (pd_sl (pd_name 1) po_n (po_p (pd_name 5))) (pd_lst (pda_cons (pd_tup (pda_cons pd_str (pda_cons (pd_name 9) (pda_cons (pd_name 9) (pda_cons (pd_ix (pd_ix (pd_ix (pd_name 10) pd_int) (pd_name 9)) pd_int) pda_nil))))) pda_nil)))))) pss_nil))))) pss_nil) (pss_cons (ps_if (ptd_cmp (op_eqD hr.units) os_eq (pd_name 6) pd_int (nomark _)) (pss_one (ps_ret (pd_op or_addD os_add (pd_sl (pd_name 1) po_n (po_p (pd_name 5))) (pd_sl (pd_name 1) (po_p (pd_op or_addD os_add (pd_name 5) pd_int)) po_n)))) pss_nil) (pss_cons (ps_if (ptd_cmp (op_eqD hr.units) os_eq (pd_name 6) pd_int (nomark _)) (pss_one (ps_ret (pd_op or_addD os_add (pd_op or_addD os_add (pd_sl (pd_name 1) po_n (po_p (pd_name 5))) (pd_lst (pda_cons (pd_ix (pd_name 1) (pd_name 5)) pda_nil))) (pd_sl (pd_name 1) (po_p (pd_name 5)) po_n)))) pss_nil) (pss_cons (ps_if (ptd_cmp (op_eqD hr.units) os_eq (pd_name 6) pd_int (nomark _)) (pss_cons (ps_set (i := 12) sc_l_changed.nd rfl (by first | exact Or.inl rfl | exact Or.inr rfl) (pe_slice sl_D (pd_name 1) (po_some (pd_name 5)) (po_some (pd_op or_addD os_add (pd_name 5) pd_int)))) (pss_cons (ps_expr (pe_bm0 PySem.F.plainAttrs_list PySem.F.slot_list_reverse PySem.F.type_list_reverse mt_reverse (pv 12))) (pss_one (ps_ret (pe_op or_addD (pe_op or_addD (pd_sl (pd_name 1) po_n (po_p (pd_name 5))) (pv 12)) (pd_sl (pd_name 1) (po_p (pd_op or_addD os_add (pd_name 5) pd_int)) po_n)))))) pss_nil) (pss_cons (ps_if (ptd_cmp (op_eqD hr.units) os_eq (pd_name 6) pd_int (nomark _)) (pss_cons (ps_set (i := 13) sc_l_changed.nd rfl (by first | exact Or.inl rfl | exact Or.inr rfl) (pd_op op_modN os_mod (pd_op op_fdivN os_div (pd_name 2) pd_int) (pd_op or_addD os_add (pd_callB cr_len cs_len rfl T.z_len bt_len (pda_cons (pd_name 1) pda_nil)) pd_int))) (pss_one (ps_ret (pd_op or_addD os_add (pd_op or_addD os_add (pd_sl (pd_name 1) po_n (po_p (pd_name 13))) (pd_lst (pda_cons (pd_ix (pd_name 1) (pd_name 5)) pda_nil))) (pd_sl (pd_name 1) (po_p (pd_name 13)) po_n))))) pss_nil) (pss_cons (ps_set (i := 14) sc_l_changed.nd rfl (by first | exact Or.inl rfl | exact Or.inr rfl) (pd_call G_l_event (hr.mono (by decide)) rfl T.m_l_event T.F_l_event.kp T.b_l_event pass0 (pda_cons (pd_ix (pd_name 1) (pd_name 5)) (pda_cons (pd_op op_fdivN os_div (pd_name 2) pd_int) (pda_cons (pd_name 4) (pda_cons (pd_callB cr_len cs_len rfl T.z_len bt_len (pda_cons (pd_ix (pd_name 0) pd_int) pda_nil)) pda_nil)))) (es_len (es_len (es_len (es_len es_len0)))))) (pss_one (ps_ret (pd_op or_addD os_add (pd_op or_addD os_add (pd_sl (pd_name 1) po_n (po_p (pd_name 5))) (pd_lst (pda_cons (pd_name 14) pda_nil))) (pd_sl (pd_name 1) (po_p (pd_op or_addD os_add (pd_name 5) pd_int)) po_n)))))))))))))))), ?_⟩)
  · obtain ⟨vp, ve, b, st, es, c, k, rfl, _⟩ := h
    rfl
  · obtain ⟨vp, ve, b, st, es, c, k, rfl, rp, re, PL, hz, q⟩ := h
    have hm1 := PL.m1
    have hm2 := PL.m2
    have r8 := fmod_rng (a := c) (b := 8) (by decide)
    have sl0 : ∀ {H' : Hp} {x4 x5 x6 x7 x8 x9 x10 x11 x12 x13 x14 : Option V}, Same H H' → SlD M0 H' [some vp, some ve, some (.int c), some (.int k), x4, x5, x6, x7, x8, x9, x10, x11, x12, x13, x14] [some (encP b st), some (.list (es.map encI)), some (.int c), some (.int k), none, none, none, none, none, none, none, none, none, none, none] := fun s' =>
      .yes (rp.same s') (.yes (re.same s') (.yes (.int _) (.yes (.int _) (.no _ (.no _ (.no _ (.no _ (.no _ (.no _ (.no _ (.no _ (.no _ (.no _ (.no _ .nil))))))))))))))
    -- many
    refine z_seq ?_
    refine z_asg ?_
    have e1 : eOp oIx (eVar 0) (eC (.int 1)) [some (encP b st), some (.list (es.map encI)), some (.int c), some (.int k), none, none, none, none, none, none, none, none, none, none, none] = some (encLL st) := by rw [eOp_ev (eVar_get rfl) rfl]; exact oIx1
    have e2 : eCall oLen (esCons (eOp oIx (eVar 0) (eC (.int 1))) esNil) [some (encP b st), some (.list (es.map encI)), some (.int c), some (.int k), none, none, none, none, none, none, none, none, none, none, none] = some (.int (st.length : Int)) := (q_call (q_cons e1 rfl)).trans (by show some (PyData.int ((st.map encL).length : Int)) = _; rw [List.length_map])
    refine tp_int (Ok.none H) (sl0 (L2.Same.refl _)) e2 fun H1 s1 => ?_
    refine z_name ?_
    dsimp only
    have sl1 : ∀ {H' : Hp} {x5 x6 x7 x8 x9 x10 x11 x12 x13 x14 : Option V}, Same H H' → SlD M0 H' [some vp, some ve, some (.int c), some (.int k), some (.int (st.length : Int)), x5, x6, x7, x8, x9, x10, x11, x12, x13, x14] [some (encP b st), some (.list (es.map encI)), some (.int c), some (.int k), some (.int (st.length : Int)), none, none, none, none, none, none, none, none, none, none] := fun s' =>
      .yes (rp.same s') (.yes (re.same s') (.yes (.int _) (.yes (.int _) (.yes (.int _) (.no _ (.no _ (.no _ (.no _ (.no _ (.no _ (.no _ (.no _ (.no _ (.no _ .nil))))))))))))))
    -- no events
    refine z_seq ?_
    refine z_if ?_
    refine tpt_ok (Ok.none H1) (sl1 s1) (eqnil_I (eVar_get rfl) (by omega)) fun H2 s2 => ?_
    have s02 := L2.Same.trans s1 s2
    by_cases hes : es = []
    · rw [decide_eq_true hes]
      refine iteT ?_
      refine z_ret ?_
      have el : ∃ e', eOp oIx (eLst (esCons (eLst (esCons (eTup (esCons (eC (.str "rests")) (esCons (eC (.int 0)) esNil))) esNil)) (esCons (eLst (esCons (eTup (esCons (eC (.str "own")) (esCons (eC (.int 0)) (esCons (eC (.int 0)) esNil)))) esNil)) (esCons (eLst (esCons (eTup (esCons (eC (.str "done")) (esCons (eC (.int 0)) (esCons (eC (.int 0)) esNil)))) esNil)) (esCons (eLst (esCons (eTup (esCons (eC (.str "rests")) (esCons (eVar 4) esNil))) esNil)) esNil))))) (eOp oMod (eVar 2) (eC (.int 4))) [some (encP b st), some (.list (es.map encI)), some (.int c), some (.int k), some (.int (st.length : Int)), none, none, none, none, none, none, none, none, none, none] = some (.list ([e'].map encI)) := by
        have l0 := q_lst (q_cons (one_I (e := .rests 0) (f := eTup (esCons (eC (.str "rests")) (esCons (eC (.int 0)) esNil))) (ds := [some (encP b st), some (.list (es.map encI)), some (.int c), some (.int k), some (.int (st.length : Int)), none, none, none, none, none, none, none, none, none, none]) (q_tup (q_cons rfl (q_cons rfl q_nil)) (by simp)))
          (q_cons (one_I (e := .own 0 0) (f := eTup (esCons (eC (.str "own")) (esCons (eC (.int 0)) (esCons (eC (.int 0)) esNil)))) (q_tup (q_cons rfl (q_cons rfl (q_cons rfl q_nil))) (by simp)))
          (q_cons (one_I (e := .done 0 0) (f := eTup (esCons (eC (.str "done")) (esCons (eC (.int 0)) (esCons (eC (.int 0)) esNil)))) (q_tup (q_cons rfl (q_cons rfl (q_cons rfl q_nil))) (by simp)))
          (q_cons (one_I (e := .rests (st.length : Int)) (f := eTup (esCons (eC (.str "rests")) (esCons (eVar 4) esNil))) (q_tup (q_cons rfl (q_cons (eVar_get rfl) q_nil)) (by simp))) q_nil)))) (by simp)
        obtain ⟨d, hd, ed⟩ := mod_pick l0 (g := eVar 2) (c := c) (x := eC (.int 4)) (n := 4) (eVar_get rfl) rfl (by decide) rfl
        simp only [List.mem_cons, List.not_mem_nil, or_false] at hd
        rcases hd with rfl | rfl | rfl | rfl
        · exact ⟨_, ed⟩
        · exact ⟨_, ed⟩
        · exact ⟨_, ed⟩
        · exact ⟨_, ed⟩
      obtain ⟨e', he⟩ := el
      exact tp_ok (Ok.none H2) (sl1 s02) he fun v H3 s3 r3 => q [e'] v H3 (by simp) (L2.Same.trans s02 s3) r3
    rw [decide_eq_false hes]
    refine iteF ?_
    dsimp only [tNext]
    have hpos : 0 < es.length := List.length_pos_iff.mpr hes
    have ra := fmod_rng (a := k) (b := (es.length : Int)) (by omega)
    obtain ⟨a, ea⟩ : ∃ a : Nat, (a : Int) = k.fmod (es.length : Int) := ⟨(k.fmod (es.length : Int)).toNat, by omega⟩
    have ha : a < es.length := by omega
    obtain ⟨ev, hev⟩ : ∃ ev, es[a]? = some ev := ⟨es[a], List.getElem?_eq_getElem ha⟩
    -- at
    refine z_seq ?_
    refine z_asg ?_
    refine tp_int (i := (a : Int)) (Ok.none H2) (sl1 s02) (by rw [mod_ev (eVar_get rfl) (len_Is (eVar_get rfl)) (by omega), ea]) fun H3 s3 => ?_
    refine z_name ?_
    dsimp only
    -- way
    refine z_seq ?_
    refine z_asg ?_
    refine tp_int (i := c.fmod 8) (Ok.none H3) (sl1 (L2.Same.trans s02 s3)) (mod_ev (eVar_get rfl) rfl (by decide)) fun H4 s4 => ?_
    have s04 := L2.Same.trans s02 (L2.Same.trans s3 s4)
    refine z_name ?_
    dsimp only
    -- places
    refine z_seq ?_
    refine z_asg ?_
    refine lc_rng_of rfl _ _ _ ?_
    refine tp_ok (Ok.none H4) (sl1 s04) (plc_lc rfl rfl (by omega)) fun v7 H5 s5 r7 => ?_
    have s05 := L2.Same.trans s04 s5
    refine z_name ?_
    dsimp only
    have sl5 : ∀ {H' : Hp} {x8 x9 x10 x11 x12 x13 x14 : Option V}, Same H5 H' → SlD M0 H' [some vp, some ve, some (.int c), some (.int k), some (.int (st.length : Int)), some (.int (a : Int)), some (.int (c.fmod 8)), some v7, x8, x9, x10, x11, x12, x13, x14] [some (encP b st), some (.list (es.map encI)), some (.int c), some (.int k), some (.int (st.length : Int)), some (.int (a : Int)), some (.int (c.fmod 8)), some (encL (plc es)), none, none, none, none, none, none, none] := fun s' =>
      .yes (rp.same (L2.Same.trans s05 s')) (.yes (re.same (L2.Same.trans s05 s')) (.yes (.int _) (.yes (.int _) (.yes (.int _) (.yes (.int _) (.yes (.int _) (.yes (r7.same s') (.no _ (.no _ (.no _ (.no _ (.no _ (.no _ (.no _ .nil))))))))))))))
    have wy : ∀ (j : Int), bT (eOp oEq (eVar 6) (eC (.int j))) [some (encP b st), some (.list (es.map encI)), some (.int c), some (.int k), some (.int (st.length : Int)), some (.int (a : Int)), some (.int (c.fmod 8)), some (encL (plc es)), none, none, none, none, none, none, none] = some (c.fmod 8 == j) := fun j => eq_ev (eVar_get rfl) rfl
    -- way 4
    refine z_seq ?_
    refine z_if ?_
    have pl := plc_len es
    refine tpt_ok (Ok.none H5) (sl5 (L2.Same.refl _)) (and_ev (wy 4) (nenil_N (eVar_get rfl) (by omega))) fun H6 s6 => ?_
    by_cases h4 : ((c.fmod 8 == 4) && !decide (plc es = [])) = true
    · rw [h4]
      refine iteT ?_
      have hne : plc es ≠ [] := fun z => by rw [z] at h4; simp at h4
      obtain ⟨i, hi, ei⟩ := in_N (l := plc es) (f := eVar 7) (g := eVar 3) (x := eCall oLen (esCons (eVar 7) esNil)) (c := k) (ds := [some (encP b st), some (.list (es.map encI)), some (.int c), some (.int k), some (.int (st.length : Int)), some (.int (a : Int)), some (.int (c.fmod 8)), some (encL (plc es)), none, none, none, none, none, none, none]) (eVar_get rfl) (eVar_get rfl) (len_N (eVar_get rfl)) hne
      have hil := plc_lt hi
      obtain ⟨ei', hei⟩ : ∃ ei', es[i]? = some ei' := ⟨es[i], List.getElem?_eq_getElem hil⟩
      refine z_seq ?_
      refine z_asg ?_
      refine tp_int (Ok.none H6) (sl5 s6) ei fun H7 s7 => ?_
      refine z_name ?_
      dsimp only
      have slI : ∀ {H' : Hp} {x8 x9 x10 x11 x12 x13 x14 : Option V}, Same H6 H' → SlD M0 H' [some vp, some ve, some (.int c), some (.int k), some (.int (st.length : Int)), some (.int (i : Int)), some (.int (c.fmod 8)), some v7, x8, x9, x10, x11, x12, x13, x14] [some (encP b st), some (.list (es.map encI)), some (.int c), some (.int k), some (.int (st.length : Int)), some (.int (i : Int)), some (.int (c.fmod 8)), some (encL (plc es)), none, none, none, none, none, none, none] := fun {H' x8 x9 x10 x11 x12 x13 x14} s' => (sl5 (x8 := x8) (x9 := x9) (x10 := x10) (x11 := x11) (x12 := x12) (x13 := x13) (x14 := x14) (L2.Same.trans s6 s')).set 5 (.int (i : Int))
      refine z_seq ?_
      refine z_asg ?_
      refine tp_int (i := wOf ei') (Ok.none H7) (slI s7) (w_ev (at_ev (eVar_get rfl) (eVar_get rfl) hei)) fun H8 s8 => ?_
      refine z_name ?_
      dsimp only
      have s78 := L2.Same.trans s7 s8
      refine z_ret ?_
      have fin : ∃ e', eOp oAdd (eSl (eVar 1) eNoPart (ePart (eOp oAdd (eVar 5) (eC (.int 1))))) (eOp oIx (eLst (esCons (eLst (esCons (eTup (esCons (eC (.str "done")) (esCons (eVar 9) (esCons (eOp oIx (eOp oIx (eVar 1) (eVar 5)) (eUn oNeg (eC (.int 1)))) esNil)))) esNil)) (esCons (eLst (esCons (eTup (esCons (eC (.str "rests")) (esCons (eVar 9) esNil))) esNil)) esNil))) (eOp oMod (eOp oDiv (eVar 2) (eC (.int 8))) (eC (.int 2)))) [some (encP b st), some (.list (es.map encI)), some (.int c), some (.int k), some (.int (st.length : Int)), some (.int (i : Int)), some (.int (c.fmod 8)), some (encL (plc es)), none, some (.int (wOf ei')), none, none, none, none, none] = some (.list ((es.take (i + 1) ++ [e']).map encI)) := by
        have t1 := to_ev (f := eVar 1) (g := eOp oAdd (eVar 5) (eC (.int 1))) (a := i + 1) (es := es) (ds := [some (encP b st), some (.list (es.map encI)), some (.int c), some (.int k), some (.int (st.length : Int)), some (.int (i : Int)), some (.int (c.fmod 8)), some (encL (plc es)), none, some (.int (wOf ei')), none, none, none, none, none]) (eVar_get rfl) ((add_ev (x := (i : Int)) (eVar_get rfl) rfl).trans rfl)
        have l0 := q_lst (q_cons (one_I (e := .done (wOf ei') (lastI ei')) (f := eTup (esCons (eC (.str "done")) (esCons (eVar 9) (esCons (eOp oIx (eOp oIx (eVar 1) (eVar 5)) (eUn oNeg (eC (.int 1)))) esNil)))) (ds := [some (encP b st), some (.list (es.map encI)), some (.int c), some (.int k), some (.int (st.length : Int)), some (.int (i : Int)), some (.int (c.fmod 8)), some (encL (plc es)), none, some (.int (wOf ei')), none, none, none, none, none]) (q_tup (q_cons (e := eC (.str "done")) rfl (q_cons (eVar_get rfl) (q_cons (last_ev (at_ev (eVar_get rfl) (eVar_get rfl) hei)) q_nil))) (by simp)))
          (q_cons (one_I (e := .rests (wOf ei')) (f := eTup (esCons (eC (.str "rests")) (esCons (eVar 9) esNil))) (q_tup (q_cons (e := eC (.str "rests")) rfl (q_cons (eVar_get rfl) q_nil)) (by simp))) q_nil)) (by simp)
        obtain ⟨d, hd, ed⟩ := mod_pick l0 (g := eOp oDiv (eVar 2) (eC (.int 8))) (c := c.fdiv 8) (x := eC (.int 2)) (n := 2) (div_ev (eVar_get rfl) rfl (by decide) (by decide)) rfl (by decide) rfl
        simp only [List.mem_cons, List.not_mem_nil, or_false] at hd
        rcases hd with rfl | rfl
        · exact ⟨_, add_I t1 ed (by rw [List.length_take, List.length_singleton]; omega)⟩
        · exact ⟨_, add_I t1 ed (by rw [List.length_take, List.length_singleton]; omega)⟩
      obtain ⟨e', he⟩ := fin
      exact tp_ok (Ok.none H8) ((slI s78).set 9 (.int (wOf ei'))) he fun v H9 s9 r9 => q _ v H9 (by rw [List.length_append, List.length_take, List.length_singleton]; omega) (L2.Same.trans s05 (L2.Same.trans s6 (L2.Same.trans s78 s9))) r9
    rw [show ((c.fmod 8 == 4) && !decide (plc es = [])) = false by simpa using h4]
    refine iteF ?_
    dsimp only [tNext]
    -- way 5
    refine z_join (fun σ' H' => ∃ x9 x10 x11 : Option V, σ' = [some vp, some ve, some (.int c), some (.int k), some (.int (st.length : Int)), some (.int (a : Int)), some (.int (c.fmod 8)), some v7, none, x9, x10, x11, none, none, none] ∧ Same H5 H') ?_ (fun rest => ?_)
    · rintro σ' G ⟨x9, x10, x11, rfl, s5g⟩
      have s0g := L2.Same.trans s05 s5g
      have slG : ∀ {H' : Hp} {x8 x9 x10 x11 x12 x13 x14 : Option V}, Same G H' → SlD M0 H' [some vp, some ve, some (.int c), some (.int k), some (.int (st.length : Int)), some (.int (a : Int)), some (.int (c.fmod 8)), some v7, x8, x9, x10, x11, x12, x13, x14] [some (encP b st), some (.list (es.map encI)), some (.int c), some (.int k), some (.int (st.length : Int)), some (.int (a : Int)), some (.int (c.fmod 8)), some (encL (plc es)), none, none, none, none, none, none, none] := fun s' => sl5 (L2.Same.trans s5g s')
      have tk : ∀ {ds : Sl}, ds[1]? = some (some (.list (es.map encI))) → ds[5]? = some (some (.int (a : Int))) → eSl (eVar 1) eNoPart (ePart (eVar 5)) ds = some (.list ((es.take a).map encI)) := fun h1 h5 => to_ev (eVar_get h1) (eVar_get h5)
      have dr : ∀ {ds : Sl} (j : Nat), ds[1]? = some (some (.list (es.map encI))) → ds[5]? = some (some (.int (a : Int))) → eSl (eVar 1) (ePart (eOp oAdd (eVar 5) (eC (.int (j : Int))))) eNoPart ds = some (.list ((es.drop (a + j)).map encI)) := fun j h1 h5 => from_ev (eVar_get h1) ((add_ev (eVar_get h5) rfl).trans rfl)
      have lt : (es.take a).length ≤ a := by rw [List.length_take]; omega
      have ld : ∀ j, (es.drop j).length = es.length - j := fun j => List.length_drop ..
      -- way 0
      refine z_seq ?_
      refine z_if ?_
      refine tpt_ok (Ok.none G) (slG (L2.Same.refl _)) (wy 0) fun G1 t1 => ?_
      by_cases h0 : (c.fmod 8 == 0) = true
      · rw [h0]
        refine iteT ?_
        refine z_ret ?_
        refine tp_ok (Ok.none G1) (slG t1) (add_I (tk rfl rfl) (dr 1 rfl rfl) (by rw [ld]; omega)) fun v H9 s9 r9 => q _ v H9 (by rw [List.length_append, ld]; omega) (L2.Same.trans s0g (L2.Same.trans t1 s9)) r9
      rw [show (c.fmod 8 == 0) = false by simpa using h0]
      refine iteF ?_
      dsimp only [tNext]
      -- way 1
      refine z_seq ?_
      refine z_if ?_
      refine tpt_ok (Ok.none G1) (slG t1) (wy 1) fun G2 t2 => ?_
      have t02 := L2.Same.trans t1 t2
      by_cases h1 : (c.fmod 8 == 1) = true
      · rw [h1]
        refine iteT ?_
        refine z_ret ?_
        refine tp_ok (Ok.none G2) (slG t02) (add_I (add_I (tk rfl rfl) (one_I (at_ev (eVar_get rfl) (eVar_get rfl) hev)) (by rw [List.length_singleton]; omega)) (from_ev (a := a) (es := es) (eVar_get rfl) (eVar_get rfl)) (by rw [List.length_append, List.length_singleton, ld]; omega)) fun v H9 s9 r9 => q _ v H9 (by rw [List.length_append, List.length_append, List.length_singleton, ld]; omega) (L2.Same.trans s0g (L2.Same.trans t02 s9)) r9
      rw [show (c.fmod 8 == 1) = false by simpa using h1]
      refine iteF ?_
      dsimp only [tNext]
      -- way 2
      refine z_seq ?_
      refine z_if ?_
      refine tpt_ok (Ok.none G2) (slG t02) (wy 2) fun G3 t3 => ?_
      have t03 := L2.Same.trans t02 t3
      by_cases h2 : (c.fmod 8 == 2) = true
      · rw [h2]
        refine iteT ?_
        refine z_seq ?_
        refine z_asg ?_
        refine tp_ok (Ok.none G3) (slG t03) (eVar_get (i := 1) (d := .list (es.map encI)) rfl) fun v1 G4 t4 r1 => ?_
        have t04 := L2.Same.trans t03 t4
        cases r1 with
        | lst ae ne re1 =>
          rename_i al xs
          refine tp_int (i := (a : Int)) (Ok.none G4) (slG t04) (eVar_get rfl) fun G5 t5 => ?_
          refine ⟨_, rfl, ?_⟩
          refine tp_int (i := ((a + 2 : Nat) : Int)) (Ok.none G5) (slG (L2.Same.trans t04 t5)) ((add_ev (x := (a : Int)) (eVar_get rfl) rfl).trans rfl) fun G6 t6 => ?_
          refine ⟨_, rfl, ?_⟩
          have t46 := L2.Same.trans t5 t6
          have t06 := L2.Same.trans t04 t46
          refine .inl ⟨al, _, rfl, SqL.of (t46 _ _ ae), fun p hp => ?_⟩
          refine z_name ?_
          dsimp only
          -- the two turned round
          refine z_seq ?_
          refine z_drop ?_
          refine ⟨_, rfl, .inl ⟨rfl, _, SqL.of upd_same⟩, ?_⟩
          refine ⟨p, _, rfl, rfl, upd_same, ?_⟩
          rw [upd_upd]
          dsimp only
          obtain ⟨l, el, l1, l2⟩ := two_ev (f := eVar 1) (g := eVar 5) (h := eOp oAdd (eVar 5) (eC (.int 2))) (a := a) (b := a + 2) (es := es) (ds := [some (encP b st), some (.list (es.map encI)), some (.int c), some (.int k), some (.int (st.length : Int)), some (.int (a : Int)), some (.int (c.fmod 8)), some (encL (plc es)), none, none, none, none, none, none, none]) (eVar_get rfl) (eVar_get rfl) ((add_ev (x := (a : Int)) (eVar_get rfl) rfl).trans rfl)
          have el' : cutD (es.map encI) (some (a : Int)) (some ((a + 2 : Nat) : Int)) = l.map encI := by
            have z : (some (PyData.list (cutD (es.map encI) (some (a : Int)) (some ((a + 2 : Nat) : Int)))) : Option D) = some (.list (l.map encI)) := el
            injection z with z
            injection z with z
          have rc := ((re1.cut (some (a : Int)) (some ((a + 2 : Nat) : Int))).same t46).rev
          rw [el', ← List.map_reverse] at rc
          have tp := Pu.Same.new (o := .lst (cutV xs (some (a : Int)) (some ((a + 2 : Nat) : Int))).reverse) hp
          have t07 := L2.Same.trans t06 tp
          have r2 : Rp M0 (upd G6 p (.lst (cutV xs (some (a : Int)) (some ((a + 2 : Nat) : Int))).reverse)) (.ref p) (.list (l.reverse.map encI)) := .lst upd_same (fun z => z) (rc.same tp)
          refine z_ret ?_
          refine z_op ?_
          refine z_op ?_
          refine tp_ok (Ok.none _) (slG t07) (tk rfl rfl) fun va Ga ta ra => ?_
          refine ⟨_, rfl, ?_⟩
          refine os_add M0 Ga _ _ _ _ _ _ (Ok.none _) ra (r2.same ta) (oAdd_Is (by rw [List.length_reverse]; omega)) fun vb Gb tb rb => ?_
          have t09 := L2.Same.trans t07 (L2.Same.trans ta tb)
          refine tp_ok (Ok.none Gb) (slG t09) (dr 2 rfl rfl) fun vc Gc tc rc => ?_
          refine os_add M0 Gc _ _ _ _ _ _ (Ok.none _) (rb.same tc) rc (oAdd_Is (by rw [List.length_append, List.length_reverse, ld]; omega)) fun v H9 s9 r9 => q _ v H9 (by rw [List.length_append, List.length_append, List.length_reverse, ld]; omega) (L2.Same.trans s0g (L2.Same.trans t09 (L2.Same.trans tc s9))) r9
      rw [show (c.fmod 8 == 2) = false by simpa using h2]
      refine iteF ?_
      dsimp only [tNext]
      -- way 3
      refine z_seq ?_
      refine z_if ?_
      refine tpt_ok (Ok.none G3) (slG t03) (wy 3) fun G4 t4 => ?_
      have t04 := L2.Same.trans t03 t4
      by_cases h3 : (c.fmod 8 == 3) = true
      · rw [h3]
        refine iteT ?_
        have rpl := fmod_rng (a := c.fdiv 8) (b := (es.length : Int) + 1) (by omega)
        obtain ⟨pp, epp⟩ : ∃ pp : Nat, (pp : Int) = (c.fdiv 8).fmod ((es.length : Int) + 1) := ⟨((c.fdiv 8).fmod ((es.length : Int) + 1)).toNat, by omega⟩
        refine z_seq ?_
        refine z_asg ?_
        refine tp_int (i := (pp : Int)) (Ok.none G4) (slG t04) (by rw [mod_ev (div_ev (eVar_get rfl) rfl (by decide) (by decide)) (add_ev (len_Is (eVar_get rfl)) rfl) (by omega), epp]) fun G5 t5 => ?_
        refine z_name ?_
        dsimp only
        refine z_ret ?_
        have slP := (slG (x8 := none) (x9 := x9) (x10 := x10) (x11 := x11) (x12 := none) (x13 := none) (x14 := none) (L2.Same.trans t04 t5)).set 13 (.int (pp : Int))
        have lp : (es.take pp).length ≤ pp := by rw [List.length_take]; omega
        refine tp_ok (Ok.none G5) slP (add_I (add_I (to_ev (a := pp) (es := es) (eVar_get rfl) (eVar_get rfl)) (one_I (at_ev (eVar_get rfl) (eVar_get rfl) hev)) (by rw [List.length_singleton]; omega)) (from_ev (a := pp) (es := es) (eVar_get rfl) (eVar_get rfl)) (by rw [List.length_append, List.length_singleton, ld]; omega)) fun v H9 s9 r9 => q _ v H9 (by rw [List.length_append, List.length_append, List.length_singleton, ld]; omega) (L2.Same.trans s0g (L2.Same.trans t04 (L2.Same.trans t5 s9))) r9
      rw [show (c.fmod 8 == 3) = false by simpa using h3]
      refine iteF ?_
      dsimp only [tNext]
      -- else
      refine z_seq ?_
      refine z_asg ?_
      have eb0 : eOp oIx (eVar 0) (eC (.int 0)) [some (encP b st), some (.list (es.map encI)), some (.int c), some (.int k), some (.int (st.length : Int)), some (.int (a : Int)), some (.int (c.fmod 8)), some (encL (plc es)), none, none, none, none, none, none, none] = some (encLL b) := by rw [eOp_ev (eVar_get rfl) rfl]; exact oIx0
      have eb : eCall oLen (esCons (eOp oIx (eVar 0) (eC (.int 0))) esNil) [some (encP b st), some (.list (es.map encI)), some (.int c), some (.int k), some (.int (st.length : Int)), some (.int (a : Int)), some (.int (c.fmod 8)), some (encL (plc es)), none, none, none, none, none, none, none] = some (.int (b.length : Int)) := (q_call (q_cons eb0 rfl)).trans (by show some (PyData.int ((b.map encL).length : Int)) = _; rw [List.length_map])
      obtain ⟨e', he'⟩ := l_event_ev ev (c.fdiv 8) (st.length : Int) (b.length : Int) (by omega)
      have hc := (q_call (o := M_l_event) (q_cons (at_ev (f := eVar 1) (g := eVar 5) (eVar_get rfl) (eVar_get rfl) hev) (q_cons (div_ev (f := eVar 2) (g := eC (.int 8)) (x := c) (y := 8) (eVar_get rfl) rfl (by decide) (by decide)) (q_cons (e := eVar 4) (eVar_get rfl) (q_cons eb q_nil))))).trans he'
      refine tp_ok (Ok.none G4) (slG t04) hc fun v14 G5 t5 r14 => ?_
      refine z_name ?_
      dsimp only
      refine z_ret ?_
      have slE := (slG (x8 := none) (x9 := x9) (x10 := x10) (x11 := x11) (x12 := none) (x13 := none) (x14 := none) (L2.Same.trans t04 t5)).set 14 r14
      refine tp_ok (Ok.none G5) slE (add_I (add_I (tk rfl rfl) (one_I (eVar_get rfl)) (by rw [List.length_singleton]; omega)) (dr 1 rfl rfl) (by rw [List.length_append, List.length_singleton, ld]; omega)) fun v H9 s9 r9 => q _ v H9 (by rw [List.length_append, List.length_append, List.length_singleton, ld]; omega) (L2.Same.trans s0g (L2.Same.trans t04 (L2.Same.trans t5 s9))) r9
    · refine tpt_ok (Ok.none H6) (sl5 s6) (wy 5) fun H7 s7 => ?_
      have s57 := L2.Same.trans s6 s7
      by_cases h5 : (c.fmod 8 == 5) = true
      · rw [h5]
        refine iteT ?_
        -- state
        refine z_seq ?_
        refine z_asg ?_
        refine tp_ok (Ok.none H7) (sl5 s57) (eVar_get (i := 0) (d := encP b st) rfl) fun va Ha sa ra => ?_
        refine tp_ok (Ok.none Ha) (sl5 (L2.Same.trans s57 sa)) (to_ev (a := a) (es := es) (eVar_get rfl) (eVar_get rfl)) fun vb Hb sb rb => ?_
        have sab := L2.Same.trans s57 (L2.Same.trans sa sb)
        have hrb := PL.rowb
        refine ⟨va, vb, b, st, es.take a, rfl, ra.same sb, rb, PL, by rw [List.length_take]; omega, fun Hc hg sc => ?_, fun q' vt Hc hg sc rt => ?_⟩
        · refine z_name ?_
          dsimp only
          have s5c := L2.Same.trans sab sc
          refine z_seq ?_
          refine z_asg ?_
          refine tp_ok (Ok.none Hc) (SlD.nones _) (show eLst esNil _ = some (encL []) from q_lst q_nil (by show 0 ≤ 1000; decide)) fun v11 Hd sd rd => ?_
          refine z_name ?_
          dsimp only
          have s5d := L2.Same.trans s5c sd
          have slN : ∀ {H' : Hp}, Same Hd H' → SlD M0 H' [some vp, some ve, some (.int c), some (.int k), some (.int (st.length : Int)), some (.int (a : Int)), some (.int (c.fmod 8)), some v7, none, none, some .non, some v11, none, none, none] [some (encP b st), some (.list (es.map encI)), some (.int c), some (.int k), some (.int (st.length : Int)), some (.int (a : Int)), some (.int (c.fmod 8)), some (encL (plc es)), none, none, some .none, some (encL []), none, none, none] := fun {H'} t => ((sl5 (x8 := none) (x9 := none) (x10 := none) (x11 := none) (x12 := none) (x13 := none) (x14 := none) (L2.Same.trans s5d t)).set 10 (.non)).set 11 (rd.same t)
          refine z_seq ?_
          refine z_if ?_
          refine tpt_ok (b := false) (Ok.none Hd) (slN (L2.Same.refl _)) (bT_of ((eOp_ev (eVar_get rfl) rfl).trans rfl)) fun He se => ?_
          refine iteF ?_
          dsimp only [tNext]
          refine z_if ?_
          refine tpt_ok (Ok.none He) (slN se) (nenil_N (l := []) (eVar_get rfl) (by show 0 ≤ 1000000; decide)) fun Hf sf => ?_
          refine iteF ?_
          dsimp only [tNext]
          exact rest _ _ ⟨_, _, _, rfl, (L2.Same.trans s5d (L2.Same.trans se sf))⟩
        · refine z_name ?_
          dsimp only
          have s5c := L2.Same.trans sab sc
          obtain ⟨O, hql, hqr⟩ := goIs_inv PL.inb (es.take a) (PlOk.start PL) (N := 1000) (fun r hr => by have := hrb.2 r hr; have := PL.size; omega) hg
          have hqm : q'.rows.length = st.length := hql
          refine z_seq ?_
          refine z_asg ?_
          refine tp_ok (Ok.none Hc) (SlD.nones _) (show eLst esNil _ = some (encL []) from q_lst q_nil (by show 0 ≤ 1000; decide)) fun v11 Hd sd rd => ?_
          refine z_name ?_
          dsimp only
          have s5d := L2.Same.trans s5c sd
          have slN : ∀ {H' : Hp} {x11 : Option V}, Same Hd H' → SlD M0 H' [some vp, some ve, some (.int c), some (.int k), some (.int (st.length : Int)), some (.int (a : Int)), some (.int (c.fmod 8)), some v7, none, none, some vt, x11, none, none, none] [some (encP b st), some (.list (es.map encI)), some (.int c), some (.int k), some (.int (st.length : Int)), some (.int (a : Int)), some (.int (c.fmod 8)), some (encL (plc es)), none, none, some (encPl q'), none, none, none, none] := fun {H' x11} t => (sl5 (x8 := none) (x9 := none) (x10 := none) (x11 := x11) (x12 := none) (x13 := none) (x14 := none) (L2.Same.trans s5d t)).set 10 (rt.same (L2.Same.trans sd t))
          refine z_seq ?_
          refine z_if ?_
          refine tpt_ok (b := true) (Ok.none Hd) (slN (L2.Same.refl _)) (bT_of ((eOp_ev (eVar_get rfl) rfl).trans rfl)) fun He se => ?_
          refine iteT ?_
          refine z_asg ?_
          refine lc_rng_of rfl _ _ _ ?_
          refine tp_ok (Ok.none He) (slN se) (free_lc O (fun r hr => by have := hqr r hr; rw [List.length_take] at this; omega) (by rw [hqm]; rfl) rfl rfl (by omega)) fun v11b Hf sf rf => ?_
          refine z_name ?_
          dsimp only
          have sdf := L2.Same.trans se sf
          have fl : (freeL q').length ≤ q'.rows.length := by
            have := List.length_filter_le (fun w => decide (q'.H w = none) && !decide (q'.R w = [])) (List.range q'.rows.length)
            rw [List.length_range] at this
            exact this
          have slF : ∀ {H' : Hp}, Same Hf H' → SlD M0 H' [some vp, some ve, some (.int c), some (.int k), some (.int (st.length : Int)), some (.int (a : Int)), some (.int (c.fmod 8)), some v7, none, none, some vt, some v11b, none, none, none] [some (encP b st), some (.list (es.map encI)), some (.int c), some (.int k), some (.int (st.length : Int)), some (.int (a : Int)), some (.int (c.fmod 8)), some (encL (plc es)), none, none, some (encPl q'), some (encL (freeL q')), none, none, none] := fun {H'} t => (slN (x11 := some v11) (L2.Same.trans sdf t)).set 11 (rf.same t)
          refine z_if ?_
          refine tpt_ok (Ok.none Hf) (slF (L2.Same.refl _)) (nenil_N (l := freeL q') (eVar_get rfl) (by omega)) fun Hg sg => ?_
          by_cases hfr : freeL q' = []
          · rw [decide_eq_true hfr]
            refine iteF ?_
            dsimp only [tNext]
            exact rest _ _ ⟨_, _, _, rfl, (L2.Same.trans s5d (L2.Same.trans sdf sg))⟩
          · rw [decide_eq_false hfr]
            refine iteT ?_
            obtain ⟨i, hi, ei⟩ := in_N (l := freeL q') (f := eVar 11) (g := eOp oDiv (eVar 2) (eC (.int 8))) (x := eCall oLen (esCons (eVar 11) esNil)) (c := c.fdiv 8) (ds := [some (encP b st), some (.list (es.map encI)), some (.int c), some (.int k), some (.int (st.length : Int)), some (.int (a : Int)), some (.int (c.fmod 8)), some (encL (plc es)), none, none, some (encPl q'), some (encL (freeL q')), none, none, none]) (eVar_get rfl) (div_ev (eVar_get rfl) rfl (by decide) (by decide)) (len_N (eVar_get rfl)) hfr
            obtain ⟨i1, i2⟩ := freeL_in hi
            refine z_seq ?_
            refine z_asg ?_
            refine tp_int (Ok.none Hg) (slF sg) ei fun Hh sh => ?_
            refine z_name ?_
            dsimp only
            refine z_ret ?_
            have slI := (slF (L2.Same.trans sg sh)).set 9 (.int (i : Int))
            obtain ⟨t, et⟩ := first_ev (q := q') (w := i) (f := eVar 10) (g := eVar 9) (ds := [some (encP b st), some (.list (es.map encI)), some (.int c), some (.int k), some (.int (st.length : Int)), some (.int (a : Int)), some (.int (c.fmod 8)), some (encL (plc es)), none, some (.int (i : Int)), some (encPl q'), some (encL (freeL q')), none, none, none]) i1 i2 (eVar_get rfl) (eVar_get rfl)
            have eo := one_I (e := .taken (i : Int) (i : Int) (t : Int)) (f := eTup (esCons (eC (.str "taken")) (esCons (eVar 9) (esCons (eVar 9) (esCons (eOp oIx (eOp oIx (eOp oIx (eVar 10) (eC (.int 0))) (eVar 9)) (eC (.int 0))) esNil))))) (ds := [some (encP b st), some (.list (es.map encI)), some (.int c), some (.int k), some (.int (st.length : Int)), some (.int (a : Int)), some (.int (c.fmod 8)), some (encL (plc es)), none, some (.int (i : Int)), some (encPl q'), some (encL (freeL q')), none, none, none]) (q_tup (q_cons (e := eC (.str "taken")) rfl (q_cons (eVar_get rfl) (q_cons (eVar_get rfl) (q_cons et q_nil)))) (by simp))
            refine tp_ok (Ok.none Hh) slI (add_I (to_ev (a := a) (es := es) (eVar_get rfl) (eVar_get rfl)) eo (by rw [List.length_take, List.length_singleton]; omega)) fun v H9 s9 r9 => q _ v H9 (by rw [List.length_append, List.length_take, List.length_singleton]; omega) (L2.Same.trans s05 (L2.Same.trans s5d (L2.Same.trans sdf (L2.Same.trans sg (L2.Same.trans sh s9))))) r9
      · rw [show (c.fmod 8 == 5) = false by simpa using h5]
        refine iteF ?_
        dsimp only [tNext]
        exact rest _ _ ⟨_, _, _, rfl, s57⟩

theorem ok_l_cell_at {P : Program} {w : World} {K : PySem.W.Frag} {mg : Str → Option Value} {base : Heap} (T : Txt K mg) : FnOk P w K mg base CX0 1 T.f_l_cell_at T.fd_l_cell_at ["_law_script", "_law_k"] (spCellZ K) := by
  refine T.F_l_cell_at.ok sc_l_cell_at (fun vs H Q E h => ?_) (fun cdv A outer s H vs Q E hr h => ⟨_, (pss_cons (ps_if (pt_cmpR op_lt (pd_name 1) (pe_callB cr_len rfl T.z_len bt_len (pa_cons (pv 0) pa_nil)) (nomark _)) (pss_one (ps_ret (pe_ix ix_D (pv 0) (pd_name 1) (fun _ _ => rfl)))) pss_nil) (pss_one (ps_ret pd_int))), ?_⟩)
  · obtain ⟨a, ns, k, rfl, _⟩ := h
    rfl
  · obtain ⟨a, ns, k, rfl, hS, hk, q⟩ := h
    have s0 : ∀ {H1 : Hp}, SlD M0 H1 (start N_l_cell_at [.ref a, .int k]) [none, some (.int k)] := fun {H1} => .no _ (.yes (.int k) .nil)
    refine tp_int (i := k) (Ok.none H) s0 rfl fun H1 s1 => ?_
    refine ⟨_, rfl, a, _, rfl, .inl (s1.seq hS), _, _, rfl, rfl, _, rfl, ?_⟩
    rw [List.length_map]
    by_cases c : k < (ns.length : Int)
    · rw [decide_eq_true c]
      refine iteT ?_
      refine ⟨_, rfl, ?_⟩
      refine tp_int (i := k) (Ok.none H1) s0 rfl fun H2 s2 => ?_
      have hn : k.toNat < ns.length := by omega
      refine .inl ⟨a, _, k, .int ns[k.toNat], rfl, rfl, s2.seq (s1.seq hS), at_of (j := k.toNat) (by omega) (by rw [List.getElem?_map, List.getElem?_eq_getElem hn]; rfl), ?_⟩
      exact q _ _ (L2.Same.trans s1 s2)
    · rw [decide_eq_false c]
      refine iteF ?_
      refine tp_int (i := 0) (Ok.none H1) s0 rfl fun H2 s2 => ?_
      exact q _ _ (L2.Same.trans s1 s2)

theorem ok_l_plan_by {P : Program} {w : World} {K : PySem.W.Frag} {mg : Str → Option Value} {base : Heap} (T : Txt K mg) : FnOk P w K mg base CX0 2 T.f_l_plan_by T.fd_l_plan_by ["_law_script", "_law_first", "_law_most"] (spPlanZ K) := by
  have G_l_cell_at := ok_l_cell_at (P := P) (w := w) (base := base) T
  refine T.F_l_plan_by.ok sc_l_plan_by (fun vs H Q E h => ?_) (fun cdv A outer s H vs Q E hr h => ⟨_, (pss_cons (ps_set (i := 3) sc_l_plan_by.nd rfl (by first | exact Or.inl rfl | exact Or.inr rfl) (pe_call G_l_cell_at (hr.mono (by decide)) rfl T.m_l_cell_at T.F_l_cell_at.kp T.b_l_cell_at .nil pass0 (pa_cons (pv 0) (pa_cons (pd_name 1) pa_nil)))) (pss_cons (ps_set (i := 4) sc_l_plan_by.nd rfl (by first | exact Or.inl rfl | exact Or.inr rfl) (pd_op or_addD os_add pd_int (pd_op op_modN os_mod (pd_name 3) (pd_ix (pd_lst (pda_cons pd_int (pda_cons pd_int (pda_cons pd_int pda_nil)))) (pd_op op_modN os_mod (pd_op op_fdivN os_div (pd_name 3) pd_int) pd_int))))) (pss_cons (ps_set (i := 5) sc_l_plan_by.nd rfl (by first | exact Or.inl rfl | exact Or.inr rfl) (pd_op op_modN os_mod (pd_op op_fdivN os_div (pd_name 3) pd_int) (pd_op or_addD os_add (pd_name 2) pd_int))) (pss_cons (ps_setLc (i := 6) rfl sc_l_plan_by.nd rfl rfl (sw_true rfl rfl rfl (by decide +kernel)) (pi_range1 rfl T.z_range (pa_cons (pd_name 5) pa_nil)) (blkOk_by (N := N_l_plan_by) (sc := defScope s_l_plan_by) (own := [("_law_task", 7)]) (by decide +kernel)) (fun _ _ _ _ _ => pg_name (i := 7) sc_l_plan_by.nd rfl (Or.inl rfl)) (fun _ _ _ _ _ => pts_nil) (fun _ _ _ _ _ => (pe_lst pa_nil))) (pss_cons (ps_setLc (i := 8) rfl sc_l_plan_by.nd rfl rfl (sw_true rfl rfl rfl (by decide +kernel)) (pi_range1 rfl T.z_range (pa_cons (pd_name 4) pa_nil)) (blkOk_by (N := N_l_plan_by) (sc := defScope s_l_plan_by) (own := [("_law_worker", 9)]) (by decide +kernel)) (fun _ _ _ _ _ => pg_name (i := 9) sc_l_plan_by.nd rfl (Or.inl rfl)) (fun _ _ _ _ _ => pts_nil) (fun _ _ _ _ _ => (pe_lst pa_nil))) (pss_cons (ps_for PassesOwn.never rfl (pi_range1 rfl T.z_range (pa_cons (pd_name 5) pa_nil)) (pg_name (i := 7) sc_l_plan_by.nd rfl (by first | exact Or.inl rfl | exact Or.inr rfl)) (pss_cons (ps_set (i := 10) sc_l_plan_by.nd rfl (by first | exact Or.inl rfl | exact Or.inr rfl) (pe_op or_addD (pe_call G_l_cell_at (hr.mono (by decide)) rfl T.m_l_cell_at T.F_l_cell_at.kp T.b_l_cell_at .nil pass0 (pa_cons (pv 0) (pa_cons (pd_op or_addD os_add (pd_op or_addD os_add (pd_name 1) pd_int) (pd_name 7)) pa_nil))) (pd_op or_mulD os_mul (pd_name 7) (pd_op op_modN os_mod (pd_op op_fdivN os_div (pd_name 3) pd_int) pd_int)))) (pss_one (ps_if (PW.pt (ptd_and (ptd_cmp op_lt os_lt (pd_op op_modN os_mod (pd_name 10) pd_int) pd_int (nomark _)) (ptd_and1 (ptd_cmp op_gt os_gt (pd_name 7) pd_int (nomark _))))) (pss_one (ps_expr (pe_bm PySem.F.plainAttrs_list PySem.F.slot_list_append PySem.F.type_list_append mt_append (pe_ix ix_D (pv 6) (pd_op op_modN os_mod (pd_op op_fdivN os_div (pd_name 10) pd_int) (pd_name 7)) (fun _ _ => rfl)) (pa_cons (pd_name 7) pa_nil)))) (pss_one (ps_if (PW.pt (ptd_and (ptd_cmp (op_eqD hr.units) os_eq (pd_op op_modN os_mod (pd_name 10) pd_int) pd_int (nomark _)) (ptd_and1 (ptd_cmp op_gt os_gt (pd_name 7) pd_int (nomark _))))) (pss_one (ps_expr (pe_bm PySem.F.plainAttrs_list PySem.F.slot_list_insert PySem.F.type_list_insert mt_insert (pe_ix ix_D (pv 6) (pd_op op_sub os_sub (pd_name 7) pd_int) (fun _ _ => rfl)) (pa_cons pd_int (pa_cons (pd_name 7) pa_nil))))) (pss_one (ps_if (ptd_cmp (op_neD hr.units) os_ne (pd_op op_modN os_mod (pd_name 10) pd_int) pd_int (nomark _)) (pss_one (ps_expr (pe_bm PySem.F.plainAttrs_list PySem.F.slot_list_append PySem.F.type_list_append mt_append (pe_ix ix_D (pv 8) (pd_op op_modN os_mod (pd_op op_fdivN os_div (pd_name 10) pd_int) (pd_ix (pd_lst (pda_cons pd_int (pda_cons (pd_name 4) pda_nil))) (pd_op op_modN os_mod (pd_op op_fdivN os_div (pd_name 3) pd_int) pd_int))) (fun _ _ => rfl)) (pa_cons (pd_name 7) pa_nil)))) pss_nil)))))))) (pss_one (ps_ret (pe_tup (pa_cons (pv 6) (pa_cons (pv 8) pa_nil))))))))))), ?_⟩)
  · obtain ⟨a, ns, first, most, rfl, _⟩ := h
    rfl
  · obtain ⟨a, ns, first, most, rfl, hS, h0, hm, q⟩ := h
    -- cell
    refine ⟨_, rfl, tp_int (i := first) (Ok.none H) (ds := [none, some (.int first), none, none, none, none, none, none, none, none, none]) (.no _ (.yes (.int first) (.no _ (.no _ (.no _ (.no _ (.no _ (.no _ (.no _ (.no _ (.no _ .nil))))))))))) rfl fun H1 s1 => ?_⟩
    refine ⟨a, ns, first, rfl, s1.seq hS, h0, fun c H2 s2 => ?_⟩
    have s12 := L2.Same.trans s1 s2
    -- many, size
    obtain ⟨m, m1, m2, em⟩ := many_ev (ds := [none, none, some (.int (most : Int)), some (.int c), none, none, none, none, none, none, none]) (f := eVar 3) (c := c) rfl
    refine tp_int (Ok.none H2) (.no _ (.no _ (.yes (.int _) (.yes (.int c) (.no _ (.no _ (.no _ (.no _ (.no _ (.no _ (.no _ .nil))))))))))) em fun H3 s3 => ?_
    obtain ⟨n, n1, en⟩ := size_ev (ds := [none, none, some (.int (most : Int)), some (.int c), none, none, none, none, none, none, none]) (f := eVar 3) (g := eVar 2) (c := c) (most := most) rfl rfl
    refine tp_int (Ok.none H3) (.no _ (.no _ (.yes (.int _) (.yes (.int c) (.no _ (.no _ (.no _ (.no _ (.no _ (.no _ (.no _ .nil))))))))))) en fun H4 s4 => ?_
    -- brood
    refine tp_int (i := (n : Int)) (Ok.none H4) (ds := [none, none, none, none, none, some (.int (n : Int)), none, none, none, none, none]) (.no _ (.no _ (.no _ (.no _ (.no _ (.yes (.int _) (.no _ (.no _ (.no _ (.no _ (.no _ .nil))))))))))) rfl fun H5 s5 => ?_
    refine ⟨(n : Int), rfl, by omega, by omega, fun lb hlb => ?_⟩
    rw [Int.toNat_natCast]
    refine lc_empties hlb (by omega) fun H6 ab R6 s6 n6 => ?_
    have s46 := L2.Same.trans s5 s6
    have s06 := L2.Same.trans (L2.Same.trans (L2.Same.trans s12 s3) s4) s46
    have nb : New H lb ab := ⟨(L2.Same.trans (L2.Same.trans (L2.Same.trans s12 s3) s4) s5).free n6.1, fun x hx => (L2.Same.trans (L2.Same.trans (L2.Same.trans s12 s3) s4) s5).free (n6.2 x hx)⟩
    -- starts
    refine tp_int (i := (m : Int)) (Ok.none H6) (ds := [none, none, none, none, some (.int (m : Int)), none, none, none, none, none, none]) (.no _ (.no _ (.no _ (.no _ (.yes (.int _) (.no _ (.no _ (.no _ (.no _ (.no _ (.no _ .nil))))))))))) rfl fun H7 s7 => ?_
    refine ⟨(m : Int), rfl, by omega, by omega, fun ls hls => ?_⟩
    rw [Int.toNat_natCast]
    refine lc_empties hls (by omega) fun H8 asr R8 s8 n8 => ?_
    have s08 := L2.Same.trans (L2.Same.trans s06 s7) s8
    have nsr : New H ls asr := ⟨(L2.Same.trans s06 s7).free n8.1, fun x hx => (L2.Same.trans s06 s7).free (n8.2 x hx)⟩
    have R6' : Rows H7 lb ab (List.replicate n []) := R6.same fun x o _ e => s7 x o e
    have R6'' : Rows H8 lb ab (List.replicate n []) := R6'.same fun x o _ e => s8 x o e
    have dis : ∀ x, (x = lb ∨ x ∈ ab) → ¬ (x = ls ∨ x ∈ asr) := fun x hx hy => by
      have e7 : H7 x = none := by
        rcases hy with rfl | hy
        · exact n8.1
        · exact n8.2 x hy
      rcases hx with rfl | hx
      · rw [R6'.top] at e7; cases e7
      · obtain ⟨i, hi⟩ := List.mem_iff_getElem?.mp hx
        obtain ⟨r, _, h2⟩ := R6'.row i x hi
        rw [h2] at e7; cases e7
    -- the loop
    refine tp_int (i := (n : Int)) (Ok.none H8) (ds := [none, none, none, none, none, some (.int (n : Int)), none, none, none, none, none]) (.no _ (.no _ (.no _ (.no _ (.no _ (.yes (.int _) (.no _ (.no _ (.no _ (.no _ (.no _ .nil))))))))))) rfl fun H9 s9 => ?_
    refine ⟨(n : Int), rfl, by omega, by omega, for_range (lo := 0) (n := (n : Int).toNat) (fun i σ H' => ∃ (b sr : LL) (v7 v10 : Option V), σ = [some (.ref a), some (.int first), some (.int (most : Int)), some (.int c), some (.int (m : Int)), some (.int (n : Int)), some (.ref lb), v7, some (.ref ls), none, v10] ∧
      PlanAt i n m b sr ∧ Rows H' lb ab (b.map vN) ∧ Rows H' ls asr (sr.map vN) ∧ Same H H') ?_ (fun i σ H' hi hP => ?_) (fun σ H' hP => ?_)⟩
    · refine ⟨_, _, none, none, rfl, PlanAt.start n m, ?_, ?_, L2.Same.trans s08 s9⟩
      · rw [List.map_replicate]; exact R6''.same fun x o _ e => s9 x o e
      · rw [List.map_replicate]; exact R8.same fun x o _ e => s9 x o e
    · obtain ⟨b, sr, v7, v10, rfl, Pl, Rb, Rs, sH⟩ := hP
      rw [Int.toNat_natCast] at hi
      rw [Int.zero_add]
      -- way
      refine ⟨_, rfl, tp_int (i := first + 1 + (i : Int)) (Ok.none H') (ds := [none, some (.int first), none, none, none, none, none, some (.int (i : Int)), none, none, none]) (.no _ (.yes (.int first) (.no _ (.no _ (.no _ (.no _ (.no _ (.yes (.int _) (.no _ (.no _ (.no _ .nil))))))))))) rfl fun G1 t1 => ?_⟩
      refine ⟨a, ns, _, rfl, (L2.Same.trans sH t1).seq hS, by omega, fun c2 G2 t2 => ?_⟩
      have hmul : ∃ z : Int, eOp oMul (eVar 7) (eOp oMod (eOp oDiv (eVar 3) (eC (.int 30000))) (eC (.int 50))) [none, none, none, some (.int c), none, none, none, some (.int (i : Int)), none, none, none] = some (.int z) :=
        ⟨_, mul_ev rfl (mod_ev (div_ev rfl rfl (by decide) (by decide)) rfl (by decide)) (.inl (by omega))⟩
      obtain ⟨z, ez⟩ := hmul
      refine tp_int (Ok.none G2) (.no _ (.no _ (.no _ (.yes (.int c) (.no _ (.no _ (.no _ (.yes (.int _) (.no _ (.no _ (.no _ .nil))))))))))) ez fun G3 t3 => .inl ⟨_, _, rfl, rfl, ?_⟩
      have t03 := L2.Same.trans (L2.Same.trans t1 t2) t3
      have Rb3 : Rows G3 lb ab (b.map vN) := Rb.same fun x o _ e => t03 x o e
      have Rs3 : Rows G3 ls asr (sr.map vN) := Rs.same fun x o _ e => t03 x o e
      have sG3 := L2.Same.trans sH t03
      have slt : ∀ {G : Hp}, SlD M0 G [some (.ref a), some (.int first), some (.int (most : Int)), some (.int c), some (.int (m : Int)), some (.int (n : Int)), some (.ref lb), some (.int (i : Int)), some (.ref ls), none, some (.int (c2 + z))]
          [none, none, none, some (.int c), some (.int (m : Int)), none, none, some (.int (i : Int)), none, none, some (.int (c2 + z))] := fun {G} =>
        .no _ (.no _ (.no _ (.yes (.int c) (.yes (.int _) (.no _ (.no _ (.yes (.int _) (.no _ (.no _ (.yes (.int (c2 + z)) .nil))))))))))
      -- the first test
      refine tpt_ok (Ok.none G3) slt (and_ev (ds := [none, none, none, some (.int c), some (.int (m : Int)), none, none, some (.int (i : Int)), none, none, some (.int (c2 + z))]) (lt_ev (mod_ev rfl rfl (by decide)) rfl) (gt_ev rfl rfl)) fun G4 t4 => ?_
      have Rb4 : Rows G4 lb ab (b.map vN) := Rb3.same fun x o _ e => t4 x o e
      have Rs4 : Rows G4 ls asr (sr.map vN) := Rs3.same fun x o _ e => t4 x o e
      have sG4 := L2.Same.trans sG3 t4
      by_cases b1 : (decide ((c2 + z).fmod 5 < 2) && decide ((0 : Int) < (i : Int))) = true
      · refine if_true_of b1 ?_
        have i0 : 0 < i := by
          rw [Bool.and_eq_true, decide_eq_true_eq, decide_eq_true_eq] at b1
          omega
        obtain ⟨j, hj, ej⟩ := under_ev (ds := [none, none, none, some (.int c), some (.int (m : Int)), none, none, some (.int (i : Int)), none, none, some (.int (c2 + z))]) (f := eVar 10) (g := eVar 7) (w := c2 + z) (i := i) rfl rfl i0
        have hjb : j < b.length := by rw [Pl.bl]; omega
        obtain ⟨r, hr1⟩ : ∃ r, b[j]? = some r := ⟨b[j], List.getElem?_eq_getElem hjb⟩
        refine ⟨_, rfl, tp_int (Ok.none G4) slt ej fun G5 t5 => ?_⟩
        have Rb5 : Rows G5 lb ab (b.map vN) := Rb4.same fun x o _ e => t5 x o e
        obtain ⟨aj, rj, e1, e2, e3, e4⟩ := Rb5.at (i := j) (by rw [List.length_map]; exact hjb)
        rw [List.getElem?_map, hr1] at e2
        cases e2
        refine .inl ⟨lb, _, _, .ref aj, rfl, rfl, SqL.of Rb5.top, at_of (j := j) rfl (by rw [List.getElem?_map, e1]; rfl), .inl ⟨rfl, _, SqL.of e3⟩, ?_⟩
        refine tp_int (i := (i : Int)) (Ok.none G5) slt rfl fun G6 t6 => ?_
        have Rb6 : Rows G6 lb ab (b.map vN) := Rb5.same fun x o _ e => t6 x o e
        have hlen : (vN r).length < sizeLine := by
          have h1 : r.length ≤ i := by
            have h2 : r.Nodup := ((List.nodup_append.mp Pl.nd).1).sublist (List.sublist_flatten_of_mem (List.mem_of_getElem? hr1))
            have h3 := List.Nodup.length_le_of_subset h2 (l₂ := List.range i) (fun x hx => List.mem_range.mpr (Pl.inb j r x hr1 hx).2)
            rw [List.length_range] at h3
            exact h3
          unfold vN
          rw [List.length_map, sizeLine_eq]
          omega
        refine ⟨aj, _, _, rfl, rfl, t6 _ _ e3, hlen, ?_⟩
        have Rb7 := Rb6.set (r := vN r ++ [.int (i : Int)]) e1
        rw [vN_snoc, map_set_vN] at Rb7
        have haj := List.mem_of_getElem? e1
        refine ⟨_, _, _, _, rfl, Pl.brood hr1 hj (List.perm_append_comm (l₁ := r) (l₂ := [i])), ?_, ?_, ?_⟩
        · rw [vN_snoc]; exact Rb7
        · refine (Rs4.same fun x o _ e => (L2.Same.trans t5 t6) x o e).same fun x o hx e => ?_
          have hne : x ≠ aj := fun e' => dis aj (.inr haj) (by rw [← e']; exact hx)
          rw [upd_ne hne]
          exact e
        · exact Pu.Same.mut (L2.Same.trans (L2.Same.trans sG4 t5) t6) (nb.2 aj haj)
      · refine if_false_of (Bool.not_eq_true _ ▸ b1) ?_
        -- the second test
        refine tpt_ok (Ok.none G4) slt (and_ev (ds := [none, none, none, some (.int c), some (.int (m : Int)), none, none, some (.int (i : Int)), none, none, some (.int (c2 + z))]) (eq_ev (mod_ev rfl rfl (by decide)) rfl) (gt_ev rfl rfl)) fun G5 t5 => ?_
        have Rb5 : Rows G5 lb ab (b.map vN) := Rb4.same fun x o _ e => t5 x o e
        have Rs5 : Rows G5 ls asr (sr.map vN) := Rs4.same fun x o _ e => t5 x o e
        have sG5 := L2.Same.trans sG4 t5
        by_cases b2 : (((c2 + z).fmod 5 == 2) && decide ((0 : Int) < (i : Int))) = true
        · refine if_true_of b2 ?_
          have i0 : 0 < i := by
            rw [Bool.and_eq_true, decide_eq_true_eq] at b2
            omega
          have hjb : i - 1 < b.length := by rw [Pl.bl]; omega
          obtain ⟨r, hr1⟩ : ∃ r, b[i - 1]? = some r := ⟨b[i - 1], List.getElem?_eq_getElem hjb⟩
          refine ⟨_, rfl, tp_int (i := (i : Int) - 1) (Ok.none G5) slt rfl fun G6 t6 => ?_⟩
          have Rb6 : Rows G6 lb ab (b.map vN) := Rb5.same fun x o _ e => t6 x o e
          obtain ⟨aj, rj, e1, e2, e3, e4⟩ := Rb6.at (i := i - 1) (by rw [List.length_map]; exact hjb)
          rw [List.getElem?_map, hr1] at e2
          cases e2
          refine .inl ⟨lb, _, _, .ref aj, rfl, rfl, SqL.of Rb6.top, at_of (j := i - 1) (by omega) (by rw [List.getElem?_map, e1]; rfl), .inl ⟨rfl, _, SqL.of e3⟩, ?_⟩
          refine tp_int (i := 0) (Ok.none G6) slt rfl fun G7 t7 => ?_
          refine tp_int (i := (i : Int)) (Ok.none G7) slt rfl fun G8 t8 => ?_
          have t68 := L2.Same.trans t7 t8
          have hlen : (vN r).length < sizeLine := by
            have h1 : r.length ≤ i := by
              have h2 : r.Nodup := ((List.nodup_append.mp Pl.nd).1).sublist (List.sublist_flatten_of_mem (List.mem_of_getElem? hr1))
              have h3 := List.Nodup.length_le_of_subset h2 (l₂ := List.range i) (fun x hx => List.mem_range.mpr (Pl.inb _ r x hr1 hx).2)
              rw [List.length_range] at h3
              exact h3
            unfold vN
            rw [List.length_map, sizeLine_eq]
            omega
          refine ⟨aj, _, 0, _, rfl, rfl, t68 _ _ e3, hlen, by decide, by decide, ?_⟩
          have Rb8 : Rows G8 lb ab (b.map vN) := Rb6.same fun x o _ e => t68 x o e
          have Rb9 := Rb8.set (r := vN (i :: r)) e1
          rw [map_set_vN] at Rb9
          have haj := List.mem_of_getElem? e1
          refine ⟨_, _, _, _, rfl, Pl.brood hr1 (by omega) (List.Perm.refl (i :: r)), Rb9, ?_, ?_⟩
          · refine (Rs5.same fun x o _ e => (L2.Same.trans t6 t68) x o e).same fun x o hx e => ?_
            have hne : x ≠ aj := fun e' => dis aj (.inr haj) (by rw [← e']; exact hx)
            rw [upd_ne hne]
            exact e
          · exact Pu.Same.mut (L2.Same.trans (L2.Same.trans sG5 t6) t68) (nb.2 aj haj)
        · refine if_false_of (Bool.not_eq_true _ ▸ b2) ?_
          refine tpt_ok (Ok.none G5) slt (ne_ev (ds := [none, none, none, some (.int c), some (.int (m : Int)), none, none, some (.int (i : Int)), none, none, some (.int (c2 + z))]) (mod_ev rfl rfl (by decide)) rfl) fun G6 t6 => ?_
          have Rb6 : Rows G6 lb ab (b.map vN) := Rb5.same fun x o _ e => t6 x o e
          have Rs6 : Rows G6 ls asr (sr.map vN) := Rs5.same fun x o _ e => t6 x o e
          have sG6 := L2.Same.trans sG5 t6
          by_cases b3 : (!((c2 + z).fmod 25 == 23)) = true
          · refine if_true_of b3 ?_
            obtain ⟨j, hj, ej⟩ := deal_ev (ds := [none, none, none, some (.int c), some (.int (m : Int)), none, none, some (.int (i : Int)), none, none, some (.int (c2 + z))]) (f := eVar 10) (g := eVar 4) (k := eVar 3) (c := c) (w := c2 + z) (m := m) rfl rfl rfl m1
            have hjb : j < sr.length := by rw [Pl.sl]; omega
            obtain ⟨r, hr1⟩ : ∃ r, sr[j]? = some r := ⟨sr[j], List.getElem?_eq_getElem hjb⟩
            refine ⟨_, rfl, tp_int (Ok.none G6) slt ej fun G7 t7 => ?_⟩
            have Rs7 : Rows G7 ls asr (sr.map vN) := Rs6.same fun x o _ e => t7 x o e
            obtain ⟨aj, rj, e1, e2, e3, e4⟩ := Rs7.at (i := j) (by rw [List.length_map]; exact hjb)
            rw [List.getElem?_map, hr1] at e2
            cases e2
            refine .inl ⟨ls, _, _, .ref aj, rfl, rfl, SqL.of Rs7.top, at_of (j := j) rfl (by rw [List.getElem?_map, e1]; rfl), .inl ⟨rfl, _, SqL.of e3⟩, ?_⟩
            refine tp_int (i := (i : Int)) (Ok.none G7) slt rfl fun G8 t8 => ?_
            have hlen : (vN r).length < sizeLine := by
              have h1 : r.length ≤ i := by
                have h2 : r.Nodup := ((List.nodup_append.mp Pl.nd).2.1).sublist (List.sublist_flatten_of_mem (List.mem_of_getElem? hr1))
                have h3 := List.Nodup.length_le_of_subset h2 (l₂ := List.range i) (fun x hx => List.mem_range.mpr (Pl.ins j r x hr1 hx))
                rw [List.length_range] at h3
                exact h3
              unfold vN
              rw [List.length_map, sizeLine_eq]
              omega
            refine ⟨aj, _, _, rfl, rfl, t8 _ _ e3, hlen, ?_⟩
            have Rs8 : Rows G8 ls asr (sr.map vN) := Rs7.same fun x o _ e => t8 x o e
            have Rs9 := Rs8.set (r := vN r ++ [.int (i : Int)]) e1
            rw [vN_snoc, map_set_vN] at Rs9
            have haj := List.mem_of_getElem? e1
            refine ⟨_, _, _, _, rfl, Pl.row hr1 (List.perm_append_comm (l₁ := r) (l₂ := [i])), ?_, ?_, ?_⟩
            · refine (Rb6.same fun x o _ e => (L2.Same.trans t7 t8) x o e).same fun x o hx e => ?_
              have hne : x ≠ aj := fun e' => dis x hx (.inr (by rw [e']; exact haj))
              rw [upd_ne hne]
              exact e
            · rw [vN_snoc]; exact Rs9
            · exact Pu.Same.mut (L2.Same.trans (L2.Same.trans sG6 t7) t8) (nsr.2 aj haj)
          · refine if_false_of (Bool.not_eq_true _ ▸ b3) ?_
            exact ⟨_, _, _, _, rfl, Pl.none, Rb6, Rs6, sG6⟩
    · obtain ⟨b, sr, v7, v10, rfl, Pl, Rb, Rs, sH⟩ := hP
      rw [Int.toNat_natCast] at Pl
      refine ⟨_, rfl, _, rfl, by show 2 ≤ sizeLine; rw [sizeLine_eq]; decide, fun p hp => ?_⟩
      have sp := Pu.Same.new (o := .tup [.ref lb, .ref ls]) hp
      refine q b sr _ _ (Pl.ok n1 m1 m2) (L2.Same.trans sH sp) fun M ok => ?_
      have nbM := nb.not ok
      have nsM := nsr.not ok
      have Rb' : Rows (upd H' p (.tup [.ref lb, .ref ls])) lb ab (b.map vN) := Rb.same fun x o _ e => sp x o e
      have Rs' : Rows (upd H' p (.tup [.ref lb, .ref ls])) ls asr (sr.map vN) := Rs.same fun x o _ e => sp x o e
      exact .tup upd_same (fun m => ok p m (sH.free hp)) (.cons (rows_rp Rb' nbM.1 nbM.2) (.cons (rows_rp Rs' nsM.1 nsM.2) .nil))

theorem ok_law {P : Program} {w : World} {K : PySem.W.Frag} {mg : Str → Option Value} {base : Heap} {f : Addr} {fd : FuncData} (T : Txt K mg) (F : Fun K "law" "law" s_law f fd) : FnOk P w K mg base CX0 13 f fd ["_law_script"] (spLawZ K) := by
  have G_l_cell_at := ok_l_cell_at (P := P) (w := w) (base := base) T
  have G_l_plan_by := ok_l_plan_by (P := P) (w := w) (base := base) T
  have G_started := ok_started (P := P) (w := w) (base := base) T
  have G_woven := ok_woven (P := P) (w := w) (base := base) T
  have G_finished := ok_finished (P := P) (w := w) (base := base) T 30000
  have G_l_weaving_by := ok_l_weaving_by (P := P) (w := w) (base := base) T
  have G_l_replayed := ok_l_replayed (P := P) (w := w) (base := base) T
  have G_are_right := ok_are_right (P := P) (w := w) (base := base) T
  have G_l_changed := ok_l_changed (P := P) (w := w) (base := base) T
  refine F.ok sc_law (fun vs H Q E h => ?_) (fun cdv A outer s H vs Q E hr h => ⟨_, (pss_cons (ps_set (i := 1) sc_law.nd rfl (by first | exact Or.inl rfl | exact Or.inr rfl) (pe_call G_l_plan_by (hr.mono (by decide)) rfl T.m_l_plan_by T.F_l_plan_by.kp T.b_l_plan_by .nil pass0 (pa_cons (pv 0) (pa_cons pd_int (pa_cons pd_int pa_nil))))) (pss_cons (ps_set (i := 2) sc_law.nd rfl (by first | exact Or.inl rfl | exact Or.inr rfl) (pd_callB cr_len cs_len rfl T.z_len bt_len (pda_cons (pd_ix (pd_name 1) pd_int) pda_nil))) (pss_cons (ps_set (i := 3) sc_law.nd rfl (by first | exact Or.inl rfl | exact Or.inr rfl) (pe_call G_l_cell_at (hr.mono (by decide)) rfl T.m_l_cell_at T.F_l_cell_at.kp T.b_l_cell_at .nil pass0 (pa_cons (pv 0) (pa_cons pd_int pa_nil)))) (pss_cons (ps_asg (pe_call G_woven (hr.mono (by decide)) rfl T.m_woven T.F_woven.kp T.b_woven .nil pass0 (pa_cons (pd_name 1) (pa_cons (pd_call G_started (hr.mono (by decide)) rfl T.m_started T.F_started.kp T.b_started pass0 (pda_cons (pd_name 1) pda_nil) (es_len es_len0)) (pa_cons (pe_call G_l_weaving_by (hr.mono (by decide)) rfl T.m_l_weaving_by T.F_l_weaving_by.kp T.b_l_weaving_by .nil pass0 (pa_cons (pe_slice sl_D (pv 0) (po_some pd_int) (po_some pd_int)) (pa_cons (pd_name 2) pa_nil))) pa_nil)))) (pg_tup rfl (pgs_cons (pg_name (i := 4) sc_law.nd rfl (by first | exact Or.inl rfl | exact Or.inr rfl)) (pgs_cons (pg_name (i := 5) sc_law.nd rfl (by first | exact Or.inl rfl | exact Or.inr rfl)) pgs_nil)))) (pss_cons (ps_if (ptd_cmp (op_eqD hr.units) os_eq (pd_op op_modN os_mod (pd_name 3) pd_int) pd_int (nomark _)) (pss_one (ps_set (i := 5) sc_law.nd rfl (by first | exact Or.inl rfl | exact Or.inr rfl) (pd_op or_addD os_add (pd_name 5) (pd_ix (pd_call G_finished (hr.mono (by decide)) rfl T.m_finished T.F_finished.kp T.b_finished pass0 (pda_cons (pd_name 1) (pda_cons (pd_name 4) pda_nil)) (es_len (es_len es_len0))) pd_int)))) pss_nil) (pss_cons (ps_set (i := 6) sc_law.nd rfl (by first | exact Or.inl rfl | exact Or.inr rfl) (pd_name 5)) (pss_cons (ps_for PassesOwn.never rfl (pi_range1 rfl T.z_range (pa_cons (pd_op op_modN os_mod (pd_op op_fdivN os_div (pd_name 3) pd_int) pd_int) pa_nil)) (pg_name (i := 7) sc_law.nd rfl (by first | exact Or.inl rfl | exact Or.inr rfl)) (pss_cons (ps_set (i := 8) sc_law.nd rfl (by first | exact Or.inl rfl | exact Or.inr rfl) (pe_op or_addD (pe_call G_l_cell_at (hr.mono (by decide)) rfl T.m_l_cell_at T.F_l_cell_at.kp T.b_l_cell_at .nil pass0 (pa_cons (pv 0) (pa_cons pd_int pa_nil))) (pd_name 7))) (pss_one (ps_set (i := 6) sc_law.nd rfl (by first | exact Or.inl rfl | exact Or.inr rfl) (pe_call G_l_changed (hr.mono (by decide)) rfl T.m_l_changed T.F_l_changed.kp T.b_l_changed .nil pass0 (pa_cons (pd_name 1) (pa_cons (pd_name 6) (pa_cons (pe_call G_l_cell_at (hr.mono (by decide)) rfl T.m_l_cell_at T.F_l_cell_at.kp T.b_l_cell_at .nil pass0 (pa_cons (pv 0) (pa_cons (pd_op or_addD os_add pd_int (pd_name 7)) pa_nil))) (pa_cons (pd_name 8) pa_nil))))))))) (pss_cons (ps_set (i := 9) sc_law.nd rfl (by first | exact Or.inl rfl | exact Or.inr rfl) (pd_callTy cr_list cs_list rfl T.z_list bt_list (pda_cons (pd_name 6) pda_nil))) (pss_cons (ps_set (i := 10) sc_law.nd rfl (by first | exact Or.inl rfl | exact Or.inr rfl) (pe_tup (pa_cons (pe_lc rfl sc_law.nd (pi_seq (pd_ix (pd_name 1) pd_int)) (blkOk_by (N := N_law) (sc := defScope s_law) (own := [("_law_row", 11)]) (by decide +kernel)) (fun _ _ _ _ _ => pg_name (i := 11) sc_law.nd rfl (Or.inl rfl)) (fun _ _ _ _ _ => pts_nil) (fun _ _ _ _ _ => (show PE _ _ (tCB (rList K) (tCons (tVar 11) tNil)) from pe_callTy cr_list rfl T.z_list bt_list (pa_cons (pv 11) pa_nil)))) (pa_cons (pe_lc rfl sc_law.nd (pi_seq (pd_ix (pd_name 1) pd_int)) (blkOk_by (N := N_law) (sc := defScope s_law) (own := [("_law_row", 11)]) (by decide +kernel)) (fun _ _ _ _ _ => pg_name (i := 11) sc_law.nd rfl (Or.inl rfl)) (fun _ _ _ _ _ => pts_nil) (fun _ _ _ _ _ => (show PE _ _ (tCB (rList K) (tCons (tVar 11) tNil)) from pe_callTy cr_list rfl T.z_list bt_list (pa_cons (pv 11) pa_nil)))) pa_nil)))) (pss_cons (ps_for PassesOwn.never rfl (pi_seq (pd_lst (pda_cons (pd_name 6) (pda_cons (pd_name 5) (pda_cons (pd_name 6) (pda_cons (pd_lst pda_nil) pda_nil)))))) (pg_name (i := 12) sc_law.nd rfl (by first | exact Or.inl rfl | exact Or.inr rfl)) (pss_cons (ps_set (i := 13) sc_law.nd rfl (by first | exact Or.inl rfl | exact Or.inr rfl) (pe_call G_are_right (hr.mono (by decide)) rfl T.m_are_right T.F_are_right.kp T.b_are_right .nil pass0 (pa_cons (pd_name 10) (pa_cons (pd_name 12) pa_nil)))) (pss_one (ps_if (PW.pt (pw_or (ptd_not (ptd_val (pd_isi rfl T.z_isinstance (pd_name 13) (pe_ty rfl T.z_bool bt_bool)))) (pw_or1 (pt_cmpR (op_neD hr.units) (pd_name 13) (pe_cmpR op_isntA (pe_call G_l_replayed (hr.mono (by decide)) rfl T.m_l_replayed T.F_l_replayed.kp T.b_l_replayed .nil pass0 (pa_cons (pd_name 1) (pa_cons (pd_name 12) pa_nil))) pd_non (nomark _)) (nomark _))))) (pss_one (ps_ret pd_bl)) pss_nil)))) (pss_one (ps_ret (pd_and (pd_cmp (op_eqD hr.units) os_eq (pd_name 10) (pd_name 1) (nomark _)) (pd_one (pd_cmp (op_eqD hr.units) os_eq (pd_name 6) (pd_name 9) (nomark _)))))))))))))))), ?_⟩)
  · obtain ⟨a, ns, rfl, _⟩ := h
    rfl
  · obtain ⟨a, ns, rfl, hS, hlen, q⟩ := h
    refine z_seq ?_
    refine z_asg ?_
    refine rd_plan (a := a) (ns := ns) (most := 10) rfl hS (by decide) (by decide) rfl fun b st v H1 Pl s1 fr => ?_
    have rp : Rp M0 H1 v (encP b st) := fr M0 (Ok.none _)
    have hb1 : b.length ≤ 10 := Pl.size
    have hs1 : st.length ≤ 12 := Pl.m2
    have Pl2 : PlanOk 200 b st := ⟨by omega, Pl.m1, Pl.m2, Pl.inb, Pl.ins, Pl.nd⟩
    have hrb := Pl.rowb
    refine z_name ?_
    dsimp only
    have sl : ∀ {H' : Hp} {x0 x2 x3 x4 x5 x6 x7 x8 x9 x10 x11 x12 x13 : Option V}, Same H1 H' → SlD M0 H' [x0, some v, x2, x3, x4, x5, x6, x7, x8, x9, x10, x11, x12, x13] [none, some (encP b st), none, none, none, none, none, none, none, none, none, none, none, none] := fun s' =>
      .no _ (.yes (rp.same s') (.no _ (.no _ (.no _ (.no _ (.no _ (.no _ (.no _ (.no _ (.no _ (.no _ (.no _ (.no _ .nil)))))))))))))
    -- many
    refine z_seq ?_
    refine z_asg ?_
    have e0 : eOp oIx (eVar 1) (eC (.int 0)) [none, some (encP b st), none, none, none, none, none, none, none, none, none, none, none, none] = some (encLL b) := by rw [eOp_ev (eVar_get rfl) rfl]; exact oIx0
    have e1 : eOp oIx (eVar 1) (eC (.int 1)) [none, some (encP b st), none, none, none, none, none, none, none, none, none, none, none, none] = some (encLL st) := by rw [eOp_ev (eVar_get rfl) rfl]; exact oIx1
    have e2 : eCall oLen (esCons (eOp oIx (eVar 1) (eC (.int 1))) esNil) [none, some (encP b st), none, none, none, none, none, none, none, none, none, none, none, none] = some (.int (st.length : Int)) := (q_call (q_cons e1 rfl)).trans (by show some (PyData.int ((st.map encL).length : Int)) = _; rw [List.length_map])
    refine tp_int (Ok.none H1) (sl (L2.Same.refl _)) e2 fun H2 s2 => ?_
    refine z_name ?_
    dsimp only
    -- cell
    refine z_seq ?_
    refine z_asg ?_
    refine rd_cell (a := a) (ns := ns) rfl ((L2.Same.trans s1 s2).seq hS) (by decide) fun c H3 s3 => ?_
    have s13 := L2.Same.trans s2 s3
    refine z_name ?_
    dsimp only
    -- woven
    refine z_seq ?_
    refine z_asg ?_
    refine rd_woven (a := a) (ns := ns) (b := b) (s := st) (ds := [none, some (encP b st), some (.int (st.length : Int)), none, none, none, none, none, none, none, none, none, none, none]) rfl ((L2.Same.trans s1 s13).seq hS) hlen ((sl (x2 := none) s13).set 2 (.int _)) (eVar_get rfl) (eVar_get rfl) Pl2 fun ws v4 H4 w1 w2 s4 r4 => ?_
    have s14 := L2.Same.trans s13 s4
    have hlY : (yard0 st).rows.length = st.length := by unfold yard0; simp
    have R1 : Rch (200 + ws.length) b st (runY b (yard0 st) ws).1 (runY b (yard0 st) ws).2 := (Rch.start Pl2).run w2
    obtain ⟨_, _, lr⟩ := Gd.run ws (Gd.start Pl2) (fun w h => by rw [hlY]; exact w2 w h)
    generalize hy : (runY b (yard0 st) ws).1 = y at R1 r4
    generalize hes : (runY b (yard0 st) ws).2 = es0 at R1 r4 lr
    cases r4 with
    | tup a4 n4 r4 =>
      cases r4 with
      | cons ry r4 =>
        cases r4 with
        | cons re r4 =>
          cases r4
          rename_i pa vy ve0
          refine ⟨_, _, rfl, SqT.of a4, rfl, vy, _, rfl, ve0, _, rfl, rfl, ?_⟩
          dsimp only
          refine z_join (fun σ' H' => ∃ (es : List EvI) (ve : V), es.length ≤ 700000 ∧ Same H1 H' ∧ Rp M0 H' ve (.list (es.map encI)) ∧ σ' = [some (.ref a), some v, some (.int (st.length : Int)), some (.int c), some vy, some ve, none, none, none, none, none, none, none, none]) ?_ (fun rest => ?_)
          · rintro σ' H5 ⟨es, ve, hz, s15, re5, rfl⟩
            have sl5 : ∀ {H' : Hp} {x0 x4 x6 x7 x8 x9 x10 x11 x12 x13 : Option V}, Same H5 H' → SlD M0 H' [x0, some v, some (.int (st.length : Int)), some (.int c), x4, some ve, x6, x7, x8, x9, x10, x11, x12, x13] [none, some (encP b st), some (.int (st.length : Int)), some (.int c), none, some (.list (es.map encI)), none, none, none, none, none, none, none, none] := fun s' =>
              .no _ (.yes (rp.same (L2.Same.trans s15 s')) (.yes (.int _) (.yes (.int _) (.no _ (.yes (re5.same s') (.no _ (.no _ (.no _ (.no _ (.no _ (.no _ (.no _ (.no _ .nil)))))))))))))
            -- events
            refine z_seq ?_
            refine z_asg ?_
            refine tp_ok (Ok.none H5) (sl5 (L2.Same.refl _)) (eVar_get (i := 5) (d := .list (es.map encI)) rfl) fun v6 H6 s6 r6 => ?_
            refine z_name ?_
            dsimp only
            -- the changes
            refine z_seq ?_
            have r3 := fmod_rng (a := c.fdiv 2) (b := 3) (by decide)
            refine tp_int (i := (c.fdiv 2).fmod 3) (Ok.none H6) (sl5 s6) (mod_ev (div_ev (eVar_get rfl) rfl (by decide) (by decide)) rfl (by decide)) fun H7 s7 => ?_
            refine ⟨_, rfl, by omega, by omega, for_range (lo := 0) (n := ((c.fdiv 2).fmod 3).toNat) (fun i σ' H' => ∃ (es' : List EvI) (v6' : V) (x7 x8 : Option V), σ' = [some (.ref a), some v, some (.int (st.length : Int)), some (.int c), some vy, some ve, some v6', x7, x8, none, none, none, none, none] ∧ es'.length ≤ es.length + i ∧ Rp M0 H' v6' (.list (es'.map encI)) ∧ Same H5 H') ⟨es, v6, _, _, rfl, by omega, r6.same s7, L2.Same.trans s6 s7⟩ (fun i σ' H' hi hP => ?_) (fun σ' H' hP => ?_)⟩
            · obtain ⟨es', v6', x7, x8, rfl, hz', r6', s5'⟩ := hP
              refine z_name ?_
              dsimp only
              refine z_seq ?_
              refine z_asg ?_
              refine z_op ?_
              refine rd_cell (a := a) (ns := ns) rfl ((L2.Same.trans s1 (L2.Same.trans s15 s5')).seq hS) (by decide) fun c3 Ha sa => ?_
              have slA : ∀ {H'' : Hp} {x0 x4 x8 x9 x10 x11 x12 x13 : Option V}, Same H' H'' → SlD M0 H'' [x0, some v, some (.int (st.length : Int)), some (.int c), x4, some ve, some v6', some (.int (0 + (i : Int))), x8, x9, x10, x11, x12, x13] [none, some (encP b st), some (.int (st.length : Int)), some (.int c), none, some (.list (es.map encI)), some (.list (es'.map encI)), some (.int (0 + (i : Int))), none, none, none, none, none, none] := fun {H'' x0 x4 x8 x9 x10 x11 x12 x13} t =>
                ((sl5 (x0 := x0) (x4 := x4) (x6 := none) (x7 := none) (x8 := x8) (x9 := x9) (x10 := x10) (x11 := x11) (x12 := x12) (x13 := x13) (L2.Same.trans s5' t)).set 6 (r6'.same t)).set 7 (.int (0 + (i : Int)))
              refine tp_int (i := 0 + (i : Int)) (Ok.none Ha) (slA sa) (eVar_get rfl) fun Hb sb => ?_
              refine os_add M0 Hb _ _ (.int c3) (.int (0 + (i : Int))) (.int (c3 + (0 + (i : Int)))) _ (Ok.none _) (.int _) (.int _) rfl fun v8 Hc sc r8 => ?_
              cases r8
              have sac := L2.Same.trans sa (L2.Same.trans sb sc)
              refine z_name ?_
              dsimp only
              refine z_asg ?_
              refine tp_ok (Ok.none Hc) (slA sac) (eVar_get (i := 1) (d := encP b st) rfl) fun va Hd sd ra => ?_
              refine tp_ok (Ok.none Hd) (slA (L2.Same.trans sac sd)) (eVar_get (i := 6) (d := .list (es'.map encI)) rfl) fun vb He se rb => ?_
              have sae := L2.Same.trans sac (L2.Same.trans sd se)
              refine ⟨_, rfl, ?_⟩
              refine tp_int (i := 1 + (0 + (i : Int))) (Ok.none He) (slA sae) (add_ev (x := 1) (y := 0 + (i : Int)) rfl (eVar_get rfl)) fun Hf sf => ?_
              have saf := L2.Same.trans sae sf
              refine ⟨a, ns, 1 + (0 + (i : Int)), rfl, (L2.Same.trans s1 (L2.Same.trans s15 (L2.Same.trans s5' saf))).seq hS, by omega, fun c4 Hg sg => ?_⟩
              have sag := L2.Same.trans saf sg
              refine tp_int (i := c3 + (0 + (i : Int))) (Ok.none Hg) ((slA (x8 := none) sag).set 8 (.int (c3 + (0 + (i : Int))))) (eVar_get rfl) fun Hh sh => ?_
              have sch := L2.Same.trans sf (L2.Same.trans sg sh)
              refine ⟨va, vb, b, st, es', c4, c3 + (0 + (i : Int)), rfl, ra.same (L2.Same.trans se sch), rb.same sch, Pl2, by omega, fun es2 v2 H2' hz2 s2' r2 => ?_⟩
              refine z_name ?_
              dsimp only
              exact ⟨es2, v2, _, _, rfl, by omega, r2, L2.Same.trans s5' (L2.Same.trans sag (L2.Same.trans sh s2'))⟩
            · obtain ⟨es', v6', x7, x8, rfl, hz', r6', s5'⟩ := hP
              dsimp only
              have hz2 : es'.length ≤ 700010 := by omega
              have slB : ∀ {H'' : Hp} {x0 x4 x7 x8 x9 x10 x11 x12 x13 : Option V}, Same H' H'' → SlD M0 H'' [x0, some v, some (.int (st.length : Int)), some (.int c), x4, some ve, some v6', x7, x8, x9, x10, x11, x12, x13] [none, some (encP b st), some (.int (st.length : Int)), some (.int c), none, some (.list (es.map encI)), some (.list (es'.map encI)), none, none, none, none, none, none, none] := fun {H'' x0 x4 x7 x8 x9 x10 x11 x12 x13} t =>
                (sl5 (x0 := x0) (x4 := x4) (x6 := none) (x7 := x7) (x8 := x8) (x9 := x9) (x10 := x10) (x11 := x11) (x12 := x12) (x13 := x13) (L2.Same.trans s5' t)).set 6 (r6'.same t)
              -- kept
              refine z_seq ?_
              refine z_asg ?_
              refine tp_ok (Ok.none H') (slB (L2.Same.refl _)) (d := .list (es'.map encI)) ((q_call (q_cons (eVar_get rfl) q_nil)).trans rfl) fun vk Ha sa rk => ?_
              refine z_name ?_
              dsimp only
              -- given
              refine z_seq ?_
              refine z_asg ?_
              have s1a := L2.Same.trans s15 (L2.Same.trans s5' sa)
              refine rd_given (sl s1a) e0 e1 (by show 11 < 14; decide) (by omega) (by omega) fun g lb ls ab asr Hb sb hg nb nsr Rb Rs dis hg5 rg => ?_
              refine z_name ?_
              dsimp only
              have sab := L2.Same.trans sa sb
              have slC : ∀ {H'' : Hp} {x0 x4 x7 x8 x11 x12 x13 : Option V}, Same Hb H'' → SlD M0 H'' [x0, some v, some (.int (st.length : Int)), some (.int c), x4, some ve, some v6', x7, x8, some vk, some (.ref g), x11, x12, x13] [none, some (encP b st), some (.int (st.length : Int)), some (.int c), none, some (.list (es.map encI)), some (.list (es'.map encI)), none, none, some (.list (es'.map encI)), some (encP b st), none, none, none] := fun {H'' x0 x4 x7 x8 x11 x12 x13} t =>
                ((slB (x0 := x0) (x4 := x4) (x7 := x7) (x8 := x8) (x9 := none) (x10 := none) (x11 := x11) (x12 := x12) (x13 := x13) (L2.Same.trans sab t)).set 9 (rk.same (L2.Same.trans sb t))).set 10 (rg.same t)
              -- the looks
              refine z_seq ?_
              have el : eLst (esCons (eVar 6) (esCons (eVar 5) (esCons (eVar 6) (esCons (eLst esNil) esNil)))) [none, some (encP b st), some (.int (st.length : Int)), some (.int c), none, some (.list (es.map encI)), some (.list (es'.map encI)), none, none, some (.list (es'.map encI)), some (encP b st), none, none, none] = some (.list ([es', es, es', []].map fun fs => .list (fs.map encI))) := q_lst (q_cons (eVar_get rfl) (q_cons (eVar_get rfl) (q_cons (eVar_get rfl) (q_cons (q_lst q_nil (by show 0 ≤ 1000; decide)) q_nil)))) (by simp)
              refine .inl (tp_ok (Ok.none Hb) (slC (L2.Same.refl _)) el fun vl Hc sc rl => ?_)
              cases rl with
              | lst al nl rl =>
                rename_i la xs
                refine ⟨la, rfl, ⟨_, SqL.of al⟩, for_list (fun i σ' H'' => ∃ x12 x13 : Option V, σ' = [some (.ref a), some v, some (.int (st.length : Int)), some (.int c), some vy, some ve, some v6', x7, x8, some vk, some (.ref g), none, x12, x13] ∧ Same Hc H'') ⟨_, _, rfl, L2.Same.refl _⟩ (fun i σ' H'' _ ⟨_, _, _, s'⟩ => SqL.of (s' _ _ al)) (fun i x σ' H'' hx hP => ?_) (fun σ' H'' hP => ?_)⟩
                · obtain ⟨x12, x13, rfl, s'⟩ := hP
                  obtain ⟨d, hd, rx⟩ := rpAll_at rl hx
                  have hfs : ∃ fs : List EvI, d = .list (fs.map encI) ∧ fs.length ≤ 800000 := by
                    have hm := List.mem_of_getElem? hd
                    obtain ⟨fs, hf, rfl⟩ := List.mem_map.mp hm
                    refine ⟨fs, rfl, ?_⟩
                    simp only [List.mem_cons, List.not_mem_nil, or_false] at hf
                    rcases hf with rfl | rfl | rfl | rfl
                    · omega
                    · omega
                    · omega
                    · show 0 ≤ 800000; omega
                  obtain ⟨fs, rfl, hfl⟩ := hfs
                  refine z_name ?_
                  dsimp only
                  have sbc := L2.Same.trans sc s'
                  have slD : ∀ {G : Hp} {x13 : Option V}, Same H'' G → SlD M0 G [some (.ref a), some v, some (.int (st.length : Int)), some (.int c), some vy, some ve, some v6', x7, x8, some vk, some (.ref g), none, some x, x13] [none, some (encP b st), some (.int (st.length : Int)), some (.int c), none, some (.list (es.map encI)), some (.list (es'.map encI)), none, none, some (.list (es'.map encI)), some (encP b st), none, some (.list (fs.map encI)), none] := fun {G x13} t =>
                    (slC (x0 := some (.ref a)) (x4 := some vy) (x7 := x7) (x8 := x8) (x11 := none) (x12 := none) (x13 := x13) (L2.Same.trans sbc t)).set 12 (rx.same (L2.Same.trans s' t))
                  -- found
                  refine z_seq ?_
                  refine z_asg ?_
                  refine tp_ok (Ok.none H'') (slD (L2.Same.refl _)) (eVar_get (i := 10) (d := encP b st) rfl) fun va Ga ta ra => ?_
                  refine tp_ok (Ok.none Ga) (slD ta) (eVar_get (i := 12) (d := .list (fs.map encI)) rfl) fun vb Gb tb rb => ?_
                  refine ⟨va, vb, b, st, fs, rfl, ra.same tb, rb, Pl2, hfl, fun Gc tc => ?_⟩
                  have t0c := L2.Same.trans ta (L2.Same.trans tb tc)
                  refine z_name ?_
                  dsimp only
                  -- the test
                  refine z_if ?_
                  have slF := fun {G : Hp} (t : Same Gc G) => (slD (x13 := none) (L2.Same.trans t0c t)).set 13 (.bl (goIs b (pl0 st) fs).isSome)
                  have tb : bNot (bT (eIs "bool" (eVar 13))) [none, some (encP b st), some (.int (st.length : Int)), some (.int c), none, some (.list (es.map encI)), some (.list (es'.map encI)), none, none, some (.list (es'.map encI)), some (encP b st), none, some (.list (fs.map encI)), some (.bool (goIs b (pl0 st) fs).isSome)] = some false := by
                    unfold bNot bT eIs
                    rw [eVar_get (d := .bool (goIs b (pl0 st) fs).isSome) rfl]
                    rfl
                  refine tpt_ok (Ok.none Gc) (slF (L2.Same.refl _)) tb fun Gd td => ?_
                  refine iteF ?_
                  refine tp_ok (Ok.none Gd) (slF td) (eVar_get (i := 13) (d := .bool (goIs b (pl0 st) fs).isSome) rfl) fun vf Ge te rf => ?_
                  have tde := L2.Same.trans td te
                  refine tp_ok (Ok.none Ge) (slF tde) (eVar_get (i := 1) (d := encP b st) rfl) fun va2 Gf tf ra2 => ?_
                  refine tp_ok (Ok.none Gf) (slF (L2.Same.trans tde tf)) (eVar_get (i := 12) (d := .list (fs.map encI)) rfl) fun vb2 Gg tg rb2 => ?_
                  have tdg := L2.Same.trans tde (L2.Same.trans tf tg)
                  refine ⟨va2, vb2, b, st, fs, rfl, ra2.same tg, rb2, Pl2, hfl, fun Gh hgo th => ?_, fun q' vt Gh hgo th rt => ?_⟩
                  · refine rd_non fun Gi ti => ?_
                    refine os_isntA M0 Gi _ _ .none .none (.bool false) _ (Ok.none _) (.non) (.non) rfl fun v1 Gj tj r1 => ?_
                    cases r1
                    have eb : (goIs b (pl0 st) fs).isSome = false := by rw [hgo]; rfl
                    rw [eb] at rf
                    refine os_ne M0 Gj _ _ (.bool false) (.bool false) (.bool false) _ (Ok.none _) (rf.same (L2.Same.trans tf (L2.Same.trans tg (L2.Same.trans th (L2.Same.trans ti tj))))) (.bl _) (oNe_bools _ _) fun v2 Gk tk r2 => ?_
                    cases r2
                    refine ⟨_, rfl, ?_⟩
                    refine iteF ?_
                    exact ⟨_, _, rfl, L2.Same.trans s' (L2.Same.trans t0c (L2.Same.trans tdg (L2.Same.trans th (L2.Same.trans ti (L2.Same.trans tj tk)))))⟩
                  · refine rd_non fun Gi ti => ?_
                    refine os_isntA M0 Gi _ _ (encPl q') .none (.bool true) _ (Ok.none _) (rt.same ti) (.non) rfl fun v1 Gj tj r1 => ?_
                    cases r1
                    have eb : (goIs b (pl0 st) fs).isSome = true := by rw [hgo]; rfl
                    rw [eb] at rf
                    refine os_ne M0 Gj _ _ (.bool true) (.bool true) (.bool false) _ (Ok.none _) (rf.same (L2.Same.trans tf (L2.Same.trans tg (L2.Same.trans th (L2.Same.trans ti tj))))) (.bl _) (oNe_bools _ _) fun v2 Gk tk r2 => ?_
                    cases r2
                    refine ⟨_, rfl, ?_⟩
                    refine iteF ?_
                    exact ⟨_, _, rfl, L2.Same.trans s' (L2.Same.trans t0c (L2.Same.trans tdg (L2.Same.trans th (L2.Same.trans ti (L2.Same.trans tj tk)))))⟩
                · obtain ⟨x12, x13, rfl, s'⟩ := hP
                  dsimp only
                  refine z_ret ?_
                  have gp := good_P b st (by omega) (fun r hr => by have := hrb.1 r hr; omega) (by omega) (fun r hr => by have := hrb.2 r hr; omega)
                  have gI := good_Is es' (by omega)
                  have ev : eAnd (eOp oEq (eVar 10) (eVar 1)) (eOp oEq (eVar 6) (eVar 9)) [none, some (encP b st), some (.int (st.length : Int)), some (.int c), none, some (.list (es.map encI)), some (.list (es'.map encI)), none, none, some (.list (es'.map encI)), some (encP b st), none, none, none] = some (.bool true) := by
                    have t1 : bT (eOp oEq (eVar 10) (eVar 1)) [none, some (encP b st), some (.int (st.length : Int)), some (.int c), none, some (.list (es.map encI)), some (.list (es'.map encI)), none, none, some (.list (es'.map encI)), some (encP b st), none, none, none] = some true := bT_of (by
                      rw [eOp_ev (eVar_get rfl) (eVar_get rfl)]
                      exact oEq_g (k := true) gp gp (by omega) (by omega) ⟨fun _ => rfl, fun _ => rfl⟩)
                    unfold eAnd
                    rw [t1, Option.bind_some, if_pos rfl, eOp_ev (eVar_get rfl) (eVar_get rfl)]
                    exact oEq_g (k := true) gI gI (by omega) (by omega) ⟨fun _ => rfl, fun _ => rfl⟩
                  refine tp_ok (Ok.none H'') (slC (L2.Same.trans sc s')) ev fun v9 H9 s9 r9 => ?_
                  cases r9
                  exact q _
          · have tc : bT (eOp oEq (eOp oMod (eVar 3) (eC (.int 2))) (eC (.int 1))) [none, some (encP b st), none, some (.int c), some (encY y), some (.list (es0.map encE)), none, none, none, none, none, none, none, none] = some (c.fmod 2 == 1) := eq_ev (mod_ev (eVar_get rfl) rfl (by decide)) rfl
            have slY : ∀ {H' : Hp}, Same H4 H' → SlD M0 H' [some (.ref a), some v, some (.int (st.length : Int)), some (.int c), some vy, some ve0, none, none, none, none, none, none, none, none] [none, some (encP b st), none, some (.int c), some (encY y), some (.list (es0.map encE)), none, none, none, none, none, none, none, none] := fun t =>
              .no _ (.yes (rp.same (L2.Same.trans s14 t)) (.no _ (.yes (.int _) (.yes (ry.same t) (.yes (re.same t) (.no _ (.no _ (.no _ (.no _ (.no _ (.no _ (.no _ (.no _ .nil)))))))))))))
            refine tpt_ok (Ok.none H4) (slY (L2.Same.refl _)) tc fun H5 s5 => ?_
            cases c.fmod 2 == 1 with
            | false =>
              refine iteF ?_
              exact rest _ _ ⟨es0.map embI, ve0, by rw [List.length_map]; omega, L2.Same.trans s14 s5, by rw [emb10]; exact re.same s5, rfl⟩
            | true =>
              refine iteT ?_
              obtain ⟨r, f1, f2, f3⟩ := rounds_end Pl2 R1
              have hk : 2 * st.length + 8 + (2 * st.length + 6) * b.length + 2 * b.length ≤ 672 := by
                have := Nat.mul_le_mul (show 2 * st.length + 6 ≤ 30 by omega) (show b.length ≤ 20 by omega)
                omega
              have f5 : finR b 30000 y = some r := by
                have z := finR_more _ (30000 - (2 * st.length + 8 + (2 * st.length + 6) * b.length + 2 * b.length)) f1
                rw [Nat.add_sub_cancel' (by omega)] at z
                exact z
              have hfl := finR_len _ R1.gd f1
              have hl2 : r.2.length ≤ 80000 := by
                have := Nat.mul_le_mul_left 12 hk
                omega
              have ef : eOp oIx (eCall (M_finished 30000) (esCons (eVar 1) (esCons (eVar 4) esNil))) (eC (.int 1)) [none, some (encP b st), none, some (.int c), some (encY y), some (.list (es0.map encE)), none, none, none, none, none, none, none, none] = some (.list (r.2.map encE)) :=
                (eOp_ev ((q_call (q_cons (eVar_get rfl) (q_cons (eVar_get rfl) q_nil))).trans (finished_ev (st := st) R1.gd f5 (by omega))) (rfl : eC (.int 1) _ = _)).trans oIx1
              have ea : eOp oAdd (eVar 5) (eOp oIx (eCall (M_finished 30000) (esCons (eVar 1) (esCons (eVar 4) esNil))) (eC (.int 1))) [none, some (encP b st), none, some (.int c), some (encY y), some (.list (es0.map encE)), none, none, none, none, none, none, none, none] = some (.list (((es0 ++ r.2).map embI).map encI)) := by
                rw [eOp_ev (eVar_get rfl) ef, emb10]
                show (if (es0.map encE).length + (r.2.map encE).length ≤ lim then some (PyData.list (es0.map encE ++ r.2.map encE)) else none) = _
                rw [if_pos (by rw [List.length_map, List.length_map]; unfold lim; omega), List.map_append]
              refine z_asg ?_
              refine tp_ok (Ok.none H5) (slY s5) ea fun v7 H7 s7 r7 => ?_
              exact rest _ _ ⟨(es0 ++ r.2).map embI, v7, by rw [List.length_map, List.length_append]; omega, L2.Same.trans s14 (L2.Same.trans s5 s7), r7, rfl⟩
theorem all_mk {P : Program} {w : World} {K : PySem.W.Frag} {h : Heap} {mg : Str → Option Value} {fa f0 f1 f2 f3 f4 f5 f6 f7 f8 f9 f10 f11 f12 f13 f14 f15 f16 f17 f18 f19 f20 f21 : Addr} (X : K.In h) (G : h.Ns mainGlobals mg) (hfa : mg "law" = some (.ref fa))
    {od0 an0 od1 an1 od2 an2 od3 an3 od4 an4 od5 an5 od6 an6 od7 an7 od8 an8 od9 an9 od10 an10 od11 an11 od12 an12 od13 an13 od14 an14 od15 an15 od16 an16 od17 an17 od18 an18 od19 an19 od20 an20 od21 an21 : Option Addr} {sl0 sl1 sl2 sl3 sl4 sl5 sl6 sl7 sl8 sl9 sl10 sl11 sl12 sl13 sl14 sl15 sl16 sl17 sl18 sl19 sl20 sl21 : Array (Option Value)} {oc0 kV0 dc0 pm0 cd0 ct0 oc1 kV1 dc1 pm1 cd1 ct1 oc2 kV2 dc2 pm2 cd2 ct2 oc3 kV3 dc3 pm3 cd3 ct3 oc4 kV4 dc4 pm4 cd4 ct4 oc5 kV5 dc5 pm5 cd5 ct5 oc6 kV6 dc6 pm6 cd6 ct6 oc7 kV7 dc7 pm7 cd7 ct7 oc8 kV8 dc8 pm8 cd8 ct8 oc9 kV9 dc9 pm9 cd9 ct9 oc10 kV10 dc10 pm10 cd10 ct10 oc11 kV11 dc11 pm11 cd11 ct11 oc12 kV12 dc12 pm12 cd12 ct12 oc13 kV13 dc13 pm13 cd13 ct13 oc14 kV14 dc14 pm14 cd14 ct14 oc15 kV15 dc15 pm15 cd15 ct15 oc16 kV16 dc16 pm16 cd16 ct16 oc17 kV17 dc17 pm17 cd17 ct17 oc18 kV18 dc18 pm18 cd18 ct18 oc19 kV19 dc19 pm19 cd19 ct19 oc20 kV20 dc20 pm20 cd20 ct20 oc21 kV21 dc21 pm21 cd21 ct21 : Value}
    (a0 : PySem.W.nsIn K mainGlobals "are_right" = some (some (.ref f0))) (l0 : K.lookup f0 = some ⟨oc0, od0, .func (PySem.W.fnOf "are_right" "are_right" (defArgs s_are_right) (defBody s_are_right) (defScope s_are_right) .none kV0 dc0 pm0 an0 cd0 ct0), sl0⟩) (c0 : PySem.W.codeIn K cd0 "are_right" = true) (k0 : PySem.W.keepIn K (.ref f0) = true)
    (a1 : PySem.W.nsIn K mainGlobals "put_in" = some (some (.ref f1))) (l1 : K.lookup f1 = some ⟨oc1, od1, .func (PySem.W.fnOf "put_in" "put_in" (defArgs s_put_in) (defBody s_put_in) (defScope s_put_in) .none kV1 dc1 pm1 an1 cd1 ct1), sl1⟩) (c1 : PySem.W.codeIn K cd1 "put_in" = true) (k1 : PySem.W.keepIn K (.ref f1) = true)
    (a2 : PySem.W.nsIn K mainGlobals "advanced" = some (some (.ref f2))) (l2 : K.lookup f2 = some ⟨oc2, od2, .func (PySem.W.fnOf "advanced" "advanced" (defArgs s_advanced) (defBody s_advanced) (defScope s_advanced) .none kV2 dc2 pm2 an2 cd2 ct2), sl2⟩) (c2 : PySem.W.codeIn K cd2 "advanced" = true) (k2 : PySem.W.keepIn K (.ref f2) = true)
    (a3 : PySem.W.nsIn K mainGlobals "rested" = some (some (.ref f3))) (l3 : K.lookup f3 = some ⟨oc3, od3, .func (PySem.W.fnOf "rested" "rested" (defArgs s_rested) (defBody s_rested) (defScope s_rested) .none kV3 dc3 pm3 an3 cd3 ct3), sl3⟩) (c3 : PySem.W.codeIn K cd3 "rested" = true) (k3 : PySem.W.keepIn K (.ref f3) = true)
    (a4 : PySem.W.nsIn K mainGlobals "own_looked" = some (some (.ref f4))) (l4 : K.lookup f4 = some ⟨oc4, od4, .func (PySem.W.fnOf "own_looked" "own_looked" (defArgs s_own_looked) (defBody s_own_looked) (defScope s_own_looked) .none kV4 dc4 pm4 an4 cd4 ct4), sl4⟩) (c4 : PySem.W.codeIn K cd4 "own_looked" = true) (k4 : PySem.W.keepIn K (.ref f4) = true)
    (a5 : PySem.W.nsIn K mainGlobals "own_step" = some (some (.ref f5))) (l5 : K.lookup f5 = some ⟨oc5, od5, .func (PySem.W.fnOf "own_step" "own_step" (defArgs s_own_step) (defBody s_own_step) (defScope s_own_step) .none kV5 dc5 pm5 an5 cd5 ct5), sl5⟩) (c5 : PySem.W.codeIn K cd5 "own_step" = true) (k5 : PySem.W.keepIn K (.ref f5) = true)
    (a6 : PySem.W.nsIn K mainGlobals "other_step" = some (some (.ref f6))) (l6 : K.lookup f6 = some ⟨oc6, od6, .func (PySem.W.fnOf "other_step" "other_step" (defArgs s_other_step) (defBody s_other_step) (defScope s_other_step) .none kV6 dc6 pm6 an6 cd6 ct6), sl6⟩) (c6 : PySem.W.codeIn K cd6 "other_step" = true) (k6 : PySem.W.keepIn K (.ref f6) = true)
    (a7 : PySem.W.nsIn K mainGlobals "task_step" = some (some (.ref f7))) (l7 : K.lookup f7 = some ⟨oc7, od7, .func (PySem.W.fnOf "task_step" "task_step" (defArgs s_task_step) (defBody s_task_step) (defScope s_task_step) .none kV7 dc7 pm7 an7 cd7 ct7), sl7⟩) (c7 : PySem.W.codeIn K cd7 "task_step" = true) (k7 : PySem.W.keepIn K (.ref f7) = true)
    (a8 : PySem.W.nsIn K mainGlobals "stepped" = some (some (.ref f8))) (l8 : K.lookup f8 = some ⟨oc8, od8, .func (PySem.W.fnOf "stepped" "stepped" (defArgs s_stepped) (defBody s_stepped) (defScope s_stepped) .none kV8 dc8 pm8 an8 cd8 ct8), sl8⟩) (c8 : PySem.W.codeIn K cd8 "stepped" = true) (k8 : PySem.W.keepIn K (.ref f8) = true)
    (a9 : PySem.W.nsIn K mainGlobals "started" = some (some (.ref f9))) (l9 : K.lookup f9 = some ⟨oc9, od9, .func (PySem.W.fnOf "started" "started" (defArgs s_started) (defBody s_started) (defScope s_started) .none kV9 dc9 pm9 an9 cd9 ct9), sl9⟩) (c9 : PySem.W.codeIn K cd9 "started" = true) (k9 : PySem.W.keepIn K (.ref f9) = true)
    (a10 : PySem.W.nsIn K mainGlobals "is_over" = some (some (.ref f10))) (l10 : K.lookup f10 = some ⟨oc10, od10, .func (PySem.W.fnOf "is_over" "is_over" (defArgs s_is_over) (defBody s_is_over) (defScope s_is_over) .none kV10 dc10 pm10 an10 cd10 ct10), sl10⟩) (c10 : PySem.W.codeIn K cd10 "is_over" = true) (k10 : PySem.W.keepIn K (.ref f10) = true)
    (a11 : PySem.W.nsIn K mainGlobals "one_more" = some (some (.ref f11))) (l11 : K.lookup f11 = some ⟨oc11, od11, .func (PySem.W.fnOf "one_more" "one_more" (defArgs s_one_more) (defBody s_one_more) (defScope s_one_more) .none kV11 dc11 pm11 an11 cd11 ct11), sl11⟩) (c11 : PySem.W.codeIn K cd11 "one_more" = true) (k11 : PySem.W.keepIn K (.ref f11) = true)
    (a12 : PySem.W.nsIn K mainGlobals "woven" = some (some (.ref f12))) (l12 : K.lookup f12 = some ⟨oc12, od12, .func (PySem.W.fnOf "woven" "woven" (defArgs s_woven) (defBody s_woven) (defScope s_woven) .none kV12 dc12 pm12 an12 cd12 ct12), sl12⟩) (c12 : PySem.W.codeIn K cd12 "woven" = true) (k12 : PySem.W.keepIn K (.ref f12) = true)
    (a13 : PySem.W.nsIn K mainGlobals "finished" = some (some (.ref f13))) (l13 : K.lookup f13 = some ⟨oc13, od13, .func (PySem.W.fnOf "finished" "finished" (defArgs s_finished) (defBody s_finished) (defScope s_finished) .none kV13 dc13 pm13 an13 cd13 ct13), sl13⟩) (c13 : PySem.W.codeIn K cd13 "finished" = true) (k13 : PySem.W.keepIn K (.ref f13) = true)
    (a14 : PySem.W.nsIn K mainGlobals "_law_cell_at" = some (some (.ref f14))) (l14 : K.lookup f14 = some ⟨oc14, od14, .func (PySem.W.fnOf "_law_cell_at" "_law_cell_at" (defArgs s_l_cell_at) (defBody s_l_cell_at) (defScope s_l_cell_at) .none kV14 dc14 pm14 an14 cd14 ct14), sl14⟩) (c14 : PySem.W.codeIn K cd14 "_law_cell_at" = true) (k14 : PySem.W.keepIn K (.ref f14) = true)
    (a15 : PySem.W.nsIn K mainGlobals "_law_plan_by" = some (some (.ref f15))) (l15 : K.lookup f15 = some ⟨oc15, od15, .func (PySem.W.fnOf "_law_plan_by" "_law_plan_by" (defArgs s_l_plan_by) (defBody s_l_plan_by) (defScope s_l_plan_by) .none kV15 dc15 pm15 an15 cd15 ct15), sl15⟩) (c15 : PySem.W.codeIn K cd15 "_law_plan_by" = true) (k15 : PySem.W.keepIn K (.ref f15) = true)
    (a16 : PySem.W.nsIn K mainGlobals "_law_weaving_by" = some (some (.ref f16))) (l16 : K.lookup f16 = some ⟨oc16, od16, .func (PySem.W.fnOf "_law_weaving_by" "_law_weaving_by" (defArgs s_l_weaving_by) (defBody s_l_weaving_by) (defScope s_l_weaving_by) .none kV16 dc16 pm16 an16 cd16 ct16), sl16⟩) (c16 : PySem.W.codeIn K cd16 "_law_weaving_by" = true) (k16 : PySem.W.keepIn K (.ref f16) = true)
    (a17 : PySem.W.nsIn K mainGlobals "_law_replayed" = some (some (.ref f17))) (l17 : K.lookup f17 = some ⟨oc17, od17, .func (PySem.W.fnOf "_law_replayed" "_law_replayed" (defArgs s_l_replayed) (defBody s_l_replayed) (defScope s_l_replayed) .none kV17 dc17 pm17 an17 cd17 ct17), sl17⟩) (c17 : PySem.W.codeIn K cd17 "_law_replayed" = true) (k17 : PySem.W.keepIn K (.ref f17) = true)
    (a18 : PySem.W.nsIn K mainGlobals "_law_gone" = some (some (.ref f18))) (l18 : K.lookup f18 = some ⟨oc18, od18, .func (PySem.W.fnOf "_law_gone" "_law_gone" (defArgs s_l_gone) (defBody s_l_gone) (defScope s_l_gone) .none kV18 dc18 pm18 an18 cd18 ct18), sl18⟩) (c18 : PySem.W.codeIn K cd18 "_law_gone" = true) (k18 : PySem.W.keepIn K (.ref f18) = true)
    (a19 : PySem.W.nsIn K mainGlobals "_law_event" = some (some (.ref f19))) (l19 : K.lookup f19 = some ⟨oc19, od19, .func (PySem.W.fnOf "_law_event" "_law_event" (defArgs s_l_event) (defBody s_l_event) (defScope s_l_event) .none kV19 dc19 pm19 an19 cd19 ct19), sl19⟩) (c19 : PySem.W.codeIn K cd19 "_law_event" = true) (k19 : PySem.W.keepIn K (.ref f19) = true)
    (a20 : PySem.W.nsIn K mainGlobals "_law_changed" = some (some (.ref f20))) (l20 : K.lookup f20 = some ⟨oc20, od20, .func (PySem.W.fnOf "_law_changed" "_law_changed" (defArgs s_l_changed) (defBody s_l_changed) (defScope s_l_changed) .none kV20 dc20 pm20 an20 cd20 ct20), sl20⟩) (c20 : PySem.W.codeIn K cd20 "_law_changed" = true) (k20 : PySem.W.keepIn K (.ref f20) = true)
    (a21 : PySem.W.nsIn K mainGlobals "law" = some (some (.ref f21))) (l21 : K.lookup f21 = some ⟨oc21, od21, .func (PySem.W.fnOf "law" "law" (defArgs s_law) (defBody s_law) (defScope s_law) .none kV21 dc21 pm21 an21 cd21 ct21), sl21⟩) (c21 : PySem.W.codeIn K cd21 "law" = true) (k21 : PySem.W.keepIn K (.ref f21) = true)
    {C_R mf0 mf1 mf2 mf3 mf4 mf5 : Addr} {mod0 man0 mod1 man1 mod2 man2 mod3 man3 mod4 man4 mod5 man5 : Option Addr} {msl0 msl1 msl2 msl3 msl4 msl5 : Array (Option Value)} {moc0 mkV0 mdc0 mpm0 mcd0 mct0 moc1 mkV1 mdc1 mpm1 mcd1 mct1 moc2 mkV2 mdc2 mpm2 mcd2 mct2 moc3 mkV3 mdc3 mpm3 mcd3 mct3 moc4 mkV4 mdc4 mpm4 mcd4 mct4 moc5 mkV5 mdc5 mpm5 mcd5 mct5 : Value}
    (ma0 : PySem.W.findIn K (.ref C_R) "__init__" = some (some (.ref mf0))) (mi0 : PySem.W.isFn K (.ref mf0) = true) (ml0 : K.lookup mf0 = some ⟨moc0, mod0, .func (PySem.W.fnOf "__init__" "Rows.__init__" (defArgs s_init) (defBody s_init) (defScope s_init) .none mkV0 mdc0 mpm0 man0 mcd0 mct0), msl0⟩) (mc0 : PySem.W.codeIn K mcd0 "Rows.__init__" = true) (mk0 : PySem.W.keepIn K (.ref mf0) = true)
    (ma1 : PySem.W.findIn K (.ref C_R) "is_worker" = some (some (.ref mf1))) (mi1 : PySem.W.isFn K (.ref mf1) = true) (ml1 : K.lookup mf1 = some ⟨moc1, mod1, .func (PySem.W.fnOf "is_worker" "Rows.is_worker" (defArgs s_is_worker) (defBody s_is_worker) (defScope s_is_worker) .none mkV1 mdc1 mpm1 man1 mcd1 mct1), msl1⟩) (mc1 : PySem.W.codeIn K mcd1 "Rows.is_worker" = true) (mk1 : PySem.W.keepIn K (.ref mf1) = true)
    (ma2 : PySem.W.findIn K (.ref C_R) "takes" = some (some (.ref mf2))) (mi2 : PySem.W.isFn K (.ref mf2) = true) (ml2 : K.lookup mf2 = some ⟨moc2, mod2, .func (PySem.W.fnOf "takes" "Rows.takes" (defArgs s_takes) (defBody s_takes) (defScope s_takes) .none mkV2 mdc2 mpm2 man2 mcd2 mct2), msl2⟩) (mc2 : PySem.W.codeIn K mcd2 "Rows.takes" = true) (mk2 : PySem.W.keepIn K (.ref mf2) = true)
    (ma3 : PySem.W.findIn K (.ref C_R) "puts" = some (some (.ref mf3))) (mi3 : PySem.W.isFn K (.ref mf3) = true) (ml3 : K.lookup mf3 = some ⟨moc3, mod3, .func (PySem.W.fnOf "puts" "Rows.puts" (defArgs s_puts) (defBody s_puts) (defScope s_puts) .none mkV3 mdc3 mpm3 man3 mcd3 mct3), msl3⟩) (mc3 : PySem.W.codeIn K mcd3 "Rows.puts" = true) (mk3 : PySem.W.keepIn K (.ref mf3) = true)
    (ma4 : PySem.W.findIn K (.ref C_R) "does" = some (some (.ref mf4))) (mi4 : PySem.W.isFn K (.ref mf4) = true) (ml4 : K.lookup mf4 = some ⟨moc4, mod4, .func (PySem.W.fnOf "does" "Rows.does" (defArgs s_does) (defBody s_does) (defScope s_does) .none mkV4 mdc4 mpm4 man4 mcd4 mct4), msl4⟩) (mc4 : PySem.W.codeIn K mcd4 "Rows.does" = true) (mk4 : PySem.W.keepIn K (.ref mf4) = true)
    (ma5 : PySem.W.findIn K (.ref C_R) "goes" = some (some (.ref mf5))) (mi5 : PySem.W.isFn K (.ref mf5) = true) (ml5 : K.lookup mf5 = some ⟨moc5, mod5, .func (PySem.W.fnOf "goes" "Rows.goes" (defArgs s_goes) (defBody s_goes) (defScope s_goes) .none mkV5 mdc5 mpm5 man5 mcd5 mct5), msl5⟩) (mc5 : PySem.W.codeIn K mcd5 "Rows.goes" = true) (mk5 : PySem.W.keepIn K (.ref mf5) = true)
    (c_g : PySem.W.nsIn K mainGlobals "Rows" = some (some (.ref C_R))) (c_pg : PySem.W.plainGet K C_R Str.empty = true) (c_hd : PySem.W.hasDictIn K C_R = true) (c_po : PySem.W.plainOver K C_R = true) (c_sa : PySem.W.findIn K (.ref C_R) "__setattr__" = some (some (.builtin "object.__setattr__"))) (c_mk : PySem.W.makesIn K C_R = true) (c_kc : PySem.W.keepIn K (.ref C_R) = true)
    (c_n_brood : PySem.W.findIn K (.ref C_R) "brood" = some none)
    (c_n_rows : PySem.W.findIn K (.ref C_R) "rows" = some none)
    (c_n_holds : PySem.W.findIn K (.ref C_R) "holds" = some none)
    (c_n_rests : PySem.W.findIn K (.ref C_R) "rests" = some none)
    (z_all : PySem.W.nsIn K mainGlobals "all" = some none)
    (z_bool : PySem.W.nsIn K mainGlobals "bool" = some none)
    (z_int : PySem.W.nsIn K mainGlobals "int" = some none)
    (z_isinstance : PySem.W.nsIn K mainGlobals "isinstance" = some none)
    (z_len : PySem.W.nsIn K mainGlobals "len" = some none)
    (z_list : PySem.W.nsIn K mainGlobals "list" = some none)
    (z_max : PySem.W.nsIn K mainGlobals "max" = some none)
    (z_range : PySem.W.nsIn K mainGlobals "range" = some none)
    (z_tuple : PySem.W.nsIn K mainGlobals "tuple" = some none)
    : ∃ fd : FuncData, (∀ (s : Shared) (v : Value), BindsTo s fd ⟨[v], []⟩ [("_law_script", v)]) ∧ ∀ base : Heap, K.In base → base.Ns mainGlobals mg → FnOk P w K mg base CX0 13 fa fd ["_law_script"] (spLawZ K) := by
  have e := hfa.symm.trans (PySem.W.mg_of X G a21)
  cases e
  have F0 := fun_mk (st := s_are_right) l0 c0 k0
  have F1 := fun_mk (st := s_put_in) l1 c1 k1
  have F2 := fun_mk (st := s_advanced) l2 c2 k2
  have F3 := fun_mk (st := s_rested) l3 c3 k3
  have F4 := fun_mk (st := s_own_looked) l4 c4 k4
  have F5 := fun_mk (st := s_own_step) l5 c5 k5
  have F6 := fun_mk (st := s_other_step) l6 c6 k6
  have F7 := fun_mk (st := s_task_step) l7 c7 k7
  have F8 := fun_mk (st := s_stepped) l8 c8 k8
  have F9 := fun_mk (st := s_started) l9 c9 k9
  have F10 := fun_mk (st := s_is_over) l10 c10 k10
  have F11 := fun_mk (st := s_one_more) l11 c11 k11
  have F12 := fun_mk (st := s_woven) l12 c12 k12
  have F13 := fun_mk (st := s_finished) l13 c13 k13
  have F14 := fun_mk (st := s_l_cell_at) l14 c14 k14
  have F15 := fun_mk (st := s_l_plan_by) l15 c15 k15
  have F16 := fun_mk (st := s_l_weaving_by) l16 c16 k16
  have F17 := fun_mk (st := s_l_replayed) l17 c17 k17
  have F18 := fun_mk (st := s_l_gone) l18 c18 k18
  have F19 := fun_mk (st := s_l_event) l19 c19 k19
  have F20 := fun_mk (st := s_l_changed) l20 c20 k20
  have F21 := fun_mk (st := s_law) l21 c21 k21
  have b0 := F0.binds (ps := ["plan", "events"]) fun _ _ _ _ _ _ us hl => match us, hl with | [_, _], _ => rfl
  have b1 := F1.binds (ps := ["things", "at", "thing"]) fun _ _ _ _ _ _ us hl => match us, hl with | [_, _, _], _ => rfl
  have b2 := F2.binds (ps := ["row", "seen"]) fun _ _ _ _ _ _ us hl => match us, hl with | [_, _], _ => rfl
  have b3 := F3.binds (ps := ["worker"]) fun _ _ _ _ _ _ us hl => match us, hl with | [_], _ => rfl
  have b4 := F4.binds (ps := ["worker", "row"]) fun _ _ _ _ _ _ us hl => match us, hl with | [_, _], _ => rfl
  have b5 := F5.binds (ps := ["worker", "row", "state", "many"]) fun _ _ _ _ _ _ us hl => match us, hl with | [_, _, _, _], _ => rfl
  have b6 := F6.binds (ps := ["worker", "other", "row", "state", "many"]) fun _ _ _ _ _ _ us hl => match us, hl with | [_, _, _, _, _], _ => rfl
  have b7 := F7.binds (ps := ["worker", "row", "state", "brood"]) fun _ _ _ _ _ _ us hl => match us, hl with | [_, _, _, _], _ => rfl
  have b8 := F8.binds (ps := ["plan", "yard", "worker"]) fun _ _ _ _ _ _ us hl => match us, hl with | [_, _, _], _ => rfl
  have b9 := F9.binds (ps := ["plan"]) fun _ _ _ _ _ _ us hl => match us, hl with | [_], _ => rfl
  have b10 := F10.binds (ps := ["yard"]) fun _ _ _ _ _ _ us hl => match us, hl with | [_], _ => rfl
  have b11 := F11.binds (ps := ["plan", "yard", "worker", "events"]) fun _ _ _ _ _ _ us hl => match us, hl with | [_, _, _, _], _ => rfl
  have b12 := F12.binds (ps := ["plan", "yard", "weaving"]) fun _ _ _ _ _ _ us hl => match us, hl with | [_, _, _], _ => rfl
  have b13 := F13.binds (ps := ["plan", "yard"]) fun _ _ _ _ _ _ us hl => match us, hl with | [_, _], _ => rfl
  have b14 := F14.binds (ps := ["_law_script", "_law_k"]) fun _ _ _ _ _ _ us hl => match us, hl with | [_, _], _ => rfl
  have b15 := F15.binds (ps := ["_law_script", "_law_first", "_law_most"]) fun _ _ _ _ _ _ us hl => match us, hl with | [_, _, _], _ => rfl
  have b16 := F16.binds (ps := ["_law_cells", "_law_many"]) fun _ _ _ _ _ _ us hl => match us, hl with | [_, _], _ => rfl
  have b17 := F17.binds (ps := ["_law_plan", "_law_events"]) fun _ _ _ _ _ _ us hl => match us, hl with | [_, _], _ => rfl
  have b18 := F18.binds (ps := ["_law_plan", "_law_rows", "_law_holds", "_law_event_here"]) fun _ _ _ _ _ _ us hl => match us, hl with | [_, _, _, _], _ => rfl
  have b19 := F19.binds (ps := ["_law_event_here", "_law_cell", "_law_many", "_law_size"]) fun _ _ _ _ _ _ us hl => match us, hl with | [_, _, _, _], _ => rfl
  have b20 := F20.binds (ps := ["_law_plan", "_law_events", "_law_cell", "_law_some"]) fun _ _ _ _ _ _ us hl => match us, hl with | [_, _, _, _], _ => rfl
  have MF0 := fun_mk (st := s_init) ml0 mc0 mk0
  have MB0 := MF0.binds (ps := ["self", "plan"]) fun _ _ _ _ _ _ us hl => match us, hl with | [_, _], _ => rfl
  have MF1 := fun_mk (st := s_is_worker) ml1 mc1 mk1
  have MB1 := MF1.binds (ps := ["self", "number"]) fun _ _ _ _ _ _ us hl => match us, hl with | [_, _], _ => rfl
  have MF2 := fun_mk (st := s_takes) ml2 mc2 mk2
  have MB2 := MF2.binds (ps := ["self", "worker", "other", "task", "at"]) fun _ _ _ _ _ _ us hl => match us, hl with | [_, _, _, _, _], _ => rfl
  have MF3 := fun_mk (st := s_puts) ml3 mc3 mk3
  have MB3 := MF3.binds (ps := ["self", "worker", "task"]) fun _ _ _ _ _ _ us hl => match us, hl with | [_, _, _], _ => rfl
  have MF4 := fun_mk (st := s_does) ml4 mc4 mk4
  have MB4 := MF4.binds (ps := ["self", "worker", "task"]) fun _ _ _ _ _ _ us hl => match us, hl with | [_, _, _], _ => rfl
  have MF5 := fun_mk (st := s_goes) ml5 mc5 mk5
  have MB5 := MF5.binds (ps := ["self", "event"]) fun _ _ _ _ _ _ us hl => match us, hl with | [_, _], _ => rfl
  let T : Txt K mg := { C_R := C_R, cl := ⟨c_pg, c_hd, c_po, c_sa⟩, mgC := PySem.W.mg_of X G c_g, n_brood := c_n_brood, n_rows := c_n_rows, n_holds := c_n_holds, n_rests := c_n_rests, f_init := mf0, fd_init := _, F_init := MF0, b_init := MB0, mk_R := ⟨c_mk, ma0, mi0, c_kc⟩, f_is_worker := mf1, fd_is_worker := _, F_is_worker := MF1, b_is_worker := MB1, m_is_worker := ⟨ma1, mi1, mk1⟩, f_takes := mf2, fd_takes := _, F_takes := MF2, b_takes := MB2, m_takes := ⟨ma2, mi2, mk2⟩, f_puts := mf3, fd_puts := _, F_puts := MF3, b_puts := MB3, m_puts := ⟨ma3, mi3, mk3⟩, f_does := mf4, fd_does := _, F_does := MF4, b_does := MB4, m_does := ⟨ma4, mi4, mk4⟩, f_goes := mf5, fd_goes := _, F_goes := MF5, b_goes := MB5, m_goes := ⟨ma5, mi5, mk5⟩, f_are_right := f0, fd_are_right := _, F_are_right := F0, m_are_right := PySem.W.mg_of X G a0, b_are_right := b0, f_put_in := f1, fd_put_in := _, F_put_in := F1, m_put_in := PySem.W.mg_of X G a1, b_put_in := b1, f_advanced := f2, fd_advanced := _, F_advanced := F2, m_advanced := PySem.W.mg_of X G a2, b_advanced := b2, f_rested := f3, fd_rested := _, F_rested := F3, m_rested := PySem.W.mg_of X G a3, b_rested := b3, f_own_looked := f4, fd_own_looked := _, F_own_looked := F4, m_own_looked := PySem.W.mg_of X G a4, b_own_looked := b4, f_own_step := f5, fd_own_step := _, F_own_step := F5, m_own_step := PySem.W.mg_of X G a5, b_own_step := b5, f_other_step := f6, fd_other_step := _, F_other_step := F6, m_other_step := PySem.W.mg_of X G a6, b_other_step := b6, f_task_step := f7, fd_task_step := _, F_task_step := F7, m_task_step := PySem.W.mg_of X G a7, b_task_step := b7, f_stepped := f8, fd_stepped := _, F_stepped := F8, m_stepped := PySem.W.mg_of X G a8, b_stepped := b8, f_started := f9, fd_started := _, F_started := F9, m_started := PySem.W.mg_of X G a9, b_started := b9, f_is_over := f10, fd_is_over := _, F_is_over := F10, m_is_over := PySem.W.mg_of X G a10, b_is_over := b10, f_one_more := f11, fd_one_more := _, F_one_more := F11, m_one_more := PySem.W.mg_of X G a11, b_one_more := b11, f_woven := f12, fd_woven := _, F_woven := F12, m_woven := PySem.W.mg_of X G a12, b_woven := b12, f_finished := f13, fd_finished := _, F_finished := F13, m_finished := PySem.W.mg_of X G a13, b_finished := b13, f_l_cell_at := f14, fd_l_cell_at := _, F_l_cell_at := F14, m_l_cell_at := PySem.W.mg_of X G a14, b_l_cell_at := b14, f_l_plan_by := f15, fd_l_plan_by := _, F_l_plan_by := F15, m_l_plan_by := PySem.W.mg_of X G a15, b_l_plan_by := b15, f_l_weaving_by := f16, fd_l_weaving_by := _, F_l_weaving_by := F16, m_l_weaving_by := PySem.W.mg_of X G a16, b_l_weaving_by := b16, f_l_replayed := f17, fd_l_replayed := _, F_l_replayed := F17, m_l_replayed := PySem.W.mg_of X G a17, b_l_replayed := b17, f_l_gone := f18, fd_l_gone := _, F_l_gone := F18, m_l_gone := PySem.W.mg_of X G a18, b_l_gone := b18, f_l_event := f19, fd_l_event := _, F_l_event := F19, m_l_event := PySem.W.mg_of X G a19, b_l_event := b19, f_l_changed := f20, fd_l_changed := _, F_l_changed := F20, m_l_changed := PySem.W.mg_of X G a20, b_l_changed := b20, z_all := PySem.W.mg_none_of X G z_all, z_bool := PySem.W.mg_none_of X G z_bool, z_int := PySem.W.mg_none_of X G z_int, z_isinstance := PySem.W.mg_none_of X G z_isinstance, z_len := PySem.W.mg_none_of X G z_len, z_list := PySem.W.mg_none_of X G z_list, z_max := PySem.W.mg_none_of X G z_max, z_range := PySem.W.mg_none_of X G z_range, z_tuple := PySem.W.mg_none_of X G z_tuple }
  exact ⟨_, fun s v => .of_eq rfl, fun base _ _ => ok_law T F21⟩
end Law
open PySem PySem.W PyProof.Rows
set_option maxRecDepth 100000 in
set_option maxHeartbeats 0 in
theorem PySem.Challenge.cw_stealyard_k10_events_right_holds : PySem.Challenge.rw_stealyard_k10_events_right.Holds := by
  w_on; o_law; k_head; (case hw => w_witness2)
  k_fill
  refine L2.walk_of (l := PySem.Challenge.rw_stealyard_k10_events_right) (n := 63) (k := 13) (x := "_law_script") (CX := fun _ => L2.CX0) (sp := fun w => Pu.spLawZ _) rfl (by decide) rfl ⟨rfl, by decide, by decide⟩ (fun w h Y => PySem.W.kIn_of Y) ?F (fun _ _ a ns hl _ hS => ⟨a, ns, rfl, hS, hl, fun _ => rfl⟩) (fun _ _ _ _ _ h => h)
  case F =>
    intro w mg fa h KX G hmg
    refine' Law.all_mk KX G hmg ?a0 ?l0 ?c0 ?k0 ?a1 ?l1 ?c1 ?k1 ?a2 ?l2 ?c2 ?k2 ?a3 ?l3 ?c3 ?k3 ?a4 ?l4 ?c4 ?k4 ?a5 ?l5 ?c5 ?k5 ?a6 ?l6 ?c6 ?k6 ?a7 ?l7 ?c7 ?k7 ?a8 ?l8 ?c8 ?k8 ?a9 ?l9 ?c9 ?k9 ?a10 ?l10 ?c10 ?k10 ?a11 ?l11 ?c11 ?k11 ?a12 ?l12 ?c12 ?k12 ?a13 ?l13 ?c13 ?k13 ?a14 ?l14 ?c14 ?k14 ?a15 ?l15 ?c15 ?k15 ?a16 ?l16 ?c16 ?k16 ?a17 ?l17 ?c17 ?k17 ?a18 ?l18 ?c18 ?k18 ?a19 ?l19 ?c19 ?k19 ?a20 ?l20 ?c20 ?k20 ?a21 ?l21 ?c21 ?k21 ?ma0 ?mi0 ?ml0 ?mc0 ?mk0 ?ma1 ?mi1 ?ml1 ?mc1 ?mk1 ?ma2 ?mi2 ?ml2 ?mc2 ?mk2 ?ma3 ?mi3 ?ml3 ?mc3 ?mk3 ?ma4 ?mi4 ?ml4 ?mc4 ?mk4 ?ma5 ?mi5 ?ml5 ?mc5 ?mk5 ?c_g ?c_pg ?c_hd ?c_po ?c_sa ?c_mk ?c_kc ?c_n_brood ?c_n_rows ?c_n_holds ?c_n_rests ?z_all ?z_bool ?z_int ?z_isinstance ?z_len ?z_list ?z_max ?z_range ?z_tuple
    (case c_g => k_is)
    (case a0 => k_is)
    (case l0 => k_is)
    (case c0 => k_is)
    (case k0 => k_is)
    (case a1 => k_is)
    (case l1 => k_is)
    (case c1 => k_is)
    (case k1 => k_is)
    (case a2 => k_is)
    (case l2 => k_is)
    (case c2 => k_is)
    (case k2 => k_is)
    (case a3 => k_is)
    (case l3 => k_is)
    (case c3 => k_is)
    (case k3 => k_is)
    (case a4 => k_is)
    (case l4 => k_is)
    (case c4 => k_is)
    (case k4 => k_is)
    (case a5 => k_is)
    (case l5 => k_is)
    (case c5 => k_is)
    (case k5 => k_is)
    (case a6 => k_is)
    (case l6 => k_is)
    (case c6 => k_is)
    (case k6 => k_is)
    (case a7 => k_is)
    (case l7 => k_is)
    (case c7 => k_is)
    (case k7 => k_is)
    (case a8 => k_is)
    (case l8 => k_is)
    (case c8 => k_is)
    (case k8 => k_is)
    (case a9 => k_is)
    (case l9 => k_is)
    (case c9 => k_is)
    (case k9 => k_is)
    (case a10 => k_is)
    (case l10 => k_is)
    (case c10 => k_is)
    (case k10 => k_is)
    (case a11 => k_is)
    (case l11 => k_is)
    (case c11 => k_is)
    (case k11 => k_is)
    (case a12 => k_is)
    (case l12 => k_is)
    (case c12 => k_is)
    (case k12 => k_is)
    (case a13 => k_is)
    (case l13 => k_is)
    (case c13 => k_is)
    (case k13 => k_is)
    (case a14 => k_is)
    (case l14 => k_is)
    (case c14 => k_is)
    (case k14 => k_is)
    (case a15 => k_is)
    (case l15 => k_is)
    (case c15 => k_is)
    (case k15 => k_is)
    (case a16 => k_is)
    (case l16 => k_is)
    (case c16 => k_is)
    (case k16 => k_is)
    (case a17 => k_is)
    (case l17 => k_is)
    (case c17 => k_is)
    (case k17 => k_is)
    (case a18 => k_is)
    (case l18 => k_is)
    (case c18 => k_is)
    (case k18 => k_is)
    (case a19 => k_is)
    (case l19 => k_is)
    (case c19 => k_is)
    (case k19 => k_is)
    (case a20 => k_is)
    (case l20 => k_is)
    (case c20 => k_is)
    (case k20 => k_is)
    (case a21 => k_is)
    (case l21 => k_is)
    (case c21 => k_is)
    (case k21 => k_is)
    (case ma0 => k_is)
    (case mi0 => k_is)
    (case ml0 => k_is)
    (case mc0 => k_is)
    (case mk0 => k_is)
    (case ma1 => k_is)
    (case mi1 => k_is)
    (case ml1 => k_is)
    (case mc1 => k_is)
    (case mk1 => k_is)
    (case ma2 => k_is)
    (case mi2 => k_is)
    (case ml2 => k_is)
    (case mc2 => k_is)
    (case mk2 => k_is)
    (case ma3 => k_is)
    (case mi3 => k_is)
    (case ml3 => k_is)
    (case mc3 => k_is)
    (case mk3 => k_is)
    (case ma4 => k_is)
    (case mi4 => k_is)
    (case ml4 => k_is)
    (case mc4 => k_is)
    (case mk4 => k_is)
    (case ma5 => k_is)
    (case mi5 => k_is)
    (case ml5 => k_is)
    (case mc5 => k_is)
    (case mk5 => k_is)
    (case c_pg => k_is)
    (case c_hd => k_is)
    (case c_po => k_is)
    (case c_sa => k_is)
    (case c_mk => k_is)
    (case c_kc => k_is)
    (case c_n_brood => k_is)
    (case c_n_rows => k_is)
    (case c_n_holds => k_is)
    (case c_n_rests => k_is)
    (case z_all => k_is)
    (case z_bool => k_is)
    (case z_int => k_is)
    (case z_isinstance => k_is)
    (case z_len => k_is)
    (case z_list => k_is)
    (case z_max => k_is)
    (case z_range => k_is)
    (case z_tuple => k_is)
