import PyProof.Rows.All
import Wide.All
import OpenK.AllK
import Wide.FinOn
import HandS.ForMost
import HandS.Evl
import HandS.Deep
import HandS.IsInst
import HandS.TupAny
import HandS.Star
import HandS.Conv
import HandS.DictTup
import HandS.OwnEq
import HandS.DeepEq
import HandS.DictComp
import HandS.Property
import KE.KEqNest
import HandS.Text
import HandS.Codes
import HandS.Style
import KE.KExcSuper
import HandS.ForSpec
import HandS.ExcSuper
import HandS.WordsExc
import HandS.ExcField
import HandS.ExcIs
import KE.KExcIs
import KE.RegKSuper
import PySem.Challenge.RW_aheadrows_k15_texts_refused
set_option Elab.async false
set_option linter.all false
set_option maxRecDepth 100000
set_option maxHeartbeats 4000000
/-! Ah1: computations over a stable part of the heap. -/
namespace Ah
open PySem PySem.Spec PyProof.Rows L2 Evl

/-! ### the stable part G of a heap H, and how both grow -/
structure Nw (H G G' H' : Hp) : Prop where
  ex : Ex G G'
  le : Ex G' H'
  old : ∀ b, H b ≠ none → G b = none → G' b = none
section
variable {H H1 H2 H' G G1 G2 G' : Hp}
theorem Nw.refl (h : Ex G H) : Nw H G G H := ⟨Ex.refl G, h, fun _ _ e => e⟩
theorem Nw.trans (e : Ex H H1) (a : Nw H G G1 H1) (b : Nw H1 G1 G2 H2) : Nw H G G2 H2 :=
  ⟨a.ex.trans b.ex, b.le, fun c hc hg => b.old c (fun z => by
    cases q : H c with
    | none => exact hc q
    | some o => rw [e c o q] at z; cases z) (a.old c hc hg)⟩
theorem ne_ex {b : Addr} (e : Ex H H1) (h : H b ≠ none) : H1 b ≠ none := fun z => by
  cases q : H b with
  | none => exact h q
  | some o => rw [e b o q] at z; cases z
theorem Nw.new {p : Addr} {o : HO} (h : Ex G H) (hp : H p = none) : Nw H G (upd G p o) (upd H p o) := by
  have gp : G p = none := fresh_back h hp
  refine ⟨Ex.new gp, fun b u e => ?_, fun b hb hg => ?_⟩
  · by_cases hbp : b = p
    · subst hbp; rw [upd_same] at e ⊢; exact e
    · rw [upd_ne hbp] at e ⊢; exact h b u e
  · by_cases hbp : b = p
    · subst hbp; exact absurd hp hb
    · rw [upd_ne hbp]; exact hg
/-- a new object that does not become stable -/
theorem Nw.own {p : Addr} {o : HO} (h : Ex G H) (hp : H p = none) : Nw H G G (upd H p o) :=
  ⟨Ex.refl G, h.trans (Ex.new hp), fun _ _ e => e⟩
def mrg (A B : Hp) : Hp := fun b => match A b with
  | some o => some o
  | none => B b
theorem mrg_some {A B : Hp} {b : Addr} {o : HO} (h : A b = some o) : mrg A B b = some o := by unfold mrg; rw [h]
theorem mrg_none {A B : Hp} {b : Addr} (h : A b = none) : mrg A B b = B b := by unfold mrg; rw [h]
theorem Nw.up (hg : Ex G G1) (h1 : Ex G1 H) (e : Ex H H') (n : Nw H G G' H') : Nw H G1 (mrg G1 G') H' ∧ Ex G' (mrg G1 G') := by
  refine ⟨⟨fun b o h => mrg_some h, fun b o h => ?_, fun b hb hn => ?_⟩, fun b o h => ?_⟩
  · cases q : G1 b with
    | some u => rw [mrg_some q] at h; cases h; exact e b _ (h1 b _ q)
    | none => rw [mrg_none q] at h; exact n.le b o h
  · rw [mrg_none hn]; exact n.old b hb (fresh_back hg hn)
  · cases q : G1 b with
    | some u =>
      rw [mrg_some q]
      have z1 := n.le b o h
      have z2 := e b _ (h1 b _ q)
      rw [z1] at z2
      exact z2.symm
    | none => rw [mrg_none q]; exact h
end

/-! ### what holds of a result, whatever is added -/
structure MP (α : Type) where
  p : α → Hp → Prop
  mono : ∀ {a : α} {G G' : Hp}, Ex G G' → p a G → p a G'

def Cm {α : Type} (t : Hp → (α → Hp → Prop) → Prop) (G : Hp) (P : MP α) : Prop :=
  ∀ H, Ex G H → ∀ Q : α → Hp → Prop, (∀ a G' H', Ex H H' → Nw H G G' H' → P.p a G' → Q a H') → t H Q
section
variable {α β : Type} {t : Hp → (α → Hp → Prop) → Prop} {u : α → Hp → (β → Hp → Prop) → Prop} {G G1 : Hp} {P P' : MP α} {R : MP β}
theorem Cm.ret {a : α} (h : P.p a G) : Cm (fun H Q => Q a H) G P := fun H e Q q => q a G H (Ex.refl H) (Nw.refl e) h
theorem Cm.bind (h : Cm t G P) (k : ∀ a G1, Ex G G1 → P.p a G1 → Cm (u a) G1 R) : Cm (fun H Q => t H fun a H1 => u a H1 Q) G R := fun H e Q q =>
  h H e _ fun a G1 H1 e1 n1 p1 => k a G1 n1.ex p1 H1 n1.le Q fun b G2 H2 e2 n2 r2 => q b G2 H2 (e1.trans e2) (n1.trans e1 n2) r2
theorem Cm.up (h : Cm t G P) (hg : Ex G G1) : Cm t G1 P := fun H e Q q =>
  h H (hg.trans e) Q fun a G' H' e1 n1 p1 => by
    obtain ⟨n2, x2⟩ := n1.up hg e e1
    exact q a _ H' e1 n2 (P.mono x2 p1)
theorem Cm.imp (h : Cm t G P) (k : ∀ a G', Ex G G' → P.p a G' → P'.p a G') : Cm t G P' := fun H e Q q => h H e Q fun a G' H' e1 n1 p1 => q a G' H' e1 n1 (k a G' n1.ex p1)
end

/-! ### data -/
mutual
theorem Dp.up {K : PySem.W.Frag} {G G' : Hp} (e : Ex G G') : ∀ (d : PyData) (v : V), Dp K G v d → Dp K G' v d
  | .none, _, h => by cases h; exact .non
  | .bool b, _, h => by cases h; exact .bl b
  | .int i, _, h => by cases h; exact .int i
  | .str x, _, h => by cases h; exact .str x
  | .list ds, _, h => by
    cases h with
    | lst a b => exact .lst (ex_l e a) (DpAll.up e ds _ b)
  | .tuple ds, _, h => by
    cases h with
    | tup a b => exact .tup (ex_t e a) (DpAll.up e ds _ b)
  | .dict _, _, h => by cases h
theorem DpAll.up {K : PySem.W.Frag} {G G' : Hp} (e : Ex G G') : ∀ (ds : List PyData) (vs : List V), DpAll K G vs ds → DpAll K G' vs ds
  | [], _, h => by cases h; exact .nil
  | d :: ds, _, h => by
    cases h with
    | cons a b => exact .cons (Dp.up e d _ a) (DpAll.up e ds _ b)
end
theorem DpAll.length {K : PySem.W.Frag} {G : Hp} : ∀ {ds : List PyData} {vs : List V}, DpAll K G vs ds → vs.length = ds.length
  | [], _, h => by cases h; rfl
  | d :: ds, _, h => by
    cases h with
    | cons a b => rw [List.length_cons, List.length_cons, DpAll.length b]
theorem DpAll.get {K : PySem.W.Frag} {G : Hp} : ∀ {ds : List PyData} {vs : List V} {i : Nat} {d : PyData}, DpAll K G vs ds → ds[i]? = some d → ∃ v, vs[i]? = some v ∧ Dp K G v d
  | [], _, _, _, _, e => by simp at e
  | d :: ds, _, 0, _, h, e => by
    cases h with
    | cons a b => simp at e; subst e; exact ⟨_, rfl, a⟩
  | d :: ds, _, i + 1, _, h, e => by
    cases h with
    | cons a b =>
      obtain ⟨v, h1, h2⟩ := DpAll.get (i := i) b (by simpa using e)
      exact ⟨v, by simpa using h1, h2⟩
theorem DpAll.at_ {K : PySem.W.Frag} {G : Hp} : ∀ {ds : List PyData} {vs : List V} {i : Nat} {v : V}, DpAll K G vs ds → vs[i]? = some v → ∃ d, ds[i]? = some d ∧ Dp K G v d
  | [], _, _, _, h, e => by cases h; simp at e
  | d :: ds, _, 0, _, h, e => by
    cases h with
    | cons a b => simp at e; subst e; exact ⟨_, rfl, a⟩
  | d :: ds, _, i + 1, _, h, e => by
    cases h with
    | cons a b =>
      obtain ⟨v, h1, h2⟩ := DpAll.at_ (i := i) b (by simpa using e)
      exact ⟨v, by simpa using h1, h2⟩
theorem DpAll.app {K : PySem.W.Frag} {G : Hp} : ∀ {ds es : List PyData} {vs us : List V}, DpAll K G vs ds → DpAll K G us es → DpAll K G (vs ++ us) (ds ++ es)
  | [], _, _, _, h, k => by cases h; exact k
  | d :: ds, _, _, _, h, k => by
    cases h with
    | cons a b => exact .cons a (DpAll.app b k)
theorem DpAll.take {K : PySem.W.Frag} {G : Hp} : ∀ (n : Nat) {ds : List PyData} {vs : List V}, DpAll K G vs ds → DpAll K G (vs.take n) (ds.take n)
  | 0, _, _, _ => by rw [List.take_zero, List.take_zero]; exact .nil
  | n + 1, [], _, h => by cases h; exact .nil
  | n + 1, d :: ds, _, h => by
    cases h with
    | cons a b => exact .cons a (DpAll.take n b)
theorem DpAll.drop {K : PySem.W.Frag} {G : Hp} : ∀ (n : Nat) {ds : List PyData} {vs : List V}, DpAll K G vs ds → DpAll K G (vs.drop n) (ds.drop n)
  | 0, _, _, h => h
  | n + 1, [], _, h => by cases h; exact .nil
  | n + 1, d :: ds, _, h => by
    cases h with
    | cons a b => exact DpAll.drop n b
section
variable {K : PySem.W.Frag}
abbrev MP.d (K : PySem.W.Frag) (d : PyData) : MP V := ⟨fun v G => Dp K G v d, fun e h => Dp.up e d _ h⟩
abbrev MP.ds (K : PySem.W.Frag) (ds : List PyData) : MP (List V) := ⟨fun vs G => DpAll K G vs ds, fun e h => DpAll.up e ds _ h⟩
abbrev MP.eq {α : Type} (a : α) : MP α := ⟨fun b _ => b = a, fun _ h => h⟩
/-- arguments of any kind -/
inductive AllP : List V → List (MP V) → Hp → Prop where
  | nil {G : Hp} : AllP [] [] G
  | cons {v : V} {vs : List V} {P : MP V} {Ps : List (MP V)} {G : Hp} : P.p v G → AllP vs Ps G → AllP (v :: vs) (P :: Ps) G
theorem AllP.up {G G' : Hp} (e : Ex G G') : ∀ {Ps : List (MP V)} {vs : List V}, AllP vs Ps G → AllP vs Ps G'
  | [], _, h => by cases h; exact .nil
  | P :: Ps, _, h => by
    cases h with
    | cons a b => exact .cons (P.mono e a) (AllP.up e b)
theorem AllP.length {G : Hp} : ∀ {Ps : List (MP V)} {vs : List V}, AllP vs Ps G → vs.length = Ps.length
  | [], _, h => by cases h; rfl
  | P :: Ps, _, h => by
    cases h with
    | cons a b => rw [List.length_cons, List.length_cons, AllP.length b]
abbrev MP.args (Ps : List (MP V)) : MP (List V) := ⟨fun vs G => AllP vs Ps G, fun e h => AllP.up e h⟩
end

/-! ### expressions -/
section
variable {K : PySem.W.Frag} {σ : L2.St} {G : Hp} {ta tb te : TE} {tt tu : TT} {P P1 P2 : MP V} {v : V} {d e : PyData} {ds es : List PyData}
theorem c_var {i : Nat} (h : σ[i]? = some (some v)) (p : P.p v G) : Cm (tVar i σ) G P := fun H x Q q => ⟨v, h, q v G H (Ex.refl H) (Nw.refl x) p⟩
theorem c_c (p : P.p v G) : Cm (tC v σ) G P := fun H x Q q => q v G H (Ex.refl H) (Nw.refl x) p
theorem c_int {i : Int} : Cm (tC (.int i) σ) G (MP.d K (.int i)) := c_c (.int i)
theorem c_str {s : Str} : Cm (tC (.str s) σ) G (MP.d K (.str s)) := c_c (.str s)
theorem c_bl {b : Bool} : Cm (tC (.bl b) σ) G (MP.d K (.bool b)) := c_c (.bl b)
theorem c_non : Cm (tC .non σ) G (MP.d K .none) := c_c .non
/-- a two-place operation -/
theorem c_op {r : R2} (ha : Cm (ta σ) G P1) (hb : Cm (tb σ) G P2) (hr : ∀ x y G1, Ex G G1 → P1.p x G1 → P2.p y G1 → Cm (r x y) G1 P) : Cm (tOp r ta tb σ) G P :=
  Cm.bind (t := ta σ) (u := fun x H Q => tb σ H fun y H2 => r x y H2 Q) ha fun x G1 e1 p1 => Cm.bind (t := tb σ) (u := fun y H Q => r x y H Q) (hb.up e1) fun y G2 e2 p2 => hr x y G2 (e1.trans e2) (P1.mono e2 p1) p2
theorem c_un {r : V → Hp → VK → Prop} (ha : Cm (ta σ) G P1) (hr : ∀ x G1, Ex G G1 → P1.p x G1 → Cm (r x) G1 P) : Cm (tUn r ta σ) G P := Cm.bind (t := ta σ) (u := fun x H Q => r x H Q) ha hr
theorem c_nil : Cm (tNil σ) G (MP.args []) := Cm.ret .nil
theorem c_cons {tr : TA} {Ps : List (MP V)} (ha : Cm (ta σ) G P) (hr : Cm (tr σ) G (MP.args Ps)) : Cm (tCons ta tr σ) G (MP.args (P :: Ps)) :=
  Cm.bind (t := ta σ) (u := fun x H Q => tr σ H fun xs H2 => Q (x :: xs) H2) ha fun x G1 e1 p1 => Cm.bind (t := tr σ) (u := fun xs H Q => Q (x :: xs) H) (hr.up e1) fun xs G2 e2 p2 => Cm.ret (.cons (P.mono e2 p1) p2)
/-- arguments that are data -/
theorem allD {G : Hp} {vs : List V} : ∀ {ds : List PyData}, AllP vs (ds.map (MP.d K)) G → DpAll K G vs ds := fun {ds} h => by
  induction ds generalizing vs with
  | nil => cases h; exact .nil
  | cons d ds ih =>
    cases h with
    | cons a b => exact .cons a (ih b)
theorem c_dnil : Cm (tNil σ) G (MP.ds K []) := Cm.ret .nil
theorem c_dcons {tr : TA} (ha : Cm (ta σ) G (MP.d K d)) (hr : Cm (tr σ) G (MP.ds K ds)) : Cm (tCons ta tr σ) G (MP.ds K (d :: ds)) :=
  Cm.bind (t := ta σ) (u := fun x H Q => tr σ H fun xs H2 => Q (x :: xs) H2) ha fun x G1 e1 p1 => Cm.bind (t := tr σ) (u := fun xs H Q => Q (x :: xs) H) (hr.up e1) fun xs G2 e2 p2 => Cm.ret (.cons (Dp.up e2 _ _ p1) p2)
/-- a new object -/
theorem c_new {o : HO} (h : ∀ p, G p = none → P.p (.ref p) (upd G p o)) : Cm (fun H Q => ∀ p, H p = none → Q (.ref p) (upd H p o)) G P := fun H x Q q p hp =>
  q _ (upd G p o) _ (Ex.new hp) (Nw.new x hp) (h p (fresh_back x hp))
theorem dp_new_tup {p : Addr} {vs : List V} (hp : G p = none) (h : DpAll K G vs ds) : Dp K (upd G p (.tup vs)) (.ref p) (.tuple ds) := .tup (SqT.of upd_same) (DpAll.up (Ex.new hp) _ _ h)
theorem dp_new_lst {p : Addr} {vs : List V} (hp : G p = none) (h : DpAll K G vs ds) : Dp K (upd G p (.lst vs)) (.ref p) (.list ds) := .lst (SqL.of upd_same) (DpAll.up (Ex.new hp) _ _ h)
theorem sz (h : ds.length ≤ 100000) {vs : List V} (a : DpAll K G vs ds) : vs.length ≤ sizeLine := by rw [DpAll.length a]; exact sz_of h
theorem c_and {α : Type} {A : Prop} {t : Hp → (α → Hp → Prop) → Prop} {R : MP α} (h : A) (k : Cm t G R) : Cm (fun H Q => A ∧ t H Q) G R := fun H x Q q => ⟨h, k H x Q q⟩
theorem c_tup {t : TA} (h : Cm (t σ) G (MP.ds K ds)) (hl : ds.length ≤ 100000) : Cm (tTup t σ) G (MP.d K (.tuple ds)) :=
  Cm.bind (t := t σ) (u := fun (xs : List V) (H1 : Hp) (Q : V → Hp → Prop) => xs.length ≤ sizeLine ∧ ∀ p, H1 p = none → Q (V.ref p) (upd H1 p (.tup xs))) h fun xs G1 e1 p1 => c_and (sz hl p1) (c_new fun p hp => dp_new_tup hp p1)
theorem c_lst {t : TA} (h : Cm (t σ) G (MP.ds K ds)) (hl : ds.length ≤ 100000) : Cm (tLst t σ) G (MP.d K (.list ds)) :=
  Cm.bind (t := t σ) (u := fun (xs : List V) (H1 : Hp) (Q : V → Hp → Prop) => xs.length ≤ sizeLine ∧ ∀ p, H1 p = none → Q (V.ref p) (upd H1 p (.lst xs))) h fun xs G1 e1 p1 => c_and (sz hl p1) (c_new fun p hp => dp_new_lst hp p1)
theorem dp_tup {a : V} (h : Dp K G a (.tuple ds)) : ∃ p xs, a = .ref p ∧ SqT K G p xs ∧ DpAll K G xs ds := by cases h with | tup h1 h2 => exact ⟨_, _, rfl, h1, h2⟩
theorem dp_lst {a : V} (h : Dp K G a (.list ds)) : ∃ p xs, a = .ref p ∧ SqL K G p xs ∧ DpAll K G xs ds := by cases h with | lst h1 h2 => exact ⟨_, _, rfl, h1, h2⟩
theorem dp_int {a : V} {i : Int} (h : Dp K G a (.int i)) : a = .int i := by cases h; rfl
theorem dp_bl {a : V} {i : Bool} (h : Dp K G a (.bool i)) : a = .bl i := by cases h; rfl
theorem dp_str {a : V} {i : Str} (h : Dp K G a (.str i)) : a = .str i := by cases h; rfl
theorem dp_non {a : V} (h : Dp K G a .none) : a = .non := by cases h; rfl
end
end Ah
/-! Ah2: operators of any kind, and what they give on data. -/
namespace Ah
open PySem PySem.Spec PyProof.Rows L2 Evl

/-! ### union rules -/
def rAddS : R2 := fun x y H Q => ∃ i j, x = .str i ∧ y = .str j ∧ i.length + j.length ≤ sizeLine ∧ Q (.str (i ++ j)) H
def rAddG (K : PySem.W.Frag) : R2 := fun x y H Q => rI0 (fun i j => .int (i + j)) x y H Q ∨ rAddS x y H Q ∨ rCat x y H Q ∨ rCatA K x y H Q
def rInG (K : PySem.W.Frag) (neg : Bool) : R2 := fun x y H Q => ∃ d ds, Dp K H x d ∧ (Dp K H y (.list ds) ∨ Dp K H y (.tuple ds)) ∧ SeqAt.shaped d = true ∧ SeqAt.shaped (.list ds) = true ∧
  Q (.bl (if neg then !(ds.any fun z => PyData.eqv z d) else ds.any fun z => PyData.eqv z d)) H
def rLenG (K : PySem.W.Frag) : List V → Hp → VK → Prop := fun xs H Q => ∃ x n, xs = [x] ∧ LenV K x H n ∧ Q (.int n) H
def rIsiG (K : PySem.W.Frag) : List V → Hp → VK → Prop := fun xs H Q => rIsi K xs H Q ∨ rIsiT K xs H Q
def rSlG (K : PySem.W.Frag) : V → Option Int → Option Int → Hp → VK → Prop := fun x lo hi H Q => rSlL K x lo hi H Q ∨ rSlA K x lo hi H Q
def rMax2 : List V → Hp → VK → Prop := fun xs H Q => ∃ i j, xs = [.int i, .int j] ∧ Q (.int (if j > i then j else i)) H
def rIntG : List V → Hp → VK → Prop := fun xs H Q => (∃ i, xs = [.int i] ∧ Q (.int i) H) ∨ ∃ k, xs = [.bl k] ∧ Q (.int (if k then 1 else 0)) H
def rListG (K : PySem.W.Frag) : List V → Hp → VK → Prop := fun xs H Q => ∃ p ys, xs = [.ref p] ∧ (SqL K H p ys ∨ SqT K H p ys) ∧ ∀ l, H l = none → Q (.ref l) (upd H l (.lst ys))
def rTupG (K : PySem.W.Frag) : List V → Hp → VK → Prop := fun xs H Q => ∃ p ys, xs = [.ref p] ∧ ((SqL K H p ys ∧ ∀ l, H l = none → Q (.ref l) (upd H l (.tup ys))) ∨ (SqT K H p ys ∧ Q (.ref p) H))
def rStrI : List V → Hp → VK → Prop := fun xs H Q => ∃ i, xs = [.int i] ∧ i.natAbs.log2 < 1920 ∧ Q (.str (toString i)) H
abbrev rIsN : R2 := fun x y H Q => y = .non ∧ Q (.bl (decide (x = .non))) H
abbrev rNotN : R2 := fun x y H Q => y = .non ∧ Q (.bl (!decide (x = .non))) H
abbrev rSubI : R2 := rI0 fun i j => .int (i - j)
abbrev rMulI : R2 := rI CMul fun i j => .int (i * j)
abbrev rDivI : R2 := rI CDivN fun i j => .int (i.fdiv j)
abbrev rModI : R2 := rI (fun _ j => j ≠ 0) fun i j => .int (i.fmod j)
abbrev rPowI : R2 := rI CPow fun i j => .int (i ^ j.toNat)
abbrev rLtI : R2 := rI0 fun i j => .bl (decide (i < j))
abbrev rLeI : R2 := rI0 fun i j => .bl (decide (i ≤ j))
abbrev rGtI : R2 := rI0 fun i j => .bl (decide (j < i))
abbrev rGeI : R2 := rI0 fun i j => .bl (decide (j ≤ i))
section
variable {X : Cx}
theorem op_addG : OpR X (binaryOp .Add) (rAddG X.K) := op_add.or (OpR.or op_add_str (OpR.or op_cat op_catA))
theorem op_inG (hu : X.A.units + 65 < cLine) : OpR X (compareOp .In) (rInG X.K false) := by
  intro pins s σ H x y v u Q I rx ry h
  obtain ⟨d, ds, hd, he, sd, se, q⟩ := h
  obtain ⟨as, r1⟩ := Dp.reads I d x v hd rx
  rcases he with he | he
  · obtain ⟨bs, r2⟩ := Dp.reads I (.list ds) y u he ry
    exact SeqAt.in_list_reads r2 r1 (SeqAt.canLay_of_shaped se) (SeqAt.canLay_of_shaped sd) (room_in_shaped sd hu) ⟨.bl _, H, I, rfl, q⟩
  · obtain ⟨bs, r2⟩ := Dp.reads I (.tuple ds) y u he ry
    exact SeqAt.in_tuple_reads r2 r1 (SeqAt.canLay_of_shaped se) (SeqAt.canLay_of_shaped sd) (room_in_shaped sd hu) ⟨.bl _, H, I, rfl, q⟩
theorem op_notInG (hu : X.A.units + 65 < cLine) : OpR X (compareOp .NotIn) (rInG X.K true) := by
  intro pins s σ H x y v u Q I rx ry h
  obtain ⟨d, ds, hd, he, sd, se, q⟩ := h
  obtain ⟨as, r1⟩ := Dp.reads I d x v hd rx
  rcases he with he | he
  · obtain ⟨bs, r2⟩ := Dp.reads I (.list ds) y u he ry
    exact SeqAt.notIn_list_reads r2 r1 (SeqAt.canLay_of_shaped se) (SeqAt.canLay_of_shaped sd) (room_in_shaped sd hu) ⟨.bl _, H, I, rfl, q⟩
  · obtain ⟨bs, r2⟩ := Dp.reads I (.tuple ds) y u he ry
    exact SeqAt.notIn_tuple_reads r2 r1 (SeqAt.canLay_of_shaped se) (SeqAt.canLay_of_shaped sd) (room_in_shaped sd hu) ⟨.bl _, H, I, rfl, q⟩
theorem call_lenG : CallR X (.builtin "len") (rLenG X.K) := call_len
theorem call_isiG : CallR X (.builtin "isinstance") (rIsiG X.K) := by
  intro pins s σ H xs us Q I r h
  rcases h with h | h
  · exact call_isi pins s σ H xs us Q I r h
  · exact call_isiT pins s σ H xs us Q I r h
theorem sl_G : SlR X (rSlG X.K) := by
  intro pins s σ H x v vl vu lo hi sl Q I rx hs pl pu h
  rcases h with h | h
  · exact sl_list pins s σ H x v vl vu lo hi sl Q I rx hs pl pu h
  · exact sl_tupA pins s σ H x v vl vu lo hi sl Q I rx hs pl pu h
theorem call_max2G (hc : X.calm = true) : CallR X (.builtin "max") rMax2 := call_max2 hc
theorem call_intG : CallR X (.type "int") rIntG := call_int1
theorem call_listG : CallR X (.type "list") (rListG X.K) := call_list_of
theorem call_tupG : CallR X (.type "tuple") (rTupG X.K) := call_tuple_of
theorem call_strI : CallR X (.type "str") rStrI := call_str_int
end

/-! ### on data -/
section
variable {K : PySem.W.Frag} {σ : L2.St} {G : Hp} {ta tb te : TE} {tt tu : TT} {P P1 P2 : MP V} {v : V} {d e : PyData} {ds es : List PyData}
theorem shaped_lst {d : PyData} (h : SeqAt.shaped d = true) : SeqAt.shaped d = true := h
/-- v op w gives z, the heap unchanged -/
theorem c_val {r : R2} {x y z : V} {G : Hp} {P : MP V} (h : ∀ H, Ex G H → ∀ Q : VK, Q z H → r x y H Q) (p : P.p z G) : Cm (r x y) G P := fun H e Q q => h H e Q (q z G H (Ex.refl H) (Nw.refl e) p)
theorem c_eq (ha : Cm (ta σ) G (MP.d K d)) (hb : Cm (tb σ) G (MP.d K e)) (sd : SeqAt.shaped d = true) (se : SeqAt.shaped e = true) : Cm (tOp (rEqD K) ta tb σ) G (MP.d K (.bool (PyData.eqv d e))) :=
  c_op ha hb fun x y G1 e1 p q => c_val (z := .bl (PyData.eqv d e)) (fun H eh Q h => ⟨d, e, Dp.up eh _ _ p, Dp.up eh _ _ q, sd, se, h⟩) (.bl _)
theorem c_ne (ha : Cm (ta σ) G (MP.d K d)) (hb : Cm (tb σ) G (MP.d K e)) (sd : SeqAt.shaped d = true) (se : SeqAt.shaped e = true) : Cm (tOp (rNeD K) ta tb σ) G (MP.d K (.bool (!PyData.eqv d e))) :=
  c_op ha hb fun x y G1 e1 p q => c_val (z := .bl (!PyData.eqv d e)) (fun H eh Q h => ⟨d, e, Dp.up eh _ _ p, Dp.up eh _ _ q, sd, se, h⟩) (.bl _)
theorem c_inL {n : Bool} (ha : Cm (ta σ) G (MP.d K d)) (hb : Cm (tb σ) G (MP.d K (.list ds))) (sd : SeqAt.shaped d = true) (se : SeqAt.shaped (.list ds) = true) :
    Cm (tOp (rInG K n) ta tb σ) G (MP.d K (.bool (if n then !(ds.any fun z => PyData.eqv z d) else ds.any fun z => PyData.eqv z d))) :=
  c_op ha hb fun x y G1 e1 p q => c_val (z := .bl _) (fun H eh Q h => ⟨d, ds, Dp.up eh _ _ p, .inl (Dp.up eh _ _ q), sd, se, h⟩) (.bl _)
theorem c_inT {n : Bool} (ha : Cm (ta σ) G (MP.d K d)) (hb : Cm (tb σ) G (MP.d K (.tuple ds))) (sd : SeqAt.shaped d = true) (se : SeqAt.shaped (.list ds) = true) :
    Cm (tOp (rInG K n) ta tb σ) G (MP.d K (.bool (if n then !(ds.any fun z => PyData.eqv z d) else ds.any fun z => PyData.eqv z d))) :=
  c_op ha hb fun x y G1 e1 p q => c_val (z := .bl _) (fun H eh Q h => ⟨d, ds, Dp.up eh _ _ p, .inr (Dp.up eh _ _ q), sd, se, h⟩) (.bl _)
theorem c_isN (ha : Cm (ta σ) G (MP.d K d)) : Cm (tOp rIsN ta (tC .non) σ) G (MP.d K (.bool (match d with | .none => true | _ => false))) :=
  c_op (P2 := MP.d K .none) ha c_non fun x y G1 e1 p q => by
    have hy := dp_non q
    subst hy
    refine c_val (z := .bl _) (fun H eh Q h => ⟨rfl, ?_⟩) (.bl _)
    cases p <;> exact h
theorem c_notN (ha : Cm (ta σ) G (MP.d K d)) : Cm (tOp rNotN ta (tC .non) σ) G (MP.d K (.bool (match d with | .none => false | _ => true))) :=
  c_op (P2 := MP.d K .none) ha c_non fun x y G1 e1 p q => by
    have hy := dp_non q
    subst hy
    refine c_val (z := .bl _) (fun H eh Q h => ⟨rfl, ?_⟩) (.bl _)
    cases p <;> exact h
/-- ints -/
theorem c_I0 {g : Int → Int → V} {i j : Int} {z : PyData} (ha : Cm (ta σ) G (MP.d K (.int i))) (hb : Cm (tb σ) G (MP.d K (.int j))) (hz : ∀ G, Dp K G (g i j) z) : Cm (tOp (rI0 g) ta tb σ) G (MP.d K z) :=
  c_op ha hb fun x y G1 e1 p q => by
    rw [dp_int p, dp_int q]
    exact c_val (z := g i j) (fun H eh Q h => ⟨i, j, rfl, rfl, h⟩) (hz G1)
theorem c_I {C : Int → Int → Prop} {g : Int → Int → V} {i j : Int} {z : PyData} (ha : Cm (ta σ) G (MP.d K (.int i))) (hb : Cm (tb σ) G (MP.d K (.int j))) (hc : C i j) (hz : ∀ G, Dp K G (g i j) z) : Cm (tOp (rI C g) ta tb σ) G (MP.d K z) :=
  c_op ha hb fun x y G1 e1 p q => by
    rw [dp_int p, dp_int q]
    exact c_val (z := g i j) (fun H eh Q h => ⟨i, j, rfl, rfl, hc, h⟩) (hz G1)
theorem c_addI {i j : Int} (ha : Cm (ta σ) G (MP.d K (.int i))) (hb : Cm (tb σ) G (MP.d K (.int j))) : Cm (tOp (rAddG K) ta tb σ) G (MP.d K (.int (i + j))) :=
  c_op ha hb fun x y G1 e1 p q => by
    rw [dp_int p, dp_int q]
    exact c_val (z := .int (i + j)) (fun H eh Q h => .inl ⟨i, j, rfl, rfl, h⟩) (.int _)
theorem c_addS {i j : Str} (ha : Cm (ta σ) G (MP.d K (.str i))) (hb : Cm (tb σ) G (MP.d K (.str j))) (hl : i.length + j.length ≤ 100000) : Cm (tOp (rAddG K) ta tb σ) G (MP.d K (.str (i ++ j))) :=
  c_op ha hb fun x y G1 e1 p q => by
    rw [dp_str p, dp_str q]
    exact c_val (z := .str (i ++ j)) (fun H eh Q h => .inr (.inl ⟨i, j, rfl, rfl, sz_of hl, h⟩)) (.str _)
theorem c_addT (ha : Cm (ta σ) G (MP.d K (.tuple ds))) (hb : Cm (tb σ) G (MP.d K (.tuple es))) (hl : ds.length + es.length ≤ 100000) : Cm (tOp (rAddG K) ta tb σ) G (MP.d K (.tuple (ds ++ es))) :=
  c_op ha hb fun x y G1 e1 p q => by
    obtain ⟨a, xs, rfl, h1, h2⟩ := dp_tup p
    obtain ⟨b, ys, rfl, k1, k2⟩ := dp_tup q
    intro H eh Q hq
    refine .inr (.inr (.inr ⟨a, b, xs, ys, rfl, rfl, ex_t eh h1, ex_t eh k1, by rw [DpAll.length h2, DpAll.length k2]; exact sz_of hl, fun e => ?_, fun _ e => ?_, fun _ _ p' hp => ?_⟩))
    · subst e
      cases h2
      exact hq _ G1 H (Ex.refl H) (Nw.refl eh) (.tup k1 k2)
    · subst e
      cases k2
      rw [List.append_nil] at hq
      exact hq _ G1 H (Ex.refl H) (Nw.refl eh) (.tup h1 h2)
    · exact hq _ _ _ (Ex.new hp) (Nw.new eh hp) (dp_new_tup (fresh_back eh hp) (DpAll.app h2 k2))
/-- a stable list that may be read from the heap itself -/
theorem c_ixL {i : Int} (ha : Cm (ta σ) G (MP.d K (.list ds))) (hb : Cm (tb σ) G (MP.d K (.int i))) (hd : atI ds i = some d) : Cm (tOp (rIx K) ta tb σ) G (MP.d K d) :=
  c_op ha hb fun x y G1 e1 p q => by
    obtain ⟨a, xs, rfl, h1, h2⟩ := dp_lst p
    rw [dp_int q]
    have hl := DpAll.length h2
    unfold atI at hd
    rw [← hl] at hd
    obtain ⟨j, hj, hd⟩ := Option.bind_eq_some_iff.mp hd
    obtain ⟨z, hz, pz⟩ := DpAll.get h2 hd
    refine c_val (z := z) (fun H eh Q h => .inl ⟨a, xs, i, z, rfl, rfl, ex_l eh h1, ?_, h⟩) pz
    unfold atI
    rw [hj]
    exact hz
theorem c_ixT {i : Int} (ha : Cm (ta σ) G (MP.d K (.tuple ds))) (hb : Cm (tb σ) G (MP.d K (.int i))) (hd : atI ds i = some d) : Cm (tOp (rIx K) ta tb σ) G (MP.d K d) :=
  c_op ha hb fun x y G1 e1 p q => by
    obtain ⟨a, xs, rfl, h1, h2⟩ := dp_tup p
    rw [dp_int q]
    have hl := DpAll.length h2
    unfold atI at hd
    rw [← hl] at hd
    obtain ⟨j, hj, hd⟩ := Option.bind_eq_some_iff.mp hd
    obtain ⟨z, hz, pz⟩ := DpAll.get h2 hd
    refine c_val (z := z) (fun H eh Q h => .inr (.inl ⟨a, xs, i, z, rfl, rfl, ex_t eh h1, ?_, h⟩)) pz
    unfold atI
    rw [hj]
    exact hz
/-- one-argument calls -/
theorem c_cb1 {r : List V → Hp → VK → Prop} (ha : Cm (ta σ) G P1) (hr : ∀ x G1, Ex G G1 → P1.p x G1 → Cm (r [x]) G1 P) : Cm (tCB r (tCons ta tNil) σ) G P :=
  Cm.bind (t := ta σ) (u := fun x H Q => r [x] H Q) ha hr
theorem c_cb2 {r : List V → Hp → VK → Prop} (ha : Cm (ta σ) G P1) (hb : Cm (tb σ) G P2) (hr : ∀ x y G1, Ex G G1 → P1.p x G1 → P2.p y G1 → Cm (r [x, y]) G1 P) : Cm (tCB r (tCons ta (tCons tb tNil)) σ) G P :=
  Cm.bind (t := ta σ) (u := fun x H Q => tb σ H fun y H2 => r [x, y] H2 Q) ha fun x G1 e1 p1 => Cm.bind (t := tb σ) (u := fun y H Q => r [x, y] H Q) (hb.up e1) fun y G2 e2 p2 => hr x y G2 (e1.trans e2) (P1.mono e2 p1) p2
theorem c_valN {r : List V → Hp → VK → Prop} {xs : List V} {z : V} {G : Hp} {P : MP V} (h : ∀ H, Ex G H → ∀ Q : VK, Q z H → r xs H Q) (p : P.p z G) : Cm (r xs) G P := fun H e Q q => h H e Q (q z G H (Ex.refl H) (Nw.refl e) p)
theorem c_lenL (ha : Cm (ta σ) G (MP.d K (.list ds))) : Cm (tCB (rLenG K) (tCons ta tNil) σ) G (MP.d K (.int ds.length)) :=
  c_cb1 ha fun x G1 e1 p => by
    obtain ⟨a, xs, rfl, h1, h2⟩ := dp_lst p
    refine c_valN (z := .int xs.length) (fun H eh Q h => ⟨_, xs.length, rfl, .inl ⟨xs, ex_l eh h1, rfl⟩, h⟩) ?_
    rw [DpAll.length h2]
    exact .int _
theorem c_lenT (ha : Cm (ta σ) G (MP.d K (.tuple ds))) : Cm (tCB (rLenG K) (tCons ta tNil) σ) G (MP.d K (.int ds.length)) :=
  c_cb1 ha fun x G1 e1 p => by
    obtain ⟨a, xs, rfl, h1, h2⟩ := dp_tup p
    refine c_valN (z := .int xs.length) (fun H eh Q h => ⟨_, xs.length, rfl, .inr ⟨xs, ex_t eh h1, rfl⟩, h⟩) ?_
    rw [DpAll.length h2]
    exact .int _
theorem c_intI {i : Int} (ha : Cm (ta σ) G (MP.d K (.int i))) : Cm (tCB rIntG (tCons ta tNil) σ) G (MP.d K (.int i)) :=
  c_cb1 ha fun x G1 e1 p => by
    rw [dp_int p]
    exact c_valN (z := .int i) (fun H eh Q h => .inl ⟨i, rfl, h⟩) (.int _)
theorem c_intB {b : Bool} (ha : Cm (ta σ) G (MP.d K (.bool b))) : Cm (tCB rIntG (tCons ta tNil) σ) G (MP.d K (.int (if b then 1 else 0))) :=
  c_cb1 ha fun x G1 e1 p => by
    rw [dp_bl p]
    exact c_valN (z := .int (if b then 1 else 0)) (fun H eh Q h => .inr ⟨b, rfl, h⟩) (.int _)
theorem c_strI {i : Int} (ha : Cm (ta σ) G (MP.d K (.int i))) (hi : i.natAbs.log2 < 1920) : Cm (tCB rStrI (tCons ta tNil) σ) G (MP.d K (.str (toString i))) :=
  c_cb1 ha fun x G1 e1 p => by
    rw [dp_int p]
    exact c_valN (z := .str (toString i)) (fun H eh Q h => ⟨i, rfl, hi, h⟩) (.str _)
theorem c_max2 {i j : Int} (ha : Cm (ta σ) G (MP.d K (.int i))) (hb : Cm (tb σ) G (MP.d K (.int j))) : Cm (tCB rMax2 (tCons ta (tCons tb tNil)) σ) G (MP.d K (.int (if j > i then j else i))) :=
  c_cb2 ha hb fun x y G1 e1 p q => by
    rw [dp_int p, dp_int q]
    exact c_valN (z := .int (if j > i then j else i)) (fun H eh Q h => ⟨i, j, rfl, h⟩) (.int _)
theorem c_newV {o : HO} {G : Hp} {P : MP V} {r : Hp → VK → Prop} (hr : ∀ H, Ex G H → ∀ Q : VK, (∀ p, H p = none → Q (.ref p) (upd H p o)) → r H Q) (h : ∀ p, G p = none → P.p (.ref p) (upd G p o)) : Cm r G P := fun H e Q q =>
  hr H e Q fun p hp => q _ _ _ (Ex.new hp) (Nw.new e hp) (h p (fresh_back e hp))
theorem c_listL (ha : Cm (ta σ) G (MP.d K (.list ds))) : Cm (tCB (rListG K) (tCons ta tNil) σ) G (MP.d K (.list ds)) :=
  c_cb1 ha fun x G1 e1 p => by
    obtain ⟨a, xs, rfl, h1, h2⟩ := dp_lst p
    exact c_newV (o := .lst xs) (fun H eh Q h => ⟨a, xs, rfl, .inl (ex_l eh h1), h⟩) fun p hp => dp_new_lst hp h2
theorem c_listT (ha : Cm (ta σ) G (MP.d K (.tuple ds))) : Cm (tCB (rListG K) (tCons ta tNil) σ) G (MP.d K (.list ds)) :=
  c_cb1 ha fun x G1 e1 p => by
    obtain ⟨a, xs, rfl, h1, h2⟩ := dp_tup p
    exact c_newV (o := .lst xs) (fun H eh Q h => ⟨a, xs, rfl, .inr (ex_t eh h1), h⟩) fun p hp => dp_new_lst hp h2
theorem c_tupL (ha : Cm (ta σ) G (MP.d K (.list ds))) : Cm (tCB (rTupG K) (tCons ta tNil) σ) G (MP.d K (.tuple ds)) :=
  c_cb1 ha fun x G1 e1 p => by
    obtain ⟨a, xs, rfl, h1, h2⟩ := dp_lst p
    exact c_newV (o := .tup xs) (fun H eh Q h => ⟨a, xs, rfl, .inl ⟨ex_l eh h1, h⟩⟩) fun p hp => dp_new_tup hp h2
/-- slices -/
def cutD (ds : List PyData) (lo hi : Option Int) : List PyData := (ds.drop (HT.sIx ds.length 0 lo)).take (HT.sIx ds.length ds.length hi - HT.sIx ds.length 0 lo)
theorem cut_dp {xs : List V} {lo hi : Option Int} (h : DpAll K G xs ds) : DpAll K G (cutV xs lo hi) (cutD ds lo hi) := by
  unfold cutV cutD
  rw [DpAll.length h]
  exact DpAll.take _ (DpAll.drop _ h)
theorem c_part {i : Int} (ha : Cm (ta σ) G (MP.d K (.int i))) : Cm (tPart ta σ) G (MP.eq (some i)) :=
  Cm.bind (t := ta σ) (u := fun (x : V) (H1 : Hp) (Q : Option Int → Hp → Prop) => ∃ i, x = .int i ∧ Q (some i) H1) ha fun x G1 e1 p => by
    rw [dp_int p]
    exact fun H eh Q h => ⟨i, rfl, h (some i) G1 H (Ex.refl H) (Nw.refl eh) rfl⟩
theorem c_nopart : Cm (tNoPart σ) G (MP.eq none) := fun H eh Q h => h none G H (Ex.refl H) (Nw.refl eh) rfl
theorem c_sl {tl th : TO} {lo hi : Option Int} {r : V → Option Int → Option Int → Hp → VK → Prop} (ha : Cm (ta σ) G P1) (h1 : Cm (tl σ) G (MP.eq lo)) (h2 : Cm (th σ) G (MP.eq hi)) (hr : ∀ x G1, Ex G G1 → P1.p x G1 → Cm (r x lo hi) G1 P) : Cm (tSl r ta tl th σ) G P :=
  Cm.bind (t := ta σ) (u := fun (x : V) (H1 : Hp) (Q : VK) => tl σ H1 fun l H2 => th σ H2 fun u H3 => r x l u H3 Q) ha fun x G1 e1 p1 =>
    Cm.bind (t := tl σ) (u := fun (l : Option Int) (H2 : Hp) (Q : VK) => th σ H2 fun u H3 => r x l u H3 Q) (h1.up e1) fun l G2 e2 p2 =>
      Cm.bind (t := th σ) (u := fun (u : Option Int) (H3 : Hp) (Q : VK) => r x l u H3 Q) (h2.up (e1.trans e2)) fun u G3 e3 p3 => by
        have q2 : l = lo := p2
        have q3 : u = hi := p3
        subst q2 q3
        exact hr x G3 ((e1.trans e2).trans e3) (P1.mono (e2.trans e3) p1)
theorem c_slL {tl th : TO} {lo hi : Option Int} (ha : Cm (ta σ) G (MP.d K (.list ds))) (h1 : Cm (tl σ) G (MP.eq lo)) (h2 : Cm (th σ) G (MP.eq hi)) : Cm (tSl (rSlG K) ta tl th σ) G (MP.d K (.list (cutD ds lo hi))) :=
  c_sl ha h1 h2 fun x G1 e1 p => by
    obtain ⟨a, xs, rfl, h1, h2⟩ := dp_lst p
    exact c_newV (o := .lst (cutV xs lo hi)) (fun H eh Q h => .inl ⟨a, xs, rfl, ex_l eh h1, h⟩) fun p hp => dp_new_lst hp (cut_dp h2)
theorem c_slT {tl th : TO} {lo hi : Option Int} (ha : Cm (ta σ) G (MP.d K (.tuple ds))) (h1 : Cm (tl σ) G (MP.eq lo)) (h2 : Cm (th σ) G (MP.eq hi)) : Cm (tSl (rSlG K) ta tl th σ) G (MP.d K (.tuple (cutD ds lo hi))) :=
  c_sl ha h1 h2 fun x G1 e1 p => by
    obtain ⟨a, xs, rfl, h1, h2⟩ := dp_tup p
    intro H eh Q hq
    refine .inr ⟨a, xs, rfl, ex_t eh h1, fun hw => ?_, fun _ p' hp => ?_⟩
    · refine hq _ G1 H (Ex.refl H) (Nw.refl eh) ?_
      have e : cutD ds lo hi = ds := by
        unfold cutD
        rw [← DpAll.length h2, hw.1, hw.2, List.drop_zero, Nat.sub_zero, DpAll.length h2, List.take_length]
      rw [e]
      exact .tup h1 h2
    · exact hq _ _ _ (Ex.new hp) (Nw.new eh hp) (dp_new_tup (fresh_back eh hp) (cut_dp h2))
/-- isinstance -/
def tyD : PyData → String
  | .none => "NoneType"
  | .bool _ => "bool"
  | .int _ => "int"
  | .str _ => "str"
  | .list _ => "list"
  | .tuple _ => "tuple"
  | .dict _ => "dict"
theorem ty_of {x : V} {d : PyData} (h : Dp K G x d) : TyX K G x (.type (tyD d)) := by
  cases h with
  | non => exact .base .non
  | bl b => exact .base (.bl b)
  | int i => exact .base (.int i)
  | str s => exact .base (.str s)
  | lst h1 h2 =>
    rcases h1 with (h1 | ⟨o, h1⟩) | ⟨o, its, n, hk, hc, _⟩
    · exact .base (.lst h1)
    · exact .base (.frz h1)
    · exact .kList hk hc
  | tup h1 h2 =>
    rcases h1 with (h1 | ⟨o, h1⟩) | ⟨o, its, n, hk, hc, _⟩
    · exact .base (.tup h1)
    · exact .fTuple h1
    · exact .kTuple hk hc
theorem c_isi {T : String} {b : Bool} (ha : Cm (ta σ) G (MP.d K d)) (hk : kitB (tyD d) T = some b) : Cm (tCB (rIsiG K) (tCons ta (tCons (tC (.ty T)) tNil)) σ) G (MP.d K (.bool b)) :=
  c_cb2 (P2 := MP.eq (.ty T)) ha (c_c rfl) fun x y G1 e1 p q => by
    have hy : y = .ty T := q
    subst hy
    exact c_valN (z := .bl b) (fun H eh Q h => .inl ⟨x, _, _, _, b, rfl, .ty T, ty_of (Dp.up eh _ _ p), kit_ty hk, h⟩) (.bl _)
/-- tests and choices -/
theorem c_test {b : Bool} (h : Cm (te σ) G (MP.d K (.bool b))) : Cm (tTest te σ) G (MP.eq b) :=
  Cm.bind (t := te σ) (u := fun (x : V) (H : Hp) (Q : Bool → Hp → Prop) => ∃ k, x = .bl k ∧ Q k H) h fun x G1 e1 p => by
    rw [dp_bl p]
    exact fun H eh Q h => ⟨b, rfl, h b G1 H (Ex.refl H) (Nw.refl eh) rfl⟩
theorem c_tB {b : Bool} (h : Cm (te σ) G (MP.d K (.bool b))) : Cm (tB te σ) G (MP.eq b) := c_test h
theorem c_tand {a b : Bool} (h : Cm (tt σ) G (MP.eq a)) (k : a = true → Cm (tu σ) G (MP.eq b)) : Cm (tAnd tt tu σ) G (MP.eq (a && b)) :=
  Cm.bind (t := tt σ) (u := fun (c : Bool) (H : Hp) (Q : Bool → Hp → Prop) => if c = true then tu σ H Q else Q false H) h fun c G1 e1 p => by
    have e : c = a := p
    subst e
    cases c with
    | true => exact (k rfl).up e1
    | false => exact Cm.ret (P := MP.eq false) rfl
theorem c_tor {a b : Bool} (h : Cm (tt σ) G (MP.eq a)) (k : a = false → Cm (tu σ) G (MP.eq b)) : Cm (tOr tt tu σ) G (MP.eq (a || b)) :=
  Cm.bind (t := tt σ) (u := fun (c : Bool) (H : Hp) (Q : Bool → Hp → Prop) => if c = true then Q true H else tu σ H Q) h fun c G1 e1 p => by
    have e : c = a := p
    subst e
    cases c with
    | true => exact Cm.ret (P := MP.eq true) rfl
    | false => exact (k rfl).up e1
theorem c_tnot {a : Bool} (h : Cm (tt σ) G (MP.eq a)) : Cm (tNot tt σ) G (MP.eq (!a)) :=
  Cm.bind (t := tt σ) (u := fun (c : Bool) (H : Hp) (Q : Bool → Hp → Prop) => Q (!c) H) h fun c G1 e1 p => Cm.ret (by rw [show c = a from p])
theorem c_andV {a b : Bool} (h : Cm (ta σ) G (MP.d K (.bool a))) (k : a = true → Cm (tb σ) G (MP.d K (.bool b))) : Cm (tAndV ta tb σ) G (MP.d K (.bool (a && b))) :=
  Cm.bind (t := ta σ) (u := fun (x : V) (H : Hp) (Q : VK) => ∃ c, x = .bl c ∧ if c = true then tb σ H Q else Q (.bl false) H) h fun x G1 e1 p => by
    rw [dp_bl p]
    intro H eh Q hq
    refine ⟨a, rfl, ?_⟩
    cases a with
    | true => exact (k rfl).up e1 H eh Q hq
    | false => exact hq _ G1 H (Ex.refl H) (Nw.refl eh) (.bl false)
theorem c_orV {a b : Bool} (h : Cm (ta σ) G (MP.d K (.bool a))) (k : a = false → Cm (tb σ) G (MP.d K (.bool b))) : Cm (tOrV ta tb σ) G (MP.d K (.bool (a || b))) :=
  Cm.bind (t := ta σ) (u := fun (x : V) (H : Hp) (Q : VK) => ∃ c, x = .bl c ∧ if c = true then Q (.bl true) H else tb σ H Q) h fun x G1 e1 p => by
    rw [dp_bl p]
    intro H eh Q hq
    refine ⟨a, rfl, ?_⟩
    cases a with
    | true => exact hq _ G1 H (Ex.refl H) (Nw.refl eh) (.bl true)
    | false => exact (k rfl).up e1 H eh Q hq
theorem c_notV {a : Bool} (h : Cm (ta σ) G (MP.d K (.bool a))) : Cm (tNotV ta σ) G (MP.d K (.bool (!a))) :=
  Cm.bind (t := ta σ) (u := fun (x : V) (H : Hp) (Q : VK) => ∃ c, x = .bl c ∧ Q (.bl (!c)) H) h fun x G1 e1 p => by
    rw [dp_bl p]
    exact fun H eh Q hq => ⟨a, rfl, hq _ G1 H (Ex.refl H) (Nw.refl eh) (.bl _)⟩
theorem c_if {b : Bool} (h : Cm (tt σ) G (MP.eq b)) (h1 : b = true → Cm (ta σ) G P) (h2 : b = false → Cm (tb σ) G P) : Cm (tIf tt ta tb σ) G P :=
  Cm.bind (t := tt σ) (u := fun (c : Bool) (H : Hp) (Q : VK) => if c = true then ta σ H Q else tb σ H Q) h fun c G1 e1 p => by
    have e : c = b := p
    subst e
    cases c with
    | true => exact (h1 rfl).up e1
    | false => exact (h2 rfl).up e1
theorem c_to {t : Hp → VK → Prop} (h : Cm t G (MP.d K d)) (e : d = d') : Cm t G (MP.d K d') := by rw [← e]; exact h
theorem c_teq {α : Type} {a b : α} {t : Hp → (α → Hp → Prop) → Prop} (h : Cm t G (MP.eq a)) (e : a = b) : Cm t G (MP.eq b) := by rw [← e]; exact h
/-- a chained comparison of ints -/
theorem c_chainI {g g' : Int → Int → Bool} {tc : TE} {i j k : Int} (ha : Cm (ta σ) G (MP.d K (.int i))) (hb : Cm (tb σ) G (MP.d K (.int j))) (hc : Cm (tc σ) G (MP.d K (.int k))) :
    Cm (tChain (rI0 fun i j => .bl (g i j)) (rI0 fun i j => .bl (g' i j)) ta tb tc σ) G (MP.d K (.bool (g i j && g' j k))) :=
  Cm.bind (t := ta σ) (u := fun (x : V) (H : Hp) (Q : VK) => tb σ H fun y H2 => rI0 (fun i j => .bl (g i j)) x y H2 fun z H3 => ∃ k, z = .bl k ∧ (if k = true then tc σ H3 fun w' H4 => rI0 (fun i j => .bl (g' i j)) y w' H4 Q else Q (.bl false) H3)) ha fun x G1 e1 p1 =>
    Cm.bind (t := tb σ) (u := fun (y : V) (H : Hp) (Q : VK) => rI0 (fun i j => .bl (g i j)) x y H fun z H3 => ∃ k, z = .bl k ∧ (if k = true then tc σ H3 fun w' H4 => rI0 (fun i j => .bl (g' i j)) y w' H4 Q else Q (.bl false) H3)) (hb.up e1) fun y G2 e2 p2 => by
      rw [dp_int p1, dp_int p2]
      intro H eh Q hq
      refine ⟨i, j, rfl, rfl, g i j, rfl, ?_⟩
      cases hg : g i j with
      | false =>
        rw [hg] at hq
        exact hq _ G2 H (Ex.refl H) (Nw.refl eh) (.bl false)
      | true =>
        rw [hg] at hq
        refine (hc.up (e1.trans e2)) H eh _ fun w G3 H3 e3 n3 p3 => ?_
        rw [dp_int p3]
        exact ⟨j, k, rfl, rfl, hq _ G3 H3 e3 n3 (.bl _)⟩
end
end Ah
/-! Ah3: bodies of defs, promises of pure defs. -/
namespace Ah
open PySem PySem.Spec PyProof.Rows L2 Evl

/-- a body as a computation -/
def bd (t : TS) (σ : L2.St) : Hp → VK → Prop := fun H Q => t { nx := fun _ H' => Q .non H', rt := Q } σ H
section
variable {K : PySem.W.Frag} {σ : L2.St} {G : Hp} {te : TE} {tt : TT} {t u tr : TS} {P R : MP V} {v : V} {d e : PyData} {ds es : List PyData}
theorem b_ret (h : Cm (te σ) G P) : Cm (bd (tRet te) σ) G P := h
theorem b_retN (h : P.p .non G) : Cm (bd tRetN σ) G P := Cm.ret (a := V.non) h
theorem b_next (h : P.p .non G) : Cm (bd tNext σ) G P := Cm.ret (a := V.non) h
theorem b_asg {i : Nat} (h : Cm (te σ) G R) (k : ∀ v G1, Ex G G1 → R.p v G1 → Cm (bd tr (σ.set i (some v))) G1 P) : Cm (bd (tSeq (tAsg te (gName i)) tr) σ) G P :=
  Cm.bind (t := te σ) (u := fun (v : V) (H : Hp) (Q : VK) => tr { nx := fun _ H' => Q .non H', rt := Q } (σ.set i (some v)) H) h k
theorem b_drop (h : Cm (te σ) G R) (k : ∀ G1, Ex G G1 → Cm (bd tr σ) G1 P) : Cm (bd (tSeq (tDrop te) tr) σ) G P :=
  Cm.bind (t := te σ) (u := fun (v : V) (H : Hp) (Q : VK) => tr { nx := fun _ H' => Q .non H', rt := Q } σ H) h fun v G1 e1 p1 => k G1 e1
/-- if, and what follows -/
theorem b_ifL {b : Bool} (h : Cm (tt σ) G (MP.eq b)) (h1 : b = true → Cm (bd t σ) G P) (h2 : b = false → Cm (bd u σ) G P) : Cm (bd (tIfS tt t u) σ) G P :=
  Cm.bind (t := tt σ) (u := fun (c : Bool) (H : Hp) (Q : VK) => if c = true then t { nx := fun _ H' => Q .non H', rt := Q } σ H else u { nx := fun _ H' => Q .non H', rt := Q } σ H) h fun c G1 e1 p => by
    have e : c = b := p
    subst e
    cases c with
    | true => exact (h1 rfl).up e1
    | false => exact (h2 rfl).up e1
/-- if a: return ..; rest -/
theorem b_if {b : Bool} (h : Cm (tt σ) G (MP.eq b)) (h1 : b = true → Cm (bd (tSeq t tr) σ) G P) (h2 : b = false → Cm (bd (tSeq u tr) σ) G P) : Cm (bd (tSeq (tIfS tt t u) tr) σ) G P :=
  Cm.bind (t := tt σ) (u := fun (c : Bool) (H : Hp) (Q : VK) => if c = true then tSeq t tr { nx := fun _ H' => Q .non H', rt := Q } σ H else tSeq u tr { nx := fun _ H' => Q .non H', rt := Q } σ H) h fun c G1 e1 p => by
    have e : c = b := p
    subst e
    cases c with
    | true => exact (h1 rfl).up e1
    | false => exact (h2 rfl).up e1
theorem b_rets (h : Cm (te σ) G P) : Cm (bd (tSeq (tRet te) tr) σ) G P := h
theorem b_nexts (h : Cm (bd tr σ) G P) : Cm (bd (tSeq tNext tr) σ) G P := h
theorem b_seqA {t1 t2 t3 : TS} (h : Cm (bd (tSeq t1 (tSeq t2 t3)) σ) G P) : Cm (bd (tSeq (tSeq t1 t2) t3) σ) G P := h
/-- what a pure def promises: for each i, arguments as args i tells, a result as res i tells -/
def spOf {ι : Type} (args : ι → List (MP V)) (res : ι → MP V) : Sp := fun vs H Q _ => ∃ (i : ι) (G : Hp), Ex G H ∧ AllP vs (args i) G ∧
  ∀ v G' H', Ex H H' → Nw H G G' H' → (res i).p v G' → Q v H'
theorem spOf_len {ι : Type} {args : ι → List (MP V)} {res : ι → MP V} {n : Nat} (hn : ∀ i, (args i).length = n) : ∀ vs H Q E, spOf args res vs H Q E → vs.length = n := fun vs H Q E h => by
  obtain ⟨i, G, _, h, _⟩ := h
  rw [AllP.length h, hn i]
/-- it is kept by a body that computes so -/
theorem spOf_body {ι : Type} {args : ι → List (MP V)} {res : ι → MP V} {N : List Str} {vs : List V} {H : Hp} {Q : VK} {E : XK} (h : spOf args res vs H Q E)
    (k : ∀ i G, AllP vs (args i) G → Cm (bd t (start N vs)) G (res i)) : t { nx := fun _ H' => Q .non H', rt := Q } (start N vs) H := by
  obtain ⟨i, G, e, ha, q⟩ := h
  exact k i G ha H e Q q
/-- a call of it -/
theorem c_call {ι : Type} {args : ι → List (MP V)} {res : ι → MP V} {ta : TA} {E : XK} (i : ι) (h : Cm (ta σ) G (MP.args (args i))) : Cm (tCall (spOf args res) [] E ta σ) G (res i) :=
  Cm.bind (t := ta σ) (u := fun (vs : List V) (H : Hp) (Q : VK) => spOf args res (vs ++ []) H Q E) h fun vs G1 e1 p => fun H eh Q hq => ⟨i, G1, eh, by rw [List.append_nil]; exact p, hq⟩
end
/-- a def that may be called by its name -/
structure Cal (P : Program) (w : World) (K : PySem.W.Frag) (mg : Str → Option Value) (base : Heap) (CX : CXT) (k : Nat) (x : Str) (sp : Sp) : Prop where
  ex : ∃ (f : Addr) (fd : FuncData) (ps : List Str), FnOk P w K mg base CX k f fd ps sp ∧ mg x = some (.ref f) ∧ PySem.W.keepIn K (.ref f) = true ∧ Binds K fd ps []
section
variable {X : Cx} {k j : Nat} {x : Str} {sp : Sp} {p pos : Pos} {e : Expr} {es : List Expr} {t : TA}
theorem pe_cal (c : Cal X.prog X.w X.K X.mg X.base CX0 k x sp) (hr : Room j X.A) (hk : k ≤ j) (hg : Gl X x) (ha : PA X (e :: es) t)
    (hdb : (x == ("__debug__" : Str)) = false := by decide) (he : starEach (e :: es) X.env = (false, eval e X.env) :: starEach es X.env := by rfl) (hpl : (backTo pos (starEach es X.env)).any (·.1) = false := by rfl) :
    PE X (.Call (.Name x p) (e :: es) [] pos) (tCall sp [] E0 t) := by
  obtain ⟨f, fd, ps, F, hm, kp, b⟩ := c.ex
  exact pe_call F (hr.mono hk) hg hm kp b .nil pass0 ha hdb he hpl
theorem pe_cal0 (c : Cal X.prog X.w X.K X.mg X.base CX0 k x sp) (hr : Room j X.A) (hk : k ≤ j) (hg : Gl X x) (hdb : (x == ("__debug__" : Str)) = false := by decide) :
    PE X (.Call (.Name x p) [] [] pos) (tCall sp [] E0 tNil) := by
  obtain ⟨f, fd, ps, F, hm, kp, b⟩ := c.ex
  exact pe_call0 F (hr.mono hk) hg hm kp b .nil pass0 hdb
end
end Ah
/-! Ah4: the source of draws. -/
namespace Ah
open PySem PySem.Spec PyProof.Rows L2 Evl

/-- the addresses of the text's classes and constants -/
structure Ad where
  KEYS : Addr
  PARTS : Addr
  WORDS : Addr
  ROWS : Addr
  Book : Addr
  InvalidLine : Addr := 0
  InvalidRows : Addr := 0
  InvalidRule : Addr := 0
  InvalidWords : Addr := 0
  AheadError : Addr := 0
theorem hu65 {A : Around} {k : Nat} (hr : Room k A) : A.units + 65 < cLine := by
  have h := hr.un
  omega
/-! ### a list or a tuple walked -/
def iSeq (K : PySem.W.Frag) (tl : TE) : TI := fun σ H R => tl σ H fun x H1 => (∃ a, x = .ref a ∧ (∃ xs, SqL K H1 a xs) ∧ R (Itl K a) H1) ∨ (∃ a, x = .ref a ∧ (∃ xs, SqT K H1 a xs) ∧ R (Itt K a) H1)
theorem pi_seq {X : Cx} {tg l : Expr} {tl : TE} (hl : PE X l tl) : PI X tg l (iSeq X.K tl) := by
  refine ⟨fun pins s σ H R I h => thn (hl.run pins s σ H _ I h) fun v s1 ⟨x, H1, I1, r1, q1⟩ => ?_⟩
  rcases q1 with ⟨a, e, ⟨xs, hq⟩, q⟩ | ⟨a, e, ⟨xs, hq⟩, q⟩
  · subst e
    obtain rfl : v = Value.ref a := r1
    obtain ⟨its, rv, p, hz⟩ := I1.list hq
    exact wpAny_pyIter_list p.isList (pi_one (tk := s1.toks) I1 _ (turn_list a _) ⟨_, Heap.get?_push_size _ rfl, rfl, rfl⟩ q)
  · subst e
    obtain rfl : v = Value.ref a := r1
    obtain ⟨its, rv, p, hz⟩ := I1.tuple hq
    exact wpAny_pyIter_tuple (show s1.heap.IsTuple a its.toArray from p) (pi_one (tk := s1.toks) I1 _ (turn_tuple a _) ⟨_, Heap.get?_push_size _ rfl, rfl, rfl⟩ q)
/-! ### uses of readings -/
section
variable {K : PySem.W.Frag} {H : Hp} {Q : VK}
theorem u_ixL {p : Addr} {xs : List V} {i : Int} {v : V} (h : SqL K H p xs) (ha : atI xs i = some v) (q : Q v H) : rIx K (.ref p) (.int i) H Q := .inl ⟨p, xs, i, v, rfl, rfl, h, ha, q⟩
theorem u_ixT {p : Addr} {xs : List V} {i : Int} {v : V} (h : SqT K H p xs) (ha : atI xs i = some v) (q : Q v H) : rIx K (.ref p) (.int i) H Q := .inr (.inl ⟨p, xs, i, v, rfl, rfl, h, ha, q⟩)
theorem u_addI {i j : Int} (q : Q (.int (i + j)) H) : rAddG K (.int i) (.int j) H Q := .inl ⟨i, j, rfl, rfl, q⟩
theorem u_cat {a b : Addr} {xs ys : List V} (h1 : H a = some (.lst xs)) (h2 : H b = some (.lst ys)) (hl : xs.length + ys.length ≤ 100000) (q : ∀ p, H p = none → Q (.ref p) (upd H p (.lst (xs ++ ys)))) : rAddG K (.ref a) (.ref b) H Q :=
  .inr (.inr (.inl ⟨a, b, xs, ys, rfl, rfl, h1, h2, sz_of hl, q⟩))
end
structure Src (H : Hp) (h c : Addr) : Prop where
  ex : ∃ (s i : Int) (cells : List Int), H h = some (.lst [.int s, .ref c, .int i]) ∧ H c = some (.lst (cells.map V.int)) ∧ cells.length ≤ 63 ∧ 0 ≤ s ∧ s < 2147483647
/-- all but the source's two lists is as it was -/
def Fr (h c : Addr) (H H' : Hp) : Prop := ∀ b o, H b = some o → b ≠ h → b ≠ c → H' b = some o
theorem Fr.trans {h c : Addr} {H H1 H2 : Hp} (a : Fr h c H H1) (b : Fr h c H1 H2) : Fr h c H H2 := fun d o e h1 h2 => b d o (a d o e h1 h2) h1 h2
theorem Fr.refl {h c : Addr} {H : Hp} : Fr h c H H := fun _ _ e _ _ => e
theorem Fr.of {h c : Addr} {H H1 : Hp} (e : Ex H H1) : Fr h c H H1 := fun d o x _ _ => e d o x
theorem Fr.ex {h c : Addr} {G H H1 : Hp} (f : Fr h c H H1) (e : Ex G H) (gh : G h = none) (gc : G c = none) : Ex G H1 := fun b o x =>
  f b o (e b o x) (fun z => by rw [z, gh] at x; cases x) (fun z => by rw [z, gc] at x; cases x)
theorem Src.ne {H : Hp} {h c : Addr} (S : Src H h c) : h ≠ c := by
  obtain ⟨s, i, cells, h1, h2, _⟩ := S.ex
  refine ne_of h1 h2 fun z => ?_
  injection z with z
  match cells, z with
  | [], z => cases z
  | [_], z => cases z
  | a :: b :: r, z => injection z with _ z; injection z with z; cases z
theorem Src.ext {H H' : Hp} {h c : Addr} (S : Src H h c) (e : Ex H H') : Src H' h c := by
  obtain ⟨s, i, cells, h1, h2, h3⟩ := S.ex
  exact ⟨s, i, cells, e _ _ h1, e _ _ h2, h3⟩
theorem fmod_lt {a b : Int} (hb : 0 < b) : 0 ≤ a.fmod b ∧ a.fmod b < b := by
  rw [Int.fmod_eq_emod_of_nonneg a (by omega)]
  exact ⟨Int.emod_nonneg a (by omega), Int.emod_lt_of_pos a hb⟩
/-! ### _law_mix -/
def sp__law_mix (K : PySem.W.Frag) (w : World) (c : Ad) : Sp := fun vs H Q _ => ∃ (a : Addr) (ns : List Int) (seed : Int), vs = [.ref a, .int seed] ∧ SqL K H a (ns.map V.int) ∧ ns.length ≤ 63 ∧ 0 ≤ seed ∧ seed < 2147483647 ∧
  ∀ h d H', H h = none → H d = none → Same H H' → Src H' h d → Q (.ref h) H'
theorem len__law_mix {K : PySem.W.Frag} {w : World} {c : Ad} {vs : List V} {H : Hp} {Q : VK} {E : XK} (h : sp__law_mix K w c vs H Q E) : vs.length = 2 := by
  obtain ⟨a, ns, seed, rfl, _⟩ := h
  rfl
def t__law_mix (K : PySem.W.Frag) (w : World) (c : Ad) : TS :=
  (tSeq (tAsg (tVar 1) (gName 2))
    (tSeq (tFor (iSeq K (tVar 0)) (gName 3)
    (tAsg (tOp rModI (tCB rIntG (tCons (tOp (rAddG K) (tOp (rAddG K) (tOp rMulI (tVar 2) (tC (.int 48271))) (tOp rModI (tCB rIntG (tCons (tVar 3) tNil)) (tC (.int 2147483629)))) (tC (.int 1))) tNil)) (tC (.int 2147483647))) (gName 2)))
    (tRet (tLst (tCons (tVar 2) (tCons (tCB (rListG K) (tCons (tVar 0) tNil)) (tCons (tC (.int 0)) tNil)))))))
abbrev Dn (Q : VK) : Ends := { nx := fun _ H' => Q .non H', rt := Q }
theorem rd__law_mix {K : PySem.W.Frag} {w : World} {c : Ad} {vs : List V} {H : Hp} {Q : VK} {E : XK} (h : sp__law_mix K w c vs H Q E) : t__law_mix K w c (Dn Q) (vs.map some ++ List.replicate (4 - vs.length) none) H := by
  obtain ⟨a, ns, seed, rfl, hS, hl, h0, h1, k⟩ := h
  refine ⟨_, rfl, _, rfl, .inl ⟨a, rfl, ⟨_, hS⟩, ?_⟩⟩
  refine for_list (xs := ns.map V.int) (fun i σ H' => H' = H ∧ ∃ (s : Int) (x : Option V), σ = [some (.ref a), some (.int seed), some (.int s), x] ∧ 0 ≤ s ∧ s < 2147483647) ⟨rfl, seed, none, rfl, h0, h1⟩ ?_ ?_ ?_
  · rintro i σ H' _ ⟨rfl, _⟩
    exact hS
  · rintro i x σ H' hx ⟨rfl, s, y, rfl, g0, g1⟩
    obtain ⟨n, hn, rfl⟩ : ∃ n, ns[i]? = some n ∧ x = .int n := by
      rw [List.getElem?_map] at hx
      cases q : ns[i]? with
      | none => rw [q] at hx; cases hx
      | some n => rw [q] at hx; cases hx; exact ⟨n, rfl, rfl⟩
    refine ⟨_, rfl, _, _, rfl, rfl, .inr ⟨by decide, by decide⟩, _, rfl, .inl ⟨_, rfl, _, _, rfl, rfl, (by decide : (2147483629 : Int) ≠ 0), ?_⟩⟩
    refine u_addI (u_addI (.inl ⟨_, rfl, _, _, rfl, rfl, (by decide : (2147483647 : Int) ≠ 0), rfl, _, _, rfl, ?_, ?_⟩))
    · exact (fmod_lt (by decide)).1
    · exact (fmod_lt (by decide)).2
  · rintro σ H' ⟨rfl, s, y, rfl, g0, g1⟩
    refine ⟨_, rfl, _, rfl, a, _, rfl, .inl hS, fun d hd => ⟨by show 3 ≤ sizeLine; decide, fun p hp => ?_⟩⟩
    refine k p d _ (fresh_back (Ex.new hd) hp) hd ((Ex.new hd).trans (Ex.new hp)) ⟨s, 0, ns, upd_same, ?_, hl, g0, g1⟩
    rw [upd_ne (ne_of_none upd_same hp), upd_same]
/-! ### _law_next -/
def sp__law_next (K : PySem.W.Frag) (w : World) (c : Ad) : Sp := fun vs H Q _ => ∃ (h d : Addr) (cap : Int), vs = [.ref h, .int cap] ∧ Src H h d ∧ 0 < cap ∧ cap < 1000000000 ∧
  ∀ (r : Int) H', 0 ≤ r → r < cap → Src H' h d → Fr h d H H' → Q (.int r) H'
theorem len__law_next {K : PySem.W.Frag} {w : World} {c : Ad} {vs : List V} {H : Hp} {Q : VK} {E : XK} (h : sp__law_next K w c vs H Q E) : vs.length = 2 := by
  obtain ⟨a, ns, seed, rfl, _⟩ := h
  rfl
def t__law_next (K : PySem.W.Frag) (w : World) (c : Ad) : TS :=
  (tSeq (tAsg (tOp (rIx K) (tOp (rAddG K) (tOp (rIx K) (tVar 0) (tC (.int 1))) (tLst (tCons (tC (.int 0)) tNil))) (tOp rModI (tCB rIntG (tCons (tOp (rIx K) (tVar 0) (tC (.int 2))) tNil)) (tCB rMax2 (tCons (tC (.int 1)) (tCons (tCB (rLenG K) (tCons (tOp (rIx K) (tVar 0) (tC (.int 1))) tNil)) tNil))))) (gName 2))
    (tSeq (tIfS (tTest (tOp rGeI (tVar 2) (tOp rPowI (tC (.int 10)) (tC (.int 18))))) (tSeq (tAsg (tOp rDivI (tVar 2) (tVar 1)) (gSub (tOp (rIx K) (tVar 0) (tC (.int 1))) (tOp rModI (tCB rIntG (tCons (tOp (rIx K) (tVar 0) (tC (.int 2))) tNil)) (tCB (rLenG K) (tCons (tOp (rIx K) (tVar 0) (tC (.int 1))) tNil))) rSetL))
    (tRet (tOp rModI (tCB rIntG (tCons (tVar 2) tNil)) (tVar 1)))) tNext)
    (tSeq (tAsg (tOp rModI (tCB rIntG (tCons (tOp (rAddG K) (tOp (rAddG K) (tOp rMulI (tOp (rIx K) (tVar 0) (tC (.int 0))) (tC (.int 48271))) (tOp rMulI (tVar 2) (tC (.int 69621)))) (tC (.int 11))) tNil)) (tC (.int 2147483647))) (gSub (tVar 0) (tC (.int 0)) rSetL))
    (tSeq (tAsg (tOp (rAddG K) (tOp (rIx K) (tVar 0) (tC (.int 2))) (tC (.int 1))) (gSub (tVar 0) (tC (.int 2)) rSetL))
    (tRet (tOp rModI (tCB rIntG (tCons (tOp rDivI (tOp (rIx K) (tVar 0) (tC (.int 0))) (tC (.int 7))) tNil)) (tVar 1)))))))
theorem atI_of {α : Type} {xs : List α} {i : Int} {j : Nat} {v : α} (h0 : 0 ≤ i) (hj : i.toNat = j) (h : xs[j]? = some v) : atI xs i = some v := by
  have e : i = (j : Int) := by omega
  rw [e]
  exact atI_nat h
theorem set_ints {cells : List Int} {j : Nat} {z : Int} : (cells.map V.int).set j (.int z) = (cells.set j z).map V.int := (List.map_set).symm
theorem ixN_of {n : Nat} {i : Int} {j : Nat} (h : i = (j : Int)) (hj : j < n) : ixN n i = some j := by rw [h]; exact ixN_nat hj
theorem rd__law_next {K : PySem.W.Frag} {w : World} {c : Ad} {vs : List V} {H : Hp} {Q : VK} {E : XK} (h : sp__law_next K w c vs H Q E) : t__law_next K w c (Dn Q) (vs.map some ++ List.replicate (3 - vs.length) none) H := by
  obtain ⟨h, d, cap, rfl, S, c0, c1, k⟩ := h
  have hne := S.ne
  obtain ⟨s, i, cells, hh, hd, hl, s0, s1⟩ := id S.ex
  refine ⟨_, rfl, u_ixL (SqL.of hh) rfl ⟨by show 1 ≤ sizeLine; decide, fun p hp => ?_⟩⟩
  have e1 : Ex H (upd H p (.lst [.int 0])) := Ex.new hp
  refine u_cat (e1 _ _ hd) upd_same (by rw [List.length_map]; show _ + 1 ≤ _; omega) fun q hq => ?_
  generalize hH1 : upd (upd H p (.lst [.int 0])) q (.lst (cells.map V.int ++ [.int 0])) = H1
  have e2 : Ex H H1 := by rw [← hH1]; exact e1.trans (Ex.new hq)
  have hq1 : H1 q = some (.lst (cells.map V.int ++ [.int 0])) := by rw [← hH1, upd_same]
  refine ⟨_, rfl, u_ixL (SqL.of (e2 _ _ hh)) rfl (.inl ⟨_, rfl, _, rfl, u_ixL (SqL.of (e2 _ _ hh)) rfl ⟨_, (cells.map V.int).length, rfl, .inl ⟨_, SqL.of (e2 _ _ hd), rfl⟩, _, _, rfl, ?_⟩⟩)⟩
  rw [List.length_map]
  generalize hm : (if (cells.length : Int) > 1 then (cells.length : Int) else 1) = m
  have m0 : 0 < m := by rw [← hm]; split <;> omega
  have m1 : m ≤ cells.length + 1 ∧ (0 < cells.length → m = cells.length) := by rw [← hm]; split <;> omega
  refine ⟨_, _, rfl, rfl, by show m ≠ 0; omega, ?_⟩
  obtain ⟨j0, j1⟩ := fmod_lt (a := i) m0
  generalize hj : i.fmod m = j at j0 j1
  -- the cell
  obtain ⟨x, hx, hx2⟩ : ∃ x, (cells.map V.int ++ [V.int 0])[j.toNat]? = some (.int x) ∧ (1000000000000000000 ≤ x → j.toNat < cells.length) := by
    by_cases hc : j.toNat < cells.length
    · exact ⟨cells[j.toNat], by rw [List.getElem?_append_left (by rw [List.length_map]; exact hc), List.getElem?_map, List.getElem?_eq_getElem hc]; rfl, fun _ => hc⟩
    · have z : cells.length = 0 := by
        cases q : cells with
        | nil => rfl
        | cons a r =>
          have hc : ¬ j.toNat < cells.length := hc
          rw [q] at hc m1
          simp only [List.length_cons] at hc m1
          have := m1.2 (by omega)
          omega
      have z2 : cells = [] := List.eq_nil_of_length_eq_zero z
      subst z2
      have z3 : j.toNat = 0 := by
        have := m1.1
        simp only [List.length_nil] at this
        omega
      rw [z3]
      exact ⟨0, rfl, fun z => absurd z (by decide)⟩
  refine u_ixL (SqL.of hq1) (atI_of (by rw [hj]; exact j0) (by rw [hj]) hx) ?_
  refine ⟨_, rfl, _, _, rfl, rfl, ⟨by decide, by decide, by decide⟩, _, _, rfl, rfl, _, rfl, ?_⟩
  refine ite2 (fun hb => ?_) (fun hb => ?_)
  · have hb : 1000000000000000000 ≤ x := of_decide_eq_true hb
    have hj := hx2 hb
    refine ⟨_, rfl, _, rfl, _, _, rfl, rfl, ⟨by omega, by omega⟩, _, rfl, u_ixL (SqL.of (e2 _ _ hh)) rfl ?_⟩
    refine ⟨_, rfl, u_ixL (SqL.of (e2 _ _ hh)) rfl (.inl ⟨_, rfl, _, rfl, u_ixL (SqL.of (e2 _ _ hh)) rfl ⟨_, (cells.map V.int).length, rfl, .inl ⟨_, SqL.of (e2 _ _ hd), rfl⟩, ?_⟩⟩)⟩
    rw [List.length_map]
    have hm2 : m = cells.length := m1.2 (by omega)
    rw [← hm2]
    refine ⟨_, _, rfl, rfl, by show m ≠ 0; omega, ?_⟩
    have hi : i.fmod m = (j.toNat : Int) := by omega
    refine ⟨d, _, _, j.toNat, rfl, rfl, e2 _ _ hd, ixN_of hi (by rw [List.length_map]; exact hj), ?_⟩
    refine ⟨_, rfl, .inl ⟨_, rfl, _, rfl, _, _, rfl, rfl, by show cap ≠ 0; omega, ?_⟩⟩
    refine k _ _ (fmod_lt c0).1 (fmod_lt c0).2 ⟨s, i, cells.set j.toNat (x.fdiv cap), ?_, ?_, by rw [List.length_set]; exact hl, s0, s1⟩ fun b o hb h1 h2 => ?_
    · rw [upd_ne hne]; exact e2 _ _ hh
    · rw [upd_same, set_ints]
    · rw [upd_ne h2]; exact e2 _ _ hb
  · refine ⟨_, rfl, u_ixL (SqL.of (e2 _ _ hh)) rfl ⟨_, _, rfl, rfl, .inr ⟨by decide, by decide⟩, _, rfl, _, _, rfl, rfl, .inr ⟨by decide, by decide⟩, u_addI (u_addI (.inl ⟨_, rfl, _, _, rfl, rfl, (by decide : (2147483647 : Int) ≠ 0), ?_⟩))⟩⟩
    generalize hs : ((s * 48271 + x * 69621 + 11).fmod 2147483647) = s'
    have s2 : 0 ≤ s' ∧ s' < 2147483647 := by rw [← hs]; exact fmod_lt (by decide)
    refine ⟨_, rfl, h, _, 0, 0, rfl, rfl, e2 _ _ hh, rfl, ?_⟩
    refine ⟨_, rfl, u_ixL (SqL.of upd_same) rfl (u_addI ⟨_, rfl, h, _, 2, 2, rfl, rfl, upd_same, rfl, ?_⟩)⟩
    rw [upd_upd]
    refine ⟨_, rfl, u_ixL (SqL.of upd_same) rfl ⟨_, _, rfl, rfl, ⟨by decide, by decide⟩, .inl ⟨_, rfl, _, rfl, _, _, rfl, rfl, by show cap ≠ 0; omega, ?_⟩⟩⟩
    refine k _ _ (fmod_lt c0).1 (fmod_lt c0).2 ⟨s', i + 1, cells, by rw [upd_same, ← hs] <;> rfl, ?_, hl, s2.1, s2.2⟩ fun b o hb h1 h2 => ?_
    · rw [upd_ne (Ne.symm hne)]; exact e2 _ _ hd
    · rw [upd_ne h1]; exact e2 _ _ hb
/-! ### _law_pick -/
def sp__law_pick (K : PySem.W.Frag) (w : World) (c : Ad) : Sp := fun vs H Q _ => ∃ (h d a : Addr) (xs : List V) (G : Hp), vs = [.ref h, .ref a] ∧ Src H h d ∧ Ex G H ∧ G h = none ∧ G d = none ∧ SqL K G a xs ∧ 0 < xs.length ∧ xs.length ≤ 100000 ∧
  ∀ (v : V) H', v ∈ xs → Src H' h d → Fr h d H H' → Q v H'
theorem len__law_pick {K : PySem.W.Frag} {w : World} {c : Ad} {vs : List V} {H : Hp} {Q : VK} {E : XK} (h : sp__law_pick K w c vs H Q E) : vs.length = 2 := by
  obtain ⟨a, ns, seed, _, _, rfl, _⟩ := h
  rfl
def t__law_pick (K : PySem.W.Frag) (w : World) (c : Ad) : TS :=
  (tRet (tOp (rIx K) (tVar 1) (tCall (sp__law_next K w c) [] E0 (tCons (tVar 0) (tCons (tCB (rLenG K) (tCons (tVar 1) tNil)) tNil)))))
theorem rd__law_pick {K : PySem.W.Frag} {w : World} {c : Ad} {vs : List V} {H : Hp} {Q : VK} {E : XK} (h : sp__law_pick K w c vs H Q E) : t__law_pick K w c (Dn Q) (vs.map some ++ List.replicate (2 - vs.length) none) H := by
  obtain ⟨h, d, a, xs, G, rfl, S, e, gh, gd, hx, l0, l1, k⟩ := h
  refine ⟨_, rfl, _, rfl, _, rfl, _, xs.length, rfl, .inl ⟨_, ex_l e hx, rfl⟩, h, d, _, rfl, S, by omega, by omega, fun r H' r0 r1 S' f => ?_⟩
  have hr : r.toNat < xs.length := by omega
  exact u_ixL (ex_l (f.ex e gh gd) hx) (atI_of r0 rfl (List.getElem?_eq_getElem hr)) (k _ H' (List.getElem_mem hr) S' f)
end Ah
/-! Ah5: dicts of the written part, their keys texts. -/
namespace Ah
open PySem PySem.Spec PyProof.Rows L2 Evl

/-- the entries of a written dict -/
def EnL (P : Params) : List DictEntry → List (Str × V) → Prop
  | [], [] => True
  | e :: es, q :: r => (∃ t, e.key = .str q.1 t) ∧ e.hash = PyData.keyHash P q.1 ∧ RelV q.2 e.val ∧ EnL P es r
  | _, _ => False
structure KD (K : PySem.W.Frag) (w : World) (d : Addr) (kvs : List (Str × V)) : Prop where
  at_ : ∃ es n, K.lookup d = some ⟨.type "dict", none, .dict es n, #[]⟩ ∧ EnL w.params es.toList kvs
  low : (d == sysModules) = false
  nd : (kvs.map (·.1)).Nodup
  len : kvs.length ≤ 1000
def mixOf (kvs : List (Str × V)) : List (Key × V) := kvs.map fun q => (Sum.inr q.1, q.2)
theorem mixOf_len (kvs : List (Str × V)) : (mixOf kvs).length = kvs.length := List.length_map _
section
variable {P : Program} {w : World}
theorem enl_pairs : ∀ {es : List DictEntry} {kvs : List (Str × V)}, EnL w.params es kvs → ∃ vs : List (Key × Value), KV (mixOf kvs) vs ∧ Pairs (mixKind P w) es vs ∧ vs.map (·.1) = (kvs.map (·.1)).map Sum.inr ∧ ∀ e ∈ es, ∃ k, (mixKind P w).is k e.key = true ∧ e.hash = (mixKind P w).hash k
  | [], [], _ => ⟨[], .nil, .nil, rfl, fun _ h => nomatch h⟩
  | [], _ :: _, h => h.elim
  | _ :: _, [], h => h.elim
  | e :: es, q :: r, h => by
    obtain ⟨⟨t, h1⟩, h2, h3, h4⟩ := h
    obtain ⟨vs, g1, g2, g3, g4⟩ := enl_pairs h4
    have k1 : keyIs (Sum.inr q.1) e.key = true := by rw [h1]; exact keyIs_str _ _
    refine ⟨(Sum.inr q.1, e.val) :: vs, .cons ⟨rfl, h3⟩ g1, .cons k1 rfl g2, by rw [List.map_cons, List.map_cons, List.map_cons, g3], fun x hx => ?_⟩
    rcases List.mem_cons.mp hx with rfl | hx
    · exact ⟨Sum.inr q.1, k1, h2⟩
    · exact g4 x hx
/-- what stands at d in every heap that bears the written part -/
theorem KD.look {K : PySem.W.Frag} {d : Addr} {kvs : List (Str × V)} (D : KD K w d kvs) {h : Heap} (X : K.In h) : ∃ (o : Obj) (es : Array DictEntry) (n : Nat) (vs : List (Key × Value)), h.get? d = some o ∧ o.ExactDict ∧ o.data = .dict es n ∧ es.size = kvs.length ∧
    KV (mixOf kvs) vs ∧ h.DictAt (mixKind P w) d vs n := by
  obtain ⟨es, n, hl, he⟩ := D.at_
  obtain ⟨vs, g1, g2, g3, g4⟩ := enl_pairs (P := P) he
  have ho := X d _ hl
  refine ⟨_, es, n, vs, ho, ⟨rfl, rfl, rfl⟩, rfl, ?_, g1, ⟨_, es, ho, ⟨rfl, rfl, rfl⟩, rfl, fun e hm => g4 e (by simpa using hm), g2, ?_⟩⟩
  · have e1 := g2.length
    have e2 : (mixOf kvs).length = vs.length := Paired.length g1
    rw [mixOf_len] at e2
    rw [Array.length_toList] at e1
    omega
  · rw [g3]
    exact D.nd.map _ fun a b hne e => hne (Sum.inr.inj e)
end
section
variable {X : Cx} {pins : List (Addr × Obj)} {σ : L2.St} {H : Hp} {s : Shared} {d : Addr} {kvs : List (Str × V)}
theorem KD.inv (D : KD X.K X.w d kvs) (I : Inv X pins σ H s) : ∃ (o : Obj) (es : Array DictEntry) (n : Nat) (vs : List (Key × Value)), s.heap.get? d = some o ∧ o.ExactDict ∧ o.data = .dict es n ∧ es.size = kvs.length ∧
    KV (mixOf kvs) vs ∧ s.heap.DictAt (mixKind X.prog X.w) d vs n := D.look (P := X.prog) I.kIn
/-- the value at a key -/
theorem mix_find {x : Str} {v : V} : ∀ {kvs : List (Str × V)} {vs : List (Key × Value)}, KV (mixOf kvs) vs → kvs.lookup x = some v → ∃ u, valueAt vs (Sum.inr x) = some u ∧ RelV v u
  | [], _, _, h => by cases h
  | q :: r, _, h, e => by
    cases h with
    | @cons a b l1 l2 h1 h2 =>
      unfold valueAt
      rw [List.find?_cons]
      rw [List.lookup_cons] at e
      have e1 : b.1 = Sum.inr q.1 := h1.1.symm
      by_cases hx : x = q.1
      · subst hx
        rw [beq_self_eq_true] at e
        have e : q.2 = v := Option.some.inj e
        rw [e1, decide_eq_true rfl]
        exact ⟨b.2, rfl, by rw [← e]; exact h1.2⟩
      · rw [beq_eq_false_iff_ne.mpr hx] at e
        rw [e1, decide_eq_false fun z => hx (Sum.inr.inj z).symm]
        exact mix_find h2 e
theorem mix_none {x : Str} : ∀ {kvs : List (Str × V)} {vs : List (Key × Value)}, KV (mixOf kvs) vs → kvs.lookup x = none → valueAt vs (Sum.inr x) = none
  | [], _, h, _ => by cases h; rfl
  | q :: r, _, h, e => by
    cases h with
    | @cons a b l1 l2 h1 h2 =>
      unfold valueAt
      rw [List.find?_cons]
      rw [List.lookup_cons] at e
      have e1 : b.1 = Sum.inr q.1 := h1.1.symm
      by_cases hx : x = q.1
      · subst hx
        rw [beq_self_eq_true] at e
        cases e
      · rw [beq_eq_false_iff_ne.mpr hx] at e
        rw [e1, decide_eq_false fun z => hx (Sum.inr.inj z).symm]
        exact mix_none h2 e
theorem mix_some {x : Str} {kvs : List (Str × V)} {vs : List (Key × Value)} (h : KV (mixOf kvs) vs) : (valueAt vs (Sum.inr x)).isSome = (kvs.lookup x).isSome := by
  cases q : kvs.lookup x with
  | none => rw [mix_none h q] <;> rfl
  | some v =>
    obtain ⟨u, e, _⟩ := mix_find h q
    rw [e] <;> rfl
/-- d[x] -/
def rIxW (K : PySem.W.Frag) (w : World) : R2 := fun x y H Q => ∃ p z kvs v, x = .ref p ∧ y = .str z ∧ KD K w p kvs ∧ kvs.lookup z = some v ∧ Q v H
theorem ix_W : IxR X (rIxW X.K X.w) := by
  intro value slice pins s σ H x y v u Q I rx ry h hs
  obtain ⟨p, z, kvs, r, rfl, rfl, D, hz, q⟩ := h
  obtain rfl : v = Value.ref p := rx
  obtain ⟨t, rfl⟩ := ry
  obtain ⟨o, es, n, vs, ho, hx, hd, hn, hk, hat⟩ := D.inv I
  obtain ⟨u0, hu, ru⟩ := mix_find hk hz
  have hm := hat.dictOf.mapOf
  exact tail_any hm.typeIs slot_dict_getitem.lookup (wpAny_getItem_of (knd := mixKind X.prog X.w) (mixKind_str X.prog X.w z t) hm hu ⟨r, H, I.tok _, ru, q⟩) hs
/-- x in d -/
def rInW (K : PySem.W.Frag) (w : World) : R2 := fun x y H Q => ∃ p z kvs, x = .str z ∧ y = .ref p ∧ KD K w p kvs ∧ Q (.bl (kvs.lookup z).isSome) H
theorem op_inW : OpR X (compareOp .In) (rInW X.K X.w) := by
  intro pins s σ H x y v u Q I rx ry h
  obtain ⟨p, z, kvs, rfl, rfl, D, q⟩ := h
  obtain ⟨t, rfl⟩ := rx
  cases ry
  obtain ⟨o, es, n, vs, ho, hx, hd, hn, hk, hat⟩ := D.inv I
  refine wpAny_in_of (knd := mixKind X.prog X.w) (mixKind_str X.prog X.w z t) D.low hat.dictOf.mapOf ?_
  rw [mix_some hk]
  exact ⟨.bl _, H, I.tok _, rfl, q⟩
/-- len(d), list(d) -/
def rLenW (K : PySem.W.Frag) (w : World) : List V → Hp → VK → Prop := fun xs H Q => ∃ p kvs, xs = [.ref p] ∧ KD K w p kvs ∧ Q (.int kvs.length) H
theorem call_lenW : CallR X (.builtin "len") (rLenW X.K X.w) := by
  intro pins s σ H xs us Q I r h
  obtain ⟨p, kvs, rfl, D, q⟩ := h
  obtain ⟨u, rfl, ru⟩ := vals1 r
  cases ru
  obtain ⟨o, es, n, vs, ho, hx, hd, hn, hk, hat⟩ := D.inv I
  have e : kvs.length = vs.length := by
    rw [← mixOf_len kvs]
    exact Paired.length hk
  have hl := D.len
  refine call_len_dict D.low hat.dictOf (by omega) ?_
  rw [← e]
  exact ⟨.int kvs.length, H, I.tok _, ⟨_, rfl⟩, q⟩
def rListW (K : PySem.W.Frag) (w : World) : List V → Hp → VK → Prop := fun xs H Q => ∃ p kvs, xs = [.ref p] ∧ KD K w p kvs ∧ ∀ l, H l = none → Q (.ref l) (upd H l (.lst (kvs.map fun q => V.str q.1)))
theorem call_listW (hc : X.calm = true) : CallR X (.type "list") (rListW X.K X.w) := by
  intro pins s σ H xs us Q I r h
  obtain ⟨p, kvs, rfl, D, q⟩ := h
  obtain ⟨u, rfl, ru⟩ := vals1 r
  cases ru
  obtain ⟨o, es, n, vs, ho, hx, hd, hn, hk, hat⟩ := D.inv I
  have e : kvs.length = vs.length := by
    rw [← mixOf_len kvs]
    exact Paired.length hk
  have hl := D.len
  have hsz : kvs.length ≤ sizeLine := Nat.le_trans hl (by decide)
  refine PySem.W.kdl_call (PySem.W.kdl_dict (knd := mixKind X.prog X.w) (kvs := vs) (ep := n) D.low) (I.ok.hd hc) hat (by omega) fun h' tk acc c' hkeep hS hacc => ?_
  have rel : Vals (kvs.map fun q => V.str q.1) acc.toList := by
    refine vals_of_at (by
      have e9 : acc.toList.length = acc.size := by simp
      rw [List.length_map, e9, hacc.1]
      exact e) fun j x y hj1 hj2 => ?_
    obtain ⟨k, z, hz, hi⟩ := hacc.2 j y (by rw [← Array.getElem?_toList]; exact hj2)
    have e1 : (mixOf kvs).map (·.1) = vs.map (·.1) := KV.keys hk
    have e2 : ((mixOf kvs).map (·.1))[j]? = some k := by
      rw [e1, List.getElem?_map, hz] <;> rfl
    unfold mixOf at e2
    rw [List.map_map, List.getElem?_map] at e2
    rw [List.getElem?_map] at hj1
    cases hq : kvs[j]? with
    | none => rw [hq] at hj1; cases hj1
    | some q0 =>
      rw [hq] at hj1 e2
      cases hj1
      cases e2
      exact keyIs_rel (k := Sum.inr q0.1) hi
  refine ⟨.ref s.heap.objs.size, _, I.laid hkeep (Nat.le_refl _) (o := .lst (kvs.map fun q => V.str q.1)) ⟨by rw [List.length_map]; exact hsz, acc.toList, c', rel, by rw [Array.toArray_toList]; exact hS⟩, rfl, q _ (I.hok.fresh (Nat.le_refl _))⟩
end
/-! ### walks -/
/-- its keys; its pairs -/
def ItkW (kvs : List (Str × V)) : It := ⟨fun i _ => i < kvs.length, fun i H x H' => H' = H ∧ ∃ q, kvs[i]? = some q ∧ x = .str q.1, fun i _ => kvs.length ≤ i⟩
def ItiW (kvs : List (Str × V)) : It := ⟨fun i _ => i < kvs.length, fun i H x H' => ∃ T q, kvs[i]? = some q ∧ x = .ref T ∧ H T = none ∧ H' = upd H T (.tup [.str q.1, q.2]), fun i _ => kvs.length ≤ i⟩
def iKeysW (K : PySem.W.Frag) (w : World) (td : TE) : TI := fun σ H R => td σ H fun x H1 => ∃ d kvs, x = .ref d ∧ KD K w d kvs ∧ R (ItkW kvs) H1
def iItemsW (K : PySem.W.Frag) (w : World) (td : TE) : TI := fun σ H R => td σ H fun x H1 => ∃ d kvs, x = .ref d ∧ KD K w d kvs ∧ R (ItiW kvs) H1
theorem kv_at {kvs : List (Str × V)} {vs : List (Key × Value)} (h : KV (mixOf kvs) vs) {i : Nat} {q : Str × V} (e : kvs[i]? = some q) : ∃ u, vs[i]? = some (Sum.inr q.1, u) ∧ RelV q.2 u := by
  refine kv_get h (k := Sum.inr q.1) (v := q.2) ?_
  unfold mixOf
  rw [List.getElem?_map, e] <;> rfl
section
variable {P : Program} {w : World} {K : PySem.W.Frag} {d : Addr} {kvs : List (Str × V)}
theorem walk_keysW {tg : Expr} {n : Nat} (it : Addr) (D : KD K w d kvs) (hn : ∀ h, K.In h → ∃ o es, h.get? d = some o ∧ o.data = .dict es n) : Turn P w K tg (ItkW kvs) [it] it (fun i h => h.IsKeyIter it d i kvs.length n) where
  mem := List.mem_singleton.mpr rfl
  obj := fun i h st b hb => by
    obtain rfl := List.mem_singleton.mp hb
    obtain ⟨oi, e, c, dd⟩ := st
    exact ⟨oi, e, fun v z => by rw [dd] at z; cases z⟩
  keep := fun i h h' st k => st.at fun oi e => k it (List.mem_singleton.mpr rfl) oi e
  item := by
    intro X e1 e2 e3 calm i pins s σ H E I hf st hi
    subst e1 e2 e3
    have hi : i < kvs.length := hi
    obtain ⟨f0, f1, f2, f3, f4, f5⟩ := hf it (List.mem_singleton.mpr rfl)
    obtain ⟨o, es, m, vs, ho, hx, hd, hsz, hk, hat⟩ := D.inv I
    obtain ⟨o', es', ho', hd'⟩ := hn s.heap I.kIn
    rw [ho] at ho'
    cases ho'
    rw [hd] at hd'
    cases hd'
    obtain ⟨u, hu, ru⟩ := kv_at hk (List.getElem?_eq_getElem hi)
    have hl : kvs.length = vs.length := by rw [← mixOf_len kvs]; exact Paired.length hk
    rw [hl] at st
    refine wpAny_pyNext_dict_item st hat hu fun key h' hkey st' sb => ?_
    have I1 : Inv X pins σ H { s with heap := h' } := I.turned (t' := s.toks) (fun b ob hb e => (sb.2 b hb).trans e) f0 f1 f3 f4 f5
    obtain ⟨oi, e, c, dd⟩ := id st'
    have rk : RelV (.str kvs[i].1) key := relV_key (show keyIs (Sum.inr kvs[i].1) key = true from hkey)
    refine ⟨key, rfl, go_of (s := { s with heap := h' }) e c dd (by decide) ⟨_, H, I1, rk, ⟨rfl, kvs[i], List.getElem?_eq_getElem hi, rfl⟩, ?_, fun b hb => (hf b hb).1⟩⟩
    show h'.IsKeyIter it d (i + 1) kvs.length _
    rw [hl]
    exact st'
  done := by
    intro X e1 e2 e3 calm i pins s σ H E I hf st hi
    subst e1 e2 e3
    obtain ⟨f0, f1, f2, f3, f4, f5⟩ := hf it (List.mem_singleton.mpr rfl)
    obtain ⟨o, es, m, vs, ho, hx, hd, hsz, hk, hat⟩ := D.inv I
    obtain ⟨o', es', ho', hd'⟩ := hn s.heap I.kIn
    rw [ho] at ho'
    cases ho'
    rw [hd] at hd'
    cases hd'
    exact next_key_end (I.ok.hd calm) st ho hd hsz hi fun h' eb => ⟨rfl, I.turned (t' := s.toks) (fun b ob hb e => eb b ob hb e) f0 f1 f3 f4 f5⟩
  self := fun A i s Q E st h => wpAny_pyIter_keyiter st h
theorem walk_itemsW {elts : List Expr} {kk n : Nat} {tpos : Pos} (it : Addr) (D : KD K w d kvs) (hn : ∀ h, K.In h → ∃ o es, h.get? d = some o ∧ o.data = .dict es n) :
    Turn P w K (.Tuple elts kk tpos) (ItiW kvs) [it] it (fun i h => ∃ a b, IsItemIter h it d i kvs.length n a b) where
  mem := List.mem_singleton.mpr rfl
  obj := fun i h st b hb => by
    obtain rfl := List.mem_singleton.mp hb
    obtain ⟨x, y, e⟩ := st
    exact ⟨_, e, fun v z => nomatch z⟩
  keep := fun i h h' st k => let ⟨x, y, e⟩ := st; ⟨x, y, k it (List.mem_singleton.mpr rfl) _ e⟩
  item := by
    intro X e1 e2 e3 calm i pins s σ H E I hf st hi
    subst e1 e2 e3
    have hi : i < kvs.length := hi
    obtain ⟨o, es, m, vs, ho, hx, hd, hsz, hk, hat⟩ := D.inv I
    obtain ⟨o', es', ho', hd'⟩ := hn s.heap I.kIn
    rw [ho] at ho'
    cases ho'
    rw [hd] at hd'
    cases hd'
    obtain ⟨u, hu, ru⟩ := kv_at hk (List.getElem?_eq_getElem hi)
    have hl : kvs.length = vs.length := by rw [← mixOf_len kvs]; exact Paired.length hk
    obtain ⟨x, y, he⟩ := st
    rw [hl] at he
    have hlt : it < s.heap.objs.size := Heap.lt_size he
    refine wpAny_pyNext_items_item he hat hu fun key h' hkey hio hT hz hkp => ?_
    have rk : RelV (.str kvs[i].1) key := relV_key (show keyIs (Sum.inr kvs[i].1) key = true from hkey)
    refine ⟨_, rfl, wpAny_letOwnedTupleGo_items (s := { s with heap := h' }) hio fun h2 he' sb => ?_⟩
    have hT2 := (sb.2 _ (Nat.ne_of_gt hlt)).trans hT
    have fresh : ObjOk X.prog X.w (upd H s.heap.objs.size (.tup [.str kvs[i].1, kvs[i].2])) h2 s.heap.objs.size (.tup [.str kvs[i].1, kvs[i].2]) :=
      ⟨by show 2 ≤ sizeLine; decide, [key, u], .cons rk (.cons ru .nil), _, hT2, rfl, _, rfl⟩
    have I1 := I.turnedNew (t' := s.toks) (ch := [it]) (h' := h2) (fun b ob hb e => (sb.2 b (by simpa using hb)).trans (hkp b ob (by simpa using hb) e)) hf (Nat.le_refl _) fresh
    refine ⟨.ref s.heap.objs.size, _, I1, rfl, ⟨_, kvs[i], List.getElem?_eq_getElem hi, rfl, I.hok.fresh (Nat.le_refl _), rfl⟩, ⟨key, u, by rw [hl]; exact he'⟩, fun b hb => ?_⟩
    obtain rfl := List.mem_singleton.mp hb
    rw [upd_ne (Nat.ne_of_lt hlt)]
    exact (hf b hb).1
  done := by
    intro X e1 e2 e3 calm i pins s σ H E I hf st hi
    subst e1 e2 e3
    obtain ⟨f0, f1, f2, f3, f4, f5⟩ := hf it (List.mem_singleton.mpr rfl)
    obtain ⟨o, es, m, vs, ho, hx, hd, hsz, hk, hat⟩ := D.inv I
    obtain ⟨o', es', ho', hd'⟩ := hn s.heap I.kIn
    rw [ho] at ho'
    cases ho'
    rw [hd] at hd'
    cases hd'
    have hl : kvs.length = vs.length := by rw [← mixOf_len kvs]; exact Paired.length hk
    have hi : kvs.length ≤ i := hi
    obtain ⟨x, y, he⟩ := st
    rw [hl] at he
    exact wpAny_pyNext_items_end (I.ok.hd calm) he hat (List.getElem?_eq_none (by omega)) fun h' eb => ⟨rfl, I.turned (t' := s.toks) (fun b ob hb e => eb b ob hb e) f0 f1 f3 f4 f5⟩
  self := fun A i s Q E st h => let ⟨_, _, e⟩ := st; PySem.W.kcp_self e h
theorem KD.ep (D : KD K w d kvs) : ∃ n, ∀ h, K.In h → ∃ o es, h.get? d = some o ∧ o.data = .dict es n := by
  obtain ⟨es, n, hl, _⟩ := D.at_
  exact ⟨n, fun h X => ⟨_, es, X d _ hl, rfl⟩⟩
end
section
variable {X : Cx} {tg e : Expr} {td : TE} {apos cpos : Pos}
theorem pi_keysW (he : PE X e td) : PI X tg e (iKeysW X.K X.w td) := by
  refine ⟨fun pins s σ H R I h => thn (he.run pins s σ H _ I h) fun u s1 ⟨x, H1, I1, rx, d, kvs, ex, D, q⟩ => ?_⟩
  subst ex
  obtain rfl : u = Value.ref d := rx
  obtain ⟨o, es, n, vs, ho, hx, hd, hsz, hk, hat⟩ := D.inv I1
  obtain ⟨m, hm⟩ := D.ep
  obtain ⟨o', es', ho', hd'⟩ := hm s1.heap I1.kIn
  rw [ho] at ho'
  cases ho'
  rw [hd] at hd'
  cases hd'
  refine iter_keys D.low ho hx hd (pi_one (tk := s1.toks) I1 _ (walk_keysW _ D hm) ⟨_, Heap.get?_push_size _ rfl, rfl, ?_⟩ q)
  rw [hsz] <;> rfl
theorem pi_itemsW {elts : List Expr} {kk : Nat} {tpos : Pos} (he : PE X e td) (hbase : attributeBase e "items" X.env (eval e X.env) = eval e X.env := by rfl) (hline : (apos.endLine == cpos.line) = true := by rfl) :
    PI X (.Tuple elts kk tpos) (.Call (.Attribute e "items" apos) [] [] cpos) (iItemsW X.K X.w td) := by
  refine ⟨fun pins s σ H R I h => wpAny_Call_method (T := "dict") (id := "dict.items") hbase rfl hline F.plainAttrs_dict F.slot_dict_items F.type_dict_items (thn (he.run pins s σ H _ I h) fun u s1 ⟨x, H1, I1, rx, d, kvs, ex, D, q⟩ => ?_)⟩
  subst ex
  obtain rfl : u = Value.ref d := rx
  obtain ⟨o, es, n, vs, ho, hx, hd, hsz, hk, hat⟩ := D.inv I1
  obtain ⟨m, hm⟩ := D.ep
  obtain ⟨o', es', ho', hd'⟩ := hm s1.heap I1.kIn
  rw [ho] at ho'
  cases ho'
  rw [hd] at hd'
  cases hd'
  have hl : kvs.length = vs.length := by rw [← mixOf_len kvs]; exact Paired.length hk
  refine ⟨hat.dictOf.typeIs, hat.dictOf.mapOf.noDict, ?_⟩
  have I2 : Inv X pins σ H1 { s1 with heap := s1.heap.push { cls := .type "dict_items", data := .fields #[.ref d] } } := I1.kept (t' := s1.toks) fun b ob q => Heap.get?_push_of_some _ q
  have fin : wpAny (model X.prog X.w) X.A (pyIter (.ref s1.heap.objs.size)) (PIE X pins σ (.Tuple elts kk tpos) R) X.xe { s1 with heap := s1.heap.push { cls := .type "dict_items", data := .fields #[.ref d] } } := by
    refine wpAny_pyIter_items (d := d) (knd := mixKind X.prog X.w) ⟨_, Heap.get?_push_size _ rfl, rfl, rfl⟩ (hat.push _) (pi_one (tk := s1.toks) I2 _ (walk_itemsW _ D hm) ⟨.none, .none, ?_⟩ q)
    rw [hl]
    exact Heap.get?_push_size _ rfl
  show wpAny _ _ (callWith cpos (.builtin "dict.items") [.ref d] [] []) _ X.xe s1
  exact method_meetsIn F.slot_dict_items F.entry_dict_items rfl (PySem.evalArgs_none ⟨rfl, hat.dictOf.typeIs, F.args_dict_items_1 _, _, meets_dict_items (mixKind X.prog X.w) d D.low, ⟨vs, hat.dictOf⟩, fin⟩)
end
end Ah
/-! Ah6: rules, books as data; drawing them. -/
namespace Ah
open PySem PySem.Spec PyProof.Rows L2 Evl

/-! ### data -/
inductive Mis where
  | none | place | waits
  deriving DecidableEq
structure Rule where
  twice : Bool
  edStay : Bool
  fills : Bool
  joStay : Bool
  mis : Mis
  empty : Bool
  deriving DecidableEq
def Mis.s : Mis → Str
  | .none => "none" | .place => "place" | .waits => "waits"
def Rule.kvs (r : Rule) : List (Str × Str) := [("again", bif r.twice then "twice" else "skip"), ("editions", bif r.edStay then "stays" else "moves"), ("fill", bif r.fills then "fills" else "beside"),
  ("joined", bif r.joStay then "stays" else "moves"), ("missing", r.mis.s), ("swept", bif r.empty then "empty" else "all")]
/-- a dict from texts to texts -/
def kvD (l : List (Str × Str)) : List (Key × V) := l.map fun q => (Sum.inr q.1, .str q.2)
/-- keys: false a, true b; days: false 1, true 2 -/
def kS (k : Bool) : Str := bif k then "b" else "a"
def dI (d : Bool) : Int := bif d then 2 else 1
abbrev Row := Bool × Bool
def rowD (r : Row) : PyData := .tuple [.str (kS r.1), .int (dI r.2)]
structure Bk where
  rows : List Row
  rule : Rule
  join : Bool
  sweep : Bool
def Bk.ok (b : Bk) : Prop := b.rows.length = 1 ∨ b.rows.length = 2
def Bk.words (b : Bk) : List Str := (bif b.join then [("join" : Str)] else []) ++ (bif b.sweep then [("sweep" : Str)] else [])
def rowsD (b : Bk) : PyData := .tuple (b.rows.map rowD)
def wordsD (b : Bk) : PyData := .tuple (b.words.map PyData.str)
def partsL : List (List Str) := [["again", "skip", "twice"], ["editions", "moves", "stays"], ["fill", "beside", "fills"], ["joined", "moves", "stays"], ["missing", "none", "place", "waits"], ["swept", "all", "empty"]]
def partsD : PyData := .list (partsL.map fun l => .list (l.map PyData.str))
section
variable {K : PySem.W.Frag} {σ : L2.St} {G : Hp} {ta tb te : TE} {P P1 P2 : MP V} {d e : PyData} {ds es : List PyData}
/-- a tracked list of data -/
abbrev MP.l (K : PySem.W.Frag) (ds : List PyData) : MP V := ⟨fun v G => ∃ a xs, v = .ref a ∧ G a = some (.lst xs) ∧ DpAll K G xs ds, fun e h => let ⟨a, xs, h1, h2, h3⟩ := h; ⟨a, xs, h1, e _ _ h2, DpAll.up e _ _ h3⟩⟩
theorem l_d {t : Hp → VK → Prop} (h : Cm t G (MP.l K ds)) : Cm t G (MP.d K (.list ds)) := h.imp fun v G' _ p => by
  obtain ⟨a, xs, rfl, h2, h3⟩ := p
  exact .lst (SqL.of h2) h3
theorem c_lstl {t : TA} (h : Cm (t σ) G (MP.ds K ds)) (hl : ds.length ≤ 100000) : Cm (tLst t σ) G (MP.l K ds) :=
  Cm.bind (t := t σ) (u := fun (xs : List V) (H1 : Hp) (Q : V → Hp → Prop) => xs.length ≤ sizeLine ∧ ∀ p, H1 p = none → Q (V.ref p) (upd H1 p (.lst xs))) h fun xs G1 e1 p1 => c_and (sz hl p1) (c_new fun p hp => ⟨p, xs, rfl, upd_same, DpAll.up (Ex.new hp) _ _ p1⟩)
theorem c_addL (ha : Cm (ta σ) G (MP.l K ds)) (hb : Cm (tb σ) G (MP.l K es)) (hl : ds.length + es.length ≤ 100000) : Cm (tOp (rAddG K) ta tb σ) G (MP.l K (ds ++ es)) :=
  c_op ha hb fun x y G1 e1 p q => by
    obtain ⟨a, xs, rfl, h1, h2⟩ := p
    obtain ⟨b, ys, rfl, k1, k2⟩ := q
    exact c_newV (o := .lst (xs ++ ys)) (fun H eh Q h => u_cat (eh _ _ h1) (eh _ _ k1) (by rw [DpAll.length h2, DpAll.length k2]; exact hl) h) fun p hp => ⟨p, _, rfl, upd_same, DpAll.up (Ex.new hp) _ _ (DpAll.app h2 k2)⟩
theorem c_mono (h : Cm (te σ) G P) : Cm (te σ) G P := h
end
/-! ### _law_parts -/
abbrev sp__law_parts (K : PySem.W.Frag) (w : World) (c : Ad) : Sp := spOf (ι := Unit) (fun _ => []) (fun _ => MP.l K (partsL.map fun l => .list (l.map PyData.str)))
theorem len__law_parts {K : PySem.W.Frag} {w : World} {c : Ad} {vs : List V} {H : Hp} {Q : VK} {E : XK} (h : sp__law_parts K w c vs H Q E) : vs.length = 0 := spOf_len (fun _ => rfl) vs H Q E h
def t__law_parts (K : PySem.W.Frag) (w : World) (c : Ad) : TS :=
  (tSeq (tAsg (tLst (tCons (tLst (tCons (tC (.str "again")) (tCons (tC (.str "skip")) (tCons (tC (.str "twice")) tNil)))) (tCons (tLst (tCons (tC (.str "editions")) (tCons (tC (.str "moves")) (tCons (tC (.str "stays")) tNil)))) (tCons (tLst (tCons (tC (.str "fill")) (tCons (tC (.str "beside")) (tCons (tC (.str "fills")) tNil)))) tNil)))) (gName 0))
    (tRet (tOp (rAddG K) (tVar 0) (tLst (tCons (tLst (tCons (tC (.str "joined")) (tCons (tC (.str "moves")) (tCons (tC (.str "stays")) tNil)))) (tCons (tLst (tCons (tC (.str "missing")) (tCons (tC (.str "none")) (tCons (tC (.str "place")) (tCons (tC (.str "waits")) tNil))))) (tCons (tLst (tCons (tC (.str "swept")) (tCons (tC (.str "all")) (tCons (tC (.str "empty")) tNil)))) tNil)))))))
theorem c_strs3 {K : PySem.W.Frag} {σ : L2.St} {G : Hp} {a b c : Str} : Cm (tLst (tCons (tC (.str a)) (tCons (tC (.str b)) (tCons (tC (.str c)) tNil))) σ) G (MP.d K (.list [.str a, .str b, .str c])) :=
  c_lst (c_dcons c_str (c_dcons c_str (c_dcons c_str c_dnil))) (by show 3 ≤ 100000; decide)
theorem rd__law_parts {K : PySem.W.Frag} {w : World} {c : Ad} {vs : List V} {H : Hp} {Q : VK} {E : XK} (h : sp__law_parts K w c vs H Q E) : t__law_parts K w c (Dn Q) (vs.map some ++ List.replicate (1 - vs.length) none) H := by
  obtain ⟨_, G, e, ha, q⟩ := h
  cases ha
  refine (b_asg (R := MP.l K _) (c_lstl (c_dcons c_strs3 (c_dcons c_strs3 (c_dcons c_strs3 c_dnil))) (by show 3 ≤ 100000; decide)) fun v G1 e1 p1 => ?_ : Cm (bd (t__law_parts K w c) [none]) G (MP.l K (partsL.map fun l => .list (l.map PyData.str)))) H e Q q
  exact b_ret (c_addL (c_var (P := MP.l K _) rfl p1) (c_lstl (c_dcons c_strs3 (c_dcons (c_lst (c_dcons c_str (c_dcons c_str (c_dcons c_str (c_dcons c_str c_dnil)))) (by show 4 ≤ 100000; decide)) (c_dcons c_strs3 c_dnil))) (by show 3 ≤ 100000; decide)) (by show 6 ≤ 100000; decide))
end Ah
/-! Ah7: comprehensions over data; all, any. -/
namespace Ah
open PySem PySem.Spec PyProof.Rows L2 Evl

section
variable {K : PySem.W.Frag} {σ : L2.St} {G : Hp} {tl te : TE} {tt : TT} {g : TG} {ds : List PyData} {vs : List Nat}
/-- one turn of a comprehension over data: the target takes the item, the test says q, the element is f -/
def CTurn (K : PySem.W.Frag) (σ : L2.St) (vs : List Nat) (g : TG) (tt : TT) (te : TE) (q : Bool) (e : PyData) (v : V) (G1 : Hp) : Prop :=
  ∃ σ2, wipe σ2 vs = wipe σ vs ∧ (∀ H1, Ex G1 H1 → ∀ Q : L2.St → Hp → Prop, Q σ2 H1 → g v (wipe σ vs) H1 Q) ∧ Cm (tt σ2) G1 (MP.eq q) ∧ (q = true → Cm (te σ2) G1 (MP.d K e))
/-- the word of such a loop: the new list at D holds the data es -/
def CW (K : PySem.W.Frag) (H1 G1 : Hp) (D : Addr) (es : List PyData) (H' : Hp) : Prop :=
  ∃ (G' : Hp) (acc : List V), Ex H1 H' ∧ Nw H1 G1 G' H' ∧ G' D = none ∧ H' D = some (.lst acc) ∧ DpAll K G' acc es
theorem cw_start {H1 G1 : Hp} {D : Addr} (e : Ex G1 H1) (hD : H1 D = none) : CW K H1 G1 D [] (upd H1 D (.lst [])) :=
  ⟨G1, [], Ex.new hD, Nw.own e hD, fresh_back e hD, upd_same, .nil⟩
theorem cw_turn2 {H1 G1 H' : Hp} {D : Addr} {es : List PyData} {q : Bool} {d : PyData} {v : V} (hD : H1 D = none) (hl : es.length < 100000)
    (w : ∃ (G' : Hp) (acc : List V), Ex H1 H' ∧ Nw H1 G1 G' H' ∧ G' D = none ∧ H' D = some (.lst acc) ∧ DpAll K G' acc es ∧ CTurn K σ vs g tt te q d v G') : g v (wipe σ vs) H' fun σ2 H2 => wipe σ2 vs = wipe σ vs ∧ tt σ2 H2 fun b H3 =>
      if b = true then te σ2 H3 fun y H4 => ∃ acc, H4 D = some (.lst acc) ∧ acc.length < sizeLine ∧ CW K H1 G1 D (if q = true then es ++ [d] else es) (upd H4 D (.lst (acc ++ [y]))) else CW K H1 G1 D (if q = true then es ++ [d] else es) H3 := by
  obtain ⟨G', acc, e1, n1, gD, hD', ha, σ2, hw, hg, ct, ce⟩ := w
  refine hg H' n1.le _ ⟨hw, ct H' n1.le _ fun b G2 H2 e2 n2 p2 => ?_⟩
  have p2 : b = q := p2
  subst p2
  have gD2 : G2 D = none := n2.old D (by rw [hD']; exact fun z => nomatch z) gD
  cases b with
  | false =>
    rw [if_neg Bool.false_ne_true, if_neg Bool.false_ne_true]
    exact ⟨G2, acc, e1.trans e2, n1.trans e1 n2, gD2, e2 _ _ hD', DpAll.up n2.ex _ _ ha⟩
  | true =>
    rw [if_pos rfl, if_pos rfl]
    refine (ce rfl).up n2.ex H2 n2.le _ fun y G3 H3 e3 n3 p3 => ?_
    have h3 : H3 D = some (.lst acc) := e3 _ _ (e2 _ _ hD')
    have gD3 : G3 D = none := n3.old D (by rw [e2 _ _ hD']; exact fun z => nomatch z) gD2
    refine ⟨acc, h3, by rw [DpAll.length ha]; exact sz_lt hl, G3, acc ++ [y], Ex.mut ((e1.trans e2).trans e3) hD, ?_, gD3, upd_same, DpAll.app (DpAll.up (n2.ex.trans n3.ex) _ _ ha) (.cons p3 .nil)⟩
    have n4 := (n1.trans e1 n2).trans (e1.trans e2) n3
    exact ⟨n4.ex, Ex.mut n4.le gD3, n4.old⟩
theorem cw_turn {H1 G1 H' : Hp} {D : Addr} {es : List PyData} {q : Bool} {d : PyData} {v : V} (hD : H1 D = none) (w : CW K H1 G1 D es H') (hl : es.length < 100000)
    (ht : ∀ G', Ex G1 G' → CTurn K σ vs g tt te q d v G') : g v (wipe σ vs) H' fun σ2 H2 => wipe σ2 vs = wipe σ vs ∧ tt σ2 H2 fun b H3 =>
      if b = true then te σ2 H3 fun y H4 => ∃ acc, H4 D = some (.lst acc) ∧ acc.length < sizeLine ∧ CW K H1 G1 D (if q = true then es ++ [d] else es) (upd H4 D (.lst (acc ++ [y]))) else CW K H1 G1 D (if q = true then es ++ [d] else es) H3 := by
  obtain ⟨G', acc, e1, n1, gD, hD', ha⟩ := w
  exact cw_turn2 hD hl ⟨G', acc, e1, n1, gD, hD', ha, ht G' n1.ex⟩
theorem cw_end {H1 G1 H' : Hp} {D : Addr} {es : List PyData} (hD : H1 D = none) (g1 : G1 D = none) (w : CW K H1 G1 D es H') : ∃ G', Nw H1 G1 G' H' ∧ Ex H1 H' ∧ (MP.l K es).p (.ref D) G' := by
  obtain ⟨G', acc, e1, n1, gD, hD', ha⟩ := w
  refine ⟨upd G' D (.lst acc), ⟨n1.ex.trans (Ex.new gD), fun b o h => ?_, fun b hb hg => ?_⟩, e1, D, acc, rfl, upd_same, DpAll.up (Ex.new gD) _ _ ha⟩
  · by_cases hb : b = D
    · subst hb; rw [upd_same] at h; rw [hD', ← h]
    · rw [upd_ne hb] at h; exact n1.le b o h
  · rw [upd_ne (fun z => hb (by rw [z]; exact hD))]
    exact n1.old b hb hg
theorem snocRec {α : Type} {M : List α → Prop} (nil : M []) (snoc : ∀ l a, M l → M (l ++ [a])) (l : List α) : M l := by
  have h : ∀ r : List α, M r.reverse := fun r => by
    induction r with
    | nil => exact nil
    | cons a r ih => rw [List.reverse_cons]; exact snoc _ _ ih
  have e := h l.reverse
  rwa [List.reverse_reverse] at e
/-- what is made of the first i items -/
def picked (q : Nat → Bool) (f : Nat → PyData) (i : Nat) : List PyData := ((List.range i).filter q).map f
theorem picked_succ (q : Nat → Bool) (f : Nat → PyData) (i : Nat) : picked q f (i + 1) = if q i = true then picked q f i ++ [f i] else picked q f i := by
  unfold picked
  rw [List.range_succ, List.filter_append, List.map_append]
  cases h : q i with
  | true => rw [List.filter_cons, if_pos h, if_pos rfl] <;> rfl
  | false =>
    rw [List.filter_cons, if_neg (by rw [h]; exact Bool.false_ne_true), if_neg Bool.false_ne_true]
    exact List.append_nil _
theorem picked_len (q : Nat → Bool) (f : Nat → PyData) (i : Nat) : (picked q f i).length ≤ i := by
  unfold picked
  rw [List.length_map]
  have h := List.length_filter_le q (List.range i)
  rwa [List.length_range] at h
theorem picked_all (f : Nat → PyData) (q : Nat → Bool) : ∀ (ds : List PyData) (F : PyData → PyData) (t : PyData → Bool), (∀ i d, ds[i]? = some d → q i = t d ∧ (t d = true → f i = F d)) → picked q f ds.length = (ds.filter t).map F := by
  intro ds
  induction ds using snocRec with
  | nil => intro F t h; rfl
  | snoc l a ih =>
    intro F t h
    rw [List.length_append, List.length_singleton, picked_succ, List.filter_append, List.map_append, ih F t fun i d e => h i d (by rw [List.getElem?_append_left (List.getElem?_eq_some_iff.mp e).1]; exact e)]
    obtain ⟨h1, h2⟩ := h l.length a (by simp)
    rw [h1]
    cases ht : t a with
    | true => rw [if_pos rfl, h2 ht, List.filter_cons, if_pos ht] <;> rfl
    | false => rw [if_neg Bool.false_ne_true, List.filter_cons, if_neg (by rw [ht]; exact Bool.false_ne_true)]; simp
end
end Ah
namespace Ah
open PySem PySem.Spec PyProof.Rows L2 Evl
section
variable {K : PySem.W.Frag} {σ : L2.St} {G : Hp} {tl te : TE} {tt : TT} {g : TG} {ds : List PyData} {vs : List Nat} {t : PyData → Bool} {F : PyData → PyData}
theorem lc_end {H H1 H' : Hp} {G G1 : Hp} {D : Addr} {es : List PyData} {Q : VK} (n1 : Nw H G G1 H1) (e1 : Ex H H1) (hD : H1 D = none) (w : CW K H1 G1 D es H')
    (k : ∀ v G' H', Ex H H' → Nw H G G' H' → (MP.l K es).p v G' → Q v H') : Q (.ref D) H' := by
  obtain ⟨G', n2, e2, p⟩ := cw_end hD (fresh_back n1.le hD) w
  exact k _ G' H' (e1.trans e2) (n1.trans e1 n2) p
theorem c_lcL (hl : Cm (tl σ) G (MP.d K (.list ds))) (hn : ds.length ≤ 90000)
    (turn : ∀ v d G1, Ex G G1 → d ∈ ds → Dp K G1 v d → CTurn K σ vs g tt te (t d) (F d) v G1) : Cm (tLc (iSeq K tl) g tt te vs σ) G (MP.l K ((ds.filter t).map F)) := fun H e Q k =>
  hl H e _ fun x G1 H1 e1 n1 p1 => by
    obtain ⟨a, xs, rfl, h1, h2⟩ := dp_lst p1
    have hlen := DpAll.length h2
    refine .inl ⟨a, rfl, ⟨xs, ex_l n1.le h1⟩, fun D hD => ?_⟩
    refine lc_list (xs := xs) (fun i H' => CW K H1 G1 D (picked (fun i => t (ds.getD i .none)) (fun i => F (ds.getD i .none)) i) H') (cw_start n1.le hD) ?_ ?_ ?_
    · rintro i H' _ ⟨G', acc, _, n, _⟩
      exact ex_l (n.ex.trans n.le) h1
    · intro i x H' hx w
      obtain ⟨d, hd, pd⟩ := DpAll.at_ h2 hx
      have eg : ds.getD i .none = d := by rw [List.getD_eq_getElem?_getD, hd] <;> rfl
      rw [picked_succ, eg]
      have hi := (List.getElem?_eq_some_iff.mp hd).1
      refine cw_turn hD w (by have := picked_len (fun i => t (ds.getD i .none)) (fun i => F (ds.getD i .none)) i; omega) fun G' eG => ?_
      exact turn x d G' (n1.ex.trans eG) (List.mem_of_getElem? hd) (Dp.up eG _ _ pd)
    · intro H' w
      rw [hlen, picked_all _ _ ds F t fun i d e => by
        have eg : ds.getD i .none = d := by rw [List.getD_eq_getElem?_getD, e] <;> rfl
        exact ⟨congrArg t eg, fun _ => congrArg F eg⟩] at w
      exact lc_end n1 e1 hD w k
theorem c_lcT (hl : Cm (tl σ) G (MP.d K (.tuple ds))) (hn : ds.length ≤ 90000)
    (turn : ∀ v d G1, Ex G G1 → d ∈ ds → Dp K G1 v d → CTurn K σ vs g tt te (t d) (F d) v G1) : Cm (tLc (iSeq K tl) g tt te vs σ) G (MP.l K ((ds.filter t).map F)) := fun H e Q k =>
  hl H e _ fun x G1 H1 e1 n1 p1 => by
    obtain ⟨a, xs, rfl, h1, h2⟩ := dp_tup p1
    have hlen := DpAll.length h2
    refine .inr ⟨a, rfl, ⟨xs, ex_t n1.le h1⟩, fun D hD => ?_⟩
    refine lc_tup (xs := xs) (fun i H' => CW K H1 G1 D (picked (fun i => t (ds.getD i .none)) (fun i => F (ds.getD i .none)) i) H') (cw_start n1.le hD) ?_ ?_ ?_
    · rintro i H' _ ⟨G', acc, _, n, _⟩
      exact ex_t (n.ex.trans n.le) h1
    · intro i x H' hx w
      obtain ⟨d, hd, pd⟩ := DpAll.at_ h2 hx
      have eg : ds.getD i .none = d := by rw [List.getD_eq_getElem?_getD, hd] <;> rfl
      rw [picked_succ, eg]
      have hi := (List.getElem?_eq_some_iff.mp hd).1
      refine cw_turn hD w (by have := picked_len (fun i => t (ds.getD i .none)) (fun i => F (ds.getD i .none)) i; omega) fun G' eG => ?_
      exact turn x d G' (n1.ex.trans eG) (List.mem_of_getElem? hd) (Dp.up eG _ _ pd)
    · intro H' w
      rw [hlen, picked_all _ _ ds F t fun i d e => by
        have eg : ds.getD i .none = d := by rw [List.getD_eq_getElem?_getD, e] <;> rfl
        exact ⟨congrArg t eg, fun _ => congrArg F eg⟩] at w
      exact lc_end n1 e1 hD w k
/-- over range(n) -/
theorem c_lcR {ta : TA} {n : Nat} {t : Nat → Bool} {F : Nat → PyData} (ha : Cm (ta σ) G (MP.ds K [.int n])) (hn : n ≤ 90000)
    (turn : ∀ (i : Nat) G1, Ex G G1 → i < n → CTurn K σ vs g tt te (t i) (F i) (.int i) G1) : Cm (tLc (iRng1 ta) g tt te vs σ) G (MP.l K (((List.range n).filter t).map F)) := fun H e Q k =>
  ha H e _ fun xs G1 H1 e1 n1 p1 => by
    cases p1 with
    | cons pa pb =>
      cases pb
      rw [dp_int pa]
      refine ⟨n, rfl, by omega, by omega, fun D hD => ?_⟩
      have hn' : (n : Int).toNat = n := by omega
      rw [hn']
      refine lc_range (lo := 0) (n := n) (fun i H' => CW K H1 G1 D (picked t F i) H') (cw_start n1.le hD) (fun i H' hi w => ?_) fun H' w => lc_end n1 e1 hD w k
      have e0 : (0 : Int) + (i : Int) = (i : Int) := Int.zero_add _
      rw [picked_succ, e0]
      exact cw_turn hD w (by have := picked_len t F i; omega) fun G' eG => turn i G' (n1.ex.trans eG) hi
/-- the target one name -/
theorem ct_name {j : Nat} {q : Bool} {d : PyData} {v : V} {G1 : Hp} (hw : wipe ((wipe σ vs).set j (some v)) vs = wipe σ vs) (ht : Cm (tt ((wipe σ vs).set j (some v))) G1 (MP.eq q)) (he : q = true → Cm (te ((wipe σ vs).set j (some v))) G1 (MP.d K d)) :
    CTurn K σ vs (gName j) tt te q d v G1 := ⟨_, hw, fun H1 _ Q k => k, ht, he⟩
/-- the target a pair of names -/
theorem ct_pair {i j : Nat} {q : Bool} {d : PyData} {v x y : V} {G1 : Hp} {a : Addr} (hv : v = .ref a) (ha : SqT K G1 a [x, y]) (hw : wipe (((wipe σ vs).set i (some x)).set j (some y)) vs = wipe σ vs) (ht : Cm (tt (((wipe σ vs).set i (some x)).set j (some y))) G1 (MP.eq q))
    (he : q = true → Cm (te (((wipe σ vs).set i (some x)).set j (some y))) G1 (MP.d K d)) : CTurn K σ vs (gTup K 2 (gCons (gName i) (gCons (gName j) gNil))) tt te q d v G1 :=
  ⟨_, hw, fun H1 e Q k => ⟨a, [x, y], hv, ex_t e ha, rfl, _, _, rfl, _, _, rfl, rfl, k⟩, ht, he⟩
theorem c_yes : Cm (tYes σ) G (MP.eq true) := Cm.ret (P := MP.eq true) rfl
theorem filter_yes (ds : List PyData) : ds.filter (fun _ => true) = ds := List.filter_eq_self.mpr fun _ _ => rfl
/-- all(..), any(..) of truth values -/
theorem dps_bools : ∀ {bs : List Bool} {xs : List V} {G : Hp}, DpAll K G xs (bs.map PyData.bool) → xs = bs.map V.bl
  | [], _, _, h => by cases h; rfl
  | b :: bs, _, _, h => by
    cases h with
    | cons h1 h2 => rw [dp_bl h1, dps_bools h2] <;> rfl
theorem c_all {ta : TE} {bs : List Bool} (ha : Cm (ta σ) G (MP.l K (bs.map PyData.bool))) : Cm (tCB (rAll K) (tCons ta tNil) σ) G (MP.d K (.bool (bs.all id))) :=
  c_cb1 ha fun x G1 e1 p => by
    obtain ⟨a, xs, rfl, h1, h2⟩ := p
    rw [dps_bools h2] at h1
    exact c_valN (z := .bl (bs.all id)) (fun H eh Q h => ⟨a, bs, rfl, SqL.of (eh _ _ h1), h⟩) (.bl _)
theorem c_any {ta : TE} {bs : List Bool} (ha : Cm (ta σ) G (MP.l K (bs.map PyData.bool))) : Cm (tCB (rAny K) (tCons ta tNil) σ) G (MP.d K (.bool (bs.any id))) :=
  c_cb1 ha fun x G1 e1 p => by
    obtain ⟨a, xs, rfl, h1, h2⟩ := p
    rw [dps_bools h2] at h1
    exact c_valN (z := .bl (bs.any id)) (fun H eh Q h => ⟨a, bs, rfl, SqL.of (eh _ _ h1), h⟩) (.bl _)
end
end Ah
/-! Ah8: equality with dicts within; own ==. -/
namespace Ah
open PySem PySem.Spec PyProof.Rows L2 Evl

/-- two dicts of texts by texts -/
def kvEq (l m : List (Str × Str)) : Bool := l.length == m.length && l.all fun p => (m.lookup p.1).isSome && decide (l.lookup p.1 = m.lookup p.1)
theorem valV_kv (x : Str) : ∀ l : List (Str × Str), valV (kvD l) (Sum.inr x : Key) = (l.lookup x).map V.str
  | [] => rfl
  | q :: r => by
    have ih := valV_kv x r
    unfold valV at ih ⊢
    unfold kvD at ih ⊢
    rw [List.map_cons, List.find?_cons, List.lookup_cons]
    by_cases h : q.1 = x
    · subst h
      rw [decide_eq_true rfl, beq_self_eq_true] <;> rfl
    · rw [decide_eq_false fun z => h (Sum.inr.inj z), beq_eq_false_iff_ne.mpr fun z => h z.symm]
      exact ih
section
variable {X : Cx} {pins : List (Addr × Obj)} {σ : L2.St} {H : Hp} {s : Shared}
theorem tree_data {n : Nat} (hn : 64 ≤ n) (I : Inv X pins σ H s) {x y : V} {v u : Value} {d e : PyData} (hx : Dp X.K H x d) (hy : Dp X.K H y e) (rx : RelV x v) (ry : RelV y u) (sd : SeqAt.shaped d = true) (se : SeqAt.shaped e = true) : PySem.W.EqTree X.prog X.w s n v u (PyData.eqv d e) := by
  obtain ⟨as, r1⟩ := Dp.reads I d x v hx rx
  obtain ⟨bs, r2⟩ := Dp.reads I e y u hy ry
  exact .leaf fun A hu => SeqAt.eqAt_reads d e A s v u as bs r1 r2 (SeqAt.canLay_of_shaped sd) (SeqAt.canLay_of_shaped se) (SeqAt.room_of_shaped sd (by omega))
theorem relO_some {v : Option V} {u : Option Value} (r : RelO v u) : u.isSome = v.isSome := by
  cases v with
  | none => rw [r.none_of] <;> rfl
  | some x => obtain ⟨y, e, _⟩ := r.some_of; rw [e] <;> rfl
theorem lookup_at : ∀ {l : List (Str × Str)} {j : Nat} {q : Str × Str}, (l.map (·.1)).Nodup → l[j]? = some q → l.lookup q.1 = some q.2
  | [], _, _, _, e => by simp at e
  | a :: r, 0, q, _, e => by
    have e : a = q := by simpa using e
    subst e
    rw [List.lookup_cons, beq_self_eq_true]
  | a :: r, j + 1, q, hn, e => by
    have hn : (a.1 :: r.map (·.1)).Nodup := hn
    obtain ⟨h1, h2⟩ := List.nodup_cons.mp hn
    have e : r[j]? = some q := by simpa using e
    have hne : ¬ q.1 = a.1 := fun z => h1 (List.mem_map.mpr ⟨q, List.mem_of_getElem? e, z⟩)
    rw [List.lookup_cons, beq_eq_false_iff_ne.mpr hne]
    exact lookup_at h2 e
theorem all_kv {m : List (Str × Str)} {vb : List (Key × Value)} (rb : KV (kvD m) vb) (f : Str → Bool) : ∀ {k : List (Str × Str)} {va : List (Key × Value)}, KV (kvD k) va →
    (va.all fun p => (valueAt vb p.1).isSome && (match p.1 with | .inr x => f x | .inl _ => false)) = k.all fun p => (m.lookup p.1).isSome && f p.1
  | [], _, h => by cases h; rfl
  | q :: r, _, h => by
    cases h with
    | @cons a b l1 l2 h1 h2 =>
      obtain ⟨bk, bv⟩ := b
      obtain ⟨h3, h4⟩ := h1
      have h3 : Sum.inr q.1 = bk := h3
      subst h3
      rw [List.all_cons, List.all_cons, all_kv (k := r) rb f h2, relO_some (rb.val (Sum.inr q.1)), valV_kv, Option.isSome_map]
theorem tree_dict (I : Inv X pins σ H s) {a b : Addr} {l m : List (Str × Str)} (ha : H a = some (.dK (kvD l))) (hb : H b = some (.dK (kvD m))) (hab : a ≠ b) (hl : (l.map (·.1)).Nodup) : PySem.W.EqTree X.prog X.w s 65 (.ref a) (.ref b) (kvEq l m) := by
  obtain ⟨_, ya, va, ra, da⟩ := (show ObjOk X.prog X.w H s.heap a (.dK (kvD l)) from I.hok a _ ha)
  obtain ⟨_, yb, vb, rb, db⟩ := (show ObjOk X.prog X.w H s.heap b (.dK (kvD m)) from I.hok b _ hb)
  have t := PySem.W.EqTree.dicts (n := 64) (e := fun k => match k with | .inr x => decide (l.lookup x = m.lookup x) | .inl _ => false) hab ya yb da db fun k v y hm hv => by
    obtain ⟨j, hj⟩ := List.getElem?_of_mem hm
    obtain ⟨z, hz, rz⟩ := KV.at' ra hj
    unfold kvD at hz
    rw [List.getElem?_map] at hz
    cases hq : l[j]? with
    | none => rw [hq] at hz; cases hz
    | some q =>
      rw [hq] at hz
      have hz : (Sum.inr q.1, V.str q.2) = (k, z) := Option.some.inj hz
      cases hz
      have e1 : l.lookup q.1 = some q.2 := by
        exact lookup_at hl hq
      have r2 : RelO (valV (kvD m) (Sum.inr q.1)) (some y) := by rw [← hv]; exact rb.val _
      rw [valV_kv] at r2
      cases e2 : m.lookup q.1 with
      | none => rw [e2] at r2; exact r2.elim
      | some w =>
        rw [e2] at r2
        obtain ⟨t1, rfl⟩ := (show ∃ t, v = Value.str q.2 t from rz)
        obtain ⟨t2, rfl⟩ := (show ∃ t, y = Value.str w t from r2)
        show PySem.W.EqTree X.prog X.w s 64 _ _ (decide (l.lookup q.1 = m.lookup q.1))
        rw [e1, e2]
        refine .leaf fun A hu prog' w' E' Q' hq' => wpAny_eqBool_str ?_
        have e3 : decide (some q.2 = some w) = decide (q.2 = w) := by simp
        rw [e3] at hq'
        exact hq'
  have e : (va.length == vb.length && va.all fun p => (valueAt vb p.1).isSome && (match p.1 with | .inr x => decide (l.lookup x = m.lookup x) | .inl _ => false)) = kvEq l m := by
    have h1 : (kvD l).length = va.length := Paired.length ra
    have h2 : (kvD m).length = vb.length := Paired.length rb
    unfold kvEq
    rw [all_kv rb _ ra, ← h1, ← h2]
    unfold kvD
    rw [List.length_map, List.length_map]
  rw [← e]
  exact t
theorem kvEq_self {l : List (Str × Str)} (hl : (l.map (·.1)).Nodup) : kvEq l l = true := by
  unfold kvEq
  rw [beq_self_eq_true, Bool.true_and]
  refine List.all_eq_true.mpr fun q hq => ?_
  obtain ⟨j, hj⟩ := List.getElem?_of_mem hq
  rw [lookup_at hl hj, decide_eq_true rfl] <;> rfl
end
/-- (data, dict, data) == (data, dict, data) -/
def rEq3 (K : PySem.W.Frag) : R2 := fun x y H Q => ∃ (a b p q : Addr) (r1 w1 r2 w2 : V) (dr dw er ew : PyData) (l m : List (Str × Str)), x = .ref a ∧ y = .ref b ∧ SqT K H a [r1, .ref p, w1] ∧ SqT K H b [r2, .ref q, w2] ∧
  (Dp K H r1 dr ∧ Dp K H w1 dw ∧ Dp K H r2 er ∧ Dp K H w2 ew) ∧ (SeqAt.shaped dr = true ∧ SeqAt.shaped dw = true ∧ SeqAt.shaped er = true ∧ SeqAt.shaped ew = true) ∧
  H p = some (.dK (kvD l)) ∧ H q = some (.dK (kvD m)) ∧ (l.map (·.1)).Nodup ∧ Q (.bl (PyData.eqv dr er && (kvEq l m && PyData.eqv dw ew))) H
theorem kvD_inj : ∀ {l m : List (Str × Str)}, kvD l = kvD m → l = m
  | [], [], _ => rfl
  | [], _ :: _, h => nomatch h
  | _ :: _, [], h => nomatch h
  | a :: r, b :: t, h => by
    have h : (Sum.inr a.1, V.str a.2) :: kvD r = (Sum.inr b.1, V.str b.2) :: kvD t := h
    injection h with h1 h2
    obtain ⟨a1, a2⟩ := a
    obtain ⟨b1, b2⟩ := b
    simp only [Prod.mk.injEq, Sum.inr.injEq, V.str.injEq] at h1
    rw [h1.1, h1.2, kvD_inj h2]
theorem op_eq3 {X : Cx} (hu : X.A.units + 66 < cLine) : OpR X (compareOp .Eq) (rEq3 X.K) := by
  intro pins s σ H x y v u Q I rx ry h
  obtain ⟨a, b, p, q, r1, w1, r2, w2, dr, dw, er, ew, l, m, rfl, rfl, ha, hb, ⟨h1, h2, h3, h4⟩, ⟨s1, s2, s3, s4⟩, hp, hq, hn, k⟩ := h
  obtain rfl : v = Value.ref a := rx
  obtain rfl : u = Value.ref b := ry
  obtain ⟨us, rv, ta, _⟩ := I.tuple ha
  obtain ⟨ws, rw', tb, _⟩ := I.tuple hb
  cases rv with
  | cons v1 rv => cases rv with
    | cons v2 rv => cases rv with
      | cons v3 rv =>
        cases rv
        cases rw' with
        | cons u1 rw' => cases rw' with
          | cons u2 rw' => cases rw' with
            | cons u3 rw' =>
              cases rw'
              rename_i y1 y2 y3 z1 z2 z3
              obtain rfl : y2 = Value.ref p := v2
              obtain rfl : z2 = Value.ref q := u2
              have t2 : PySem.W.EqTree X.prog X.w s 65 (.ref p) (.ref q) (kvEq l m) := by
                by_cases e : p = q
                · subst e
                  rw [hp] at hq
                  have e2 : l = m := kvD_inj (by injection hq with hq; injection hq)
                  subst e2
                  rw [kvEq_self hn]
                  exact .same
                · exact tree_dict I hp hq e hn
              have t1 := (tree_data (n := 65) (by decide) I h1 h3 v1 u1 s1 s3)
              have t3 := (tree_data (n := 65) (by decide) I h2 h4 v3 u3 s2 s4)
              refine PySem.W.eq_tuplesT (n := 65) (e := fun j => match j with | 0 => PyData.eqv dr er | 1 => kvEq l m | _ => PyData.eqv dw ew) ta tb (fun j g1 g2 => ?_) (by omega) (fin_bl I k ?_)
              · match j, g1, g2 with
                | 0, _, _ => exact t1
                | 1, _, _ => exact t2
                | 2, _, _ => exact t3
                | j + 3, g1, _ => exact absurd g1 (by simp)
              · show (PyData.eqv dr er && (kvEq l m && PyData.eqv dw ew)) = ((PyData.eqv dr er && (kvEq l m && (PyData.eqv dw ew && true))) && true)
                rw [Bool.and_true, Bool.and_true]
/-! ### an own == -/
def rEqO (K : PySem.W.Frag) (C : Addr) (sp : Sp) : R2 := fun x y H Q => ∃ a dx fs b, x = .ref a ∧ y = .ref b ∧ H a = some (.ins C dx fs) ∧ ((∃ dy gs, H b = some (.ins C dy gs)) ∨ ∃ xs, H b = some (.lst xs)) ∧ sp [.ref a, .ref b] H (fun v H' => (∃ k, v = .bl k) ∧ Q v H') E0
theorem op_own {X : Cx} {CX : CXT} {n : Nat} {C f : Addr} {fd : FuncData} {ps : List Str} {sp : Sp} (F : FnOk X.prog X.w X.K X.mg X.base CX n f fd ps sp) (hr : Room n X.A) (hs : PySem.W.findIn X.K (.ref C) "__eq__" = some (some (.ref f))) (hf : PySem.W.isFn X.K (.ref f) = true)
    (hl : PySem.W.notFirst X.K C (.type "list") = true) (hb : Binds X.K fd ps []) (hx : Passes CX X E0) : OpR X (compareOp .Eq) (rEqO X.K C sp) := by
  intro pins s σ H x y v u Q I rx ry h
  obtain ⟨a, dx, fs, b, rfl, rfl, ha, hb', hsp⟩ := h
  obtain rfl : v = Value.ref a := rx
  obtain rfl : u = Value.ref b := ry
  obtain ⟨mA, J, _⟩ := ins_get I.hok ha
  obtain ⟨od, J, _⟩ := J.look
  obtain ⟨m, hF⟩ := I.fr
  have goal : wpAny (model X.prog X.w) X.A (call (.ref f) [.ref a, .ref b]) (PySem.W.CmpBack (EP X pins σ Q)) X.xe s := by
    have l2 := F.len _ _ _ _ hsp
    have r2 : Vals [V.ref a, V.ref b] [Value.ref a, Value.ref b] := .cons rfl (.cons rfl .nil)
    have z := run_fn (Q := fun v H' => (∃ k, v = .bl k) ∧ Q v H') F hr hb .nil hx I r2 (by rw [List.append_nil]; exact hsp)
    refine thn z fun u s' ⟨v', H', I', rv, ⟨k, hk⟩, q⟩ => ?_
    subst hk
    obtain rfl : u = Value.bool k := rv
    exact ⟨.bl k, H', I', rfl, q⟩
  show wpAny (model X.prog X.w) X.A (richCompare .Eq (.ref a) (.ref b)) (EP X pins σ Q) X.xe s
  rcases hb' with ⟨dy, gs, hb'⟩ | ⟨xs, hb'⟩
  · obtain ⟨mB, J', _⟩ := ins_get I.hok hb'
    obtain ⟨od', J', _⟩ := J'.look
    exact PySem.W.cmp_K (op := .Eq) (tb := .ref C) hr.units0 hF I.ok.mod.kin J J'.type (by simp [PySem.W.notFirst]) hs hf goal
  · obtain ⟨_, its, n', _, e⟩ := (show ObjOk X.prog X.w H s.heap b (.lst xs) from I.hok b _ hb')
    exact PySem.W.cmp_K (op := .Eq) (tb := .type "list") hr.units0 hF I.ok.mod.kin J ((PySem.W.Looks.ld e).andThen .now) hl hs hf goal
end Ah
/-! Ah9: dicts of texts as data; classes made by their names. -/
namespace Ah
open PySem PySem.Spec PyProof.Rows L2 Evl

section
variable {K : PySem.W.Frag} {w : World} {σ : L2.St} {G : Hp} {td tk te : TE} {P P1 P2 : MP V} {l : List (Str × Str)} {x y : Str}
/-- a dict of texts by texts -/
abbrev MP.dk (l : List (Str × Str)) : MP V := ⟨fun v G => ∃ p, v = .ref p ∧ G p = some (.dK (kvD l)), fun e h => let ⟨p, h1, h2⟩ := h; ⟨p, h1, e _ _ h2⟩⟩
/-- a written dict -/
abbrev MP.kd (K : PySem.W.Frag) (w : World) (kvs : List (Str × V)) : MP V := ⟨fun v _ => ∃ p, v = .ref p ∧ KD K w p kvs, fun _ h => h⟩
theorem c_dget (h1 : Cm (td σ) G (MP.dk l)) (h2 : Cm (tk σ) G (MP.d K (.str x))) (hl : l.lookup x = some y) : Cm (tDGet td tk σ) G (MP.d K (.str y)) :=
  Cm.bind (t := td σ) (u := fun (x : V) (H1 : Hp) (Q : VK) => tk σ H1 fun y H2 => ∃ a v, x = .ref a ∧ DGet H2 a y (some v) ∧ Q v H2) h1 fun v G1 e1 p1 =>
    Cm.bind (t := tk σ) (u := fun (y : V) (H2 : Hp) (Q : VK) => ∃ a z, v = .ref a ∧ DGet H2 a y (some z) ∧ Q z H2) (h2.up e1) fun u G2 e2 p2 => by
      obtain ⟨p, rfl, hp⟩ := p1
      rw [dp_str p2]
      intro H eh Q hq
      have hd := DGet.k (k := Sum.inr x) (eh _ _ (e2 _ _ hp))
      rw [valV_kv, hl] at hd
      exact ⟨p, .str y, rfl, hd, hq _ G2 H (Ex.refl H) (Nw.refl eh) (.str y)⟩
theorem c_din {b : Bool} (h1 : Cm (tk σ) G (MP.d K (.str x))) (h2 : Cm (td σ) G (MP.dk l)) (hl : (l.lookup x).isSome = b) : Cm (tDIn tk td σ) G (MP.d K (.bool b)) :=
  Cm.bind (t := tk σ) (u := fun (y : V) (H1 : Hp) (Q : VK) => td σ H1 fun x H2 => ∃ a o, x = .ref a ∧ DGet H2 a y o ∧ Q (.bl o.isSome) H2) h1 fun v G1 e1 p1 =>
    Cm.bind (t := td σ) (u := fun (x : V) (H2 : Hp) (Q : VK) => ∃ a o, x = .ref a ∧ DGet H2 a v o ∧ Q (.bl o.isSome) H2) (h2.up e1) fun u G2 e2 p2 => by
      obtain ⟨p, rfl, hp⟩ := p2
      rw [dp_str p1]
      intro H eh Q hq
      have hd := DGet.k (k := Sum.inr x) (eh _ _ hp)
      rw [valV_kv] at hd
      refine ⟨p, _, rfl, hd, ?_⟩
      rw [Option.isSome_map, hl]
      exact hq _ G2 H (Ex.refl H) (Nw.refl eh) (.bl b)
/-- of written dicts -/
theorem c_ixW {kvs : List (Str × V)} {v : V} (h1 : Cm (td σ) G (MP.kd K w kvs)) (h2 : Cm (tk σ) G (MP.d K (.str x))) (hl : kvs.lookup x = some v) (hp : ∀ G', Ex G G' → P.p v G') : Cm (tOp (rIxW K w) td tk σ) G P :=
  c_op h1 h2 fun a b G1 e1 p q => by
    obtain ⟨p, rfl, D⟩ := p
    rw [dp_str q]
    exact c_val (z := v) (fun H eh Q h => ⟨p, x, kvs, v, rfl, rfl, D, hl, h⟩) (hp G1 e1)
theorem c_inW {kvs : List (Str × V)} {b : Bool} (h1 : Cm (tk σ) G (MP.d K (.str x))) (h2 : Cm (td σ) G (MP.kd K w kvs)) (hl : (kvs.lookup x).isSome = b) : Cm (tOp (rInW K w) tk td σ) G (MP.d K (.bool b)) :=
  c_op h1 h2 fun a c G1 e1 ps q => by
    obtain ⟨p, rfl, D⟩ := q
    rw [dp_str ps]
    refine c_val (z := .bl b) (fun H eh Q h => ⟨p, x, kvs, rfl, rfl, D, ?_⟩) (.bl b)
    rw [hl]
    exact h
theorem c_lenW {kvs : List (Str × V)} (h1 : Cm (td σ) G (MP.kd K w kvs)) : Cm (tCB (rLenW K w) (tCons td tNil) σ) G (MP.d K (.int kvs.length)) :=
  c_cb1 h1 fun x G1 e1 p => by
    obtain ⟨p, rfl, D⟩ := p
    exact c_valN (z := .int kvs.length) (fun H eh Q h => ⟨p, kvs, rfl, D, h⟩) (.int _)
theorem dps_str : ∀ (xs : List Str) (G : Hp), DpAll K G (xs.map V.str) (xs.map PyData.str)
  | [], _ => .nil
  | x :: xs, G => .cons (.str x) (dps_str xs G)
theorem c_listW {kvs : List (Str × V)} (h1 : Cm (td σ) G (MP.kd K w kvs)) : Cm (tCB (rListW K w) (tCons td tNil) σ) G (MP.l K ((kvs.map (·.1)).map PyData.str)) :=
  c_cb1 h1 fun x G1 e1 p => by
    obtain ⟨p, rfl, D⟩ := p
    refine c_newV (o := .lst (kvs.map fun q => V.str q.1)) (fun H eh Q h => ⟨p, kvs, rfl, D, h⟩) fun p hp => ⟨p, _, rfl, upd_same, ?_⟩
    have z := dps_str (K := K) (kvs.map (·.1)) (upd G1 p (.lst (kvs.map fun q => V.str q.1)))
    rwa [List.map_map] at z
/-- len(d) -/
def rLenD : List V → Hp → VK → Prop := fun xs H Q => ∃ a kvs, xs = [V.ref a] ∧ H a = some (.dK kvs) ∧ Q (.int kvs.length) H
theorem c_lenD (h1 : Cm (td σ) G (MP.dk l)) : Cm (tCB rLenD (tCons td tNil) σ) G (MP.d K (.int l.length)) :=
  c_cb1 h1 fun x G1 e1 p => by
    obtain ⟨p, rfl, hp⟩ := p
    refine c_valN (z := .int (kvD l).length) (fun H eh Q h => ⟨p, _, rfl, eh _ _ hp, h⟩) ?_
    unfold kvD
    rw [List.length_map]
    exact .int _
end
theorem call_lenK {X : Cx} : CallR X (.builtin "len") rLenD := call_lenD
/-! ### classes made by name -/
structure Mak (P : Program) (w : World) (K : PySem.W.Frag) (mg : Str → Option Value) (base : Heap) (CX : CXT) (k : Nat) (x : Str) (C : Addr) (sp : Sp) : Prop where
  ex : ∃ (f : Addr) (fd : FuncData) (ps : List Str), Mk K C f ∧ FnOk P w K mg base CX k f fd ps sp ∧ mg x = some (.ref C) ∧ Binds K fd ps []
theorem pe_mak {X : Cx} {k j : Nat} {x : Str} {C : Addr} {sp : Sp} {p pos : Pos} {e : Expr} {es : List Expr} {t : TA} (c : Mak X.prog X.w X.K X.mg X.base CX0 k x C sp) (hr : Room j X.A) (hk : k + 1 ≤ j) (hg : Gl X x) (ha : PA X (e :: es) t)
    (hdb : (x == ("__debug__" : Str)) = false := by decide) (he : starEach (e :: es) X.env = (false, eval e X.env) :: starEach es X.env := by rfl) (hpl : (backTo pos (starEach es X.env)).any (·.1) = false := by rfl) :
    PE X (.Call (.Name x p) (e :: es) [] pos) (tMake C sp [] E0 t) := by
  obtain ⟨f, fd, ps, M, F, hm, b⟩ := c.ex
  exact pe_make M F (hr.mono hk) hg hm b .nil pass0 ha hdb he hpl
end Ah
/-! Ah10: what a book asks of its rows, rule and words. -/
namespace Ah
open PySem PySem.Spec PyProof.Rows L2 Evl

def kvParts : List (Str × List Str) := [("again", ["skip", "twice"]), ("editions", ["moves", "stays"]), ("fill", ["beside", "fills"]), ("joined", ["moves", "stays"]), ("missing", ["none", "place", "waits"]), ("swept", ["all", "empty"])]
def kvRows : List (Str × Row) := [("a1", (false, false)), ("a2", (false, true)), ("b1", (true, false)), ("b2", (true, true))]
/-- what the top has written -/
structure Ax (K : PySem.W.Frag) (w : World) (c : Ad) : Prop where
  keys : ∀ G, Dp K G (.ref c.KEYS) (.tuple [.str "a", .str "b"])
  wds : ∀ G, Dp K G (.ref c.WORDS) (.tuple [.str "join", .str "sweep"])
  parts : ∃ vs : List V, KD K w c.PARTS ((kvParts.map (·.1)).zip vs) ∧ vs.length = 6 ∧ ∀ G, DpAll K G vs (kvParts.map fun q => .tuple (q.2.map PyData.str))
  cl : Cls K c.Book
  nW : NoAttr K c.Book "wanted"
  nT : NoAttr K c.Book "terms"
  nK : NoAttr K c.Book "kinds"

/-! ### words, integers, editions -/
def isStrD : PyData → Bool
  | .str _ => true
  | _ => false
def isIntD : PyData → Bool
  | .int _ => true
  | .bool _ => true
  | _ => false
def isBoolD : PyData → Bool
  | .bool _ => true
  | _ => false
def isTupD : PyData → Bool
  | .tuple _ => true
  | _ => false
def isListD : PyData → Bool
  | .list _ => true
  | _ => false
theorem kit_str (d : PyData) : kitB (tyD d) "str" = some (isStrD d) := match d with
  | .none => (by decide +kernel : kitB "NoneType" "str" = some false)
  | .bool _ => (by decide +kernel : kitB "bool" "str" = some false)
  | .int _ => (by decide +kernel : kitB "int" "str" = some false)
  | .str _ => (by decide +kernel : kitB "str" "str" = some true)
  | .list _ => (by decide +kernel : kitB "list" "str" = some false)
  | .tuple _ => (by decide +kernel : kitB "tuple" "str" = some false)
  | .dict _ => (by decide +kernel : kitB "dict" "str" = some false)
theorem kit_int (d : PyData) : kitB (tyD d) "int" = some (isIntD d) := match d with
  | .none => (by decide +kernel : kitB "NoneType" "int" = some false)
  | .bool _ => (by decide +kernel : kitB "bool" "int" = some true)
  | .int _ => (by decide +kernel : kitB "int" "int" = some true)
  | .str _ => (by decide +kernel : kitB "str" "int" = some false)
  | .list _ => (by decide +kernel : kitB "list" "int" = some false)
  | .tuple _ => (by decide +kernel : kitB "tuple" "int" = some false)
  | .dict _ => (by decide +kernel : kitB "dict" "int" = some false)
theorem kit_bool (d : PyData) : kitB (tyD d) "bool" = some (isBoolD d) := match d with
  | .none => (by decide +kernel : kitB "NoneType" "bool" = some false)
  | .bool _ => (by decide +kernel : kitB "bool" "bool" = some true)
  | .int _ => (by decide +kernel : kitB "int" "bool" = some false)
  | .str _ => (by decide +kernel : kitB "str" "bool" = some false)
  | .list _ => (by decide +kernel : kitB "list" "bool" = some false)
  | .tuple _ => (by decide +kernel : kitB "tuple" "bool" = some false)
  | .dict _ => (by decide +kernel : kitB "dict" "bool" = some false)
theorem kit_tup (d : PyData) : kitB (tyD d) "tuple" = some (isTupD d) := match d with
  | .none => (by decide +kernel : kitB "NoneType" "tuple" = some false)
  | .bool _ => (by decide +kernel : kitB "bool" "tuple" = some false)
  | .int _ => (by decide +kernel : kitB "int" "tuple" = some false)
  | .str _ => (by decide +kernel : kitB "str" "tuple" = some false)
  | .list _ => (by decide +kernel : kitB "list" "tuple" = some false)
  | .tuple _ => (by decide +kernel : kitB "tuple" "tuple" = some true)
  | .dict _ => (by decide +kernel : kitB "dict" "tuple" = some false)
theorem kit_list (d : PyData) : kitB (tyD d) "list" = some (isListD d) := match d with
  | .none => (by decide +kernel : kitB "NoneType" "list" = some false)
  | .bool _ => (by decide +kernel : kitB "bool" "list" = some false)
  | .int _ => (by decide +kernel : kitB "int" "list" = some false)
  | .str _ => (by decide +kernel : kitB "str" "list" = some false)
  | .list _ => (by decide +kernel : kitB "list" "list" = some true)
  | .tuple _ => (by decide +kernel : kitB "tuple" "list" = some false)
  | .dict _ => (by decide +kernel : kitB "dict" "list" = some false)
/-- d is one of some words -/
def isWordD (d : PyData) (ws : List Str) : Bool := match d with
  | .str s => ws.any fun x => x == s
  | _ => false
def isIntIn (d : PyData) (lo hi : Int) : Bool := match d with
  | .int i => decide (lo ≤ i) && decide (i ≤ hi)
  | _ => false
def isEdD (d : PyData) (least : Int) : Bool := match d with
  | .tuple [x, y] => isWordD x ["a", "b"] && isIntIn y least 2
  | _ => false
/-- a text that may be compared -/
def okS : PyData → Prop
  | .str s => SeqAt.shaped (.str s) = true
  | _ => True
structure WordIn where
  d : PyData
  ws : List Str
  tup : Bool
  ok : okS d
  shp : SeqAt.shaped (.list (ws.map PyData.str)) = true
section
variable {K : PySem.W.Frag} {w : World} {c : Ad} {σ : L2.St} {G : Hp}
abbrev MP.strs (K : PySem.W.Frag) (ws : List Str) (tup : Bool) : MP V := MP.d K (if tup then .tuple (ws.map PyData.str) else .list (ws.map PyData.str))
abbrev sp_is_word (K : PySem.W.Frag) (w : World) (c : Ad) : Sp := spOf (ι := WordIn) (fun i => [MP.d K i.d, MP.strs K i.ws i.tup]) (fun i => MP.d K (.bool (isWordD i.d i.ws)))
theorem len_is_word {vs : List V} {H : Hp} {Q : VK} {E : XK} (h : sp_is_word K w c vs H Q E) : vs.length = 2 := spOf_len (by intro i; rfl) vs H Q E h
def t_is_word (K : PySem.W.Frag) (w : World) (c : Ad) : TS :=
  (tRet (tAndV (tCB (rIsiG K) (tCons (tVar 0) (tCons (tC (.ty "str")) tNil))) (tOp (rInG K false) (tVar 0) (tVar 1))))
theorem any_word (ws : List Str) (s : Str) : ((ws.map PyData.str).any fun z => PyData.eqv z (.str s)) = ws.any fun x => x == s := by
  rw [List.any_map]
  rfl
theorem rd_is_word {vs : List V} {H : Hp} {Q : VK} {E : XK} (h : sp_is_word K w c vs H Q E) : t_is_word K w c (Dn Q) (vs.map some ++ List.replicate (2 - vs.length) none) H := by
  obtain ⟨⟨d, ws, tup, ok, shp⟩, G, e, ha, q⟩ := h
  cases ha with
  | cons p1 ha => cases ha with
    | cons p2 ha =>
      cases ha
      rename_i x y
      have h1 : Cm (tVar 0 [some x, some y]) G (MP.d K d) := c_var rfl p1
      have key : Cm (bd (t_is_word K w c) [some x, some y]) G (MP.d K (.bool (isWordD d ws))) := by
        refine b_ret ?_
        cases d with
        | str s =>
          refine c_to (c_andV (b := ws.any fun x => x == s) (c_isi h1 (kit_str _)) fun _ => ?_) (by rfl)
          cases tup with
          | true => exact c_to (c_inT h1 (c_var (P := MP.d K (.tuple (ws.map PyData.str))) rfl p2) ok shp) (by rw [if_neg Bool.false_ne_true, any_word])
          | false => exact c_to (c_inL h1 (c_var (P := MP.d K (.list (ws.map PyData.str))) rfl p2) ok shp) (by rw [if_neg Bool.false_ne_true, any_word])
        | _ => exact c_to (c_andV (b := false) (c_isi h1 (kit_str _)) fun z => absurd z Bool.false_ne_true) rfl
      exact key H e Q q
abbrev sp_is_integer (K : PySem.W.Frag) (w : World) (c : Ad) : Sp := spOf (ι := PyData × Int × Int) (fun i => [MP.d K i.1, MP.d K (.int i.2.1), MP.d K (.int i.2.2)]) (fun i => MP.d K (.bool (isIntIn i.1 i.2.1 i.2.2)))
theorem len_is_integer {vs : List V} {H : Hp} {Q : VK} {E : XK} (h : sp_is_integer K w c vs H Q E) : vs.length = 3 := spOf_len (by intro i; rfl) vs H Q E h
def t_is_integer (K : PySem.W.Frag) (w : World) (c : Ad) : TS :=
  (tRet (tAndV (tCB (rIsiG K) (tCons (tVar 0) (tCons (tC (.ty "int")) tNil))) (tAndV (tNotV (tCB (rIsiG K) (tCons (tVar 0) (tCons (tC (.ty "bool")) tNil)))) (tChain rLeI rLeI (tVar 1) (tVar 0) (tVar 2)))))
theorem rd_is_integer {vs : List V} {H : Hp} {Q : VK} {E : XK} (h : sp_is_integer K w c vs H Q E) : t_is_integer K w c (Dn Q) (vs.map some ++ List.replicate (3 - vs.length) none) H := by
  obtain ⟨⟨d, lo, hi⟩, G, e, ha, q⟩ := h
  cases ha with
  | cons p1 ha => cases ha with
    | cons p2 ha => cases ha with
      | cons p3 ha =>
        cases ha
        rename_i x y z
        have h1 : Cm (tVar 0 [some x, some y, some z]) G (MP.d K d) := c_var rfl p1
        have key : Cm (bd (t_is_integer K w c) [some x, some y, some z]) G (MP.d K (.bool (isIntIn d lo hi))) := by
          refine b_ret ?_
          cases d with
          | int i =>
            refine c_to (c_andV (b := decide (lo ≤ i) && decide (i ≤ hi)) (c_isi h1 (kit_int _)) fun _ => c_to (c_andV (b := decide (lo ≤ i) && decide (i ≤ hi)) (c_notV (c_isi h1 (kit_bool _))) fun _ => ?_) rfl) rfl
            exact c_chainI (g := fun i j => decide (i ≤ j)) (g' := fun i j => decide (i ≤ j)) (c_var (P := MP.d K (.int lo)) rfl p2) h1 (c_var (P := MP.d K (.int hi)) rfl p3)
          | bool b => exact c_to (c_andV (b := false) (c_isi h1 (kit_int _)) fun _ => c_to (c_andV (b := false) (c_notV (c_isi h1 (kit_bool _))) fun z => absurd z Bool.false_ne_true) rfl) rfl
          | _ => exact c_to (c_andV (b := false) (c_isi h1 (kit_int _)) fun z => absurd z Bool.false_ne_true) rfl
        exact key H e Q q
structure EdIn where
  d : PyData
  least : Int
  ok : ∀ x y, d = .tuple [x, y] → okS x
theorem shp_keys : SeqAt.shaped (.list ([("a" : Str), "b"].map PyData.str)) = true := by decide +kernel
abbrev sp_is_edition (K : PySem.W.Frag) (w : World) (c : Ad) : Sp := spOf (ι := EdIn) (fun i => [MP.d K i.d, MP.d K (.int i.least)]) (fun i => MP.d K (.bool (isEdD i.d i.least)))
theorem len_is_edition {vs : List V} {H : Hp} {Q : VK} {E : XK} (h : sp_is_edition K w c vs H Q E) : vs.length = 2 := spOf_len (by intro i; rfl) vs H Q E h
def t_is_edition (K : PySem.W.Frag) (w : World) (c : Ad) : TS :=
  (tRet (tAndV (tCB (rIsiG K) (tCons (tVar 0) (tCons (tC (.ty "tuple")) tNil))) (tAndV (tOp (rEqD K) (tCB (rLenG K) (tCons (tVar 0) tNil)) (tC (.int 2))) (tAndV (tCall (sp_is_word K w c) [] E0 (tCons (tOp (rIx K) (tVar 0) (tC (.int 0))) (tCons (tC (.ref c.KEYS)) tNil))) (tCall (sp_is_integer K w c) [] E0 (tCons (tOp (rIx K) (tVar 0) (tC (.int 1))) (tCons (tVar 1) (tCons (tC (.int 2)) tNil))))))))
theorem shp_int (i : Int) : SeqAt.shaped (.int i) = true := by rfl
theorem rd_is_edition (X : Ax K w c) {vs : List V} {H : Hp} {Q : VK} {E : XK} (h : sp_is_edition K w c vs H Q E) : t_is_edition K w c (Dn Q) (vs.map some ++ List.replicate (2 - vs.length) none) H := by
  obtain ⟨⟨d, least, ok⟩, G, e, ha, q⟩ := h
  cases ha with
  | cons p1 ha => cases ha with
    | cons p2 ha =>
      cases ha
      rename_i x y
      have h1 : Cm (tVar 0 [some x, some y]) G (MP.d K d) := c_var rfl p1
      have key : Cm (bd (t_is_edition K w c) [some x, some y]) G (MP.d K (.bool (isEdD d least))) := by
        refine b_ret ?_
        cases d with
        | tuple ds =>
          have hlen : Cm (tOp (rEqD K) (tCB (rLenG K) (tCons (tVar 0) tNil)) (tC (.int 2)) [some x, some y]) G (MP.d K (.bool ((ds.length : Int) == 2))) := c_eq (c_lenT h1) c_int (shp_int _) (shp_int _)
          refine c_to (c_andV (b := isEdD (.tuple ds) least) (c_isi h1 (kit_tup _)) fun _ => ?_) (by rfl)
          match ds, h1, ok, hlen with
          | [a, b], h1, ok, hlen =>
            refine c_to (c_andV (b := isEdD (.tuple [a, b]) least) hlen fun _ => ?_) rfl
            refine c_andV (c_call (args := fun i : WordIn => [MP.d K i.d, MP.strs K i.ws i.tup]) (res := fun i => MP.d K (.bool (isWordD i.d i.ws))) ⟨a, ["a", "b"], true, ok _ _ rfl, shp_keys⟩ (c_cons (c_ixT h1 c_int rfl) (c_cons (c_c (X.keys G)) c_nil))) fun _ => ?_
            exact c_call (args := fun i : PyData × Int × Int => [MP.d K i.1, MP.d K (.int i.2.1), MP.d K (.int i.2.2)]) (res := fun i => MP.d K (.bool (isIntIn i.1 i.2.1 i.2.2))) (b, least, 2) (c_cons (c_ixT h1 c_int rfl) (c_cons (c_var (P := MP.d K (.int least)) rfl p2) (c_cons c_int c_nil)))
          | [], h1, ok, hlen => exact c_to (c_andV (b := false) hlen fun z => absurd z (by decide)) rfl
          | [_], h1, ok, hlen => exact c_to (c_andV (b := false) hlen fun z => absurd z (by show ¬ ((1 : Int) == 2) = true; decide)) rfl
          | _ :: _ :: _ :: r, h1, ok, hlen =>
            have z : (((r.length + 3 : Nat) : Int) == 2) = false := beq_eq_false_iff_ne.mpr (by omega)
            refine c_to (c_andV (b := false) (c_to hlen (congrArg PyData.bool z)) fun z => absurd z (by decide)) rfl
        | _ => exact c_to (c_andV (b := false) (c_isi h1 (kit_tup _)) fun z => absurd z Bool.false_ne_true) rfl
      exact key H e Q q
end
end Ah
/-! Ah11: walks over dicts. -/
namespace Ah
open PySem PySem.Spec PyProof.Rows L2 Evl

/-! ### forms of loops over a written dict -/
theorem for_itemsW {kvs : List (Str × V)} {g : TG} {tb : TS} {D : Ends} {σ : L2.St} {H : Hp} (Pv : Nat → L2.St → Hp → Prop) (h0 : Pv 0 σ H)
    (hs : ∀ i q T σ H, kvs[i]? = some q → Pv i σ H → H T = none → g (.ref T) σ (upd H T (.tup [.str q.1, q.2])) fun σ2 H2 => tb { D with nx := Pv (i + 1), ct := Pv (i + 1), bk := D.nx } σ2 H2) (hd : ∀ σ H, Pv kvs.length σ H → D.nx σ H) :
    ∃ W : Nat → Nat → L2.St → Hp → Prop, (∃ m, W 0 m σ H) ∧ ∀ i m σ H, W i m σ H →
      ((ItiW kvs).stop i H ∧ D.nx σ H) ∨ ((ItiW kvs).go i H ∧ ∃ N : L2.St → Hp → Prop, (∀ σ' H', N σ' H' → ∃ m', m' < m ∧ W (i + 1) m' σ' H') ∧ ∀ x H', (ItiW kvs).yld i H x H' → g x σ H' fun σ2 H2 => tb { D with nx := N, ct := N, bk := D.nx } σ2 H2) := by
  refine ⟨fun i m σ H => m = kvs.length - i ∧ i ≤ kvs.length ∧ Pv i σ H, ⟨kvs.length, rfl, Nat.zero_le _, h0⟩, ?_⟩
  rintro i m σ H ⟨rfl, hi, p⟩
  by_cases hlt : i < kvs.length
  · refine .inr ⟨hlt, Pv (i + 1), fun σ' H' p' => ⟨_, by omega, rfl, hlt, p'⟩, fun x H' y => ?_⟩
    obtain ⟨T, q, hq, e1, hT, e2⟩ := y
    subst e1 e2
    exact hs i q T σ H hq p hT
  · have e : i = kvs.length := by omega
    subst e
    exact .inl ⟨Nat.le_refl _, hd σ H p⟩
section
variable {K : PySem.W.Frag} {w : World} {σ : L2.St} {G : Hp} {te td tk tv : TE} {tt : TT} {P : MP V} {tr t u : TS}
theorem u_yes {σ : L2.St} {H : Hp} {Q : Bool → Hp → Prop} (h : Q true H) : tYes σ H Q := h
theorem b_ifN (h : Cm (tt σ) G (MP.eq false)) (k : Cm (bd tr σ) G P) : Cm (bd (tSeq (tIfS tt tNever tNext) tr) σ) G P := b_if h (fun z => absurd z Bool.false_ne_true) fun _ => k
/-- in the middle of a body: a test that is false -/
theorem u_ifN {D : Ends} {H : Hp} (h : Cm (tt σ) G (MP.eq false)) (e : Ex G H) (k : ∀ G' H', Ex H H' → Nw H G G' H' → tr D σ H') : tSeq (tIfS tt tNever tNext) tr D σ H :=
  h H e _ fun b G' H' e1 n1 p => by
    have p : b = false := p
    subst p
    exact iteF (k G' H' e1 n1)
theorem c_isiK {l : List (Str × Str)} (h : Cm (te σ) G (MP.dk l)) : Cm (tCB (rIsiG K) (tCons te (tCons (tC (.ty "dict")) tNil)) σ) G (MP.d K (.bool true)) :=
  c_cb2 (P2 := MP.eq (.ty "dict")) h (c_c rfl) fun x y G1 e1 p q => by
    have hy : y = .ty "dict" := q
    subst hy
    obtain ⟨a, rfl, ha⟩ := p
    exact c_valN (z := .bl true) (fun H eh Q h => .inl ⟨_, _, _, _, true, rfl, .ty "dict", .base (.dK (eh _ _ ha)), kit_ty (by decide +kernel), h⟩) (.bl _)
/-- a quiet loop over a written dict's pairs: for each, a test that is false -/
theorem b_forW {kvs : List (Str × V)} {i j : Nat} (σf : Option V → Option V → L2.St) (x0 y0 : Option V) (hσ : σ = σf x0 y0) (hset : ∀ x y a b, ((σf x y).set i (some a)).set j (some b) = σf (some a) (some b)) (hd : Cm (td σ) G (MP.kd K w kvs))
    (turn : ∀ q G1, q ∈ kvs → Ex G G1 → Cm (tt (σf (some (.str q.1)) (some q.2))) G1 (MP.eq false)) (hP : ∀ {G1}, Ex G G1 → P.p .non G1) :
    Cm (bd (tFor (iItemsW K w td) (gTup K 2 (gCons (gName i) (gCons (gName j) gNil))) (tIfS tt tNever tNext)) σ) G P := fun H e Q q =>
  hd H e _ fun a G1 H1 e1 n1 p1 => by
    obtain ⟨p, rfl, D⟩ := p1
    refine ⟨p, kvs, rfl, D, for_itemsW (fun n σ' H' => Ex H H' ∧ (∃ G', Nw H G G' H') ∧ ∃ x y, σ' = σf x y) ⟨e1, ⟨G1, n1⟩, x0, y0, hσ⟩ ?_ ?_⟩
    · rintro n r T σ' H' hr ⟨e2, ⟨G', n2⟩, x, y, rfl⟩ hT
      refine ⟨T, [.str r.1, r.2], rfl, SqT.of upd_same, rfl, _, _, rfl, _, _, rfl, rfl, ?_⟩
      rw [hset]
      have n3 := n2.trans e2 (Nw.own (o := .tup [.str r.1, r.2]) n2.le hT)
      refine turn r G' (List.mem_of_getElem? hr) n2.ex _ n3.le _ fun b G3 H3 e3 n4 p3 => ?_
      have p3 : b = false := p3
      subst p3
      exact iteF ⟨(e2.trans (Ex.new hT)).trans e3, ⟨G3, n3.trans (e2.trans (Ex.new hT)) n4⟩, _, _, rfl⟩
    · rintro σ' H' ⟨e2, ⟨G', n2⟩, _⟩
      exact q .non G' H' e2 n2 (hP n2.ex)
/-! ### a comprehension over the keys, the pairs of a dict that is locked meanwhile -/
def hide (G : Hp) (d : Addr) : Hp := fun b => if b = d then none else G b
theorem hide_ne {G : Hp} {b d : Addr} (h : b ≠ d) : hide G d b = G b := by unfold hide; rw [if_neg h]
theorem hide_same {G : Hp} {d : Addr} : hide G d d = none := by unfold hide; rw [if_pos rfl]
theorem hide_le {G : Hp} {d : Addr} : Ex (hide G d) G := fun b o h => by
  by_cases hb : b = d
  · subst hb; rw [hide_same] at h; cases h
  · rwa [hide_ne hb] at h
theorem hide_ex {G H : Hp} {d : Addr} {o : HO} (e : Ex G H) : Ex (hide G d) (upd H d o) := fun b u h => by
  by_cases hb : b = d
  · subst hb; rw [hide_same] at h; cases h
  · rw [hide_ne hb] at h; rw [upd_ne hb]; exact e b u h
/-- unlocking -/
theorem unlock {H H' G G' : Hp} {d : Addr} {od : Obj} {u : HO} (e : Ex G H) (hd : G d = some u) (e1 : Ex (upd H d (.frz od u)) H') (n : Nw (upd H d (.frz od u)) (hide G d) G' H') : Ex H (upd H' d u) ∧ Nw H G (upd G' d u) (upd H' d u) ∧ Ex G' (upd G' d u) := by
  have hH := e d u hd
  have gd : G' d = none := n.old d (by rw [upd_same]; exact fun z => nomatch z) hide_same
  refine ⟨fun b o h => ?_, ⟨fun b o h => ?_, fun b o h => ?_, fun b hb hg => ?_⟩, Ex.new gd⟩
  · by_cases hb : b = d
    · subst hb; rw [upd_same, ← h, hH]
    · rw [upd_ne hb]; exact e1 b o (by rw [upd_ne hb]; exact h)
  · by_cases hb : b = d
    · subst hb; rw [upd_same, ← h, hd]
    · rw [upd_ne hb]; exact n.ex b o (by rw [hide_ne hb]; exact h)
  · by_cases hb : b = d
    · subst hb; rw [upd_same] at h ⊢; exact h
    · rw [upd_ne hb] at h ⊢; exact n.le b o h
  · have hne : b ≠ d := fun z => by rw [z, hd] at hg; cases hg
    rw [upd_ne hne]
    exact n.old b (by rw [upd_ne hne]; exact hb) (by rw [hide_ne hne]; exact hg)
theorem picked_map {α : Type} (F : α → PyData) (l : List α) (f : Nat → PyData) (h : ∀ i a, l[i]? = some a → f i = F a) : picked (fun _ => true) f l.length = l.map F := by
  unfold picked
  rw [List.filter_eq_self.mpr fun _ _ => rfl]
  refine List.ext_getElem? fun i => ?_
  rw [List.getElem?_map, List.getElem?_map]
  by_cases hi : i < l.length
  · rw [List.getElem?_range hi, List.getElem?_eq_getElem hi]
    exact congrArg some (h i _ (List.getElem?_eq_getElem hi))
  · rw [List.getElem?_eq_none (by rw [List.length_range]; omega), List.getElem?_eq_none (by omega)] <;> rfl
theorem kvD_at {l : List (Str × Str)} {i : Nat} {k : Key} {v : V} (h : (kvD l)[i]? = some (k, v)) : ∃ q, l[i]? = some q ∧ k = Sum.inr q.1 ∧ v = .str q.2 := by
  unfold kvD at h
  rw [List.getElem?_map] at h
  cases z : l[i]? with
  | none => rw [z] at h; cases h
  | some q => rw [z] at h; cases h; exact ⟨q, rfl, rfl, rfl⟩
/-- [te for k in d] -/
theorem c_lcKeys {l : List (Str × Str)} {j : Nat} {vs : List Nat} {F : Str × Str → PyData} {d : Addr} (hn : l.length ≤ 90000) (hG : G d = some (.dK (kvD l))) (htd : ∀ H1 (Q : VK), Ex (hide G d) H1 → Q (.ref d) H1 → td σ H1 Q)
    (turn : ∀ q G1, q ∈ l → CTurn K σ vs (gName j) tt te true (F q) (.str q.1) G1) : Cm (tLockE (tLc (iKeys td) (gName j) tt te vs) σ) G (MP.l K (l.map F)) := fun H e Q k => by
  refine ⟨d, .dK (kvD l), e _ _ hG, trivial, fun od => ?_⟩
  refine htd _ _ (hide_ex e) ⟨d, od, rfl, .inl ⟨kvD l, upd_same, fun D hD => ?_⟩⟩
  have hdD : d ≠ D := ne_of_none upd_same hD
  have lk : ∀ {H'}, Ex (upd H d (.frz od (.dK (kvD l)))) H' → H' d = some (.frz od (.dK (kvD l))) := fun x => x _ _ upd_same
  refine ⟨fun i m H' => m = l.length - i ∧ i ≤ l.length ∧ CW K (upd H d (.frz od (.dK (kvD l)))) (hide G d) D (picked (fun _ => true) (fun i => F (l.getD i ("", ""))) i) H', ⟨l.length, rfl, Nat.zero_le _, cw_start (hide_ex e) hD⟩, ?_⟩
  rintro i m H' ⟨rfl, hi, w⟩
  have len : (kvD l).length = l.length := List.length_map _
  by_cases hlt : i < l.length
  · refine .inr ⟨⟨lk w.choose_spec.choose_spec.1, by rw [len]; exact hlt⟩, fun H'' => CW K (upd H d (.frz od (.dK (kvD l)))) (hide G d) D (picked (fun _ => true) (fun i => F (l.getD i ("", ""))) (i + 1)) H'', fun H'' w' => ⟨_, by omega, rfl, hlt, w'⟩, fun x H'' y => ?_⟩
    obtain ⟨e1, kk, vv, hkv, e2⟩ := y
    subst e1
    obtain ⟨q, hq, e3, e4⟩ := kvD_at hkv
    subst e3
    have e2 : x = .str q.1 := e2
    subst e2
    have eg : l.getD i ("", "") = q := by rw [List.getD_eq_getElem?_getD, hq] <;> rfl
    rw [picked_succ, eg]
    exact cw_turn hD w (by have := picked_len (fun _ => true) (fun i => F (l.getD i ("", ""))) i; omega) fun G' _ => turn q G' (List.mem_of_getElem? hq)
  · have ei : i = l.length := by omega
    subst ei
    rw [picked_map F l _ fun i a h => by rw [List.getD_eq_getElem?_getD, h] <;> rfl] at w
    refine .inl ⟨⟨lk w.choose_spec.choose_spec.1, by rw [len]; exact Nat.le_refl _⟩, lk w.choose_spec.choose_spec.1, ?_⟩
    obtain ⟨G', n, e1, p⟩ := cw_end hD (by rw [hide_ne (Ne.symm hdD)]; exact fresh_back e ((upd_ne (Ne.symm hdD)).symm.trans hD)) w
    obtain ⟨x1, x2, x3⟩ := unlock e hG e1 n
    exact k _ _ _ x1 x2 ((MP.l K (l.map F)).mono x3 p)
/-- [te for k, v in d.items()] -/
theorem c_lcItems {l : List (Str × Str)} {a b : Nat} {vs : List Nat} {F : Str × Str → PyData} {d : Addr} (hn : l.length ≤ 90000) (hG : G d = some (.dK (kvD l))) (htd : ∀ H1 (Q : VK), Ex (hide G d) H1 → Q (.ref d) H1 → td σ H1 Q)
    (turn : ∀ q (G1 : Hp) T, q ∈ l → G1 T = some (.tup [.str q.1, .str q.2]) → CTurn K σ vs (gTup K 2 (gCons (gName a) (gCons (gName b) gNil))) tt te true (F q) (.ref T) G1) : Cm (tLockE (tLc (iItems td) (gTup K 2 (gCons (gName a) (gCons (gName b) gNil))) tt te vs) σ) G (MP.l K (l.map F)) := fun H e Q k => by
  refine ⟨d, .dK (kvD l), e _ _ hG, trivial, fun od => ?_⟩
  refine htd _ _ (hide_ex e) ⟨d, od, kvD l, rfl, upd_same, fun D hD => ?_⟩
  have hdD : d ≠ D := ne_of_none upd_same hD
  have lk : ∀ {H'}, Ex (upd H d (.frz od (.dK (kvD l)))) H' → H' d = some (.frz od (.dK (kvD l))) := fun x => x _ _ upd_same
  refine ⟨fun i m H' => m = l.length - i ∧ i ≤ l.length ∧ CW K (upd H d (.frz od (.dK (kvD l)))) (hide G d) D (picked (fun _ => true) (fun i => F (l.getD i ("", ""))) i) H', ⟨l.length, rfl, Nat.zero_le _, cw_start (hide_ex e) hD⟩, ?_⟩
  rintro i m H' ⟨rfl, hi, w⟩
  have len : (kvD l).length = l.length := List.length_map _
  by_cases hlt : i < l.length
  · refine .inr ⟨⟨lk w.choose_spec.choose_spec.1, by rw [len]; exact hlt⟩, fun H'' => CW K (upd H d (.frz od (.dK (kvD l)))) (hide G d) D (picked (fun _ => true) (fun i => F (l.getD i ("", ""))) (i + 1)) H'', fun H'' w' => ⟨_, by omega, rfl, hlt, w'⟩, fun x H'' y => ?_⟩
    obtain ⟨T, kk, vv, hkv, e2, hT, e1⟩ := y
    subst e1
    obtain ⟨q, hq, e3, e4⟩ := kvD_at hkv
    subst e3 e4 e2
    have eg : l.getD i ("", "") = q := by rw [List.getD_eq_getElem?_getD, hq] <;> rfl
    rw [picked_succ, eg]
    obtain ⟨G', acc, x1, n1, gD, hD', ha⟩ := w
    have gT := fresh_back n1.le hT
    have hTD : D ≠ T := ne_of_none hD' hT
    exact cw_turn2 hD (by have := picked_len (fun _ => true) (fun i => F (l.getD i ("", ""))) i; omega) ⟨upd G' T (.tup [.str q.1, .str q.2]), acc, x1.trans (Ex.new hT), n1.trans x1 (Nw.new n1.le hT), by rw [upd_ne hTD]; exact gD, by rw [upd_ne hTD]; exact hD', DpAll.up (Ex.new gT) _ _ ha, turn q _ T (List.mem_of_getElem? hq) upd_same⟩
  · have ei : i = l.length := by omega
    subst ei
    rw [picked_map F l _ fun i a h => by rw [List.getD_eq_getElem?_getD, h] <;> rfl] at w
    refine .inl ⟨⟨lk w.choose_spec.choose_spec.1, by rw [len]; exact Nat.le_refl _⟩, lk w.choose_spec.choose_spec.1, ?_⟩
    obtain ⟨G', n, e1, p⟩ := cw_end hD (by rw [hide_ne (Ne.symm hdD)]; exact fresh_back e ((upd_ne (Ne.symm hdD)).symm.trans hD)) w
    obtain ⟨x1, x2, x3⟩ := unlock e hG e1 n
    exact k _ _ _ x1 x2 ((MP.l K (l.map F)).mono x3 p)
/-! ### {k: e for k in a written dict} -/
theorem putK_snoc {l : List (Str × Str)} {x y : Str} (h : x ∉ l.map (·.1)) : putK (kvD l) (Sum.inr x : Key) (.str y) = kvD (l ++ [(x, y)]) := by
  have hn : valV (kvD l) (Sum.inr x : Key) = none := by
    rw [valV_kv]
    cases q : l.lookup x with
    | none => rfl
    | some z =>
      have : x ∈ l.map (·.1) := by
        clear h
        induction l with
        | nil => cases q
        | cons a r ih =>
          rw [List.lookup_cons] at q
          by_cases hx : x = a.1
          · rw [hx]; exact List.mem_cons_self
          · rw [beq_eq_false_iff_ne.mpr hx] at q
            exact List.mem_cons_of_mem _ (ih q)
      exact absurd this h
  rw [putK_new _ hn]
  unfold kvD
  rw [List.map_append] <;> rfl
theorem c_dcW {kvs : List (Str × V)} {j : Nat} {vs : List Nat} {f : Str → Str} (hd : Cm (td σ) G (MP.kd K w kvs))
    (turn : ∀ q G1, q ∈ kvs → Ex G G1 → ∃ σ2, σ2 = (wipe σ vs).set j (some (.str q.1)) ∧ wipe σ2 vs = wipe σ vs ∧ Cm (tk σ2) G1 (MP.d K (.str q.1)) ∧ Cm (tv σ2) G1 (MP.d K (.str (f q.1)))) :
    Cm (tDc (iKeysW K w td) (gName j) tYes tk tv vs σ) G (MP.dk (kvs.map fun q => (q.1, f q.1))) := fun H e Q k => hd H e _ fun a G1 H1 e1 n1 p1 => by
  obtain ⟨p, rfl, D0⟩ := p1
  refine ⟨p, kvs, rfl, D0, fun D hD => ?_⟩
  refine ⟨fun i m H' => m = kvs.length - i ∧ i ≤ kvs.length ∧ ∃ G', Ex H1 H' ∧ Nw H1 G1 G' H' ∧ G' D = none ∧ H' D = some (.dK (kvD ((kvs.take i).map fun q => (q.1, f q.1)))),
    ⟨kvs.length, rfl, Nat.zero_le _, G1, Ex.new hD, Nw.own n1.le hD, fresh_back n1.le hD, upd_same⟩, ?_⟩
  rintro i m H' ⟨rfl, hi, G', e2, n2, gD, hD'⟩
  by_cases hlt : i < kvs.length
  · refine .inr ⟨hlt, fun H'' => ∃ G', Ex H1 H'' ∧ Nw H1 G1 G' H'' ∧ G' D = none ∧ H'' D = some (.dK (kvD ((kvs.take (i + 1)).map fun q => (q.1, f q.1)))), fun H'' x => ⟨_, by omega, rfl, hlt, x⟩, fun x H'' y => ?_⟩
    obtain ⟨z, q, hq, rfl⟩ := y
    subst z
    obtain ⟨σ2, hs, hw, ck, cv⟩ := turn q G' (List.mem_of_getElem? hq) (n1.ex.trans n2.ex)
    subst hs
    refine ⟨hw, u_yes ?_⟩
    dsimp only
    rw [if_pos rfl]
    refine ck H'' n2.le _ fun y G3 H3 e3 n3 p3 => cv.up n3.ex H3 n3.le _ fun z G4 H4 e4 n4 p4 => ?_
    have h4 : H4 D = _ := e4 _ _ (e3 _ _ hD')
    have x1 := ((e2.trans e3).trans e4)
    have x2 := (n2.trans e2 n3).trans (e2.trans e3) n4
    have g4 : G4 D = none := n4.old D (by rw [e3 _ _ hD']; exact fun z => nomatch z) (n3.old D (by rw [hD']; exact fun z => nomatch z) gD)
    refine ⟨_, Sum.inr q.1, dp_str p3, h4, ?_, G4, Ex.mut x1 hD, ⟨x2.ex, Ex.mut x2.le g4, x2.old⟩, g4, ?_⟩
    · have hl := D0.len
      unfold kvD
      rw [List.length_map, List.length_map, List.length_take]
      exact Nat.lt_of_le_of_lt (Nat.le_trans (Nat.min_le_right _ _) hl) (by decide)
    · have ez : z = .str (f q.1) := dp_str p4
      rw [upd_same, ez, putK_snoc, List.take_succ, hq, List.map_append]
      · rfl
      · intro hm
        rw [List.map_map] at hm
        obtain ⟨r, hr, er⟩ := List.mem_map.mp hm
        obtain ⟨n, hn1, hn2⟩ := List.mem_take_iff_getElem.mp hr
        have h5 : kvs[n]? = some r := by rw [List.getElem?_eq_getElem (by omega)]; exact congrArg some hn2
        have hnd := D0.nd
        have a1 : (kvs.map (·.1))[n]? = some q.1 := by rw [List.getElem?_map, h5]; exact congrArg some er
        have a2 : (kvs.map (·.1))[i]? = some q.1 := by rw [List.getElem?_map, hq] <;> rfl
        have := nd_ix hnd a1 a2
        omega
  · have ei : i = kvs.length := by omega
    subst ei
    rw [List.take_length] at hD'
    refine .inl ⟨Nat.le_refl _, ?_⟩
    have gd : G1 D = none := fresh_back n1.le hD
    refine k _ (upd G' D (.dK (kvD (kvs.map fun q => (q.1, f q.1))))) H' (e1.trans e2) (n1.trans e1 ⟨n2.ex.trans (Ex.new gD), fun b o h => ?_, fun b hb hg => ?_⟩) ⟨D, rfl, upd_same⟩
    · by_cases hb : b = D
      · subst hb; rw [upd_same] at h; rw [hD', ← h]
      · rw [upd_ne hb] at h; exact n2.le b o h
    · rw [upd_ne (fun z => hb (by rw [z]; exact hD))]
      exact n2.old b hb hg
end
end Ah
/-! Ah12: books made. -/
namespace Ah
open PySem PySem.Spec PyProof.Rows L2 Evl

section
variable {K : PySem.W.Frag} {w : World} {c : Ad} {σ : L2.St} {G : Hp} {tl te : TE} {g : TG} {ds : List PyData} {vs : List Nat}
theorem all_map (ds : List PyData) (f : PyData → Bool) : (ds.filter (fun _ => true)).map (fun d => PyData.bool (f d)) = (ds.map f).map PyData.bool := by
  rw [filter_yes, List.map_map] <;> rfl
theorem c_allT (f : PyData → Bool) (hl : Cm (tl σ) G (MP.d K (.tuple ds))) (hn : ds.length ≤ 90000)
    (turn : ∀ v d G1, Ex G G1 → d ∈ ds → Dp K G1 v d → CTurn K σ vs g tYes te true (.bool (f d)) v G1) : Cm (tCB (rAll K) (tCons (tLc (iSeq K tl) g tYes te vs) tNil) σ) G (MP.d K (.bool (ds.all f))) := by
  have h := c_lcT (t := fun _ => true) (F := fun d => .bool (f d)) hl hn turn
  rw [all_map] at h
  refine c_to (c_all h) ?_
  rw [List.all_map] <;> rfl
theorem c_allL (f : PyData → Bool) (hl : Cm (tl σ) G (MP.d K (.list ds))) (hn : ds.length ≤ 90000)
    (turn : ∀ v d G1, Ex G G1 → d ∈ ds → Dp K G1 v d → CTurn K σ vs g tYes te true (.bool (f d)) v G1) : Cm (tCB (rAll K) (tCons (tLc (iSeq K tl) g tYes te vs) tNil) σ) G (MP.d K (.bool (ds.all f))) := by
  have h := c_lcL (t := fun _ => true) (F := fun d => .bool (f d)) hl hn turn
  rw [all_map] at h
  refine c_to (c_all h) ?_
  rw [List.all_map] <;> rfl
/-- calls of the three looks -/
theorem c_isWord {ta tb : TE} {d : PyData} {ws : List Str} (tup : Bool) (ha : Cm (ta σ) G (MP.d K d)) (hb : Cm (tb σ) G (MP.strs K ws tup)) (ok : okS d) (shp : SeqAt.shaped (.list (ws.map PyData.str)) = true) :
    Cm (tCall (sp_is_word K w c) [] E0 (tCons ta (tCons tb tNil)) σ) G (MP.d K (.bool (isWordD d ws))) :=
  c_call (args := fun i : WordIn => [MP.d K i.d, MP.strs K i.ws i.tup]) (res := fun i => MP.d K (.bool (isWordD i.d i.ws))) ⟨d, ws, tup, ok, shp⟩ (c_cons ha (c_cons hb c_nil))
theorem c_isEd {ta tb : TE} {d : PyData} {least : Int} (ha : Cm (ta σ) G (MP.d K d)) (hb : Cm (tb σ) G (MP.d K (.int least))) (ok : ∀ x y, d = .tuple [x, y] → okS x) :
    Cm (tCall (sp_is_edition K w c) [] E0 (tCons ta (tCons tb tNil)) σ) G (MP.d K (.bool (isEdD d least))) :=
  c_call (args := fun i : EdIn => [MP.d K i.d, MP.d K (.int i.least)]) (res := fun i => MP.d K (.bool (isEdD i.d i.least))) ⟨d, least, ok⟩ (c_cons ha (c_cons hb c_nil))
theorem Ax.kd (X : Ax K w c) : ∃ kvs, kvs.map (·.1) = kvParts.map (·.1) ∧ KD K w c.PARTS kvs ∧ ∀ (i : Nat) (q : Str × V), kvs[i]? = some q → ∃ r : Str × List Str, kvParts[i]? = some r ∧ q.1 = r.1 ∧ ∀ G, Dp K G q.2 (.tuple (r.2.map PyData.str)) := by
  obtain ⟨vs, D, hl, hd⟩ := X.parts
  refine ⟨_, ?_, D, fun i q hq => ?_⟩
  · rw [List.map_fst_zip]
    rw [hl]
    decide
  · obtain ⟨q1, q2⟩ := q
    obtain ⟨h1, h2⟩ := List.getElem?_zip_eq_some.mp hq
    rw [List.getElem?_map] at h1
    cases hr : kvParts[i]? with
    | none => rw [hr] at h1; cases h1
    | some r =>
      rw [hr] at h1
      refine ⟨r, rfl, (Option.some.inj h1).symm, fun G => ?_⟩
      obtain ⟨v, e1, e2⟩ := DpAll.get (hd G) (i := i) (d := .tuple (r.2.map PyData.str)) (by rw [List.getElem?_map, hr] <;> rfl)
      have e1 : vs[i]? = some v := e1
      have h2 : vs[i]? = some q2 := h2
      rw [e1] at h2
      cases h2
      exact e2
end
/-! ### rules -/
theorem parts_nodup : (kvParts.map (·.1)).Nodup := by decide +kernel
theorem rule_keys (r : Rule) : r.kvs.map (·.1) = kvParts.map (·.1) := rfl
theorem rule_nodup (r : Rule) : (r.kvs.map (·.1)).Nodup := by rw [rule_keys]; exact parts_nodup
theorem rule_len (r : Rule) : r.kvs.length = 6 := rfl
theorem bif_mem {b : Bool} {x y : Str} : (bif b then y else x) ∈ [x, y] := by cases b <;> simp
theorem mis_mem {m : Mis} : m.s ∈ [("none" : Str), "place", "waits"] := by cases m <;> simp [Mis.s]
/-- each part's word is one of those that it may have -/
theorem rule_word (r : Rule) : ∀ (i : Nat) (q : Str × Str), r.kvs[i]? = some q → ∃ p : Str × List Str, kvParts[i]? = some p ∧ q.1 = p.1 ∧ q.2 ∈ p.2 := by
  obtain ⟨a, b, c, d, m, e⟩ := r
  intro i q h
  match i, h with
  | 0, h => cases h; exact ⟨_, rfl, rfl, bif_mem⟩
  | 1, h => cases h; exact ⟨_, rfl, rfl, bif_mem⟩
  | 2, h => cases h; exact ⟨_, rfl, rfl, bif_mem⟩
  | 3, h => cases h; exact ⟨_, rfl, rfl, bif_mem⟩
  | 4, h => cases h; exact ⟨_, rfl, rfl, mis_mem⟩
  | 5, h => cases h; exact ⟨_, rfl, rfl, bif_mem⟩
  | i + 6, h => exact absurd h (by show ¬ (([] : List (Str × Str))[i]? = some q); simp)
theorem parts_shaped : ∀ p ∈ kvParts, SeqAt.shaped (.list (p.2.map PyData.str)) = true := by decide +kernel
theorem keys_shaped : SeqAt.shaped (.list ((kvParts.map (·.1)).map PyData.str)) = true := by decide +kernel
theorem key_ok : ∀ p ∈ kvParts, SeqAt.shaped (.str p.1) = true := by decide +kernel
theorem words_ok : ∀ p ∈ kvParts, ∀ x ∈ p.2, SeqAt.shaped (.str x) = true := by decide +kernel
theorem isWord_mem {x : Str} {ws : List Str} (h : x ∈ ws) : isWordD (.str x) ws = true := List.any_eq_true.mpr ⟨x, h, beq_self_eq_true x⟩
theorem rule_lookup (r : Rule) {i : Nat} {q : Str × Str} (h : r.kvs[i]? = some q) : r.kvs.lookup q.1 = some q.2 := lookup_at (rule_nodup r) h
section
variable {K : PySem.W.Frag} {w : World} {c : Ad} {σ : L2.St} {G : Hp}
abbrev sp_check_rule (K : PySem.W.Frag) (w : World) (c : Ad) : Sp := spOf (ι := Rule) (fun r => [MP.dk r.kvs]) (fun _ => MP.d K .none)
theorem len_check_rule {vs : List V} {H : Hp} {Q : VK} {E : XK} (h : sp_check_rule K w c vs H Q E) : vs.length = 1 := spOf_len (by intro i; rfl) vs H Q E h
def t_check_rule (K : PySem.W.Frag) (w : World) (c : Ad) : TS :=
  (tSeq (tIfS (tOr (tNot (tB (tCB (rIsiG K) (tCons (tVar 0) (tCons (tC (.ty "dict")) tNil))))) (tOr (tTest (tOp (rNeD K) (tCB rLenD (tCons (tVar 0) tNil)) (tCB (rLenW K w) (tCons (tC (.ref c.PARTS)) tNil)))) (tNot (tB (tCB (rAll K) (tCons (tLockE (tLc (iKeys (tVar 0)) (gName 1) tYes (tCall (sp_is_word K w c) [] E0 (tCons (tVar 1) (tCons (tCB (rListW K w) (tCons (tC (.ref c.PARTS)) tNil)) tNil))) [1])) tNil)))))) tNever tNext)
    (tFor (iItemsW K w (tC (.ref c.PARTS))) (gTup K 2 (gCons (gName 1) (gCons (gName 2) gNil)))
    (tIfS (tNot (tB (tCall (sp_is_word K w c) [] E0 (tCons (tDGet (tVar 0) (tVar 1)) (tCons (tVar 2) tNil))))) tNever tNext)))
theorem l_strs {ws : List Str} {t : Hp → VK → Prop} {G : Hp} (h : Cm t G (MP.l K (ws.map PyData.str))) : Cm t G (MP.strs K ws false) := l_d h
theorem rd_check_rule (X : Ax K w c) {vs : List V} {H : Hp} {Q : VK} {E : XK} (h : sp_check_rule K w c vs H Q E) : t_check_rule K w c (Dn Q) (vs.map some ++ List.replicate (3 - vs.length) none) H := by
  obtain ⟨r, G, e, ha, q⟩ := h
  cases ha with
  | cons p1 ha =>
    cases ha
    rename_i x
    obtain ⟨p, rfl, hp⟩ := id p1
    obtain ⟨kvs, k1, D, k3⟩ := X.kd
    have key : Cm (bd (t_check_rule K w c) [some (.ref p), none, none]) G (MP.d K .none) := by
      have h0 : ∀ {G1 : Hp} {a b : Option V}, Ex G G1 → Cm (tVar 0 [some (.ref p), a, b]) G1 (MP.dk r.kvs) := fun eG => c_var rfl ⟨p, rfl, eG _ _ hp⟩
      have hP : ∀ {G1 : Hp} {σ : L2.St}, Cm (tC (.ref c.PARTS) σ) G1 (MP.kd K w kvs) := c_c ⟨_, rfl, D⟩
      have hlen : kvs.length = 6 := by
        have : (kvs.map (·.1)).length = 6 := by rw [k1]; decide
        rwa [List.length_map] at this
      refine b_ifN (c_teq (c_tor (b := false) (c_tnot (c_tB (c_isiK (h0 (Ex.refl G))))) fun _ => c_teq (c_tor (a := false) (b := false) (c_test (c_to (c_ne (c_lenD (h0 (Ex.refl G))) (c_lenW hP) (shp_int _) (shp_int _)) (by rw [hlen]; rfl))) fun _ => c_teq (c_tnot (a := true) (c_tB (K := K) ?_)) rfl) rfl) rfl) ?_
      · have z := c_lcKeys (K := K) (σ := [some (.ref p), none, none]) (G := G) (tt := tYes) (j := 1) (vs := [1]) (F := fun q : Str × Str => .bool (isWordD (.str q.1) (kvParts.map (·.1)))) (l := r.kvs) (d := p) (td := tVar 0)
          (te := tCall (sp_is_word K w c) [] E0 (tCons (tVar 1) (tCons (tCB (rListW K w) (tCons (tC (.ref c.PARTS)) tNil)) tNil))) (by rw [rule_len]; decide) hp (fun H1 Q _ hq => ⟨_, rfl, hq⟩) fun q G1 hq => by
            obtain ⟨j, hj⟩ := List.getElem?_of_mem hq
            obtain ⟨pr, hpr, e1, _⟩ := rule_word r j q hj
            refine ct_name rfl c_yes fun _ => c_isWord false (c_var (P := MP.d K (.str q.1)) rfl (.str _)) (l_strs (by rw [← k1]; exact c_listW hP)) ?_ keys_shaped
            show SeqAt.shaped (.str q.1) = true
            rw [e1]
            exact key_ok pr (List.mem_of_getElem? hpr)
        have e2 : (r.kvs.map fun q : Str × Str => PyData.bool (isWordD (.str q.1) (kvParts.map (·.1)))) = (r.kvs.map fun q : Str × Str => isWordD (.str q.1) (kvParts.map (·.1))).map PyData.bool := by rw [List.map_map] <;> rfl
        rw [e2] at z
        refine c_to (c_all z) (congrArg PyData.bool ?_)
        refine List.all_eq_true.mpr fun b hb => ?_
        obtain ⟨q, hq, rfl⟩ := List.mem_map.mp hb
        refine isWord_mem ?_
        rw [← rule_keys r]
        exact List.mem_map.mpr ⟨q, hq, rfl⟩
      · refine b_forW (K := K) (w := w) (kvs := kvs) (i := 1) (j := 2) (fun a b => [some (.ref p), a, b]) none none rfl (fun _ _ _ _ => rfl) hP (fun q G1 hq eG => ?_) fun _ => .non
        obtain ⟨j, hj⟩ := List.getElem?_of_mem hq
        obtain ⟨pr, hpr, e1, e2⟩ := k3 j q hj
        have hjl : j < r.kvs.length := by rw [rule_len]; have := (List.getElem?_eq_some_iff.mp hj).1; omega
        obtain ⟨pr2, hpr2, e3, e4⟩ := rule_word r j _ (List.getElem?_eq_getElem hjl)
        rw [hpr] at hpr2
        cases hpr2
        have lk := rule_lookup r (List.getElem?_eq_getElem hjl)
        rw [e3, ← e1] at lk
        refine c_teq (c_tnot (a := true) (c_tB (c_to (c_isWord (d := .str (r.kvs[j]'hjl).2) (ws := pr.2) true (c_dget (h0 eG) (c_var (P := MP.d K (.str q.1)) rfl (.str _)) lk) (c_var (P := MP.d K (.tuple (pr.2.map PyData.str))) rfl (e2 G1)) ?_ (parts_shaped pr (List.mem_of_getElem? hpr))) ?_))) rfl
        · exact words_ok pr (List.mem_of_getElem? hpr) _ e4
        · rw [isWord_mem e4]
    exact key H e Q q
end
end Ah
/-! Ah13: Book. -/
namespace Ah
open PySem PySem.Spec PyProof.Rows L2 Evl

/-- the attributes of a book -/
def bkF (vr : V) (pt : Addr) (vw : V) : List (Str × V) := putF "kinds" vw (putF "terms" (.ref pt) (putF "wanted" vr []))
theorem nkt : ¬ (("kinds" : Str) = "terms") := by decide +kernel
theorem nkw : ¬ (("kinds" : Str) = "wanted") := by decide +kernel
theorem ntw : ¬ (("terms" : Str) = "wanted") := by decide +kernel
theorem bkF_w (vr : V) (pt : Addr) (vw : V) : (bkF vr pt vw).lookup ("wanted" : Str) = some vr := by
  unfold bkF
  rw [lookup_putF, if_neg (Ne.symm nkw), lookup_putF, if_neg (Ne.symm ntw), lookup_putF, if_pos rfl]
theorem bkF_t (vr : V) (pt : Addr) (vw : V) : (bkF vr pt vw).lookup ("terms" : Str) = some (.ref pt) := by
  unfold bkF
  rw [lookup_putF, if_neg (Ne.symm nkt), lookup_putF, if_pos rfl]
theorem bkF_k (vr : V) (pt : Addr) (vw : V) : (bkF vr pt vw).lookup ("kinds" : Str) = some vw := by
  unfold bkF
  rw [lookup_putF, if_pos rfl]
theorem bkF_len (vr : V) (pt : Addr) (vw : V) : (bkF vr pt vw).length ≤ 3 := by
  unfold bkF
  have h1 := length_putF "wanted" vr []
  have h2 := length_putF "terms" (.ref pt) (putF "wanted" vr [])
  have h3 := length_putF "kinds" vw (putF "terms" (.ref pt) (putF "wanted" vr []))
  simp only [List.length_nil] at h1
  omega
def BkAt (K : PySem.W.Frag) (c : Ad) (b : Bk) (v : V) (G : Hp) : Prop := ∃ x dx vr pt vw, v = .ref x ∧ G x = some (.ins c.Book dx (bkF vr pt vw)) ∧ Dp K G vr (rowsD b) ∧ G pt = some (.dK (kvD b.rule.kvs)) ∧ Dp K G vw (wordsD b)
abbrev MP.bk (K : PySem.W.Frag) (c : Ad) (b : Bk) : MP V := ⟨BkAt K c b, fun e h => let ⟨x, dx, vr, pt, vw, h1, h2, h3, h4, h5⟩ := h; ⟨x, dx, vr, pt, vw, h1, e _ _ h2, Dp.up e _ _ h3, e _ _ h4, Dp.up e _ _ h5⟩⟩
theorem row_ok (r : Row) : isEdD (rowD r) 1 = true := by
  obtain ⟨a, b⟩ := r
  cases a <;> cases b <;> decide +kernel
theorem ks_ok (k : Bool) : SeqAt.shaped (.str (kS k)) = true := by cases k <;> decide +kernel
theorem words_in (b : Bk) : b.words = [] ∨ b.words = [("join" : Str)] ∨ b.words = [("sweep" : Str)] ∨ b.words = [("join" : Str), "sweep"] := by
  obtain ⟨_, _, j, s⟩ := b
  cases j <;> cases s
  · exact .inl rfl
  · exact .inr (.inr (.inl rfl))
  · exact .inr (.inl rfl)
  · exact .inr (.inr (.inr rfl))
/-- what holds of every list of words -/
theorem words_all {M : List Str → Prop} (b : Bk) (h0 : M []) (h1 : M ["join"]) (h2 : M ["sweep"]) (h3 : M ["join", "sweep"]) : M b.words := by
  rcases words_in b with e | e | e | e <;> rw [e] <;> assumption
theorem words_shp (b : Bk) : SeqAt.shaped (.list (b.words.map PyData.str)) = true := words_all (M := fun l => SeqAt.shaped (.list (l.map PyData.str)) = true) b (by decide +kernel) (by decide +kernel) (by decide +kernel) (by decide +kernel)
section
variable {K : PySem.W.Frag} {w : World} {c : Ad} {σ : L2.St} {G : Hp}
def sp_Book_init (K : PySem.W.Frag) (w : World) (c : Ad) : Sp := fun vs H Q _ => ∃ (x dx : Addr) (vr vd vw : V) (b : Bk) (G : Hp), vs = [.ref x, vr, vd, vw] ∧ Ex G H ∧ G x = none ∧ H x = some (.ins c.Book dx []) ∧ Dp K G vr (rowsD b) ∧ (MP.dk b.rule.kvs).p vd G ∧ Dp K G vw (wordsD b) ∧ b.ok ∧
  ∀ pt G' H', (∀ q o, H q = some o → q ≠ x → H' q = some o) → Nw H G G' H' → G' pt = some (.dK (kvD b.rule.kvs)) → H' x = some (.ins c.Book dx (bkF vr pt vw)) → Q .non H'
theorem len_Book_init {vs : List V} {H : Hp} {Q : VK} {E : XK} (h : sp_Book_init K w c vs H Q E) : vs.length = 4 := by
  obtain ⟨x, dx, vr, vd, vw, b, G, rfl, _⟩ := h
  rfl
def t_Book_init (K : PySem.W.Frag) (w : World) (c : Ad) : TS :=
  (tSeq (tIfS (tOr (tNot (tB (tCB (rIsiG K) (tCons (tVar 1) (tCons (tC (.ty "tuple")) tNil))))) (tNot (tTest (tChain rLeI rLeI (tC (.int 1)) (tCB (rLenG K) (tCons (tVar 1) tNil)) (tC (.int 2)))))) tNever tNext)
    (tSeq (tIfS (tNot (tB (tCB (rAll K) (tCons (tLc (iSeq K (tVar 1)) (gName 4) tYes (tCall (sp_is_edition K w c) [] E0 (tCons (tVar 4) (tCons (tC (.int 1)) tNil))) [4]) tNil)))) tNever tNext)
    (tSeq (tDrop (tCall (sp_check_rule K w c) [] E0 (tCons (tVar 2) tNil)))
    (tSeq (tIfS (tOr (tNot (tB (tCB (rIsiG K) (tCons (tVar 3) (tCons (tC (.ty "tuple")) tNil))))) (tNot (tB (tCB (rAll K) (tCons (tLc (iSeq K (tVar 3)) (gName 5) tYes (tCall (sp_is_word K w c) [] E0 (tCons (tVar 5) (tCons (tC (.ref c.WORDS)) tNil))) [5]) tNil))))) tNever tNext)
    (tSeq (tIfS (tTest (tOp (rNeD K) (tLc (iSeq K (tC (.ref c.WORDS))) (gName 5) (tTest (tOp (rInG K false) (tVar 5) (tVar 3))) (tVar 5) [5]) (tCB (rListG K) (tCons (tVar 3) tNil)))) tNever tNext)
    (tSeq (sFld K (tVar 0) (tVar 1) "wanted")
    (tSeq (sFld K (tVar 0) (tDc (iKeysW K w (tC (.ref c.PARTS))) (gName 6) tYes (tVar 6) (tDGet (tVar 2) (tVar 6)) [6]) "terms")
    (sFld K (tVar 0) (tVar 3) "kinds"))))))))
theorem u_drop {te : TE} {tr : TS} {D : Ends} {H : Hp} {P : MP V} (h : Cm (te σ) G P) (e : Ex G H) (k : ∀ G' H', Ex H H' → Nw H G G' H' → tr D σ H') : tSeq (tDrop te) tr D σ H := h H e _ fun v G' H' e1 n1 _ => k G' H' e1 n1
theorem map_fst_eq (r : Rule) {kvs : List (Str × V)} {f : Str → Str} (k1 : kvs.map (·.1) = kvParts.map (·.1)) (hf : ∀ q ∈ r.kvs, f q.1 = q.2) : (kvs.map fun q => (q.1, f q.1)) = r.kvs := by
  have e : (kvs.map fun q => (q.1, f q.1)) = (kvs.map (·.1)).map fun x => (x, f x) := by rw [List.map_map] <;> rfl
  rw [e, k1, ← rule_keys r, List.map_map]
  refine (List.map_congr_left fun q hq => ?_).trans (List.map_id _)
  exact Prod.ext rfl (hf q hq)
theorem rd_Book_init (X : Ax K w c) {vs : List V} {H : Hp} {Q : VK} {E : XK} (h : sp_Book_init K w c vs H Q E) : t_Book_init K w c (Dn Q) (vs.map some ++ List.replicate (7 - vs.length) none) H := by
  obtain ⟨x, dx, vr, vd, vw, b, G, rfl, e, gx, hx, hr, ⟨pd, rfl, hd⟩, hw, ok, k⟩ := h
  obtain ⟨kvs, k1, D, k3⟩ := X.kd
  show t_Book_init K w c (Dn Q) [some (.ref x), some vr, some (.ref pd), some vw, none, none, none] H
  have c1 : ∀ {G1 : Hp} {a1 a2 a3 : Option V}, Ex G G1 → Cm (tVar 1 [some (.ref x), some vr, some (.ref pd), some vw, a1, a2, a3]) G1 (MP.d K (.tuple (b.rows.map rowD))) := fun eG => c_var rfl (Dp.up eG _ _ hr)
  have c2 : ∀ {G1 : Hp} {a1 a2 a3 : Option V}, Ex G G1 → Cm (tVar 2 [some (.ref x), some vr, some (.ref pd), some vw, a1, a2, a3]) G1 (MP.dk b.rule.kvs) := fun eG => c_var rfl ⟨pd, rfl, eG _ _ hd⟩
  have c3 : ∀ {G1 : Hp} {a1 a2 a3 : Option V}, Ex G G1 → Cm (tVar 3 [some (.ref x), some vr, some (.ref pd), some vw, a1, a2, a3]) G1 (MP.d K (.tuple (b.words.map PyData.str))) := fun eG => c_var rfl (Dp.up eG _ _ hw)
  have hrl : b.rows.length ≤ 2 := by rcases ok with z | z <;> omega
  have hwl : (b.words.map PyData.str).length ≤ 2 := words_all (M := fun l => (l.map PyData.str).length ≤ 2) b (by decide) (by decide) (by decide) (by decide)
  refine u_ifN (c_teq (c_tor (b := false) (c_tnot (c_tB (c_isi (c1 (Ex.refl G)) (kit_tup _)))) fun _ => c_teq (c_tnot (a := true) (c_test (c_to (c_chainI (g := fun i j => decide (i ≤ j)) (g' := fun i j => decide (i ≤ j)) c_int (c_lenT (c1 (Ex.refl G))) c_int) ?_))) rfl) rfl) e fun G1 H1 e1 n1 => ?_
  · rw [List.length_map]
    rcases ok with z | z <;> rw [z] <;> rfl
  refine u_ifN (c_teq (c_tnot (a := true) (c_tB (c_to (c_allT (K := K) (fun d => isEdD d 1) (c1 n1.ex) (by rw [List.length_map]; omega) fun v d G2 eG hm hv => ct_name rfl c_yes fun _ => c_isEd (c_var (P := MP.d K d) rfl hv) c_int ?_) ?_))) rfl) n1.le fun G2 H2 e2 n2 => ?_
  · intro a a' hd'
    obtain ⟨r, _, rfl⟩ := List.mem_map.mp hm
    injection hd' with hd'
    injection hd' with h1 _
    subst h1
    exact ks_ok _
  · rw [List.all_eq_true.mpr]
    intro d hm
    obtain ⟨r, _, rfl⟩ := List.mem_map.mp hm
    exact row_ok r
  have x2 : Ex G G2 := n1.ex.trans n2.ex
  refine u_drop (c_call (args := fun r : Rule => [MP.dk r.kvs]) (res := fun _ => MP.d K .none) b.rule (c_cons (c2 x2) c_nil)) n2.le fun G3 H3 e3 n3 => ?_
  have x3 : Ex G G3 := x2.trans n3.ex
  refine u_ifN (c_teq (c_tor (b := false) (c_tnot (c_tB (c_isi (c3 x3) (kit_tup _)))) fun _ => c_teq (c_tnot (a := true) (c_tB (c_to (c_allT (K := K) (fun d => isWordD d ["join", "sweep"]) (c3 x3) (by omega) fun v d G4 eG hm hv => ct_name rfl c_yes fun _ => c_isWord (d := d) (ws := ["join", "sweep"]) true (c_var (P := MP.d K d) rfl hv) (c_c (X.wds G4)) ?_ (by decide +kernel)) ?_))) rfl) rfl) n3.le fun G4 H4 e4 n4 => ?_
  · obtain ⟨s, hs, rfl⟩ := List.mem_map.mp hm
    exact words_all (M := fun l => s ∈ l → SeqAt.shaped (.str s) = true) b (fun z => nomatch z) (by intro z; rw [List.mem_singleton.mp z]; decide +kernel) (by intro z; rw [List.mem_singleton.mp z]; decide +kernel)
      (by intro z; rcases List.mem_cons.mp z with z | z; · rw [z]; decide +kernel
          · rw [List.mem_singleton.mp z]; decide +kernel) hs
  · exact congrArg PyData.bool (words_all (M := fun l => (l.map PyData.str).all (fun d => isWordD d ["join", "sweep"]) = true) b (by decide +kernel) (by decide +kernel) (by decide +kernel) (by decide +kernel))
  have x4 : Ex G G4 := x3.trans n4.ex
  refine u_ifN (c_test (c_to (c_ne (l_d (c_lcT (K := K) (ds := [.str "join", .str "sweep"]) (t := fun d => (b.words.map PyData.str).any fun z => PyData.eqv z d) (F := fun d => d) (c_c (X.wds G4)) (by decide) fun v d G5 eG hm hv => ct_name rfl (c_test (c_to (c_inT (n := false) (c_var (P := MP.d K d) rfl hv) (c3 (x4.trans eG)) ?_ (words_shp b)) rfl)) fun _ => c_var (P := MP.d K d) rfl hv)) (c_listT (c3 x4)) ?_ ?_) ?_)) n4.le fun G5 H5 e5 n5 => ?_
  · rcases List.mem_cons.mp hm with z | z
    · rw [z]; decide +kernel
    · rw [List.mem_singleton.mp z]; decide +kernel
  · exact words_all (M := fun l => SeqAt.shaped (.list (List.map (fun d => d) (List.filter (fun d => (l.map PyData.str).any fun z => PyData.eqv z d) [.str "join", .str "sweep"]))) = true) b (by decide +kernel) (by decide +kernel) (by decide +kernel) (by decide +kernel)
  · exact words_shp b
  · exact congrArg PyData.bool (words_all (M := fun l => (!PyData.eqv (.list (List.map (fun d => d) (List.filter (fun d => (l.map PyData.str).any fun z => PyData.eqv z d) [.str "join", .str "sweep"]))) (.list (l.map PyData.str))) = false) b (by decide +kernel) (by decide +kernel) (by decide +kernel) (by decide +kernel))
  have x5 : Ex G G5 := x4.trans n5.ex
  have n05 : Nw H G G5 H5 := (((n1.trans e1 n2).trans (e1.trans e2) n3).trans ((e1.trans e2).trans e3) n4).trans (((e1.trans e2).trans e3).trans e4) n5
  have e05 : Ex H H5 := (((e1.trans e2).trans e3).trans e4).trans e5
  have gx5 : G5 x = none := n05.old x (by rw [hx]; exact fun z => nomatch z) gx
  -- self.wanted = rows
  refine ⟨_, rfl, _, rfl, x, c.Book, dx, [], rfl, e05 _ _ hx, X.cl, X.nW, by show 0 < 1000; decide, ?_⟩
  -- self.terms = {..}
  have eU : Ex G5 (upd H5 x (.ins c.Book dx (putF "wanted" vr []))) := n05.le.mut gx5
  change sFld K (tVar 0) (tDc (iKeysW K w (tC (.ref c.PARTS))) (gName 6) tYes (tVar 6) (tDGet (tVar 2) (tVar 6)) [6]) "terms" _ _ _
  unfold sFld
  refine (c_dcW (K := K) (w := w) (G := G5) (σ := [some (.ref x), some vr, some (.ref pd), some vw, none, none, none]) (j := 6) (vs := [6]) (tk := tVar 6) (tv := tDGet (tVar 2) (tVar 6)) (td := tC (.ref c.PARTS)) (kvs := kvs) (f := fun y => (b.rule.kvs.lookup y).getD "") (c_c ⟨_, rfl, D⟩) fun q G6 hq eG => ⟨_, rfl, rfl, c_var rfl (.str _), c_dget (c2 (x5.trans eG)) (c_var (P := MP.d K (.str q.1)) rfl (.str _)) ?_⟩) _ eU _ fun v G6 H6 e6 n6 p6 => ?_
  · have hm : q.1 ∈ b.rule.kvs.map (·.1) := by rw [rule_keys, ← k1]; exact List.mem_map.mpr ⟨q, hq, rfl⟩
    obtain ⟨r, hr', er⟩ := List.mem_map.mp hm
    obtain ⟨j, hj⟩ := List.getElem?_of_mem hr'
    have := rule_lookup b.rule hj
    rw [er] at this
    rw [this] <;> rfl
  rw [map_fst_eq (f := fun y => (b.rule.kvs.lookup y).getD "") b.rule k1 fun q hq => by
    obtain ⟨j, hj⟩ := List.getElem?_of_mem hq
    rw [rule_lookup b.rule hj] <;> rfl] at p6
  obtain ⟨pt, rfl, hpt⟩ := p6
  have hx6 : H6 x = some (.ins c.Book dx (putF "wanted" vr [])) := e6 _ _ upd_same
  refine ⟨_, rfl, x, c.Book, dx, _, rfl, hx6, X.cl, X.nT, ?_, ?_⟩
  · have := length_putF "wanted" vr []
    simp only [List.length_nil] at this
    omega
  -- self.kinds = words
  refine ⟨_, rfl, _, rfl, x, c.Book, dx, _, rfl, upd_same, X.cl, X.nK, ?_, ?_⟩
  · have h1 := length_putF "wanted" vr []
    have h2 := length_putF "terms" (.ref pt) (putF "wanted" vr [])
    simp only [List.length_nil] at h1
    omega
  rw [upd_upd]
  have gx6 : G6 x = none := n6.old x (by rw [upd_same]; exact fun z => nomatch z) gx5
  have hne : ∀ q o, H q = some o → q ≠ x → upd H6 x (.ins c.Book dx (bkF vr pt vw)) q = some o := fun q o hq hqx => by
    rw [upd_ne hqx]
    exact e6 _ _ (by rw [upd_ne hqx]; exact e05 _ _ hq)
  refine k pt G6 _ hne ⟨n05.ex.trans n6.ex, n6.le.mut gx6, fun q hq hg => ?_⟩ hpt upd_same
  by_cases hqx : q = x
  · rw [hqx]; exact gx6
  · exact n6.old q (by rw [upd_ne hqx]; exact ne_ex e05 hq) (n05.old q hq hg)
/-- Book(rows, rule, words) -/
theorem c_mkBook {ta tb td : TE} (b : Bk) (ok : b.ok) (h1 : Cm (ta σ) G (MP.d K (rowsD b))) (h2 : Cm (tb σ) G (MP.dk b.rule.kvs)) (h3 : Cm (td σ) G (MP.d K (wordsD b))) :
    Cm (tMake c.Book (sp_Book_init K w c) [] E0 (tCons ta (tCons tb (tCons td tNil))) σ) G (MP.bk K c b) := fun H e Q k =>
  c_cons h1 (c_cons h2 (c_cons h3 c_nil)) H e _ fun vs G1 H1 e1 n1 p1 => by
    cases p1 with
    | cons a1 p1 => cases p1 with
      | cons a2 p1 => cases p1 with
        | cons a3 p1 =>
          cases p1
          rename_i vr vd vw
          intro x dx nx ndx hne
          have e2 : Ex H1 (upd (upd H1 dx (.own x)) x (.ins c.Book dx [])) := (Ex.new ndx).trans (Ex.new (by rw [upd_ne (Ne.symm hne)]; exact nx))
          have gx := fresh_back n1.le nx
          refine ⟨x, dx, _, _, _, b, G1, rfl, n1.le.trans e2, gx, upd_same, a1, a2, a3, ok, fun pt G' H' f n hpt hx => ⟨rfl, ?_⟩⟩
          have gx' : G' x = none := n.old x (by rw [upd_same]; exact fun z => nomatch z) gx
          have e3 : Ex H1 H' := fun q o hq => f q o (e2 q o hq) (ne_of_none hq nx)
          have n3 : Nw H1 G1 (upd G' x (.ins c.Book dx (bkF vr pt vw))) H' := by
            refine ⟨n.ex.trans (Ex.new gx'), fun q o hq => ?_, fun q hq hg => ?_⟩
            · by_cases hqx : q = x
              · subst hqx; rw [upd_same] at hq; rw [hx, ← hq]
              · rw [upd_ne hqx] at hq; exact n.le q o hq
            · have hqx : q ≠ x := fun z => hq (by rw [z]; exact nx)
              rw [upd_ne hqx]
              exact n.old q (ne_ex e2 hq) hg
          exact k _ _ H' (e1.trans e3) (n1.trans e1 n3) ⟨x, dx, _, pt, _, rfl, upd_same, Dp.up (n.ex.trans (Ex.new gx')) _ _ a1, (Ex.new gx') _ _ hpt, Dp.up (n.ex.trans (Ex.new gx')) _ _ a3⟩
end
end Ah
/-! Ah14: drawing a book. -/
namespace Ah
open PySem PySem.Spec PyProof.Rows L2 Evl

/-- from a stable G of H to a stable G' of H', the source drawn from meanwhile -/
structure Dr (h d : Addr) (H G G' H' : Hp) : Prop where
  fr : Fr h d H H'
  ex : Ex G G'
  le : Ex G' H'
  old : ∀ b, H b ≠ none → G b = none → G' b = none
  src : Src H' h d
section
variable {h d : Addr} {H H1 H2 G G1 G2 : Hp}
theorem Src.nh (S : Src H h d) : H h ≠ none := by
  obtain ⟨s, i, cells, h1, _⟩ := S.ex
  rw [h1]; exact fun z => nomatch z
theorem Src.nd (S : Src H h d) : H d ≠ none := by
  obtain ⟨s, i, cells, _, h1, _⟩ := S.ex
  rw [h1]; exact fun z => nomatch z
theorem Dr.of (e : Ex H H1) (n : Nw H G G1 H1) (S : Src H h d) : Dr h d H G G1 H1 := ⟨Fr.of e, n.ex, n.le, n.old, S.ext e⟩
theorem Fr.some {b : Addr} (f : Fr h d H H1) (S : Src H1 h d) (hb : H b ≠ none) : H1 b ≠ none := by
  by_cases e1 : b = h
  · subst e1; exact S.nh
  · by_cases e2 : b = d
    · subst e2; exact S.nd
    · cases q : H b with
      | none => exact absurd q hb
      | some o => rw [f b o q e1 e2]; exact fun z => nomatch z
theorem Dr.trans (a : Dr h d H G G1 H1) (b : Dr h d H1 G1 G2 H2) : Dr h d H G G2 H2 :=
  ⟨a.fr.trans b.fr, a.ex.trans b.ex, b.le, fun c hc hg => b.old c (a.fr.some a.src hc) (a.old c hc hg), b.src⟩
theorem Dr.refl (e : Ex G H) (S : Src H h d) : Dr h d H G G H := ⟨Fr.refl, Ex.refl G, e, fun _ _ z => z, S⟩
/-- the source drawn from, nothing new that is stable -/
theorem Dr.drawn (e : Ex G H) (gh : G h = none) (gd : G d = none) (f : Fr h d H H1) (S : Src H1 h d) : Dr h d H G G H1 := ⟨f, Ex.refl G, f.ex e gh gd, fun _ _ z => z, S⟩
theorem Dr.gh (a : Dr h d H G G1 H1) (S : Src H h d) (g : G h = none) : G1 h = none := a.old h S.nh g
theorem Dr.gd (a : Dr h d H G G1 H1) (S : Src H h d) (g : G d = none) : G1 d = none := a.old d S.nd g
end
section
variable {K : PySem.W.Frag} {w : World} {c : Ad} {σ : L2.St} {G H : Hp} {ta te : TE} {ds : List PyData} {h d : Addr} {Q : VK} {i : Nat}
theorem u_next {n : Int} (hi : σ[i]? = some (some (.ref h))) (S : Src H h d) (h0 : 0 < n) (h1 : n < 1000000000) (k : ∀ (r : Int) H', 0 ≤ r → r < n → Src H' h d → Fr h d H H' → Q (.int r) H') :
    tCall (sp__law_next K w c) [] E0 (tCons (tVar i) (tCons (tC (.int n)) tNil)) σ H Q := ⟨_, hi, h, d, n, rfl, S, h0, h1, k⟩
theorem u_pick (hi : σ[i]? = some (some (.ref h))) (ha : Cm (ta σ) G (MP.d K (.list ds))) (e : Ex G H) (S : Src H h d) (gh : G h = none) (gd : G d = none) (hl : 0 < ds.length) (hl2 : ds.length ≤ 100000)
    (k : ∀ v x G' H', x ∈ ds → Dp K G' v x → Dr h d H G G' H' → Q v H') : tCall (sp__law_pick K w c) [] E0 (tCons (tVar i) (tCons ta tNil)) σ H Q := by
  refine ⟨_, hi, ha H e _ fun a G1 H1 e1 n1 p1 => ?_⟩
  obtain ⟨a, xs, rfl, hs, hd⟩ := dp_lst p1
  have D1 := Dr.of e1 n1 S
  have g1 := D1.gh S gh
  have g2 := D1.gd S gd
  refine ⟨h, d, a, xs, G1, rfl, D1.src, n1.le, g1, g2, hs, by rw [DpAll.length hd]; exact hl, by rw [DpAll.length hd]; exact hl2, fun v H' hv S' f => ?_⟩
  obtain ⟨j, hj⟩ := List.getElem?_of_mem hv
  obtain ⟨x, hx, px⟩ := DpAll.at_ hd hj
  exact k v x G1 H' (List.mem_of_getElem? hx) px (D1.trans (Dr.drawn n1.le g1 g2 f S'))
end
theorem Src.upd {H : Hp} {h d p : Addr} {o : HO} (S : Src H h d) (h1 : p ≠ h) (h2 : p ≠ d) : Src (L2.upd H p o) h d := by
  obtain ⟨s, i, cells, a, b, r⟩ := S.ex
  exact ⟨s, i, cells, by rw [upd_ne (Ne.symm h1)]; exact a, by rw [upd_ne (Ne.symm h2)]; exact b, r⟩
/-! ### rules put together -/
def okKvs (l : List (Str × Str)) : Prop := ∀ (j : Nat) (q : Str × Str), l[j]? = some q → ∃ p : Str × List Str, kvParts[j]? = some p ∧ q.1 = p.1 ∧ q.2 ∈ p.2
theorem bool_of {x y z : Str} (h : z ∈ [x, y]) : ∃ b : Bool, z = bif b then y else x := by
  rcases List.mem_cons.mp h with e | e
  · exact ⟨false, e⟩
  · exact ⟨true, List.mem_singleton.mp e⟩
theorem mis_of {z : Str} (h : z ∈ [("none" : Str), "place", "waits"]) : ∃ m : Mis, z = m.s := by
  rcases List.mem_cons.mp h with e | h
  · exact ⟨.none, e⟩
  · rcases List.mem_cons.mp h with e | h
    · exact ⟨.place, e⟩
    · exact ⟨.waits, List.mem_singleton.mp h⟩
theorem rule_of {l : List (Str × Str)} (hl : l.length = 6) (h : okKvs l) : ∃ r : Rule, l = r.kvs := by
  match l, hl, h with
  | [q0, q1, q2, q3, q4, q5], _, h =>
    obtain ⟨p, e, a1, a2⟩ := h 0 q0 rfl
    cases e
    obtain ⟨p, e, b1, b2⟩ := h 1 q1 rfl
    cases e
    obtain ⟨p, e, c1, c2⟩ := h 2 q2 rfl
    cases e
    obtain ⟨p, e, d1, d2⟩ := h 3 q3 rfl
    cases e
    obtain ⟨p, e, m1, m2⟩ := h 4 q4 rfl
    cases e
    obtain ⟨p, e, e1, e2⟩ := h 5 q5 rfl
    cases e
    obtain ⟨a, a2⟩ := bool_of a2
    obtain ⟨b, b2⟩ := bool_of b2
    obtain ⟨c, c2⟩ := bool_of c2
    obtain ⟨d, d2⟩ := bool_of d2
    obtain ⟨m, m2⟩ := mis_of m2
    obtain ⟨e, e2⟩ := bool_of e2
    refine ⟨⟨a, b, c, d, m, e⟩, ?_⟩
    rw [← Prod.eta q0, ← Prod.eta q1, ← Prod.eta q2, ← Prod.eta q3, ← Prod.eta q4, ← Prod.eta q5, a1, a2, b1, b2, c1, c2, d1, d2, m1, m2, e1, e2] <;> rfl
def putS (l : List (Str × Str)) (x y : Str) : List (Str × Str) := if l.any (fun q => decide (q.1 = x)) then l.map (fun q => if q.1 = x then (q.1, y) else q) else l ++ [(x, y)]
theorem put_kv (l : List (Str × Str)) (x y : Str) : putK (kvD l) (Sum.inr x : Key) (.str y) = kvD (putS l x y) := by
  have e1 : ((kvD l).any fun kv => decide (kv.1 = Sum.inr x)) = l.any fun q => decide (q.1 = x) := by
    unfold kvD
    rw [List.any_map]
    refine congrArg (fun f => l.any f) (funext fun q => ?_)
    show decide (Sum.inr q.1 = (Sum.inr x : Key)) = decide (q.1 = x)
    by_cases e : q.1 = x
    · rw [e, decide_eq_true rfl, decide_eq_true rfl]
    · rw [decide_eq_false e, decide_eq_false fun z => e (Sum.inr.inj z)]
  unfold putK putS
  rw [e1]
  split
  · unfold kvD
    rw [List.map_map, List.map_map]
    refine List.map_congr_left fun q _ => ?_
    show (if (Sum.inr q.1 : Key) = Sum.inr x then _ else _) = ((fun q : Str × Str => ((Sum.inr q.1 : Key), V.str q.2)) (if q.1 = x then (q.1, y) else q))
    by_cases e : q.1 = x
    · rw [if_pos e, if_pos (congrArg Sum.inr e)]
    · rw [if_neg e, if_neg fun z => e (Sum.inr.inj z)]
  · unfold kvD
    rw [List.map_append] <;> rfl
theorem put_missing (r : Rule) : putS r.kvs "missing" "place" = ({ r with mis := .place } : Rule).kvs := by
  have e1 : (r.kvs.any fun q => decide (q.1 = ("missing" : Str))) = true := by
    have : (r.kvs.map (·.1)).any (fun x => decide (x = ("missing" : Str))) = true := by rw [rule_keys]; decide +kernel
    rwa [List.any_map] at this
  unfold putS
  rw [if_pos e1]
  unfold Rule.kvs
  obtain ⟨a, b, c, d, m, e⟩ := r
  cases m <;> cases a <;> cases b <;> cases c <;> cases d <;> cases e <;> decide +kernel
theorem put_again (r : Rule) : putS r.kvs "again" "skip" = ({ r with twice := false } : Rule).kvs := by
  have e1 : (r.kvs.any fun q => decide (q.1 = ("again" : Str))) = true := by
    have : (r.kvs.map (·.1)).any (fun x => decide (x = ("again" : Str))) = true := by rw [rule_keys]; decide +kernel
    rwa [List.any_map] at this
  unfold putS
  rw [if_pos e1]
  unfold Rule.kvs
  obtain ⟨a, b, c, d, m, e⟩ := r
  cases m <;> cases a <;> cases b <;> cases c <;> cases d <;> cases e <;> decide +kernel
section
variable {K : PySem.W.Frag} {w : World} {c : Ad}
def sp__law_rule (K : PySem.W.Frag) (w : World) (c : Ad) : Sp := fun vs H Q _ => ∃ (h d : Addr), vs = [.ref h] ∧ Src H h d ∧ ∀ (r : Rule) p H', H p = none → H' p = some (.dK (kvD r.kvs)) → Src H' h d → Fr h d H H' → Q (.ref p) H'
theorem len__law_rule {vs : List V} {H : Hp} {Q : VK} {E : XK} (h : sp__law_rule K w c vs H Q E) : vs.length = 1 := by
  obtain ⟨_, _, rfl, _⟩ := h
  rfl
def t__law_rule (K : PySem.W.Frag) (w : World) (c : Ad) : TS :=
  (tSeq (tAsg tDNewK (gName 1))
    (tSeq (tFor (iSeq K (tCall (sp__law_parts K w c) [] E0 tNil)) (gName 2)
    (sDPut (tVar 1) (tOp (rIx K) (tVar 2) (tC (.int 0))) (tCall (sp__law_pick K w c) [] E0 (tCons (tVar 0) (tCons (tSl (rSlG K) (tVar 2) (tPart (tC (.int 1))) tNoPart) tNil)))))
    (tSeq (tIfS (tTest (tOp (rEqD K) (tCall (sp__law_next K w c) [] E0 (tCons (tVar 0) (tCons (tC (.int 3)) tNil))) (tC (.int 0)))) (sDPut (tVar 1) (tC (.str "missing")) (tC (.str "place"))) tNext)
    (tRet (tVar 1)))))
def noH : Hp := fun _ => none
theorem noH_ex {H : Hp} : Ex noH H := fun _ _ z => nomatch z
theorem parts_at {i : Nat} {x : PyData} (h : (partsL.map fun l => PyData.list (l.map PyData.str))[i]? = some x) : ∃ p : Str × List Str, kvParts[i]? = some p ∧ x = .list (.str p.1 :: p.2.map PyData.str) := by
  have e : (partsL.map fun l => PyData.list (l.map PyData.str)) = kvParts.map fun p => .list (.str p.1 :: p.2.map PyData.str) := rfl
  rw [e, List.getElem?_map] at h
  cases q : kvParts[i]? with
  | none => rw [q] at h; cases h
  | some p => rw [q] at h; exact ⟨p, rfl, (Option.some.inj h).symm⟩
theorem parts_pos : ∀ p ∈ kvParts, 0 < p.2.length ∧ p.2.length ≤ 3 := by decide +kernel
theorem okKvs.snoc {l : List (Str × Str)} {i : Nat} {pt : Str × List Str} {s : Str} (h : okKvs l) (hn : l.length = i) (hp : kvParts[i]? = some pt) (hs : s ∈ pt.2) : okKvs (l ++ [(pt.1, s)]) := by
  intro j q hj
  rw [List.getElem?_append] at hj
  split at hj
  · exact h j q hj
  · next hlt =>
    have : j = i := by
      have := (List.getElem?_eq_some_iff.mp hj).1
      simp at this
      omega
    subst this
    rw [hn, Nat.sub_self] at hj
    cases hj
    exact ⟨pt, hp, rfl, hs⟩
theorem kv_keys_nd : ∀ i < 6, ∀ j < 6, (kvParts[i]?).map (·.1) = (kvParts[j]?).map (·.1) → i = j := by decide +kernel
theorem okKvs.fresh {l : List (Str × Str)} {i : Nat} {pt : Str × List Str} (h : okKvs l) (hn : l.length = i) (hp : kvParts[i]? = some pt) : (l.any fun q => decide (q.1 = pt.1)) = false := by
  rw [Bool.eq_false_iff]
  intro ha
  obtain ⟨q, hq, he⟩ := List.any_eq_true.mp ha
  have he := of_decide_eq_true he
  obtain ⟨j, hj⟩ := List.getElem?_of_mem hq
  obtain ⟨p2, h2, h3, _⟩ := h j q hj
  have hjl := (List.getElem?_eq_some_iff.mp hj).1
  have := kv_keys_nd j (List.getElem?_eq_some_iff.mp h2).1 i (List.getElem?_eq_some_iff.mp hp).1 (by rw [h2, hp, Option.map_some, Option.map_some, ← he, h3])
  omega
theorem rd__law_rule {vs : List V} {H : Hp} {Q : VK} {E : XK} (h : sp__law_rule K w c vs H Q E) : t__law_rule K w c (Dn Q) (vs.map some ++ List.replicate (3 - vs.length) none) H := by
  obtain ⟨h, d, rfl, S, k⟩ := h
  intro p hp
  have S1 : Src (upd H p (.dK [])) h d := S.ext (Ex.new hp)
  refine ⟨(), noH, noH_ex, .nil, fun v G H1 e1 n1 p1 => ?_⟩
  obtain ⟨a, xs, rfl, ha, hd⟩ := p1
  have D1 : Dr h d H noH G H1 := ⟨Fr.of ((Ex.new hp).trans e1), noH_ex, n1.le, fun b hb g => n1.old b (by rw [upd_ne (fun z => hb (by rw [z]; exact hp))]; exact hb) g, S1.ext e1⟩
  have gp : G p = none := n1.old p (by rw [upd_same]; exact fun z => nomatch z) rfl
  have gh := D1.gh S rfl
  have gd := D1.gd S rfl
  have hph : p ≠ h := fun z => S.nh (by rw [← z]; exact hp)
  have hpd : p ≠ d := fun z => S.nd (by rw [← z]; exact hp)
  have hst : ∀ {G' H2 : Hp} {l : List (Str × Str)}, Dr h d H noH G' H2 → G' p = none → Dr h d H noH G' (upd H2 p (.dK (kvD l))) := fun D g => ⟨fun b o hb h1 h2 => by
    rw [upd_ne (fun z => by rw [z, hp] at hb; cases hb)]; exact D.fr b o hb h1 h2, D.ex, D.le.mut g, D.old, D.src.upd hph hpd⟩
  refine .inl ⟨a, rfl, ⟨xs, SqL.of (n1.le _ _ ha)⟩, ?_⟩
  have hxl : xs.length = 6 := (DpAll.length hd).trans rfl
  refine for_list (xs := xs) (fun i σ H' => (∃ x, σ = [some (.ref h), some (.ref p), x]) ∧ (∃ G', Dr h d H noH G' H' ∧ G' p = none ∧ G' a = G a ∧ Ex G G') ∧ ∃ l : List (Str × Str), H' p = some (.dK (kvD l)) ∧ l.length = i ∧ okKvs l)
    ⟨⟨none, rfl⟩, ⟨G, D1, gp, rfl, Ex.refl G⟩, [], e1 _ _ upd_same, rfl, fun j q z => by simp at z⟩ ?_ ?_ ?_
  · rintro i σ H' _ ⟨_, ⟨G', D, _, _, eG⟩, _⟩
    exact SqL.of (D.le _ _ (eG _ _ ha))
  · rintro i x σ H' hx ⟨⟨y, rfl⟩, ⟨G', D, gp', _, eG⟩, l, hl, hn, hok⟩
    obtain ⟨pd, hpd', px⟩ := DpAll.at_ hd hx
    obtain ⟨pt, hpt, rfl⟩ := parts_at hpd'
    have px' := Dp.up eG _ _ px
    have hmem := List.mem_of_getElem? hpt
    have cx : ∀ {G2 : Hp}, Ex G' G2 → Cm (tVar 2 [some (.ref h), some (.ref p), some x]) G2 (MP.d K (.list (.str pt.1 :: pt.2.map PyData.str))) := fun e2 => c_var rfl (Dp.up e2 _ _ px')
    refine u_pick (ds := pt.2.map PyData.str) rfl (c_to (c_slL (cx (Ex.refl _)) (c_part (K := K) c_int) c_nopart) ?_) D.le D.src (D.gh S rfl) (D.gd S rfl) (by rw [List.length_map]; exact (parts_pos pt hmem).1) (by rw [List.length_map]; have := (parts_pos pt hmem).2; omega) fun v z G2 H2 hz pz D2 => ?_
    · refine congrArg PyData.list ?_
      unfold cutD
      simp [HT.sIx]
      exact List.take_of_length_le (by rw [List.length_map] <;> exact Nat.le_refl _)
    · obtain ⟨s, hs, rfl⟩ := List.mem_map.mp hz
      have ev := dp_str pz
      subst ev
      have hl2 : H2 p = some (.dK (kvD l)) := D2.fr _ _ hl hph hpd
      have gp2 : G2 p = none := D2.old p (by rw [hl]; exact fun z => nomatch z) gp'
      refine ⟨_, rfl, (c_ixL (cx D2.ex) c_int (atI_of (by decide) rfl rfl) : Cm (tOp (rIx K) (tVar 2) (tC (.int 0)) [some (.ref h), some (.ref p), some x]) G2 (MP.d K (.str pt.1))) H2 D2.le _ fun u G3 H3 e3 n3 p3 => ?_⟩
      have eu := dp_str p3
      subst eu
      have hl3 : H3 p = some (.dK (kvD l)) := e3 _ _ hl2
      have hlen := (List.getElem?_eq_some_iff.mp hpt).1
      have D3 := (D.trans D2).trans (Dr.of e3 n3 D2.src)
      have gp3 : G3 p = none := n3.old p (by rw [hl2]; exact fun z => nomatch z) gp2
      have ep : putK (kvD l) (Sum.inr pt.1 : Key) (.str s) = kvD (l ++ [(pt.1, s)]) := by
        rw [put_kv]
        unfold putS
        rw [hok.fresh hn hpt] <;> rfl
      refine ⟨p, _, rfl, DPut.k (k := Sum.inr pt.1) hl3 ?_, ⟨x, rfl⟩, ⟨G3, ?_, gp3, ?_, eG.trans (D2.ex.trans n3.ex)⟩, l ++ [(pt.1, s)], ?_, by rw [List.length_append, hn] <;> rfl, hok.snoc hn hpt hs⟩
      · unfold kvD
        rw [List.length_map, hn]
        exact Nat.lt_trans hlen (by decide)
      · rw [ep]; exact hst D3 gp3
      · rw [(eG.trans (D2.ex.trans n3.ex)) _ _ ha, ha]
      · rw [upd_same, ep]
  · rintro σ H' ⟨⟨x, rfl⟩, ⟨G', D, gp', _, eG⟩, l, hl, hn, hok⟩
    obtain ⟨r, rfl⟩ := rule_of (hn.trans hxl) hok
    refine u_next rfl D.src (by decide) (by decide) fun n H2 _ _ S2 f2 => ?_
    have hl2 : H2 p = some (.dK (kvD r.kvs)) := f2 _ _ hl hph hpd
    have D2 := D.trans (Dr.drawn D.le (D.gh S rfl) (D.gd S rfl) f2 S2)
    refine ⟨.int n, .int 0, .int _, .int _, rfl, rfl, _, rfl, ?_⟩
    cases PyData.eqv (.int n) (.int 0) with
    | true =>
      refine ⟨_, rfl, p, _, rfl, DPut.k (k := Sum.inr "missing") hl2 (by rw [kvD, List.length_map, hn, hxl]; decide), _, rfl, ?_⟩
      rw [put_kv, put_missing]
      exact k _ p _ hp upd_same (hst (l := ({ r with mis := .place } : Rule).kvs) D2 gp').src (hst (l := ({ r with mis := .place } : Rule).kvs) D2 gp').fr
    | false => exact ⟨_, rfl, k r p _ hp hl2 S2 D2.fr⟩
end
end Ah
/-! Ah15: computations that draw from the source. -/
namespace Ah
open PySem PySem.Spec PyProof.Rows L2 Evl

abbrev MP.ex {α ι : Type} (f : ι → MP α) : MP α := ⟨fun v G => ∃ i, (f i).p v G, fun e h => let ⟨i, q⟩ := h; ⟨i, (f i).mono e q⟩⟩
/-- t draws from the source at h, d, and answers a P -/
def Dw {α : Type} (h d : Addr) (t : Hp → (α → Hp → Prop) → Prop) (G : Hp) (P : MP α) : Prop :=
  ∀ H, Ex G H → Src H h d → G h = none → G d = none → ∀ Q : α → Hp → Prop, (∀ a G' H', P.p a G' → Dr h d H G G' H' → Q a H') → t H Q
theorem Dr.up {h d : Addr} {G G1 G' H H' : Hp} (hg : Ex G G1) (h1 : Ex G1 H) (g1 : G1 h = none) (g2 : G1 d = none) (n : Dr h d H G G' H') : Dr h d H G1 (mrg G1 G') H' ∧ Ex G' (mrg G1 G') := by
  have key : ∀ b u, G1 b = some u → H' b = some u := fun b u q => n.fr b u (h1 b u q) (fun z => by rw [z, g1] at q; cases q) (fun z => by rw [z, g2] at q; cases q)
  refine ⟨⟨n.fr, fun b o h => mrg_some h, fun b o h => ?_, fun b hb hn => ?_, n.src⟩, fun b o h => ?_⟩
  · cases q : G1 b with
    | some u => rw [mrg_some q] at h; cases h; exact key b _ q
    | none => rw [mrg_none q] at h; exact n.le b o h
  · rw [mrg_none hn]; exact n.old b hb (fresh_back hg hn)
  · cases q : G1 b with
    | some u =>
      rw [mrg_some q]
      have z1 := n.le b o h
      rw [key b _ q] at z1
      exact z1
    | none => rw [mrg_none q]; exact h
section
variable {α β : Type} {t : Hp → (α → Hp → Prop) → Prop} {u : α → Hp → (β → Hp → Prop) → Prop} {G G1 : Hp} {P P' : MP α} {R : MP β} {h d : Addr}
theorem Dw.of (k : Cm t G P) : Dw h d t G P := fun H e S gh gd Q q => k H e Q fun a G' H' e1 n1 p1 => q a G' H' p1 (Dr.of e1 n1 S)
theorem Dw.ret {a : α} (k : P.p a G) : Dw h d (fun H Q => Q a H) G P := Dw.of (Cm.ret k)
theorem Dw.bind (k : Dw h d t G P) (l : ∀ a G1, Ex G G1 → P.p a G1 → Dw h d (u a) G1 R) : Dw h d (fun H Q => t H fun a H1 => u a H1 Q) G R := fun H e S gh gd Q q =>
  k H e S gh gd _ fun a G1 H1 p1 D1 => l a G1 D1.ex p1 H1 D1.le D1.src (D1.gh S gh) (D1.gd S gd) Q fun b G2 H2 r2 D2 => q b G2 H2 r2 (D1.trans D2)
theorem Dw.up (k : Dw h d t G P) (hg : Ex G G1) : Dw h d t G1 P := fun H e S gh gd Q q =>
  k H (hg.trans e) S (fresh_back hg gh) (fresh_back hg gd) Q fun a G' H' p1 D1 => by
    obtain ⟨n2, x2⟩ := Dr.up hg e gh gd D1
    exact q a _ H' (P.mono x2 p1) n2
theorem Dw.imp (k : Dw h d t G P) (l : ∀ a G', Ex G G' → P.p a G' → P'.p a G') : Dw h d t G P' := fun H e S gh gd Q q => k H e S gh gd Q fun a G' H' p1 D1 => q a G' H' (l a G' D1.ex p1) D1
end
section
variable {K : PySem.W.Frag} {w : World} {c : Ad} {σ : L2.St} {G : Hp} {ta tb te tl : TE} {tas : TA} {ds : List PyData} {h d : Addr} {P P1 P2 R : MP V} {r : R2} {i : Nat} {tt : TT} {t u tr : TS} {x y : PyData}
theorem d_op (h1 : Dw h d (ta σ) G P1) (h2 : Dw h d (tb σ) G P2) (hr : ∀ x y G1, Ex G G1 → P1.p x G1 → P2.p y G1 → Cm (r x y) G1 P) : Dw h d (tOp r ta tb σ) G P :=
  Dw.bind (t := ta σ) (u := fun (x : V) (H : Hp) (Q : VK) => tb σ H fun y H2 => r x y H2 Q) h1 fun x G1 e1 p1 =>
    Dw.bind (t := tb σ) (u := fun (y : V) (H : Hp) (Q : VK) => r x y H Q) (h2.up e1) fun y G2 e2 p2 => .of (hr x y G2 (e1.trans e2) (P1.mono e2 p1) p2)
theorem d_addI {f g : Int → Prop} {ι κ : Type} {fi : ι → Int} {fj : κ → Int} (h1 : Dw h d (ta σ) G (MP.ex fun i : ι => MP.d K (.int (fi i)))) (h2 : Dw h d (tb σ) G (MP.ex fun j : κ => MP.d K (.int (fj j)))) :
    Dw h d (tOp (rAddG K) ta tb σ) G (MP.ex fun p : ι × κ => MP.d K (.int (fi p.1 + fj p.2))) :=
  d_op h1 h2 fun x y G1 e1 ⟨i, p⟩ ⟨j, q⟩ => by
    rw [dp_int p, dp_int q]
    exact c_val (z := .int (fi i + fj j)) (fun H eh Q h => u_addI h) ⟨(i, j), .int _⟩
theorem d_nil : Dw h d (tNil σ) G (MP.args []) := .of c_nil
theorem d_cons {Ps : List (MP V)} (h1 : Dw h d (te σ) G P) (h2 : Dw h d (tas σ) G (MP.args Ps)) : Dw h d (tCons te tas σ) G (MP.args (P :: Ps)) :=
  Dw.bind (t := te σ) (u := fun (x : V) (H : Hp) (Q : List V → Hp → Prop) => tas σ H fun xs H2 => Q (x :: xs) H2) h1 fun x G1 e1 p1 =>
    Dw.bind (t := tas σ) (u := fun (xs : List V) (H : Hp) (Q : List V → Hp → Prop) => Q (x :: xs) H) (h2.up e1) fun xs G2 e2 p2 => .ret (.cons (P.mono e2 p1) p2)
theorem d_next {n : Nat} (hi : σ[i]? = some (some (.ref h))) (h0 : 0 < n) (h1 : n < 1000000000) : Dw h d (tCall (sp__law_next K w c) [] E0 (tCons (tVar i) (tCons (tC (.int n)) tNil)) σ) G (MP.ex fun r : Fin n => MP.d K (.int r.val)) :=
  fun H e S gh gd Q q => u_next hi S (by omega) (by omega) fun r H' r0 r1 S' f => q _ G H' ⟨⟨r.toNat, by omega⟩, by
    have : (r.toNat : Int) = r := by omega
    show Dp K G _ (.int (r.toNat : Int))
    rw [this]
    exact .int r⟩ (Dr.drawn e gh gd f S')
theorem d_pick (hi : σ[i]? = some (some (.ref h))) (ha : Cm (ta σ) G (MP.d K (.list ds))) (hl : 0 < ds.length) (hl2 : ds.length ≤ 100000) :
    Dw h d (tCall (sp__law_pick K w c) [] E0 (tCons (tVar i) (tCons ta tNil)) σ) G (MP.ex fun x : { x // x ∈ ds } => MP.d K x.val) :=
  fun H e S gh gd Q q => u_pick hi ha e S gh gd hl hl2 fun v x G' H' hx px D => q v G' H' ⟨⟨x, hx⟩, px⟩ D
theorem d_rule (hi : σ[i]? = some (some (.ref h))) : Dw h d (tCall (sp__law_rule K w c) [] E0 (tCons (tVar i) tNil) σ) G (MP.ex fun r : Rule => MP.dk r.kvs) :=
  fun H e S gh gd Q q => ⟨_, hi, h, d, rfl, S, fun r p H' hp hH S' f => by
    have ex := f.ex e gh gd
    have gp : G p = none := fresh_back e hp
    refine q _ (upd G p (.dK (kvD r.kvs))) H' ⟨r, p, rfl, upd_same⟩ ⟨f, Ex.new gp, fun b o hb => ?_, fun b hb hn => ?_, S'⟩
    · by_cases hbp : b = p
      · subst hbp; rw [upd_same] at hb; rw [hH]; exact hb
      · rw [upd_ne hbp] at hb; exact ex b o hb
    · rw [upd_ne (fun z => hb (by rw [z]; exact hp))]; exact hn⟩
/-! ### bodies that draw -/
theorem db_ret (k : Dw h d (te σ) G P) : Dw h d (bd (tRet te) σ) G P := k
theorem db_asg {i : Nat} (k : Dw h d (te σ) G R) (l : ∀ v G1, Ex G G1 → R.p v G1 → Dw h d (bd tr (σ.set i (some v))) G1 P) : Dw h d (bd (tSeq (tAsg te (gName i)) tr) σ) G P :=
  Dw.bind (t := te σ) (u := fun (v : V) (H : Hp) (Q : VK) => tr { nx := fun _ H' => Q .non H', rt := Q } (σ.set i (some v)) H) k l
theorem db_if {b : Bool} (k : Cm (tt σ) G (MP.eq b)) (h1 : b = true → Dw h d (bd (tSeq t tr) σ) G P) (h2 : b = false → Dw h d (bd (tSeq u tr) σ) G P) : Dw h d (bd (tSeq (tIfS tt t u) tr) σ) G P :=
  Dw.bind (t := tt σ) (u := fun (c : Bool) (H : Hp) (Q : VK) => if c = true then tSeq t tr { nx := fun _ H' => Q .non H', rt := Q } σ H else tSeq u tr { nx := fun _ H' => Q .non H', rt := Q } σ H) (.of k) fun c G1 e1 p => by
    have e : c = b := p
    subst e
    cases c with
    | true => exact (h1 rfl).up e1
    | false => exact (h2 rfl).up e1
/-! ### statements of a law's loop -/
def St (h d : Addr) (t : TS) (D : Ends) (σ : L2.St) (G : Hp) : Prop := ∀ H, Ex G H → Src H h d → G h = none → G d = none → t D σ H
variable {D : Ends}
theorem s_asg {i : Nat} (k : Dw h d (te σ) G R) (l : ∀ v G1, Ex G G1 → R.p v G1 → St h d tr D (σ.set i (some v)) G1) : St h d (tSeq (tAsg te (gName i)) tr) D σ G :=
  fun H e S gh gd => k H e S gh gd _ fun a G1 H1 p1 D1 => l a G1 D1.ex p1 H1 D1.le D1.src (D1.gh S gh) (D1.gd S gd)
theorem s_if {b : Bool} (k : Dw h d (tt σ) G (MP.eq b)) (h1 : b = true → St h d t D σ G) (h2 : b = false → St h d u D σ G) : St h d (tIfS tt t u) D σ G :=
  fun H e S gh gd => k H e S gh gd _ fun a G1 H1 p1 D1 => by
    have p1 : a = b := p1
    subst p1
    cases a with
    | true => exact h1 rfl H1 (D1.ex.trans D1.le) D1.src gh gd
    | false => exact h2 rfl H1 (D1.ex.trans D1.le) D1.src gh gd
theorem s_next (k : ∀ H, Ex G H → Src H h d → D.nx σ H) : St h d tNext D σ G := fun H e S _ _ => k H e S
/-! ### a comprehension over range that draws -/
/-- the new list at A holds i data that S tells -/
def CD (K : PySem.W.Frag) (S : PyData → Prop) (h d : Addr) (H1 G1 : Hp) (A : Addr) (i : Nat) (H' : Hp) : Prop :=
  ∃ (G' : Hp) (acc : List V) (es : List PyData), es.length = i ∧ (∀ e ∈ es, S e) ∧ Dr h d H1 G1 G' H' ∧ G' A = none ∧ H' A = some (.lst acc) ∧ DpAll K G' acc es
theorem d_lcR {ta : TA} {g : TG} {te : TE} {vs : List Nat} {S : PyData → Prop} {ι : Type} {fn : ι → Nat} {fd : ι → PyData} (ha : Dw h d (ta σ) G (MP.args [MP.ex fun i : ι => MP.d K (.int (fn i : Nat))])) (hn : ∀ i, fn i ≤ 90000)
    (turn : ∀ (v : V) G1, Ex G G1 → ∃ σ2, wipe σ2 vs = wipe σ vs ∧ (∀ H1, Ex G1 H1 → ∀ Q : L2.St → Hp → Prop, Q σ2 H1 → g v (wipe σ vs) H1 Q) ∧ Dw h d (te σ2) G1 (MP.ex fun x : { x // S x } => MP.d K x.val)) :
    Dw h d (tLc (iRng1 ta) g tYes te vs σ) G (MP.ex fun p : { p : ι × List PyData // p.2.length = fn p.1 ∧ ∀ x ∈ p.2, S x } => MP.l K p.val.2) := fun H e S0 gh gd Q q =>
  ha H e S0 gh gd _ fun xs G1 H1 p1 D1 => by
    match xs, p1 with
    | [a], .cons ⟨j, pa⟩ _ =>
      rw [dp_int pa]
      have hj := hn j
      refine ⟨fn j, rfl, by omega, by omega, fun A hA => ?_⟩
      have gA : G1 A = none := fresh_back D1.le hA
      have hAh : A ≠ h := fun z => D1.src.nh (by rw [← z]; exact hA)
      have hAd : A ≠ d := fun z => D1.src.nd (by rw [← z]; exact hA)
      refine lc_range (lo := 0) (n := ((fn j : Nat) : Int).toNat) (fun i H' => CD K S h d H1 G1 A i H') ⟨G1, [], [], rfl, fun _ z => absurd z (List.not_mem_nil), ⟨Fr.of (Ex.new hA), Ex.refl G1, D1.le.trans (Ex.new hA), fun _ _ z => z, D1.src.upd hAh hAd⟩, gA, upd_same, .nil⟩ ?_ ?_
      · rintro i H' hi ⟨G', acc, es, hl, hS, D2, gA', hA', pa'⟩
        obtain ⟨σ2, hw, hg, hd⟩ := turn (.int (0 + i)) G' (D1.ex.trans D2.ex)
        refine hg H' D2.le _ ⟨hw, ?_⟩
        refine u_yes (iteT ?_)
        refine hd H' D2.le D2.src (D2.gh D1.src (D1.gh S0 gh)) (D2.gd D1.src (D1.gd S0 gd)) _ fun y G3 H3 ⟨⟨z, hz⟩, pz⟩ D3 => ?_
        have h3 : H3 A = some (.lst acc) := D3.fr _ _ hA' hAh hAd
        have g3 : G3 A = none := D3.old A (by rw [hA']; exact fun z => nomatch z) gA'
        have D4 := D2.trans D3
        refine ⟨acc, h3, by rw [DpAll.length pa', hl]; exact sz_lt (by omega), G3, acc ++ [y], es ++ [z], by rw [List.length_append, hl] <;> rfl, fun e he => ?_, ⟨fun b o hb h1 h2 => ?_, D4.ex, D4.le.mut g3, D4.old, D4.src.upd hAh hAd⟩, g3, upd_same, DpAll.app (DpAll.up D3.ex _ _ pa') (.cons pz .nil)⟩
        · rcases List.mem_append.mp he with he | he
          · exact hS e he
          · rw [List.mem_singleton.mp he]; exact hz
        · rw [upd_ne (fun z => by rw [z, hA] at hb; cases hb)]; exact D4.fr b o hb h1 h2
      · rintro H' ⟨G', acc, es, hl, hS, D2, gA', hA', pa'⟩
        have D3 := D1.trans D2
        refine q _ (upd G' A (.lst acc)) H' ⟨⟨(j, es), by rw [hl] <;> rfl, hS⟩, A, acc, rfl, upd_same, DpAll.up (Ex.new gA') _ _ pa'⟩ ⟨D3.fr, D3.ex.trans (Ex.new gA'), fun b o hb => ?_, fun b hb hn => ?_, D3.src⟩
        · by_cases hbA : b = A
          · subst hbA; rw [upd_same] at hb; rw [hA']; exact hb
          · rw [upd_ne hbA] at hb; exact D3.le b o hb
        · rw [upd_ne (fun z => D1.fr.some D1.src hb (by rw [z]; exact hA))]; exact D3.old b hb hn
end
end Ah
/-! Ah16: drawing a book; texts. -/
namespace Ah
open PySem PySem.Spec PyProof.Rows L2 Evl

/-! ### join, split, stars, copies of dicts -/
def rJoin (K : PySem.W.Frag) : V → List V → Hp → VK → Prop := fun x xs H Q => ∃ a p, ∃ ys : List Str, x = .str a ∧ xs = [.ref p] ∧ (SqL K H p (ys.map V.str) ∨ SqT K H p (ys.map V.str)) ∧ (ys.map (·.length)).sum + ys.length * a.length ≤ 16777216 ∧ Q (.str (Txt.join a ys)) H
def rSplit : V → List V → Hp → VK → Prop := fun x xs H Q => ∃ a b, x = .str a ∧ xs = [.str b] ∧ (b.length == 0) = false ∧ a.length + 2 ≤ sizeLine ∧ rNewStrs (Txt.split a b) H Q
def rDictK : List V → Hp → VK → Prop := fun xs H Q => ∃ (a : Addr) (kvs : List (Key × V)), xs = [.ref a] ∧ Rd H a (.dK kvs) ∧ ∀ p, H p = none → Q (.ref p) (upd H p (.dK kvs))
theorem call_dictK {X : Cx} : CallR X (.type "dict") rDictK := call_dictD
theorem sum_le (n : Nat) : ∀ l : List Str, (∀ x ∈ l, x.length ≤ n) → (l.map (·.length)).sum ≤ l.length * n
  | [], _ => by simp
  | x :: l, h => by
    have h1 := h x (List.mem_cons_self ..)
    have h2 := sum_le n l fun z hz => h z (List.mem_cons_of_mem _ hz)
    rw [List.map_cons, List.sum_cons, List.length_cons, Nat.succ_mul]
    omega
section
variable {K : PySem.W.Frag} {w : World} {c : Ad} {σ : L2.St} {G : Hp} {ta tb te td : TE} {tas : TA} {ds es : List PyData} {h d : Addr} {P R : MP V} {l : List (Str × Str)}
theorem strs_of : ∀ {xs : List V} {ys : List Str} {G : Hp}, DpAll K G xs (ys.map PyData.str) → xs = ys.map V.str
  | [], [], _, _ => rfl
  | _, y :: ys, _, h => by
    cases h with
    | cons a b => rw [dp_str a, strs_of b] <;> rfl
theorem c_m1 {r : V → List V → Hp → VK → Prop} {P2 : MP V} {a : Str} (h1 : Cm (ta σ) G (MP.d K (.str a))) (h2 : Cm (tb σ) G P2) (k : ∀ y G1, Ex G G1 → P2.p y G1 → Cm (r (.str a) [y]) G1 P) : Cm (tM1 r ta tb σ) G P :=
  Cm.bind (t := ta σ) (u := fun (x : V) (H : Hp) (Q : VK) => (∃ a, x = .str a) ∧ tb σ H fun y H2 => r x [y] H2 Q) h1 fun x G1 e1 p1 => by
    rw [dp_str p1]
    exact c_and ⟨a, rfl⟩ (Cm.bind (t := tb σ) (u := fun (y : V) (H : Hp) (Q : VK) => r (.str a) [y] H Q) (h2.up e1) fun y G2 e2 p2 => k y G2 (e1.trans e2) p2)
theorem c_join {a : Str} {ys : List Str} {n : Nat} (h1 : Cm (ta σ) G (MP.d K (.str a))) (h2 : Cm (tb σ) G (MP.d K (.list (ys.map PyData.str)))) (hy : ∀ y ∈ ys, y.length ≤ n) (hz : ys.length * (n + a.length) ≤ 16777216) :
    Cm (tM1 (rJoin K) ta tb σ) G (MP.d K (.str (Txt.join a ys))) :=
  c_m1 h1 h2 fun y G1 e1 q => by
    obtain ⟨b, xs, rfl, k1, k2⟩ := dp_lst q
    rw [strs_of k2] at k1
    refine c_val (r := fun x y => rJoin K x [y]) (z := .str (Txt.join a ys)) (fun H eh Q h => ⟨a, b, ys, rfl, rfl, .inl (ex_l eh k1), ?_, h⟩) (.str _)
    have := sum_le n ys hy
    rw [Nat.mul_add] at hz
    omega
theorem c_split {a b : Str} (h1 : Cm (ta σ) G (MP.d K (.str a))) (h2 : Cm (tb σ) G (MP.d K (.str b))) (hb : (b.length == 0) = false) (ha : a.length ≤ 90000) :
    Cm (tM1 rSplit ta tb σ) G (MP.l K ((Txt.split a b).map PyData.str)) :=
  c_m1 h1 h2 fun y G1 e1 q => by
    rw [dp_str q]
    refine c_newV (r := rSplit (.str a) [.str b]) (o := .lst ((Txt.split a b).map V.str)) (fun H eh Q h => ⟨a, b, rfl, rfl, hb, ?_, h⟩) fun p hp => ⟨p, _, rfl, upd_same, dps_str _ _⟩
    exact sz_of (by omega)
theorem c_dictK (h1 : Cm (ta σ) G (MP.dk l)) : Cm (tCB rDictK (tCons ta tNil) σ) G (MP.dk l) :=
  c_cb1 h1 fun x G1 e1 p => by
    obtain ⟨p, rfl, hp⟩ := p
    exact c_newV (o := .dK (kvD l)) (fun H eh Q h => ⟨p, _, rfl, .inl (eh _ _ hp), h⟩) fun p hp => ⟨p, rfl, upd_same⟩
/-- [*a, ..] -/
theorem c_star (h1 : Cm (ta σ) G (MP.d K (.list ds))) (h2 : Cm (tas σ) G (MP.ds K es)) : Cm (StX.tStar K ta tas σ) G (MP.ds K (ds ++ es)) :=
  Cm.bind (t := ta σ) (u := fun (x : V) (H : Hp) (Q : List V → Hp → Prop) => ∃ p xs, x = V.ref p ∧ (SqT K H p xs ∨ SqL K H p xs) ∧ tas σ H fun ys H2 => Q (xs ++ ys) H2) h1 fun x G1 e1 p1 => by
    obtain ⟨b, xs, rfl, k1, k2⟩ := dp_lst p1
    exact fun H e Q q => ⟨b, xs, rfl, .inr (ex_l e k1), h2.up e1 H e _ fun ys G2 H2 e2 n2 p2 => q _ G2 H2 e2 n2 (DpAll.app (DpAll.up n2.ex _ _ k2) p2)⟩
theorem c_starT (h1 : Cm (ta σ) G (MP.d K (.tuple ds))) (h2 : Cm (tas σ) G (MP.ds K es)) : Cm (StX.tStar K ta tas σ) G (MP.ds K (ds ++ es)) :=
  Cm.bind (t := ta σ) (u := fun (x : V) (H : Hp) (Q : List V → Hp → Prop) => ∃ p xs, x = V.ref p ∧ (SqT K H p xs ∨ SqL K H p xs) ∧ tas σ H fun ys H2 => Q (xs ++ ys) H2) h1 fun x G1 e1 p1 => by
    obtain ⟨b, xs, rfl, k1, k2⟩ := dp_tup p1
    exact fun H e Q q => ⟨b, xs, rfl, .inl (ex_t e k1), h2.up e1 H e _ fun ys G2 H2 e2 n2 p2 => q _ G2 H2 e2 n2 (DpAll.app (DpAll.up n2.ex _ _ k2) p2)⟩
end
/-! ### _law_with -/
section
variable {K : PySem.W.Frag} {w : World} {c : Ad}
abbrev sp__law_with (K : PySem.W.Frag) (w : World) (c : Ad) : Sp := fun vs H Q _ => ∃ (p : Addr) (l : List (Str × Str)) (x y : Str), vs = [.ref p, .str x, .str y] ∧ H p = some (.dK (kvD l)) ∧ l.length < 1000 ∧ ∀ q, H q = none → Q (.ref q) (upd H q (.dK (kvD (putS l x y))))
theorem len__law_with {vs : List V} {H : Hp} {Q : VK} {E : XK} (h : sp__law_with K w c vs H Q E) : vs.length = 3 := by
  obtain ⟨_, _, _, _, rfl, _⟩ := h
  rfl
def t__law_with (K : PySem.W.Frag) (w : World) (c : Ad) : TS :=
  (tSeq (tAsg (tCB rDictK (tCons (tVar 0) tNil)) (gName 3))
    (tSeq (sDPut (tVar 3) (tVar 1) (tVar 2))
    (tRet (tVar 3))))
theorem rd__law_with {vs : List V} {H : Hp} {Q : VK} {E : XK} (h : sp__law_with K w c vs H Q E) : t__law_with K w c (Dn Q) (vs.map some ++ List.replicate (4 - vs.length) none) H := by
  obtain ⟨p, l, x, y, rfl, hp, hl, k⟩ := h
  refine ⟨_, rfl, p, _, rfl, .inl hp, fun q hq => ⟨_, rfl, _, rfl, _, rfl, q, _, rfl, DPut.k (k := Sum.inr x) upd_same ?_, _, rfl, ?_⟩⟩
  · unfold kvD
    rw [List.length_map]
    exact sz_lt (by omega)
  · rw [upd_upd, put_kv]
    exact k q hq
variable {σ : L2.St} {G : Hp} {ta tb te td : TE} {h d : Addr} {i : Nat}
theorem c_with {l : List (Str × Str)} {x y : Str} (h1 : Cm (ta σ) G (MP.dk l)) (h2 : Cm (tb σ) G (MP.d K (.str x))) (h3 : Cm (td σ) G (MP.d K (.str y))) (hl : l.length < 1000) : Cm (tCall (sp__law_with K w c) [] E0 (tCons ta (tCons tb (tCons td tNil))) σ) G (MP.dk (putS l x y)) := fun H e Q k =>
  c_cons h1 (c_cons h2 (c_cons h3 c_nil)) H e _ fun vs G1 H1 e1 n1 p1 => by
    cases p1 with
    | cons a1 p1 => cases p1 with
      | cons a2 p1 => cases p1 with
        | cons a3 p1 =>
          cases p1
          obtain ⟨p, rfl, hp⟩ := a1
          rw [dp_str a2, dp_str a3]
          exact ⟨p, l, x, y, rfl, n1.le _ _ hp, hl, fun q hq => k _ (upd G1 q _) _ (e1.trans (Ex.new hq)) (n1.trans e1 (Nw.new n1.le hq)) ⟨q, rfl, upd_same⟩⟩
end
/-! ### _law_draw -/
section
variable {K : PySem.W.Frag} {w : World} {c : Ad} {σ : L2.St} {G : Hp} {ta tb te td : TE} {h d : Addr} {i : Nat}
/-- a row of a law: what a book is made of -/
abbrev MP.rw (K : PySem.W.Frag) (b : Bk) : MP V := ⟨fun v G => ∃ a v0 v1 v2, v = .ref a ∧ G a = some (.lst [v0, v1, v2]) ∧ Dp K G v0 (rowsD b) ∧ (MP.dk b.rule.kvs).p v1 G ∧ Dp K G v2 (wordsD b),
  fun e h => let ⟨a, v0, v1, v2, h1, h2, h3, h4, h5⟩ := h; ⟨a, v0, v1, v2, h1, e _ _ h2, Dp.up e _ _ h3, (MP.dk b.rule.kvs).mono e h4, Dp.up e _ _ h5⟩⟩
def Bk.sound (b : Bk) : Prop := b.ok ∧ (b.rows.length = 2 → b.rule.twice = false ∧ ¬ (b.join = true ∧ b.sweep = true))
abbrev BkS := { b : Bk // b.sound }
def sp__law_draw (K : PySem.W.Frag) (w : World) (c : Ad) : Sp := fun vs H Q _ => ∃ (h d : Addr), vs = [.ref h] ∧ Src H h d ∧ ∀ (b : BkS) v G' H', (MP.rw K b.val).p v G' → Dr h d H noH G' H' → Q v H'
theorem len__law_draw {vs : List V} {H : Hp} {Q : VK} {E : XK} (h : sp__law_draw K w c vs H Q E) : vs.length = 1 := by
  obtain ⟨_, _, rfl, _⟩ := h
  rfl
def t__law_draw (K : PySem.W.Frag) (w : World) (c : Ad) : TS :=
  (tSeq (tAsg (tCB (rTupG K) (tCons (tLc (iRng1 (tCons (tOp (rAddG K) (tC (.int 1)) (tCall (sp__law_next K w c) [] E0 (tCons (tVar 0) (tCons (tC (.int 2)) tNil)))) tNil)) (gName 3) tYes (tTup (tCons (tCall (sp__law_pick K w c) [] E0 (tCons (tVar 0) (tCons (tLst (tCons (tC (.str "a")) (tCons (tC (.str "b")) tNil))) tNil))) (tCons (tOp (rAddG K) (tC (.int 1)) (tCall (sp__law_next K w c) [] E0 (tCons (tVar 0) (tCons (tC (.int 2)) tNil)))) tNil))) [3]) tNil)) (gName 1))
    (tSeq (tAsg (tCall (sp__law_rule K w c) [] E0 (tCons (tVar 0) tNil)) (gName 2))
    (tSeq (tIfS (tTest (tOp (rEqD K) (tCB (rLenG K) (tCons (tVar 1) tNil)) (tC (.int 1)))) (tRet (tLst (tCons (tVar 1) (tCons (tVar 2) (tCons (tCall (sp__law_pick K w c) [] E0 (tCons (tVar 0) (tCons (tLst (tCons (tTup tNil) (tCons (tTup (tCons (tC (.str "join")) tNil)) (tCons (tTup (tCons (tC (.str "sweep")) tNil)) (tCons (tTup (tCons (tC (.str "join")) (tCons (tC (.str "sweep")) tNil))) (tCons (tTup (tCons (tC (.str "join")) (tCons (tC (.str "sweep")) tNil))) tNil)))))) tNil))) tNil))))) tNext)
    (tRet (tLst (tCons (tVar 1) (tCons (tCall (sp__law_with K w c) [] E0 (tCons (tVar 2) (tCons (tC (.str "again")) (tCons (tC (.str "skip")) tNil)))) (tCons (tCall (sp__law_pick K w c) [] E0 (tCons (tVar 0) (tCons (tLst (tCons (tTup tNil) (tCons (tTup (tCons (tC (.str "join")) tNil)) (tCons (tTup (tCons (tC (.str "sweep")) tNil)) tNil)))) tNil))) tNil))))))))
theorem d_cb1 {r : List V → Hp → VK → Prop} {P1 P : MP V} (ha : Dw h d (ta σ) G P1) (k : ∀ x G1, Ex G G1 → P1.p x G1 → Cm (r [x]) G1 P) : Dw h d (tCB r (tCons ta tNil) σ) G P :=
  Dw.bind (t := ta σ) (u := fun (x : V) (H : Hp) (Q : VK) => r [x] H Q) ha fun x G1 e1 p1 => .of (k x G1 e1 p1)
abbrev MP.sm (K : PySem.W.Frag) (S : PyData → Prop) : MP V := MP.ex fun x : { x : PyData // S x } => MP.d K x.val
theorem d_tup2 {S1 S2 S : PyData → Prop} (h1 : Dw h d (ta σ) G (MP.sm K S1)) (h2 : Dw h d (tb σ) G (MP.sm K S2)) (hS : ∀ a b, S1 a → S2 b → S (.tuple [a, b])) : Dw h d (tTup (tCons ta (tCons tb tNil)) σ) G (MP.sm K S) :=
  Dw.bind (t := (tCons ta (tCons tb tNil)) σ) (u := fun (xs : List V) (H : Hp) (Q : VK) => xs.length ≤ sizeLine ∧ ∀ p, H p = none → Q (V.ref p) (upd H p (.tup xs))) (d_cons h1 (d_cons h2 d_nil)) fun xs G1 e1 p1 => by
    cases p1 with
    | cons a1 p1 => cases p1 with
      | cons a2 p1 =>
        cases p1
        obtain ⟨⟨a, ha⟩, pa⟩ := a1
        obtain ⟨⟨b, hb⟩, pb⟩ := a2
        exact .of (c_and (sz_of (n := 2) (by decide)) (c_new fun p hp => ⟨⟨_, hS a b ha hb⟩, dp_new_tup hp (.cons pa (.cons pb .nil))⟩))
theorem d_lst3 {P0 P1 P2 P : MP V} (h0 : Dw h d (ta σ) G P0) (h1 : Dw h d (tb σ) G P1) (h2 : Dw h d (te σ) G P2) (hP : ∀ G1 p v0 v1 v2, Ex G G1 → G1 p = some (.lst [v0, v1, v2]) → P0.p v0 G1 → P1.p v1 G1 → P2.p v2 G1 → P.p (.ref p) G1) :
    Dw h d (tLst (tCons ta (tCons tb (tCons te tNil))) σ) G P :=
  Dw.bind (t := (tCons ta (tCons tb (tCons te tNil))) σ) (u := fun (xs : List V) (H : Hp) (Q : VK) => xs.length ≤ sizeLine ∧ ∀ p, H p = none → Q (V.ref p) (upd H p (.lst xs))) (d_cons h0 (d_cons h1 (d_cons h2 d_nil))) fun xs G1 e1 p1 => by
    cases p1 with
    | cons a1 p1 => cases p1 with
      | cons a2 p1 => cases p1 with
        | cons a3 p1 =>
          cases p1
          exact .of (c_and (sz_of (n := 3) (by decide)) (c_new fun p hp => hP _ p _ _ _ (e1.trans (Ex.new hp)) upd_same (P0.mono (Ex.new hp) a1) (P1.mono (Ex.new hp) a2) (P2.mono (Ex.new hp) a3)))
abbrev Rows1 := { l : List Row // l.length = 1 ∨ l.length = 2 }
theorem rows_of : ∀ (ds : List PyData), (∀ x ∈ ds, ∃ r : Row, x = rowD r) → ∃ l : List Row, ds = l.map rowD
  | [], _ => ⟨[], rfl⟩
  | x :: ds, h => by
    obtain ⟨r, rfl⟩ := h x (List.mem_cons_self ..)
    obtain ⟨l, rfl⟩ := rows_of ds fun z hz => h z (List.mem_cons_of_mem _ hz)
    exact ⟨r :: l, rfl⟩
theorem d_12 (hi : σ[i]? = some (some (.ref h))) : Dw h d (tOp (rAddG K) (tC (.int 1)) (tCall (sp__law_next K w c) [] E0 (tCons (tVar i) (tCons (tC (.int 2)) tNil))) σ) G (MP.ex fun b : Bool => MP.d K (.int (dI b))) :=
  d_op (P1 := MP.d K (.int 1)) (.of c_int) (d_next (n := 2) hi (by decide) (by decide)) fun x y G1 e1 p ⟨r, q⟩ => by
    rw [dp_int p, dp_int q]
    refine c_val (z := .int (1 + r.val)) (fun H eh Q h => u_addI h) ⟨decide (r.val = 1), ?_⟩
    match r with
    | ⟨0, _⟩ => exact .int 1
    | ⟨1, _⟩ => exact .int 2
theorem d_rows (hi : σ[i]? = some (some (.ref h))) (hj : ∀ v, ((wipe σ [3]).set 3 (some v))[i]? = some (some (.ref h))) (hw : ∀ v, wipe ((wipe σ [3]).set 3 (some v)) [3] = wipe σ [3]) :
    Dw h d (tCB (rTupG K) (tCons (tLc (iRng1 (tCons (tOp (rAddG K) (tC (.int 1)) (tCall (sp__law_next K w c) [] E0 (tCons (tVar i) (tCons (tC (.int 2)) tNil)))) tNil)) (gName 3) tYes (tTup (tCons (tCall (sp__law_pick K w c) [] E0 (tCons (tVar i) (tCons (tLst (tCons (tC (.str "a")) (tCons (tC (.str "b")) tNil))) tNil))) (tCons (tOp (rAddG K) (tC (.int 1)) (tCall (sp__law_next K w c) [] E0 (tCons (tVar i) (tCons (tC (.int 2)) tNil)))) tNil))) [3]) tNil) σ) G
      (MP.ex fun l : Rows1 => MP.d K (.tuple (l.val.map rowD))) :=
  d_cb1 (d_lcR (S := fun x => ∃ r : Row, x = rowD r) (fn := fun b : Bool => (dI b).toNat) (fd := fun _ => .none) (d_cons (P := MP.ex fun b : Bool => MP.d K (.int (((dI b).toNat : Nat) : Int))) ((d_12 hi).imp fun a G' e p => by
      obtain ⟨b, p⟩ := p
      cases b
      · exact ⟨false, p⟩
      · exact ⟨true, p⟩) d_nil) (fun b => by cases b <;> decide) fun v G1 e1 => ⟨_, hw v, fun H1 _ Q k => k, d_tup2 (S1 := fun x => x ∈ [PyData.str "a", .str "b"]) (S2 := fun x => ∃ b : Bool, x = .int (dI b)) (d_pick (hj v) (c_lst (c_dcons c_str (c_dcons c_str c_dnil)) (by show 2 ≤ 100000; decide)) (by decide) (by decide))
        ((d_12 (hj v)).imp fun a G' e ⟨b, p⟩ => ⟨⟨_, b, rfl⟩, p⟩) fun a b ha ⟨x, hb⟩ => by
          subst hb
          rcases List.mem_cons.mp ha with e | ha
          · exact ⟨(false, x), by rw [e] <;> rfl⟩
          · exact ⟨(true, x), by rw [List.mem_singleton.mp ha] <;> rfl⟩⟩) fun x G1 e1 ⟨⟨⟨b, ds⟩, hl, hS⟩, p⟩ => by
    obtain ⟨a, xs, rfl, h1, h2⟩ := p
    obtain ⟨l, rfl⟩ := rows_of ds hS
    refine c_newV (o := .tup xs) (fun H eh Q h => ⟨a, xs, rfl, .inl ⟨SqL.of (eh _ _ h1), h⟩⟩) fun p hp => ⟨⟨l, ?_⟩, dp_new_tup hp h2⟩
    have hl : (l.map rowD).length = (dI b).toNat := hl
    rw [List.length_map] at hl
    cases b
    · exact .inl hl
    · exact .inr hl
theorem put_again_ok (r : Rule) : putS r.kvs "again" "skip" = ({ r with twice := false } : Rule).kvs := put_again r
def wlist5 : List PyData := [.tuple [], .tuple [.str "join"], .tuple [.str "sweep"], .tuple [.str "join", .str "sweep"], .tuple [.str "join", .str "sweep"]]
theorem w5 {x : PyData} (h : x ∈ wlist5) : ∃ j s : Bool, ∀ rs r, x = wordsD ⟨rs, r, j, s⟩ := by
  unfold wlist5 at h
  simp only [List.mem_cons, List.not_mem_nil, or_false] at h
  rcases h with e | e | e | e | e
  · exact ⟨false, false, fun _ _ => e⟩
  · exact ⟨true, false, fun _ _ => e⟩
  · exact ⟨false, true, fun _ _ => e⟩
  · exact ⟨true, true, fun _ _ => e⟩
  · exact ⟨true, true, fun _ _ => e⟩
theorem w3 {x : PyData} (h : x ∈ ([.tuple [], .tuple [.str "join"], .tuple [.str "sweep"]] : List PyData)) : ∃ j s : Bool, ¬ (j = true ∧ s = true) ∧ ∀ rs r, x = wordsD ⟨rs, r, j, s⟩ := by
  simp only [List.mem_cons, List.not_mem_nil, or_false] at h
  rcases h with e | e | e
  · exact ⟨false, false, by decide, fun _ _ => e⟩
  · exact ⟨true, false, by decide, fun _ _ => e⟩
  · exact ⟨false, true, by decide, fun _ _ => e⟩
theorem rd__law_draw {vs : List V} {H : Hp} {Q : VK} {E : XK} (h : sp__law_draw K w c vs H Q E) : t__law_draw K w c (Dn Q) (vs.map some ++ List.replicate (4 - vs.length) none) H := by
  obtain ⟨h, d, rfl, S, k⟩ := h
  have key : Dw h d (bd (t__law_draw K w c) [some (.ref h), none, none, none]) noH (MP.ex fun b : BkS => MP.rw K b.val) := by
    refine db_asg (d_rows rfl (fun _ => rfl) (fun _ => rfl)) fun v G1 e1 ⟨⟨rs, hrs⟩, p1⟩ => db_asg (d_rule rfl) fun v2 G2 e2 ⟨r, p2⟩ => ?_
    refine db_if (c_test (c_eq (c_lenT (c_var rfl (Dp.up e2 _ _ p1))) c_int rfl rfl)) (fun hb => ?_) (fun hb => ?_)
    · have hl : rs.length = 1 := by
        rcases hrs with h | h
        · exact h
        · rw [List.length_map, h] at hb; cases hb
      refine d_lst3 (.of (c_var (P := MP.d K (.tuple (rs.map rowD))) rfl (Dp.up e2 _ _ p1))) (.of (c_var (P := MP.dk r.kvs) rfl p2)) (d_pick (ds := wlist5) rfl (c_lst (c_dcons (c_tup c_dnil (by show 0 ≤ 100000; decide)) (c_dcons (c_tup (c_dcons c_str c_dnil) (by show 1 ≤ 100000; decide)) (c_dcons (c_tup (c_dcons c_str c_dnil) (by show 1 ≤ 100000; decide)) (c_dcons (c_tup (c_dcons c_str (c_dcons c_str c_dnil)) (by show 2 ≤ 100000; decide)) (c_dcons (c_tup (c_dcons c_str (c_dcons c_str c_dnil)) (by show 2 ≤ 100000; decide)) c_dnil))))) (by show 5 ≤ 100000; decide)) (by decide) (by decide))
        fun G3 p v0 v1 v3 e3 hp q0 q1 ⟨⟨x, hx⟩, q2⟩ => ?_
      obtain ⟨j, s, hw⟩ := w5 hx
      refine ⟨⟨⟨rs, r, j, s⟩, .inl hl, fun z => by rw [hl] at z; cases z⟩, p, v0, v1, v3, rfl, hp, q0, q1, ?_⟩
      rw [← hw rs r]
      exact q2
    · have hl : rs.length = 2 := by
        rcases hrs with h | h
        · rw [List.length_map, h] at hb; cases hb
        · exact h
      refine d_lst3 (.of (c_var (P := MP.d K (.tuple (rs.map rowD))) rfl (Dp.up e2 _ _ p1))) (.of (c_with (c_var (P := MP.dk r.kvs) rfl p2) c_str c_str (by show 6 < 1000; decide))) (d_pick rfl (c_lst (c_dcons (c_tup c_dnil (by show 0 ≤ 100000; decide)) (c_dcons (c_tup (c_dcons c_str c_dnil) (by show 1 ≤ 100000; decide)) (c_dcons (c_tup (c_dcons c_str c_dnil) (by show 1 ≤ 100000; decide)) c_dnil))) (by show 3 ≤ 100000; decide)) (by decide) (by decide))
        fun G3 p v0 v1 v3 e3 hp q0 q1 ⟨⟨x, hx⟩, q2⟩ => ?_
      obtain ⟨j, s, hjs, hw⟩ := w3 hx
      refine ⟨⟨⟨rs, { r with twice := false }, j, s⟩, .inr hl, fun _ => ⟨rfl, hjs⟩⟩, p, v0, v1, v3, rfl, hp, q0, ?_, ?_⟩
      · rw [← put_again r]; exact q1
      · rw [← hw rs { r with twice := false }]
        exact q2
  exact key H noH_ex S rfl rfl Q fun v G' H' ⟨b, p⟩ D => k b v G' H' p D
theorem d_draw (hi : σ[i]? = some (some (.ref h))) : Dw h d (tCall (sp__law_draw K w c) [] E0 (tCons (tVar i) tNil) σ) G (MP.ex fun b : BkS => MP.rw K b.val) :=
  fun H e S gh gd Q q => ⟨_, hi, h, d, rfl, S, fun b v G' H' p D => by
    obtain ⟨D2, x2⟩ := Dr.up (G := noH) noH_ex e gh gd D
    exact q v _ H' ⟨b, (MP.rw K b.val).mono x2 p⟩ D2⟩
end
end Ah
/-! Ah17: books made, compared, written. -/
namespace Ah
open PySem PySem.Spec PyProof.Rows L2 Evl

structure Axt (K : PySem.W.Frag) (w : World) (c : Ad) : Prop where
  ax : Ax K w c
  ins : C8.InsC K c.Book
  rows : ∃ vs : List V, KD K w c.ROWS ([("a1" : Str), "a2", "b1", "b2"].zip vs) ∧ vs.length = 4 ∧ ∀ G, DpAll K G vs ([(false, false), (false, true), (true, false), (true, true)].map rowD)
section
variable {K : PySem.W.Frag} {w : World} {c : Ad} {σ : L2.St} {G : Hp} {ta tb te td : TE} {b b1 b2 : Bk}
/-! ### parts of a row, of a book -/
theorem c_rw0 (h1 : Cm (ta σ) G (MP.rw K b)) : Cm (tOp (rIx K) ta (tC (.int 0)) σ) G (MP.d K (rowsD b)) :=
  c_op (P2 := MP.eq (.int 0)) h1 (c_c rfl) fun x y G1 e1 p q => by
    obtain ⟨a, v0, v1, v2, rfl, ha, h0, h1, h2⟩ := p
    have q : y = .int 0 := q
    subst q
    exact c_val (z := v0) (fun H eh Q h => u_ixL (SqL.of (eh _ _ ha)) rfl h) h0
theorem c_rw1 (h1 : Cm (ta σ) G (MP.rw K b)) : Cm (tOp (rIx K) ta (tC (.int 1)) σ) G (MP.dk b.rule.kvs) :=
  c_op (P2 := MP.eq (.int 1)) h1 (c_c rfl) fun x y G1 e1 p q => by
    obtain ⟨a, v0, v1, v2, rfl, ha, h0, h1, h2⟩ := p
    have q : y = .int 1 := q
    subst q
    exact c_val (z := v1) (fun H eh Q h => u_ixL (SqL.of (eh _ _ ha)) rfl h) h1
theorem c_rw2 (h1 : Cm (ta σ) G (MP.rw K b)) : Cm (tOp (rIx K) ta (tC (.int 2)) σ) G (MP.d K (wordsD b)) :=
  c_op (P2 := MP.eq (.int 2)) h1 (c_c rfl) fun x y G1 e1 p q => by
    obtain ⟨a, v0, v1, v2, rfl, ha, h0, h1, h2⟩ := p
    have q : y = .int 2 := q
    subst q
    exact c_val (z := v2) (fun H eh Q h => u_ixL (SqL.of (eh _ _ ha)) rfl h) h2
theorem c_bkw (X : Ax K w c) (h1 : Cm (ta σ) G (MP.bk K c b)) : Cm (tFld K ta "wanted" σ) G (MP.d K (rowsD b)) :=
  Cm.bind (t := ta σ) (u := fun (x : V) (H : Hp) (Q : VK) => ∃ a C dx fs v, x = .ref a ∧ H a = some (.ins C dx fs) ∧ Cls K C ∧ NoAttr K C "wanted" ∧ fs.lookup ("wanted" : Str) = some v ∧ Q v H) h1 fun x G1 e1 p1 => by
    obtain ⟨x, dx, vr, pt, vw, rfl, hx, hr, ht, hw⟩ := p1
    exact fun H eh Q q => ⟨x, _, dx, _, vr, rfl, eh _ _ hx, X.cl, X.nW, bkF_w _ _ _, q vr G1 H (Ex.refl H) (Nw.refl eh) hr⟩
theorem c_bkt (X : Ax K w c) (h1 : Cm (ta σ) G (MP.bk K c b)) : Cm (tFld K ta "terms" σ) G (MP.dk b.rule.kvs) :=
  Cm.bind (t := ta σ) (u := fun (x : V) (H : Hp) (Q : VK) => ∃ a C dx fs v, x = .ref a ∧ H a = some (.ins C dx fs) ∧ Cls K C ∧ NoAttr K C "terms" ∧ fs.lookup ("terms" : Str) = some v ∧ Q v H) h1 fun x G1 e1 p1 => by
    obtain ⟨x, dx, vr, pt, vw, rfl, hx, hr, ht, hw⟩ := p1
    exact fun H eh Q q => ⟨x, _, dx, _, .ref pt, rfl, eh _ _ hx, X.cl, X.nT, bkF_t _ _ _, q _ G1 H (Ex.refl H) (Nw.refl eh) ⟨pt, rfl, ht⟩⟩
theorem c_bkk (X : Ax K w c) (h1 : Cm (ta σ) G (MP.bk K c b)) : Cm (tFld K ta "kinds" σ) G (MP.d K (wordsD b)) :=
  Cm.bind (t := ta σ) (u := fun (x : V) (H : Hp) (Q : VK) => ∃ a C dx fs v, x = .ref a ∧ H a = some (.ins C dx fs) ∧ Cls K C ∧ NoAttr K C "kinds" ∧ fs.lookup ("kinds" : Str) = some v ∧ Q v H) h1 fun x G1 e1 p1 => by
    obtain ⟨x, dx, vr, pt, vw, rfl, hx, hr, ht, hw⟩ := p1
    exact fun H eh Q q => ⟨x, _, dx, _, vw, rfl, eh _ _ hx, X.cl, X.nK, bkF_k _ _ _, q vw G1 H (Ex.refl H) (Nw.refl eh) hw⟩
end
/-! ### _law_built -/
section
variable {K : PySem.W.Frag} {w : World} {c : Ad} {σ : L2.St} {G : Hp} {ta tb te td : TE} {b b1 b2 : Bk}
abbrev sp__law_built (K : PySem.W.Frag) (w : World) (c : Ad) : Sp := spOf (ι := { b : Bk // b.ok }) (fun b => [MP.rw K b.val]) (fun b => MP.bk K c b.val)
theorem len__law_built {vs : List V} {H : Hp} {Q : VK} {E : XK} (h : sp__law_built K w c vs H Q E) : vs.length = 1 := spOf_len (by intro i; rfl) vs H Q E h
def t__law_built (K : PySem.W.Frag) (w : World) (c : Ad) : TS :=
  (tRet (tMake c.Book (sp_Book_init K w c) [] E0 (tCons (tOp (rIx K) (tVar 0) (tC (.int 0))) (tCons (tOp (rIx K) (tVar 0) (tC (.int 1))) (tCons (tOp (rIx K) (tVar 0) (tC (.int 2))) tNil)))))
theorem rd__law_built {vs : List V} {H : Hp} {Q : VK} {E : XK} (h : sp__law_built K w c vs H Q E) : t__law_built K w c (Dn Q) (vs.map some ++ List.replicate (1 - vs.length) none) H := by
  obtain ⟨⟨b, ok⟩, G, e, ha, q⟩ := h
  cases ha with
  | cons a1 ha =>
    cases ha
    rename_i x
    have hx : Cm (tVar 0 [some x]) G (MP.rw K b) := c_var (P := MP.rw K b) rfl a1
    exact (b_ret (c_mkBook b ok (c_rw0 hx) (c_rw1 hx) (c_rw2 hx)) : Cm (bd (t__law_built K w c) [some x]) G (MP.bk K c b)) H e Q q
/-! ### Book.__eq__ -/
def bkEq (a b : Bk) : Bool := PyData.eqv (rowsD a) (rowsD b) && (kvEq a.rule.kvs b.rule.kvs && PyData.eqv (wordsD a) (wordsD b))
theorem rows_all {M : List Row → Prop} {b : Bk} (ok : b.ok) (h1 : ∀ k d, M [(k, d)]) (h2 : ∀ k d l e, M [(k, d), (l, e)]) : M b.rows := by
  obtain ⟨rs, r, j, s⟩ := b
  match rs, ok with
  | [(k, d)], _ => exact h1 k d
  | [(k, d), (l, e)], _ => exact h2 k d l e
  | [], h => rcases h with h | h <;> cases h
  | _ :: _ :: _ :: r, h => rcases h with h | h <;> simp at h
theorem rows_shaped {b : Bk} (ok : b.ok) : SeqAt.shaped (rowsD b) = true := rows_all (M := fun l => SeqAt.shaped (.tuple (l.map rowD)) = true) ok (by decide +kernel) (by decide +kernel)
theorem words_shaped (b : Bk) : SeqAt.shaped (wordsD b) = true := words_all (M := fun l => SeqAt.shaped (.tuple (l.map PyData.str)) = true) b (by decide +kernel) (by decide +kernel) (by decide +kernel) (by decide +kernel)
theorem rule_nd (r : Rule) : (r.kvs.map (·.1)).Nodup := by rw [rule_keys]; decide +kernel
abbrev sp_Book_eq (K : PySem.W.Frag) (w : World) (c : Ad) : Sp := spOf (ι := { b : Bk × Bk // b.1.ok ∧ b.2.ok }) (fun b => [MP.bk K c b.val.1, MP.bk K c b.val.2]) (fun b => MP.d K (.bool (bkEq b.val.1 b.val.2)))
theorem len_Book_eq {vs : List V} {H : Hp} {Q : VK} {E : XK} (h : sp_Book_eq K w c vs H Q E) : vs.length = 2 := spOf_len (by intro i; rfl) vs H Q E h
def t_Book_eq (K : PySem.W.Frag) (w : World) (c : Ad) : TS :=
  (tSeq (tIfS (tNot (tB (tCB (rIsiG K) (tCons (tVar 1) (tCons (tC (.ref c.Book)) tNil))))) (tRet (tC (.bl false))) tNext)
    (tRet (tOp (rEq3 K) (tTup (tCons (tFld K (tVar 0) "wanted") (tCons (tFld K (tVar 0) "terms") (tCons (tFld K (tVar 0) "kinds") tNil)))) (tTup (tCons (tFld K (tVar 1) "wanted") (tCons (tFld K (tVar 1) "terms") (tCons (tFld K (tVar 1) "kinds") tNil)))))))
theorem c_isBook (X : Axt K w c) (h1 : Cm (ta σ) G (MP.bk K c b)) : Cm (tCB (rIsiG K) (tCons ta (tCons (tC (.ref c.Book)) tNil)) σ) G (MP.d K (.bool true)) :=
  c_cb2 (P2 := MP.eq (.ref c.Book)) h1 (c_c rfl) fun x y G1 e1 p q => by
    have hy : y = .ref c.Book := q
    subst hy
    obtain ⟨x, dx, vr, pt, vw, rfl, hx, _⟩ := p
    exact c_valN (z := .bl true) (fun H eh Q h => .inl ⟨.ref x, _, _, _, true, rfl, .own _, .base (TyOf.ins (eh _ _ hx) X.ins.cl X.ins.ha X.ins.hn X.ins.htk X.ins.hm), X.ins.me, h⟩) (.bl _)
/-- (rows, rule, words) of a book -/
abbrev MP.t3 (K : PySem.W.Frag) (b : Bk) : MP V := ⟨fun v G => ∃ a v0 p v2, v = .ref a ∧ G a = some (.tup [v0, .ref p, v2]) ∧ Dp K G v0 (rowsD b) ∧ G p = some (.dK (kvD b.rule.kvs)) ∧ Dp K G v2 (wordsD b),
  fun e h => let ⟨a, v0, v1, v2, h1, h2, h3, h4, h5⟩ := h; ⟨a, v0, v1, v2, h1, e _ _ h2, Dp.up e _ _ h3, e _ _ h4, Dp.up e _ _ h5⟩⟩
theorem c_t3 (X : Ax K w c) (h1 : Cm (ta σ) G (MP.bk K c b)) : Cm (tTup (tCons (tFld K ta "wanted") (tCons (tFld K ta "terms") (tCons (tFld K ta "kinds") tNil))) σ) G (MP.t3 K b) :=
  Cm.bind (t := (tCons (tFld K ta "wanted") (tCons (tFld K ta "terms") (tCons (tFld K ta "kinds") tNil))) σ) (u := fun (xs : List V) (H : Hp) (Q : VK) => xs.length ≤ sizeLine ∧ ∀ p, H p = none → Q (V.ref p) (upd H p (.tup xs)))
    (c_cons (c_bkw X h1) (c_cons (c_bkt X h1) (c_cons (c_bkk X h1) c_nil))) fun xs G1 e1 p1 => by
    cases p1 with
    | cons a1 p1 => cases p1 with
      | cons a2 p1 => cases p1 with
        | cons a3 p1 =>
          cases p1
          obtain ⟨p, rfl, hp⟩ := a2
          exact c_and (sz_of (n := 3) (by decide)) (c_new fun q hq => ⟨q, _, p, _, rfl, upd_same, Dp.up (Ex.new hq) _ _ a1, Ex.new hq _ _ hp, Dp.up (Ex.new hq) _ _ a3⟩)
theorem rd_Book_eq (X : Axt K w c) {vs : List V} {H : Hp} {Q : VK} {E : XK} (h : sp_Book_eq K w c vs H Q E) : t_Book_eq K w c (Dn Q) (vs.map some ++ List.replicate (2 - vs.length) none) H := by
  obtain ⟨⟨⟨b1, b2⟩, o1, o2⟩, G, e, ha, q⟩ := h
  cases ha with
  | cons a1 ha => cases ha with
    | cons a2 ha =>
      cases ha
      rename_i x y
      have hx : Cm (tVar 0 [some x, some y]) G (MP.bk K c b1) := c_var (P := MP.bk K c b1) rfl a1
      have hy : Cm (tVar 1 [some x, some y]) G (MP.bk K c b2) := c_var (P := MP.bk K c b2) rfl a2
      refine (b_if (b := false) (c_teq (c_tnot (c_tB (c_isBook X hy))) rfl) (fun z => absurd z Bool.false_ne_true) fun _ => b_nexts (b_ret ?_) : Cm (bd (t_Book_eq K w c) [some x, some y]) G (MP.d K (.bool (bkEq b1 b2)))) H e Q q
      refine c_op (c_t3 X.ax hx) (c_t3 X.ax hy) fun u v G1 e1 ⟨a, v0, p, v2, hu, ha, k0, k1, k2⟩ ⟨a', v0', p', v2', hv, ha', k0', k1', k2'⟩ => c_val (z := .bl (bkEq b1 b2)) (fun H eh Q h => ?_) (.bl _)
      exact ⟨a, a', p, p', v0, v2, v0', v2', _, _, _, _, _, _, hu, hv, SqT.of (eh _ _ ha), SqT.of (eh _ _ ha'), ⟨Dp.up eh _ _ k0, Dp.up eh _ _ k2, Dp.up eh _ _ k0', Dp.up eh _ _ k2'⟩,
        ⟨rows_shaped o1, words_shaped _, rows_shaped o2, words_shaped _⟩, eh _ _ k1, eh _ _ k1', rule_nd _, h⟩
theorem eqv_self {b : Bk} (ok : b.ok) : bkEq b b = true := by
  have h1 : PyData.eqv (rowsD b) (rowsD b) = true := rows_all (M := fun l => PyData.eqv (.tuple (l.map rowD)) (.tuple (l.map rowD)) = true) ok (by decide +kernel) (by decide +kernel)
  have h2 : PyData.eqv (wordsD b) (wordsD b) = true := words_all (M := fun l => PyData.eqv (.tuple (l.map PyData.str)) (.tuple (l.map PyData.str)) = true) b (by decide +kernel) (by decide +kernel) (by decide +kernel) (by decide +kernel)
  unfold bkEq
  rw [h1, h2, kvEq_self (rule_nd _)] <;> rfl
/-- == of two books -/
theorem c_bkEq (o1 : b1.ok) (o2 : b2.ok) (h1 : Cm (ta σ) G (MP.bk K c b1)) (h2 : Cm (tb σ) G (MP.bk K c b2)) : Cm (tOp (rEqO K c.Book (sp_Book_eq K w c)) ta tb σ) G (MP.d K (.bool (bkEq b1 b2))) :=
  c_op h1 h2 fun x y G1 e1 p q => fun H e Q k => by
    have p0 := p
    have q0 := q
    obtain ⟨a, dx, vr, pt, vw, rfl, hx, _⟩ := p
    obtain ⟨a', dx', vr', pt', vw', rfl, hx', _⟩ := q
    refine ⟨a, dx, _, a', rfl, rfl, e _ _ hx, .inl ⟨_, _, e _ _ hx'⟩, ⟨(b1, b2), o1, o2⟩, G1, e, .cons p0 (.cons q0 .nil), fun v G' H' e2 n2 p2 => ⟨⟨_, dp_bl p2⟩, k v G' H' e2 n2 p2⟩⟩
end
end Ah
/-! Ah18: the text of a book. -/
namespace Ah
open PySem PySem.Spec PyProof.Rows L2 Evl

def rowT (r : Row) : Str := kS r.1 ++ (toString (dI r.2) : Str)
def bkParts (b : Bk) : List (List Str) := (("rows" : Str) :: b.rows.map rowT) :: ((b.rule.kvs.map fun q => [q.1, q.2]) ++ [("words" : Str) :: b.words])
def lineT (ps : List Str) : Str := Txt.join (" " : Str) ps
def bkLines (b : Bk) : List Str := (bkParts b).map lineT
def bkText (b : Bk) : Str := Txt.join ("\n" : Str) (bkLines b)
def okT (s : Str) : Bool := decide (s.length ≤ 10) && (!(TL.tl s).contains 32 && SeqAt.shaped (.str s))
def okP (ps : List Str) : Bool := !ps.isEmpty && (decide (ps.length ≤ 4) && (ps.all okT && (decide ((lineT ps).length ≤ 60) && (!(TL.tl (lineT ps)).contains 10 && SeqAt.shaped (.list (ps.map PyData.str))))))
theorem okP_row {b : Bk} (ok : b.ok) : okP (("rows" : Str) :: b.rows.map rowT) = true := rows_all (M := fun l => okP (("rows" : Str) :: l.map rowT) = true) ok (by decide +kernel) (by decide +kernel)
theorem okP_words (b : Bk) : okP (("words" : Str) :: b.words) = true := words_all (M := fun l => okP (("words" : Str) :: l) = true) b (by decide +kernel) (by decide +kernel) (by decide +kernel) (by decide +kernel)
theorem okP_all : ∀ p ∈ kvParts, ∀ s ∈ p.2, okP [p.1, s] = true := by decide +kernel
theorem okP_kv (r : Rule) : ∀ q ∈ r.kvs, okP [q.1, q.2] = true := fun q hq => by
  obtain ⟨i, hi⟩ := List.getElem?_of_mem hq
  obtain ⟨p, hp, e1, e2⟩ := rule_word r i q hi
  rw [e1]
  exact okP_all p (List.mem_of_getElem? hp) q.2 e2
theorem okP_bk {b : Bk} (ok : b.ok) : ∀ ps ∈ bkParts b, okP ps = true := fun ps h => by
  rcases List.mem_cons.mp h with e | h
  · rw [e]; exact okP_row ok
  · rcases List.mem_append.mp h with h | h
    · obtain ⟨q, hq, rfl⟩ := List.mem_map.mp h
      exact okP_kv b.rule q hq
    · rw [List.mem_singleton.mp h]; exact okP_words b
section
variable {ps : List Str}
theorem okP.ne (h : okP ps = true) : ps ≠ [] := by
  intro e
  subst e
  cases h
theorem okP.and (h : okP ps = true) : ps.length ≤ 4 ∧ (∀ p ∈ ps, okT p = true) ∧ (lineT ps).length ≤ 60 ∧ 10 ∉ TL.tl (lineT ps) ∧ SeqAt.shaped (.list (ps.map PyData.str)) = true := by
  unfold okP at h
  simp only [Bool.and_eq_true, decide_eq_true_eq, List.all_eq_true, Bool.not_eq_true'] at h
  obtain ⟨_, h1, h2, h3, h4, h5⟩ := h
  refine ⟨h1, h2, h3, fun z => ?_, h5⟩
  rw [List.contains_iff_mem.mpr z] at h4
  cases h4
theorem okT.and {s : Str} (h : okT s = true) : s.length ≤ 10 ∧ 32 ∉ TL.tl s ∧ SeqAt.shaped (.str s) = true := by
  unfold okT at h
  simp only [Bool.and_eq_true, decide_eq_true_eq, Bool.not_eq_true'] at h
  obtain ⟨h1, h2, h3⟩ := h
  refine ⟨h1, fun z => ?_, h3⟩
  rw [List.contains_iff_mem.mpr z] at h2
  cases h2
theorem split_line (h : okP ps = true) : Txt.split (lineT ps) (" " : Str) = ps :=
  TL.split_join (s := 32) (S := []) (by decide +kernel) (by decide +kernel) (okP.ne h) fun p hp => (okT.and ((okP.and h).2.1 p hp)).2.1
end
theorem split_text {b : Bk} (ok : b.ok) : Txt.split (bkText b) ("\n" : Str) = bkLines b :=
  TL.split_join (s := 10) (S := []) (by decide +kernel) (by decide +kernel) (by unfold bkLines bkParts; exact fun z => nomatch z) fun p hp => by
    obtain ⟨ps, hps, rfl⟩ := List.mem_map.mp hp
    exact (okP.and (okP_bk ok ps hps)).2.2.2.1
theorem join_len (n : Nat) (y : Str) : ∀ l : List Str, (∀ x ∈ l, x.length ≤ n) → (Str.join y l).length ≤ l.length * (n + y.length)
  | [], _ => by show (0 : Nat) ≤ _; omega
  | [x], h => by
    have h1 := h x (List.mem_cons_self ..)
    show x.length ≤ 1 * (n + y.length)
    omega
  | x :: z :: r, h => by
    have h1 := h x (List.mem_cons_self ..)
    have h2 := join_len n y (z :: r) fun u hu => h u (List.mem_cons_of_mem _ hu)
    show ((x ++ y ++ Str.join y (z :: r)).length) ≤ _
    rw [PySem.Str.length_append, PySem.Str.length_append, List.length_cons, Nat.succ_mul]
    omega
theorem lines_len {b : Bk} (ok : b.ok) : ∀ x ∈ bkLines b, x.length ≤ 60 := fun x hx => by
  obtain ⟨ps, hps, rfl⟩ := List.mem_map.mp hx
  exact (okP.and (okP_bk ok ps hps)).2.2.1
theorem lines_8 (b : Bk) : (bkLines b).length = 8 := rfl
theorem text_len {b : Bk} (ok : b.ok) : (bkText b).length ≤ 1000 := by
  unfold bkText
  rw [TL.join_eq]
  have h := join_len 60 ("\n" : Str) (bkLines b) (lines_len ok)
  rw [lines_8] at h
  exact Nat.le_trans h (by decide +kernel)
theorem line2 (x y : Str) : x ++ (" " : Str) ++ y = lineT [x, y] := by
  unfold lineT
  rw [TL.join_eq] <;> rfl
section
variable {K : PySem.W.Frag} {w : World} {c : Ad} {σ : L2.St} {G : Hp} {ta tb te td : TE} {b : Bk} {ds : List PyData}
theorem c_spc {x : Str} : Cm (tC (.str x) σ) G (MP.d K (.str x)) := c_str
/-- key + str(day) -/
theorem c_rowT {i j : Nat} {r : Row} (hi : σ[i]? = some (some (.str (kS r.1)))) (hj : σ[j]? = some (some (.int (dI r.2)))) : Cm (tOp (rAddG K) (tVar i) (tCB rStrI (tCons (tVar j) tNil)) σ) G (MP.d K (.str (rowT r))) :=
  c_addS (c_var hi (.str _)) (c_strI (c_var hj (.int _)) ((by decide +kernel : ∀ d, (dI d).natAbs.log2 < 1920) r.2)) ((by decide +kernel : ∀ a d, (kS a).length + (toString (dI d) : Str).length ≤ 100000) r.1 r.2)
theorem c_rowsLl {i j : Nat} {tl : TE} (ok : b.ok) (hl : Cm (tl σ) G (MP.d K (rowsD b))) (hw : ∀ x y, wipe (((wipe σ [i, j]).set i (some x)).set j (some y)) [i, j] = wipe σ [i, j]) (h1 : ∀ x y, (((wipe σ [i, j]).set i (some x)).set j (some y))[i]? = some (some x)) (h2 : ∀ x y, (((wipe σ [i, j]).set i (some x)).set j (some y))[j]? = some (some y)) :
    Cm (tLc (iSeq K tl) (gTup K 2 (gCons (gName i) (gCons (gName j) gNil))) tYes (tOp (rAddG K) (tVar i) (tCB rStrI (tCons (tVar j) tNil))) [i, j] σ) G (MP.l K ((b.rows.map rowT).map PyData.str)) := by
  have hlen : (b.rows.map rowD).length ≤ 90000 := by rw [List.length_map]; rcases ok with h | h <;> omega
  have e : ((b.rows.map rowT).map PyData.str) = ((b.rows.map rowD).filter fun _ => true).map fun d => match d with | .tuple [.str x, .int n] => .str (x ++ (toString n : Str)) | _ => .none := by
    rw [filter_yes, List.map_map, List.map_map] <;> rfl
  rw [e]
  refine c_lcT hl hlen fun v d G1 e1 hd pd => ?_
  obtain ⟨r, hr, rfl⟩ := List.mem_map.mp hd
  obtain ⟨a, xs, rfl, k1, k2⟩ := dp_tup pd
  cases k2 with
  | cons q1 k2 => cases k2 with
    | cons q2 k2 =>
      cases k2
      rw [dp_str q1, dp_int q2] at k1
      exact ct_pair (x := .str (kS r.1)) (y := .int (dI r.2)) rfl k1 (hw _ _) c_yes fun _ => c_rowT (h1 _ _) (h2 _ _)
theorem c_rowsL {i j : Nat} {tl : TE} (ok : b.ok) (hl : Cm (tl σ) G (MP.d K (rowsD b))) (hw : ∀ x y, wipe (((wipe σ [i, j]).set i (some x)).set j (some y)) [i, j] = wipe σ [i, j]) (h1 : ∀ x y, (((wipe σ [i, j]).set i (some x)).set j (some y))[i]? = some (some x)) (h2 : ∀ x y, (((wipe σ [i, j]).set i (some x)).set j (some y))[j]? = some (some y)) :
    Cm (tLc (iSeq K tl) (gTup K 2 (gCons (gName i) (gCons (gName j) gNil))) tYes (tOp (rAddG K) (tVar i) (tCB rStrI (tCons (tVar j) tNil))) [i, j] σ) G (MP.d K (.list ((b.rows.map rowT).map PyData.str))) := l_d (c_rowsLl ok hl hw h1 h2)
theorem c_star1 (h1 : Cm (ta σ) G (MP.d K (.list ds))) : Cm (StX.tStar K ta tNil σ) G (MP.ds K ds) := by
  have h := c_star h1 c_dnil
  rwa [List.append_nil] at h
theorem c_star1T (h1 : Cm (ta σ) G (MP.d K (.tuple ds))) : Cm (StX.tStar K ta tNil σ) G (MP.ds K ds) := by
  have h := c_starT h1 c_dnil
  rwa [List.append_nil] at h
theorem ms {ys : List Str} {x : Str} (h1 : Cm (ta σ) G (MP.d K (.str x))) {t : TA} (h2 : Cm (t σ) G (MP.ds K (ys.map PyData.str))) : Cm (tCons ta t σ) G (MP.ds K ((x :: ys).map PyData.str)) := c_dcons h1 h2
theorem c_lineT {te : TE} {ps : List Str} (ok : okP ps = true) (h : Cm (te σ) G (MP.d K (.list (ps.map PyData.str)))) : Cm (tM1 (rJoin K) (tC (.str " ")) te σ) G (MP.d K (.str (lineT ps))) :=
  c_join (n := 10) c_str h (fun y hy => (okT.and ((okP.and ok).2.1 y hy)).1) (by have := (okP.and ok).1; show ps.length * 11 ≤ _; omega)
theorem c_text {te : TE} (ok : b.ok) (h : Cm (te σ) G (MP.d K (.list ((bkLines b).map PyData.str)))) : Cm (tM1 (rJoin K) (tC (.str "\n")) te σ) G (MP.d K (.str (bkText b))) :=
  c_join (n := 60) c_str h (lines_len ok) (by rw [lines_8]; decide +kernel)
theorem Nw.put {H G G3 H3 : Hp} {p : Addr} {o : HO} (n : Nw H G G3 H3) (e : Ex H H3) (gp : G3 p = none) (hp : H p = none) : Nw H G (upd G3 p o) (upd H3 p o) ∧ Ex H (upd H3 p o) := by
  refine ⟨⟨n.ex.trans (Ex.new gp), fun b u h => ?_, fun b hb hg => ?_⟩, Ex.mut e hp⟩
  · by_cases hbp : b = p
    · subst hbp; rw [upd_same] at h ⊢; exact h
    · rw [upd_ne hbp] at h ⊢; exact n.le b u h
  · rw [upd_ne (fun z => hb (by rw [z]; exact hp))]; exact n.old b hb hg
/-! ### write -/
abbrev BkO := { b : Bk // b.ok }
abbrev sp_write (K : PySem.W.Frag) (w : World) (c : Ad) : Sp := spOf (ι := BkO) (fun b => [MP.bk K c b.val]) (fun b => MP.d K (.str (bkText b.val)))
theorem len_write {vs : List V} {H : Hp} {Q : VK} {E : XK} (h : sp_write K w c vs H Q E) : vs.length = 1 := spOf_len (by intro i; rfl) vs H Q E h
def t_write (K : PySem.W.Frag) (w : World) (c : Ad) : TS :=
  (tSeq (tAsg (tLst (tCons (tM1 (rJoin K) (tC (.str " ")) (tLst (tCons (tC (.str "rows")) (StX.tStar K (tLc (iSeq K (tFld K (tVar 0) "wanted")) (gTup K 2 (gCons (gName 2) (gCons (gName 3) gNil))) tYes (tOp (rAddG K) (tVar 2) (tCB rStrI (tCons (tVar 3) tNil))) [2, 3]) tNil)))) tNil)) (gName 1))
    (tSeq (tDrop (tBM K "list" rExtend (tVar 1) (tCons (tLockE (tLc (iItems (tFld K (tVar 0) "terms")) (gTup K 2 (gCons (gName 4) (gCons (gName 5) gNil))) tYes (tOp (rAddG K) (tOp (rAddG K) (tVar 4) (tC (.str " "))) (tVar 5)) [4, 5])) tNil)))
    (tRet (tM1 (rJoin K) (tC (.str "\n")) (tLst (StX.tStar K (tVar 1) (tCons (tM1 (rJoin K) (tC (.str " ")) (tLst (tCons (tC (.str "words")) (StX.tStar K (tFld K (tVar 0) "kinds") tNil)))) tNil)))))))
theorem rd_write (X : Ax K w c) {vs : List V} {H : Hp} {Q : VK} {E : XK} (h : sp_write K w c vs H Q E) : t_write K w c (Dn Q) (vs.map some ++ List.replicate (6 - vs.length) none) H := by
  obtain ⟨⟨b, ok⟩, G, e, ha, q⟩ := h
  cases ha with
  | cons a1 ha =>
    cases ha
    rename_i x
    have hb : ∀ {σ : L2.St} {G1 : Hp}, Ex G G1 → σ[0]? = some (some x) → Cm (tVar 0 σ) G1 (MP.bk K c b) := fun e1 hσ => c_var hσ ((MP.bk K c b).mono e1 a1)
    refine c_lineT (K := K) (okP_row ok) (c_lst (ms c_str (c_star1 (c_rowsL ok (c_bkw X (hb (Ex.refl G) rfl)) (fun _ _ => rfl) (fun _ _ => rfl) (fun _ _ => rfl)))) ?_) H e _ fun y G1 H1 e1 n1 p1 => ?_
    · rw [List.length_map, List.length_cons, List.length_map]; rcases ok with h | h <;> rw [h] <;> decide
    · have ey := dp_str p1
      subst ey
      refine ⟨sz_of (n := 1) (by decide), fun p hp => ?_⟩
      have hb1 := (MP.bk K c b).mono n1.ex a1
      have hb1' := hb1
      obtain ⟨bx, dx, vr, pt, vw, hbx, hx, hr, ht, hw⟩ := hb1'
      subst hbx
      have nep : bx ≠ pt := ne_of hx ht fun z => nomatch z
      have n2 : Nw H G G1 (upd H1 p (.lst [.str (lineT (("rows" : Str) :: b.rows.map rowT))])) := ⟨n1.ex, n1.le.trans (Ex.new hp), n1.old⟩
      refine ⟨_, rfl, .inl ⟨rfl, _, SqL.of upd_same⟩, ?_⟩
      refine (c_cons (c_lcItems (l := b.rule.kvs) (F := fun q => PyData.str (lineT [q.1, q.2])) (by show 6 ≤ 90000; decide) ht (fun H2 Q e2 k => ⟨_, rfl, bx, c.Book, dx, _, .ref pt, rfl, e2 _ _ (by rw [hide_ne nep]; exact hx), X.cl, X.nT, bkF_t _ _ _, k⟩) fun q G2 T hq hT => ?_) c_nil) _ n2.le _ fun vs G3 H3 e3 n3 p3 => ?_
      · refine ct_pair rfl (SqT.of hT) rfl c_yes fun _ => ?_
        have ok2 := okP_kv b.rule q hq
        have l1 := (okT.and ((okP.and ok2).2.1 q.1 (List.mem_cons_self ..))).1
        have l2 := (okT.and ((okP.and ok2).2.1 q.2 (List.mem_cons_of_mem _ (List.mem_cons_self ..)))).1
        rw [← line2]
        have l3 : (" " : Str).length = 1 := by decide +kernel
        exact c_addS (c_addS (c_var rfl (.str _)) c_str (by omega)) (c_var rfl (.str _)) (by rw [PySem.Str.length_append]; omega)
      · cases p3 with
        | cons a3 p3 =>
          cases p3
          obtain ⟨a, xs, rfl, ha, hxs⟩ := a3
          have hp3 := e3 _ _ upd_same
          have gp1 : G1 p = none := fresh_back n1.le hp
          have gp3 : G3 p = none := n3.old p (by rw [upd_same]; exact fun z => nomatch z) gp1
          refine ⟨p, a, _, xs, rfl, rfl, hp3, n3.le _ _ ha, by rw [DpAll.length hxs]; exact sz_of (n := 7) (by decide), ?_⟩
          have hx8 : DpAll K G3 ([V.str (lineT (("rows" : Str) :: b.rows.map rowT))] ++ xs) ((lineT (("rows" : Str) :: b.rows.map rowT) :: b.rule.kvs.map fun q => lineT [q.1, q.2]).map PyData.str) := by
            refine .cons (.str _) ?_
            rw [List.map_map]
            exact hxs
          obtain ⟨n4, e4⟩ := Nw.put (o := .lst ([V.str (lineT (("rows" : Str) :: b.rows.map rowT))] ++ xs)) (n2.trans (e1.trans (Ex.new hp)) n3) ((e1.trans (Ex.new hp)).trans e3) gp3 (fresh_back e1 hp)
          have hb4 : ∀ {σ : L2.St}, σ[0]? = some (some (.ref bx)) → Cm (tVar 0 σ) (upd G3 p (.lst ([V.str (lineT (("rows" : Str) :: b.rows.map rowT))] ++ xs))) (MP.bk K c b) := fun hσ => c_var hσ ((MP.bk K c b).mono (n3.ex.trans (Ex.new gp3)) hb1)
          refine c_text ok ?_ _ n4.le _ fun v G5 H5 e5 n5 p5 => q v G5 H5 (e4.trans e5) (n4.trans e4 n5) p5
          have hL : Cm (tVar 1 [some (.ref bx), some (.ref p), none, none, none, none]) (upd G3 p (.lst ([V.str (lineT (("rows" : Str) :: b.rows.map rowT))] ++ xs))) (MP.d K (.list ((lineT (("rows" : Str) :: b.rows.map rowT) :: b.rule.kvs.map fun q => lineT [q.1, q.2]).map PyData.str))) :=
            c_var rfl (.lst (SqL.of upd_same) (DpAll.up (Ex.new gp3) _ _ hx8))
          have hz := c_lst (K := K) (c_star hL (c_dcons (c_lineT (okP_words b) (c_lst (ms c_str (c_star1T (c_bkk X (hb4 rfl)))) (by have := (okP.and (okP_words b)).1; rw [List.length_map]; omega))) c_dnil)) (by show 8 ≤ 100000; decide)
          have ez : (bkLines b).map PyData.str = ((lineT (("rows" : Str) :: b.rows.map rowT) :: b.rule.kvs.map fun q => lineT [q.1, q.2]).map PyData.str) ++ [.str (lineT (("words" : Str) :: b.words))] := rfl
          rw [ez]
          exact hz
end
end Ah
/-! Ah19: the text of a book, read. -/
namespace Ah
open PySem PySem.Spec PyProof.Rows L2 Evl

theorem cut1 (d : PyData) (ds : List PyData) : cutD (d :: ds) (some 1) none = ds := by
  unfold cutD
  have e1 : HT.sIx (d :: ds).length 0 (some 1) = 1 := by unfold HT.sIx; simp
  have e2 : HT.sIx (d :: ds).length (d :: ds).length none = (d :: ds).length := rfl
  rw [e1, e2]
  exact List.take_of_length_le (by simp)
abbrev MP.ts (K : PySem.W.Frag) (xs : List Str) : MP V := MP.d K (.list (xs.map PyData.str))
section
variable {K : PySem.W.Frag} {w : World} {c : Ad} {σ : L2.St} {G : Hp} {ta tb te td : TE} {b : Bk} {ds : List PyData}
theorem c_hd {x : Str} {xs : List Str} (h : Cm (ta σ) G (MP.ts K (x :: xs))) : Cm (tOp (rIx K) ta (tC (.int 0)) σ) G (MP.d K (.str x)) := c_ixL h c_int (atI_of (by decide) rfl rfl)
theorem c_tl {x : Str} {xs : List Str} (h : Cm (ta σ) G (MP.ts K (x :: xs))) : Cm (tSl (rSlG K) ta (tPart (tC (.int 1))) tNoPart σ) G (MP.ts K xs) := c_to (c_slL h (c_part (K := K) c_int) c_nopart) (congrArg PyData.list (cut1 _ _))
theorem c_neS {x y : Str} (h1 : Cm (ta σ) G (MP.d K (.str x))) (h2 : Cm (tb σ) G (MP.d K (.str y))) (s1 : SeqAt.shaped (.str x) = true) (s2 : SeqAt.shaped (.str y) = true) : Cm (tTest (tOp (rNeD K) ta tb) σ) G (MP.eq (!(PyData.eqv (.str x) (.str y)))) := c_test (c_ne h1 h2 s1 s2)
theorem eqv_str (x : Str) : PyData.eqv (.str x) (.str x) = true := by
  show decide (x = x) = true
  exact decide_eq_true rfl
theorem c_neSame {x : Str} (h1 : Cm (ta σ) G (MP.d K (.str x))) (h2 : Cm (tb σ) G (MP.d K (.str x))) (s1 : SeqAt.shaped (.str x) = true) : Cm (tTest (tOp (rNeD K) ta tb) σ) G (MP.eq false) := c_teq (c_neS h1 h2 s1 s1) (by rw [eqv_str] <;> rfl)
theorem okT.sh {s : Str} (h : okT s = true) : SeqAt.shaped (.str s) = true := (okT.and h).2.2
/-! ### line_at -/
structure LineIn where
  lines : List Str
  i : Nat
  ps : List Str
  at_ : lines[i]? = some (lineT ps)
  ok : okP ps = true
abbrev sp_line_at (K : PySem.W.Frag) (w : World) (c : Ad) : Sp := spOf (ι := LineIn) (fun i => [MP.ts K i.lines, MP.d K (.int i.i)]) (fun i => MP.ts K i.ps)
theorem len_line_at {vs : List V} {H : Hp} {Q : VK} {E : XK} (h : sp_line_at K w c vs H Q E) : vs.length = 2 := spOf_len (by intro i; rfl) vs H Q E h
def t_line_at (K : PySem.W.Frag) (w : World) (c : Ad) : TS :=
  (tSeq (tIfS (tTest (tOp rGeI (tVar 1) (tCB (rLenG K) (tCons (tVar 0) tNil)))) tNever tNext)
    (tRet (tM1 rSplit (tOp (rIx K) (tVar 0) (tVar 1)) (tC (.str " ")))))
theorem rd_line_at {vs : List V} {H : Hp} {Q : VK} {E : XK} (h : sp_line_at K w c vs H Q E) : t_line_at K w c (Dn Q) (vs.map some ++ List.replicate (2 - vs.length) none) H := by
  obtain ⟨⟨lines, i, ps, hat, ok⟩, G, e, ha, q⟩ := h
  cases ha with
  | cons a1 ha => cases ha with
    | cons a2 ha =>
      cases ha
      rename_i x y
      have h1 : Cm (tVar 0 [some x, some y]) G (MP.ts K lines) := c_var rfl a1
      have h2 : Cm (tVar 1 [some x, some y]) G (MP.d K (.int i)) := c_var rfl a2
      have hi : i < lines.length := (List.getElem?_eq_some_iff.mp hat).1
      refine (b_ifN (c_test (c_to (c_I0 (z := .bool false) h2 (c_lenL h1) fun G => ?_) rfl)) (b_ret ?_) : Cm (bd (t_line_at K w c) [some x, some y]) G (MP.ts K ps)) H e Q q
      · have e1 : decide (((lines.map PyData.str).length : Int) ≤ (i : Int)) = false := decide_eq_false (by rw [List.length_map]; omega)
        rw [e1]
        exact .bl false
      · have hs := split_line ok
        rw [← hs]
        refine l_d (c_split (c_ixL h1 h2 (atI_of (by omega) rfl ?_)) c_str (by decide +kernel) ?_)
        · show (lines.map PyData.str)[((i : Nat) : Int).toNat]? = _
          rw [Int.toNat_natCast, List.getElem?_map, hat] <;> rfl
        · have := (okP.and ok).2.2.1
          omega
theorem c_line (i : LineIn) (h1 : Cm (ta σ) G (MP.ts K i.lines)) (h2 : Cm (tb σ) G (MP.d K (.int i.i))) : Cm (tCall (sp_line_at K w c) [] E0 (tCons ta (tCons tb tNil)) σ) G (MP.ts K i.ps) :=
  c_call (args := fun i : LineIn => [MP.ts K i.lines, MP.d K (.int i.i)]) (res := fun i => MP.ts K i.ps) i (c_cons h1 (c_cons h2 c_nil))
def line0 (b : BkO) : LineIn := ⟨bkLines b.val, 0, _, rfl, okP_row b.property⟩
def line7 (b : BkO) : LineIn := ⟨bkLines b.val, 7, _, rfl, okP_words b.val⟩
theorem lineK_at {b : Bk} {i : Nat} {q : Str × Str} (h : b.rule.kvs[i]? = some q) : (bkLines b)[i + 1]? = some (lineT [q.1, q.2]) := by
  have hi : i < (b.rule.kvs.map fun q => [q.1, q.2]).length := by rw [List.length_map]; exact (List.getElem?_eq_some_iff.mp h).1
  unfold bkLines bkParts
  rw [List.getElem?_map, List.getElem?_cons_succ, List.getElem?_append_left hi, List.getElem?_map, h] <;> rfl
def lineK (b : BkO) (i : Nat) (q : Str × Str) (h : b.val.rule.kvs[i]? = some q) : LineIn := ⟨bkLines b.val, i + 1, _, lineK_at h, okP_kv _ q (List.mem_of_getElem? h)⟩
/-! ### rows_at -/
def rowTab : List (Str × PyData) := [("a1", rowD (false, false)), ("a2", rowD (false, true)), ("b1", rowD (true, false)), ("b2", rowD (true, true))]
def rowOf : PyData → PyData
  | .str s => (rowTab.lookup s).getD .none
  | _ => .none
def inRows : PyData → Bool
  | .str s => (rowTab.lookup s).isSome
  | _ => false
theorem rowOf_T (r : Row) : rowTab.lookup (rowT r) = some (rowD r) := by
  obtain ⟨a, b⟩ := r
  cases a <;> cases b <;> rfl
theorem tab_of : ∀ {ks : List Str} {vs : List V} {ds : List PyData} {s : Str} {d : PyData} {G : Hp}, vs.length = ks.length → DpAll K G vs ds → (ks.zip ds).lookup s = some d → ∃ v, (ks.zip vs).lookup s = some v ∧ Dp K G v d
  | [], _, _, _, _, _, _, _, h => nomatch h
  | k :: ks, v :: vs, d' :: ds, s, d, G, hl, .cons a b, h => by
    rw [List.zip_cons_cons, List.lookup_cons] at h ⊢
    cases e : s == k with
    | true =>
      rw [e] at h
      cases h
      exact ⟨v, rfl, a⟩
    | false =>
      rw [e] at h
      exact tab_of (by simpa using hl) b h
  | k :: ks, [], _, _, _, _, hl, _, _ => nomatch hl
theorem Axt.rowAt (X : Axt K w c) (r : Row) : ∃ kvs v, KD K w c.ROWS kvs ∧ kvs.lookup (rowT r) = some v ∧ ∀ G, Dp K G v (rowD r) := by
  obtain ⟨vs, D, hl, hd⟩ := X.rows
  have h : ∀ G, ∃ v, ([("a1" : Str), "a2", "b1", "b2"].zip vs).lookup (rowT r) = some v ∧ Dp K G v (rowD r) := fun G => tab_of hl (hd G) (rowOf_T r)
  obtain ⟨v, h1, _⟩ := h noH
  refine ⟨_, v, D, h1, fun G => ?_⟩
  obtain ⟨u, h2, h3⟩ := h G
  rw [h1] at h2
  cases h2
  exact h3
abbrev sp_rows_at (K : PySem.W.Frag) (w : World) (c : Ad) : Sp := spOf (ι := BkO) (fun b => [MP.ts K (bkLines b.val)]) (fun b => MP.d K (rowsD b.val))
theorem len_rows_at {vs : List V} {H : Hp} {Q : VK} {E : XK} (h : sp_rows_at K w c vs H Q E) : vs.length = 1 := spOf_len (by intro i; rfl) vs H Q E h
def t_rows_at (K : PySem.W.Frag) (w : World) (c : Ad) : TS :=
  (tSeq (tAsg (tCall (sp_line_at K w c) [] E0 (tCons (tVar 0) (tCons (tC (.int 0)) tNil))) (gName 1))
    (tSeq (tIfS (tOr (tTest (tOp (rNeD K) (tOp (rIx K) (tVar 1) (tC (.int 0))) (tC (.str "rows")))) (tOr (tNot (tTest (tChain rLeI rLeI (tC (.int 2)) (tCB (rLenG K) (tCons (tVar 1) tNil)) (tOp (rAddG K) (tC (.int 2)) (tC (.int 1)))))) (tNot (tB (tCB (rAll K) (tCons (tLc (iSeq K (tSl (rSlG K) (tVar 1) (tPart (tC (.int 1))) tNoPart)) (gName 2) tYes (tOp (rInW K w) (tVar 2) (tC (.ref c.ROWS))) [2]) tNil)))))) tNever tNext)
    (tRet (tCB (rTupG K) (tCons (tLc (iSeq K (tSl (rSlG K) (tVar 1) (tPart (tC (.int 1))) tNoPart)) (gName 2) tYes (tOp (rIxW K w) (tC (.ref c.ROWS)) (tVar 2)) [2]) tNil)))))
theorem rd_rows_at (X : Axt K w c) {vs : List V} {H : Hp} {Q : VK} {E : XK} (h : sp_rows_at K w c vs H Q E) : t_rows_at K w c (Dn Q) (vs.map some ++ List.replicate (3 - vs.length) none) H := by
  obtain ⟨b, G, e, ha, q⟩ := h
  cases ha with
  | cons a1 ha =>
    cases ha
    rename_i x
    refine (b_asg (R := MP.ts K (("rows" : Str) :: b.val.rows.map rowT)) (c_line (line0 b) (c_var rfl a1) c_int) fun v G1 e1 p1 => ?_ : Cm (bd (t_rows_at K w c) [some x, none, none]) G (MP.d K (rowsD b.val))) H e Q q
    have hv : ∀ {G2 : Hp} {z : Option V}, Ex G1 G2 → Cm (tVar 1 [some x, some v, z]) G2 (MP.ts K (("rows" : Str) :: b.val.rows.map rowT)) := fun e2 => c_var rfl (Dp.up e2 _ _ p1)
    have hr : b.val.rows.length = 1 ∨ b.val.rows.length = 2 := b.property
    have hl9 : ((b.val.rows.map rowT).map PyData.str).length ≤ 90000 := by rw [List.length_map, List.length_map]; omega
    have hmem : ∀ {d : PyData}, d ∈ (b.val.rows.map rowT).map PyData.str → ∃ r, d = .str (rowT r) := fun h => by
      obtain ⟨s, hs, rfl⟩ := List.mem_map.mp h
      obtain ⟨r, _, rfl⟩ := List.mem_map.mp hs
      exact ⟨r, rfl⟩
    refine b_ifN (c_teq (c_tor (a := false) (b := false) (c_neSame (c_hd (hv (Ex.refl _))) c_str (by decide +kernel)) fun _ => c_teq (c_tor (a := false) (b := false) (c_teq (c_tnot (a := true) (c_test (c_to (c_chainI (g := fun i j => decide (i ≤ j)) (g' := fun i j => decide (i ≤ j)) c_int (c_lenL (hv (Ex.refl _))) (c_addI c_int c_int)) ?_))) rfl) fun _ => c_teq (c_tnot (a := true) (c_tB (c_to (c_allL inRows (c_tl (hv (Ex.refl _))) hl9 fun v2 d G2 e2 hd pd => ?_) ?_))) rfl) rfl) rfl) (b_ret ?_)
    · rw [List.length_map, List.length_cons, List.length_map]
      rcases hr with h | h <;> rw [h] <;> rfl
    · obtain ⟨r, rfl⟩ := hmem hd
      refine ct_name rfl c_yes fun _ => ?_
      obtain ⟨kvs, u, D, h1, _⟩ := X.rowAt r
      exact c_inW (c_var (P := MP.d K _) rfl pd) (c_c ⟨_, rfl, D⟩) (by rw [h1]; show true = inRows (.str (rowT r)); unfold inRows; simp only; rw [rowOf_T] <;> rfl)
    · refine congrArg PyData.bool (List.all_eq_true.mpr fun d hd => ?_)
      obtain ⟨r, rfl⟩ := hmem hd
      unfold inRows
      simp only
      rw [rowOf_T] <;> rfl
    · have e1 : b.val.rows.map rowD = (((b.val.rows.map rowT).map PyData.str).filter fun _ => true).map rowOf := by
        rw [filter_yes, List.map_map, List.map_map]
        refine List.map_congr_left fun r _ => ?_
        show _ = rowOf (.str (rowT r))
        unfold rowOf
        simp only
        rw [rowOf_T] <;> rfl
      show Cm _ G1 (MP.d K (.tuple (b.val.rows.map rowD)))
      rw [e1]
      refine c_tupL (l_d (c_lcL (c_tl (hv (Ex.refl _))) hl9 fun v2 d G2 e2 hd pd => ?_))
      obtain ⟨r, rfl⟩ := hmem hd
      refine ct_name rfl c_yes fun _ => ?_
      obtain ⟨kvs, u, D, h1, h2⟩ := X.rowAt r
      have e3 : rowOf (.str (rowT r)) = rowD r := by unfold rowOf; simp only; rw [rowOf_T] <;> rfl
      rw [e3]
      exact c_ixW (P := MP.d K (rowD r)) (c_c ⟨_, rfl, D⟩) (c_var (P := MP.d K _) rfl pd) h1 fun G' _ => h2 G'
/-! ### word_at -/
structure WdIn where
  b : BkO
  i : Nat
  q : Str × Str
  al : List Str
  at_ : b.val.rule.kvs[i]? = some q
  mem : q.2 ∈ al
  sh : SeqAt.shaped (.list (al.map PyData.str)) = true
abbrev sp_word_at (K : PySem.W.Frag) (w : World) (c : Ad) : Sp := spOf (ι := WdIn) (fun i => [MP.ts K (bkLines i.b.val), MP.d K (.int (i.i + 1 : Nat)), MP.d K (.str i.q.1), MP.d K (.tuple (i.al.map PyData.str))]) (fun i => MP.d K (.str i.q.2))
theorem len_word_at {vs : List V} {H : Hp} {Q : VK} {E : XK} (h : sp_word_at K w c vs H Q E) : vs.length = 4 := spOf_len (by intro i; rfl) vs H Q E h
def t_word_at (K : PySem.W.Frag) (w : World) (c : Ad) : TS :=
  (tSeq (tAsg (tCall (sp_line_at K w c) [] E0 (tCons (tVar 0) (tCons (tVar 1) tNil))) (gName 4))
    (tSeq (tIfS (tOr (tTest (tOp (rNeD K) (tCB (rLenG K) (tCons (tVar 4) tNil)) (tC (.int 2)))) (tOr (tTest (tOp (rNeD K) (tOp (rIx K) (tVar 4) (tC (.int 0))) (tVar 2))) (tTest (tOp (rInG K true) (tOp (rIx K) (tVar 4) (tC (.int 1))) (tVar 3))))) tNever tNext)
    (tRet (tOp (rIx K) (tVar 4) (tC (.int 1))))))
theorem any_mem {x : Str} : ∀ {al : List Str}, x ∈ al → (al.map PyData.str).any (fun z => PyData.eqv z (.str x)) = true
  | y :: al, h => by
    rw [List.map_cons, List.any_cons]
    rcases List.mem_cons.mp h with e | h
    · rw [← e, eqv_str, Bool.true_or]
    · rw [any_mem h, Bool.or_true]
theorem rd_word_at {vs : List V} {H : Hp} {Q : VK} {E : XK} (h : sp_word_at K w c vs H Q E) : t_word_at K w c (Dn Q) (vs.map some ++ List.replicate (5 - vs.length) none) H := by
  obtain ⟨⟨b, i, q1, al, hat, hm, sh⟩, G, e, ha, q⟩ := h
  cases ha with
  | cons a1 ha => cases ha with
    | cons a2 ha => cases ha with
      | cons a3 ha => cases ha with
        | cons a4 ha =>
          cases ha
          rename_i x0 x1 x2 x3
          refine (b_asg (R := MP.ts K [q1.1, q1.2]) (c_line (lineK b i q1 hat) (c_var rfl a1) (c_var rfl a2)) fun v G1 e1 p1 => ?_ : Cm (bd (t_word_at K w c) [some x0, some x1, some x2, some x3, none]) G (MP.d K (.str q1.2))) H e Q q
          have hv : Cm (tVar 4 [some x0, some x1, some x2, some x3, some v]) G1 (MP.ts K [q1.1, q1.2]) := c_var rfl p1
          have ok2 := okP_kv b.val.rule q1 (List.mem_of_getElem? hat)
          have s1 := okT.sh ((okP.and ok2).2.1 q1.1 (List.mem_cons_self ..))
          have s2 := okT.sh ((okP.and ok2).2.1 q1.2 (List.mem_cons_of_mem _ (List.mem_cons_self ..)))
          have h1 : Cm (tOp (rIx K) (tVar 4) (tC (.int 1)) [some x0, some x1, some x2, some x3, some v]) G1 (MP.d K (.str q1.2)) := c_ixL hv c_int rfl
          refine b_ifN (c_teq (c_tor (a := false) (b := false) (c_teq (c_test (c_ne (c_lenL hv) c_int rfl rfl)) rfl) fun _ => c_teq (c_tor (a := false) (b := false) (c_neSame (c_hd hv) (c_var rfl (Dp.up e1 _ _ a3)) s1) fun _ => c_teq (c_test (c_inT (n := true) h1 (c_var rfl (Dp.up e1 _ _ a4)) s2 sh)) ?_) rfl) rfl) (b_ret h1)
          rw [any_mem hm] <;> rfl
/-! ### words_at -/
abbrev sp_words_at (K : PySem.W.Frag) (w : World) (c : Ad) : Sp := spOf (ι := BkO) (fun b => [MP.ts K (bkLines b.val), MP.d K (.int 7)]) (fun b => MP.d K (wordsD b.val))
theorem len_words_at {vs : List V} {H : Hp} {Q : VK} {E : XK} (h : sp_words_at K w c vs H Q E) : vs.length = 2 := spOf_len (by intro i; rfl) vs H Q E h
def t_words_at (K : PySem.W.Frag) (w : World) (c : Ad) : TS :=
  (tSeq (tAsg (tCall (sp_line_at K w c) [] E0 (tCons (tVar 0) (tCons (tVar 1) tNil))) (gName 2))
    (tSeq (tIfS (tOr (tTest (tOp (rNeD K) (tOp (rIx K) (tVar 2) (tC (.int 0))) (tC (.str "words")))) (tTest (tOp (rNeD K) (tLc (iSeq K (tC (.ref c.WORDS))) (gName 3) (tTest (tOp (rInG K false) (tVar 3) (tSl (rSlG K) (tVar 2) (tPart (tC (.int 1))) tNoPart))) (tVar 3) [3]) (tSl (rSlG K) (tVar 2) (tPart (tC (.int 1))) tNoPart)))) tNever tNext)
    (tRet (tCB (rTupG K) (tCons (tSl (rSlG K) (tVar 2) (tPart (tC (.int 1))) tNoPart) tNil)))))
theorem rd_words_at (X : Ax K w c) {vs : List V} {H : Hp} {Q : VK} {E : XK} (h : sp_words_at K w c vs H Q E) : t_words_at K w c (Dn Q) (vs.map some ++ List.replicate (4 - vs.length) none) H := by
  obtain ⟨b, G, e, ha, q⟩ := h
  cases ha with
  | cons a1 ha => cases ha with
    | cons a2 ha =>
      cases ha
      rename_i x y
      refine (b_asg (R := MP.ts K (("words" : Str) :: b.val.words)) (c_line (line7 b) (c_var rfl a1) (c_var rfl a2)) fun v G1 e1 p1 => ?_ : Cm (bd (t_words_at K w c) [some x, some y, none, none]) G (MP.d K (wordsD b.val))) H e Q q
      have hv : ∀ {G2 : Hp} {z : Option V}, Ex G1 G2 → Cm (tVar 2 [some x, some y, some v, z]) G2 (MP.ts K (("words" : Str) :: b.val.words)) := fun e2 => c_var rfl (Dp.up e2 _ _ p1)
      refine b_ifN (c_teq (c_tor (a := false) (b := false) (c_neSame (c_hd (hv (Ex.refl _))) c_str (by decide +kernel)) fun _ => c_test (c_to (c_ne (l_d (c_lcT (K := K) (ds := [.str "join", .str "sweep"]) (t := fun d => (b.val.words.map PyData.str).any fun z => PyData.eqv z d) (F := fun d => d) (c_c (X.wds G1)) (by decide) fun v d G5 eG hm hw => ct_name rfl (c_test (c_to (c_inL (n := false) (c_var (P := MP.d K d) rfl hw) (c_tl (hv eG)) ?_ (words_shp b.val)) rfl)) fun _ => c_var (P := MP.d K d) rfl hw)) (c_tl (hv (Ex.refl _))) ?_ ?_) ?_)) rfl) (b_ret (c_tupL (c_tl (hv (Ex.refl _)))))
      · rcases List.mem_cons.mp hm with z | z
        · rw [z]; decide +kernel
        · rw [List.mem_singleton.mp z]; decide +kernel
      · exact words_all (M := fun l => SeqAt.shaped (.list (List.map (fun d => d) (List.filter (fun d => (l.map PyData.str).any fun z => PyData.eqv z d) [.str "join", .str "sweep"]))) = true) b.val (by decide +kernel) (by decide +kernel) (by decide +kernel) (by decide +kernel)
      · exact words_shp b.val
      · exact congrArg PyData.bool (words_all (M := fun l => (!PyData.eqv (.list (List.map (fun d => d) (List.filter (fun d => (l.map PyData.str).any fun z => PyData.eqv z d) [.str "join", .str "sweep"]))) (.list (l.map PyData.str))) = false) b.val (by decide +kernel) (by decide +kernel) (by decide +kernel) (by decide +kernel))
theorem take_put (r : Rule) {n : Nat} {q : Str × Str} (h : r.kvs[n]? = some q) : putS (r.kvs.take n) q.1 q.2 = r.kvs.take (n + 1) := by
  have hn := (List.getElem?_eq_some_iff.mp h).1
  have ok : okKvs (r.kvs.take n) := fun j z hz => by
    rw [List.getElem?_take] at hz
    split at hz
    · exact rule_word r j z hz
    · cases hz
  obtain ⟨p, hp, e1, e2⟩ := rule_word r n q h
  have hf := ok.fresh (i := n) (by rw [List.length_take]; omega) hp
  unfold putS
  rw [e1, hf, List.take_succ, h, ← e1] <;> rfl
theorem Nw.keep {H G G3 H3 : Hp} {p : Addr} {o : HO} (n : Nw H G G3 H3) (gp : G3 p = none) (hp : H p = none) (h3 : H3 p = some o) : Nw H G (upd G3 p o) H3 := by
  refine ⟨n.ex.trans (Ex.new gp), fun b u h => ?_, fun b hb hg => ?_⟩
  · by_cases hbp : b = p
    · subst hbp; rw [upd_same] at h; rw [h3, ← h]
    · rw [upd_ne hbp] at h; exact n.le b u h
  · rw [upd_ne (fun z => hb (by rw [z]; exact hp))]; exact n.old b hb hg
/-! ### read -/
abbrev sp_read (K : PySem.W.Frag) (w : World) (c : Ad) : Sp := spOf (ι := BkO) (fun b => [MP.d K (.str (bkText b.val))]) (fun b => MP.bk K c b.val)
theorem len_read {vs : List V} {H : Hp} {Q : VK} {E : XK} (h : sp_read K w c vs H Q E) : vs.length = 1 := spOf_len (by intro i; rfl) vs H Q E h
def t_read (K : PySem.W.Frag) (w : World) (c : Ad) : TS :=
  (tSeq (tPar3 1 2 3 (tCons (tM1 rSplit (tVar 0) (tC (.str "\n"))) (tCons tDNewK (tCons (tC (.int 1)) tNil))))
    (tSeq (tAsg (tCall (sp_rows_at K w c) [] E0 (tCons (tVar 1) tNil)) (gName 4))
    (tSeq (tFor (iItemsW K w (tC (.ref c.PARTS))) (gTup K 2 (gCons (gName 5) (gCons (gName 6) gNil)))
    (tSeq (sDPut (tVar 2) (tVar 5) (tCall (sp_word_at K w c) [] E0 (tCons (tVar 1) (tCons (tVar 3) (tCons (tVar 5) (tCons (tVar 6) tNil))))))
    (tAug 3 (tC (.int 1)) (ipI fun i j => i + j))))
    (tSeq (tAsg (tCall (sp_words_at K w c) [] E0 (tCons (tVar 1) (tCons (tVar 3) tNil))) (gName 7))
    (tSeq (tIfS (tTest (tOp rGtI (tCB (rLenG K) (tCons (tVar 1) tNil)) (tOp (rAddG K) (tVar 3) (tC (.int 1))))) tNever tNext)
    (tRet (tMake c.Book (sp_Book_init K w c) [] E0 (tCons (tVar 4) (tCons (tVar 2) (tCons (tVar 7) tNil))))))))))
theorem rd_read (X : Ax K w c) {vs : List V} {H : Hp} {Q : VK} {E : XK} (h : sp_read K w c vs H Q E) : t_read K w c (Dn Q) (vs.map some ++ List.replicate (8 - vs.length) none) H := by
  obtain ⟨b, G, e, ha, q⟩ := h
  cases ha with
  | cons a1 ha =>
    cases ha
    rename_i x
    obtain ⟨kvs, k1, D, k3⟩ := X.kd
    refine (c_split (K := K) (σ := [some x, none, none, none, none, none, none, none]) (a := bkText b.val) (b := "\n") (c_var rfl a1) c_str (by decide +kernel) (by have := text_len b.property; omega) : Cm _ G _) H e _ fun v1 G1 H1 e1 n1 p1 => ?_
    rw [split_text b.property] at p1
    obtain ⟨al, xl, rfl, hal, hxl⟩ := p1
    intro p hp
    refine ⟨_, _, _, rfl, ?_⟩
    have e2 := e1.trans (Ex.new (o := .dK []) hp)
    have n2 : Nw H G G1 (upd H1 p (.dK [])) := ⟨n1.ex, n1.le.trans (Ex.new hp), n1.old⟩
    have gp1 : G1 p = none := fresh_back n1.le hp
    have hp0 : H p = none := fresh_back e1 hp
    have hL : ∀ {G2 : Hp}, Ex G1 G2 → Dp K G2 (.ref al) (.list ((bkLines b.val).map PyData.str)) := fun e3 => .lst (SqL.of (e3 _ _ hal)) (DpAll.up e3 _ _ hxl)
    refine (c_call (args := fun b : BkO => [MP.ts K (bkLines b.val)]) (res := fun b => MP.d K (rowsD b.val)) b (c_cons (c_var rfl (hL (Ex.refl _))) c_nil)) _ n2.le _ fun v4 G3 H3 e3 n3 p3 => ?_
    have gp3 : G3 p = none := n3.old p (by rw [upd_same]; exact fun z => nomatch z) gp1
    refine ⟨_, kvs, rfl, D, for_itemsW (fun n σ' H' => (∃ x5 x6, σ' = [some x, some (.ref al), some (.ref p), some (.int (n + 1 : Nat)), some v4, x5, x6, none]) ∧ (∃ G', Nw H G G' H' ∧ Ex H H' ∧ Ex G3 G' ∧ G' p = none) ∧ H' p = some (.dK (kvD (b.val.rule.kvs.take n)))) ⟨⟨_, _, rfl⟩, ⟨G3, n2.trans e2 n3, e2.trans e3, Ex.refl _, gp3⟩, e3 _ _ upd_same⟩ ?_ ?_⟩
    · rintro n r T σ' H' hr ⟨⟨x5, x6, rfl⟩, ⟨G', n', e', x3, gp'⟩, hpd⟩ hT
      have hTp : T ≠ p := fun z => by rw [z, hpd] at hT; cases hT
      refine ⟨T, [.str r.1, r.2], rfl, SqT.of upd_same, rfl, _, _, rfl, _, _, rfl, rfl, ?_⟩
      have n4 := n'.trans e' (Nw.own (o := .tup [.str r.1, r.2]) n'.le hT)
      have e4 := e'.trans (Ex.new (o := .tup [.str r.1, r.2]) hT)
      obtain ⟨pt, hpt, er, hpr⟩ := k3 n r hr
      have hn6 : n < 6 := (List.getElem?_eq_some_iff.mp hpt).1
      obtain ⟨qq, hqq⟩ : ∃ qq, b.val.rule.kvs[n]? = some qq := ⟨_, List.getElem?_eq_getElem (by rw [rule_len]; exact hn6)⟩
      obtain ⟨pt', hpt', f1, f2⟩ := rule_word b.val.rule n qq hqq
      rw [hpt] at hpt'
      cases hpt'
      have i0 : WdIn := ⟨b, n, qq, pt.2, hqq, f2, parts_shaped pt (List.mem_of_getElem? hpt)⟩
      have er2 : r.1 = qq.1 := er.trans f1.symm
      refine (c_call (args := fun i : WdIn => [MP.ts K (bkLines i.b.val), MP.d K (.int (i.i + 1 : Nat)), MP.d K (.str i.q.1), MP.d K (.tuple (i.al.map PyData.str))]) (res := fun i => MP.d K (.str i.q.2)) ⟨b, n, qq, pt.2, hqq, f2, parts_shaped pt (List.mem_of_getElem? hpt)⟩
        (c_cons (c_var rfl (hL (n3.ex.trans x3))) (c_cons (c_var rfl (.int _)) (c_cons (c_var rfl (by rw [er2]; exact .str _)) (c_cons (c_var rfl (hpr G')) c_nil))))) _ n4.le _ fun u G5 H5 e5 n5 p5 => ?_
      have eu := dp_str p5
      subst eu
      have hp5 : H5 p = some (.dK (kvD (b.val.rule.kvs.take n))) := e5 _ _ (by rw [upd_ne (Ne.symm hTp)]; exact hpd)
      have gp5 : G5 p = none := n5.old p (by rw [upd_ne (Ne.symm hTp), hpd]; exact fun z => nomatch z) gp'
      have n6 := n4.trans e4 n5
      refine ⟨_, rfl, _, rfl, p, _, rfl, DPut.k (k := Sum.inr r.1) hp5 ?_, ?_⟩
      · unfold kvD
        rw [List.length_map, List.length_take]
        exact sz_lt (by omega)
      · refine ⟨_, rfl, _, _, rfl, rfl, ⟨some (.str r.1), some r.2, rfl⟩, ⟨G5, ⟨n6.ex, n6.le.mut gp5, n6.old⟩, Ex.mut (e4.trans e5) hp0, x3.trans n5.ex, gp5⟩, ?_⟩
        rw [upd_same, put_kv, er2]
        rw [take_put b.val.rule hqq]
    · rintro σ' H' ⟨⟨x5, x6, rfl⟩, ⟨G', n', e', x3, gp'⟩, hpd⟩
      have hk6 : kvs.length = 6 := by
        have := congrArg List.length k1
        rw [List.length_map, List.length_map] at this
        exact this
      rw [hk6] at hpd ⊢
      have n7 := Nw.keep n' gp' hp0 hpd
      have x7 : Ex G3 (upd G' p (.dK (kvD (b.val.rule.kvs.take 6)))) := x3.trans (Ex.new gp')
      generalize hG7 : upd G' p (.dK (kvD (b.val.rule.kvs.take 6))) = G7 at n7 x7
      have hp7 : G7 p = some (.dK (kvD b.val.rule.kvs)) := by rw [← hG7, upd_same] <;> rfl
      have key : Cm (bd (tSeq (tAsg (tCall (sp_words_at K w c) [] E0 (tCons (tVar 1) (tCons (tVar 3) tNil))) (gName 7)) (tSeq (tIfS (tTest (tOp rGtI (tCB (rLenG K) (tCons (tVar 1) tNil)) (tOp (rAddG K) (tVar 3) (tC (.int 1))))) tNever tNext)
          (tRet (tMake c.Book (sp_Book_init K w c) [] E0 (tCons (tVar 4) (tCons (tVar 2) (tCons (tVar 7) tNil))))))) [some x, some (.ref al), some (.ref p), some (.int ((6 + 1 : Nat) : Int)), some v4, x5, x6, none]) G7 (MP.bk K c b.val) := by
        refine b_asg (R := MP.d K (wordsD b.val)) (c_call (args := fun b : BkO => [MP.ts K (bkLines b.val), MP.d K (.int 7)]) (res := fun b => MP.d K (wordsD b.val)) b (c_cons (c_var rfl (hL (n3.ex.trans x7))) (c_cons (c_var rfl (.int 7)) c_nil))) fun v7 G8 e8 p8 => ?_
        have x8 : Ex G3 G8 := x7.trans e8
        refine b_ifN (c_test (c_to (c_I0 (z := .bool false) (c_lenL (c_var rfl (hL (n3.ex.trans x8)))) (c_addI (c_var rfl (.int 7)) c_int) fun G => ?_) rfl)) (b_ret (c_mkBook b.val b.property (c_var rfl (Dp.up x8 _ _ p3)) (c_var (P := MP.dk b.val.rule.kvs) rfl ⟨p, rfl, e8 _ _ hp7⟩) (c_var rfl p8)))
        exact .bl false
      exact key H' n7.le Q fun v G8 H8 e8 n8 p8 => q v G8 H8 (e'.trans e8) (n7.trans e' n8) p8
end
end Ah
/-! Ah20: the text that a law writes; the own == by its name; the law's end. -/
namespace Ah
open PySem PySem.Spec PyProof.Rows L2 Evl

theorem hu66 {A : Around} {k : Nat} (hr : Room k A) : A.units + 66 < cLine := by
  have h := hr.un
  omega
/-- the own == of a class -/
structure OwnQ (P : Program) (w : World) (K : PySem.W.Frag) (mg : Str → Option Value) (base : Heap) (k : Nat) (C : Addr) (sp : Sp) : Prop where
  ex : ∃ (f : Addr) (fd : FuncData) (ps : List Str), FnOk P w K mg base CX0 k f fd ps sp ∧ PySem.W.findIn K (.ref C) "__eq__" = some (some (.ref f)) ∧ PySem.W.isFn K (.ref f) = true ∧ PySem.W.notFirst K C (.type "list") = true ∧ Binds K fd ps []
theorem op_ownQ {X : Cx} {j k : Nat} {C : Addr} {sp : Sp} (c : OwnQ X.prog X.w X.K X.mg X.base k C sp) (hr : Room j X.A) (hk : k ≤ j) : OpR X (compareOp .Eq) (rEqO X.K C sp) := by
  obtain ⟨f, fd, ps, F, h1, h2, h3, b⟩ := c.ex
  exact op_own F (hr.mono hk) h1 h2 h3 b pass0
/-! ### texts that may be compared -/
theorem strok_app {x y : Str} (h1 : PyData.strOk x = true) (h2 : PyData.strOk y = true) : PyData.strOk (x ++ y) = true := by
  unfold PyData.strOk at *
  rw [Str.cps_append, Array.all_append, h1, h2] <;> rfl
theorem strok_join {y : Str} (hy : PyData.strOk y = true) : ∀ {l : List Str}, (∀ x ∈ l, PyData.strOk x = true) → PyData.strOk (Str.join y l) = true
  | [], _ => (by decide +kernel : PyData.strOk Str.empty = true)
  | [x], h => h x (List.mem_cons_self ..)
  | x :: z :: r, h => by
    show PyData.strOk (x ++ y ++ Str.join y (z :: r)) = true
    exact strok_app (strok_app (h x (List.mem_cons_self ..)) hy) (strok_join hy fun u hu => h u (List.mem_cons_of_mem _ hu))
theorem strok_shaped {s : Str} (h : PyData.strOk s = true) : SeqAt.shaped (.str s) = true := by
  show (PyData.strOk s && decide _) = true
  rw [h]; rfl
theorem shaped_strok {s : Str} (h : SeqAt.shaped (.str s) = true) : PyData.strOk s = true := (Bool.and_eq_true_iff.mp h).1
theorem line_strok {ps : List Str} (ok : okP ps = true) : PyData.strOk (lineT ps) = true := by
  unfold lineT
  rw [TL.join_eq]
  exact strok_join (by decide +kernel) fun x hx => shaped_strok (okT.and ((okP.and ok).2.1 x hx)).2.2
theorem text_shaped {b : Bk} (ok : b.ok) : SeqAt.shaped (.str (bkText b)) = true := by
  refine strok_shaped ?_
  unfold bkText
  rw [TL.join_eq]
  refine strok_join (by decide +kernel) fun x hx => ?_
  obtain ⟨ps, hps, rfl⟩ := List.mem_map.mp hx
  exact line_strok (okP_bk ok ps hps)
section
variable {K : PySem.W.Frag} {w : World} {c : Ad} {σ : L2.St} {G : Hp} {ta tb te td : TE} {b : Bk} {ds : List PyData}
theorem c_listTl (ha : Cm (ta σ) G (MP.d K (.tuple ds))) : Cm (tCB (rListG K) (tCons ta tNil) σ) G (MP.l K ds) :=
  c_cb1 ha fun x G1 e1 p => by
    obtain ⟨a, xs, rfl, h1, h2⟩ := dp_tup p
    exact c_newV (o := .lst xs) (fun H eh Q h => ⟨a, xs, rfl, .inr (ex_t eh h1), h⟩) fun p hp => ⟨p, xs, rfl, upd_same, DpAll.up (Ex.new hp) _ _ h2⟩
theorem lst1 {x : Str} : Cm (tLst (tCons (tC (.str x)) tNil) σ) G (MP.l K [.str x]) := c_lstl (c_dcons c_str c_dnil) (by show 1 ≤ 100000; decide)
/-- [' '.join(['rows'] + [..])] -/
theorem c_law0 {i j : Nat} {tl : TE} (ok : b.ok) (hl : Cm (tl σ) G (MP.d K (rowsD b))) (hw : ∀ x y, wipe (((wipe σ [i, j]).set i (some x)).set j (some y)) [i, j] = wipe σ [i, j]) (h1 : ∀ x y, (((wipe σ [i, j]).set i (some x)).set j (some y))[i]? = some (some x)) (h2 : ∀ x y, (((wipe σ [i, j]).set i (some x)).set j (some y))[j]? = some (some y)) :
    Cm (tLst (tCons (tM1 (rJoin K) (tC (.str " ")) (tOp (rAddG K) (tLst (tCons (tC (.str "rows")) tNil)) (tLc (iSeq K tl) (gTup K 2 (gCons (gName i) (gCons (gName j) gNil))) tYes (tOp (rAddG K) (tVar i) (tCB rStrI (tCons (tVar j) tNil))) [i, j]))) tNil) σ) G (MP.l K [.str (lineT (("rows" : Str) :: b.rows.map rowT))]) :=
  c_lstl (c_dcons (c_lineT (okP_row ok) (l_d (c_addL lst1 (c_rowsLl ok hl hw h1 h2) (by rw [List.length_map, List.length_map]; have := ok; unfold Bk.ok at this; show 1 + _ ≤ 100000; omega)))) c_dnil) (by show 1 ≤ 100000; decide)
def lineOf (r : Rule) : PyData → PyData
  | .list (.str k :: _) => .str (k ++ (" " : Str) ++ (r.kvs.lookup k).getD "")
  | _ => .none
theorem rule_lk (r : Rule) {q : Str × Str} (h : q ∈ r.kvs) : r.kvs.lookup q.1 = some q.2 := by
  obtain ⟨j, hj⟩ := List.getElem?_of_mem h
  exact rule_lookup r hj
theorem lines_of (r : Rule) : (partsL.map fun l => PyData.list (l.map PyData.str)).map (lineOf r) = (r.kvs.map fun q => lineT [q.1, q.2]).map PyData.str := by
  have e1 : (partsL.map fun l => PyData.list (l.map PyData.str)).map (lineOf r) = (r.kvs.map (·.1)).map fun k => PyData.str (k ++ (" " : Str) ++ (r.kvs.lookup k).getD "") := rfl
  rw [e1, List.map_map, List.map_map]
  refine List.map_congr_left fun q hq => ?_
  show PyData.str (q.1 ++ (" " : Str) ++ (r.kvs.lookup q.1).getD "") = PyData.str (lineT [q.1, q.2])
  rw [rule_lk r hq, ← line2] <;> rfl
/-- [part[0] + ' ' + rule[part[0]] for part in _law_parts()] -/
theorem c_law1 {i : Nat} (hr : ∀ {G1 : Hp} x, Ex G G1 → Cm (td ((wipe σ [i]).set i (some x))) G1 (MP.dk b.rule.kvs)) (hw : ∀ x, wipe ((wipe σ [i]).set i (some x)) [i] = wipe σ [i]) (h1 : ∀ x, ((wipe σ [i]).set i (some x))[i]? = some (some x)) :
    Cm (tLc (iSeq K (tCall (sp__law_parts K w c) [] E0 tNil)) (gName i) tYes (tOp (rAddG K) (tOp (rAddG K) (tOp (rIx K) (tVar i) (tC (.int 0))) (tC (.str " "))) (tDGet td (tOp (rIx K) (tVar i) (tC (.int 0))))) [i] σ) G (MP.l K ((b.rule.kvs.map fun q => lineT [q.1, q.2]).map PyData.str)) := by
  rw [← lines_of, ← filter_yes (partsL.map fun l => PyData.list (l.map PyData.str))]
  refine c_lcL (l_d (c_call (args := fun _ : Unit => []) (res := fun _ => MP.l K _) () c_nil)) (by show 6 ≤ 90000; decide) fun v d G1 e1 hd pd => ?_
  obtain ⟨n, hn⟩ := List.getElem?_of_mem hd
  obtain ⟨p, hp, rfl⟩ := parts_at hn
  obtain ⟨q, hq⟩ : ∃ q, b.rule.kvs[n]? = some q := ⟨_, List.getElem?_eq_getElem (by rw [rule_len]; exact (List.getElem?_eq_some_iff.mp hp).1)⟩
  obtain ⟨p', hp', f1, f2⟩ := rule_word b.rule n q hq
  rw [hp] at hp'
  cases hp'
  have hk : ∀ {G2 : Hp}, Ex G1 G2 → Cm (tOp (rIx K) (tVar i) (tC (.int 0)) ((wipe σ [i]).set i (some v))) G2 (MP.d K (.str p.1)) := fun e2 => c_ixL (c_var (h1 v) (Dp.up e2 _ _ pd)) c_int (atI_of (by decide) rfl rfl)
  have lk : b.rule.kvs.lookup p.1 = some q.2 := by rw [← f1]; exact rule_lk b.rule (List.mem_of_getElem? hq)
  have ok2 := okP_kv b.rule q (List.mem_of_getElem? hq)
  have l1 := (okT.and ((okP.and ok2).2.1 q.1 (List.mem_cons_self ..))).1
  have l2 := (okT.and ((okP.and ok2).2.1 q.2 (List.mem_cons_of_mem _ (List.mem_cons_self ..)))).1
  have l3 : (" " : Str).length = 1 := by decide +kernel
  rw [f1] at l1
  refine ct_name (hw v) c_yes fun _ => c_to (c_addS (c_addS (hk (Ex.refl _)) c_str (by omega)) (c_dget (hr v e1) (hk (Ex.refl _)) lk) (by rw [PySem.Str.length_append]; omega)) ?_
  show _ = PyData.str (p.1 ++ (" " : Str) ++ (b.rule.kvs.lookup p.1).getD "")
  rw [lk] <;> rfl
/-- the whole text -/
theorem c_law2 (ok : b.ok) (hl : Cm (ta σ) G (MP.l K (((lineT (("rows" : Str) :: b.rows.map rowT)) :: b.rule.kvs.map fun q => lineT [q.1, q.2]).map PyData.str))) (hw : Cm (td σ) G (MP.d K (wordsD b))) :
    Cm (tM1 (rJoin K) (tC (.str "\n")) (tOp (rAddG K) ta (tLst (tCons (tM1 (rJoin K) (tC (.str " ")) (tOp (rAddG K) (tLst (tCons (tC (.str "words")) tNil)) (tCB (rListG K) (tCons td tNil)))) tNil))) σ) G (MP.d K (.str (bkText b))) := by
  have hwl : (b.words.map PyData.str).length ≤ 2 := words_all (M := fun l => (l.map PyData.str).length ≤ 2) b (by decide) (by decide) (by decide) (by decide)
  refine c_text ok ?_
  have e : (bkLines b).map PyData.str = (((lineT (("rows" : Str) :: b.rows.map rowT)) :: b.rule.kvs.map fun q => lineT [q.1, q.2]).map PyData.str) ++ [.str (lineT (("words" : Str) :: b.words))] := rfl
  rw [e]
  exact l_d (c_addL hl (c_lstl (c_dcons (c_lineT (okP_words b) (l_d (c_addL lst1 (c_listTl hw) (by show 1 + _ ≤ 100000; omega)))) c_dnil) (by show 1 ≤ 100000; decide)) (by show 7 + 1 ≤ 100000; decide))
/-! ### a law: its promise, its source, its turns -/
def sp_law (K : PySem.W.Frag) (w : World) (c : Ad) : Sp := fun vs H Q _ => ∃ (a : Addr) (ns : List Int), vs = [.ref a] ∧ SqL K H a (ns.map V.int) ∧ ns.length ≤ 63 ∧ ∀ H', Q (.bl true) H'
theorem len_law {vs : List V} {H : Hp} {Q : VK} {E : XK} (h : sp_law K w c vs H Q E) : vs.length = 1 := by
  obtain ⟨a, ns, rfl, _⟩ := h
  rfl
theorem u_mix {a : Addr} {ns : List Int} {seed : Nat} {tr : TS} {D : Ends} {H : Hp} (h0 : σ[0]? = some (some (.ref a))) (hs : SqL K H a (ns.map V.int)) (hl : ns.length ≤ 63) (h2 : seed < 1000000)
    (k : ∀ h d H', Src H' h d → tr D (σ.set 1 (some (.ref h))) H') : tSeq (tAsg (tCall (sp__law_mix K w c) [] E0 (tCons (tVar 0) (tCons (tC (.int seed)) tNil))) (gName 1)) tr D σ H :=
  ⟨_, h0, a, ns, seed, rfl, hs, hl, by omega, by omega, fun h d H' _ _ _ S => k h d H' S⟩
theorem u_loop {h d : Addr} {n : Nat} {tb : TS} {D : Ends} {H : Hp} {j : Nat} (I : L2.St → Prop) (h0 : I σ) (S : Src H h d) (hn : n ≤ 1000000)
    (hb : ∀ (σ : L2.St) (v : V) (N : Ends), I σ → (∀ σ' H', I σ' → Src H' h d → N.nx σ' H') → St h d tb N (σ.set j (some v)) noH) (he : ∀ σ H, I σ → Src H h d → D.nx σ H) :
    tFor (iRng1 (tCons (tC (.int n)) tNil)) (gName j) tb D σ H := by
  refine ⟨n, rfl, by omega, by omega, ?_⟩
  refine for_range (lo := 0) (n := ((n : Nat) : Int).toNat) (fun _ σ H => I σ ∧ Src H h d) ⟨h0, S⟩ ?_ fun σ H p => he σ H p.1 p.2
  rintro i σ' H' _ ⟨p, S'⟩
  exact hb σ' _ { D with nx := fun σ H => I σ ∧ Src H h d, ct := fun σ H => I σ ∧ Src H h d, bk := D.nx } p (fun σ'' H'' q S'' => ⟨q, S''⟩) H' noH_ex S' rfl rfl
end
end Ah
/-! Ah21: own exceptions whose __init__ says super().__init__(text), and stores a field or none. -/
namespace PySem.AhX
open PySem PySem.W PySem.Calls PyProof.Rows PySem.HandSPX

section
variable {prog : Program} {w : World} {A : Around} {E : Value → Shared → Prop} {h : Heap} {g : Array GenState} {d : Drawn} {t : Nat} {os : OsState}
variable {nm q : Str} {C N : Addr} {bs bm : List Value} {hdct : Bool} {sn : List Str} {sub : List Value} {ab : Bool} {col : Option Bool} {dd : Option Addr} {k0 k1 k2 k3 k5 : Option Value}
theorem call_mw {u e t0 : Addr} {rest : List Value} {Q : Value → Shared → Prop}
    (hC : h.get? C = some (excClassObj nm q C N bs bm hdct sn sub ab col dd k0 k1 k2 k3 k5 "ValueError.__new__")) (he : h.get? e = some (excO C t0)) (hu : h.get? u = some (kxs_mw "ValueError.__init__" e)) (hz : rest.length ≤ sizeLine)
    (hq : ∀ h' t1, (∀ b o, b ≠ e → h.get? b = some o → h'.get? b = some o) → h'.get? e = some (excO C t1) → Q .none ⟨h', g, d, t, os⟩) :
    wpAny (model prog w) A (call (.ref u) rest) Q E ⟨h, g, d, t, os⟩ := by
  refine wpAny_call (codeAny_of_tree ?_)
  show wpAny _ A.in1 (callAny (.ref u) ⟨rest, []⟩) _ _ _
  simp only [callAny]
  refine wpAny_bind (wpAny_load hu ?_)
  simp only [kxs_mw, show (Value.type "method-wrapper" == Value.type "method" || Value.type "method-wrapper" == Value.type "builtin_function_or_method" || Value.type "method-wrapper" == Value.type "method-wrapper") = true by decide, if_true]
  refine KFB.if_so (by decide) ?_
  refine wpAny_bind (ESX.check_bound F.excBase_ValueError hC he rfl ?_)
  refine wpAny_bind (wpAny_pure (wpAny_pure ?_))
  refine ⟨Code.quiet_builtin _ (by decide +kernel), codeAny_builtin F.excBase_ValueError.initEntry ?_⟩
  rw [Around.under_plainId F.excBase_ValueError.init.plain _]
  wp_walk
  refine hq _ h.objs.size (fun b o hb ho => ?_) ?_
  · rw [Heap.get?_update_other _ _ (Ne.symm hb)]
    exact Heap.get?_push_of_some _ ho
  · rw [Heap.get?_update_self _ (Heap.get?_push_of_some _ he) rfl]
    rfl
end
/-- what the written part says of an own exception, its class at C, its __init__ at fI -/
structure SupTxt (P : Program) (K : Frag) (mg : Str → Option Value) (C fI : Addr) (x qual : Str) (st : Stmt) : Prop where
  gC : mg x = some (.ref C)
  cls : ∃ nm q N bs bm sn sub ab col dd k0 k1 k2 k3 k5, K.lookup C = some (excClassObj nm q C N bs bm true sn sub ab col dd k0 k1 k2 k3 k5 "ValueError.__new__") ∧ refsVE bm = true
  sa : findIn K (.ref C) "__setattr__" = some (some (.builtin "object.__setattr__"))
  iC : findIn K (.ref C) "__init__" = some (some (.ref fI))
  tC : typeIn K (.ref fI) = some (.type "function")
  kC : keepIn K (.ref C) = true
  exC : subIn K (.ref C) (.type "BaseException") = some true
  exV : subIn K (.ref C) (.type "ValueError") = some true
  tyC : typeIn K (.ref C) = some (.type "type")
  me : mroIn K C (.ref C) = some true
  up : ks_superIn K C C "__init__" = some (some (.builtin "ValueError.__init__"))
  opq : nsIn K cStatics "thirdparty.any" = some none
  fn : ∃ (oc : Value) (od : Option Addr) (doc pm : Value) (an : Option Addr) (cda cc : Addr) (ct : Value) (osl : Array (Option Value)) (vs : Array Value) (file : Str) (tf : Tok) (c1 c2 : Value) (d1 d2 : Option Addr) (s1 s2 : Array (Option Value)),
    K.lookup fI = some ⟨oc, od, .func (ksFn "__init__" qual (L2.defArgs st) (L2.defBody st) (L2.defScope st) .none .none doc pm an (.ref cda) ct cc), osl⟩ ∧ codeIn K (.ref cda) qual = true ∧
    K.lookup cda = some ⟨c1, d1, .fields vs, s1⟩ ∧ vs[2]? = some (.str file tf) ∧ ((P.main.file : Str) == file) = true ∧ K.lookup cc = some ⟨c2, d2, .cell (some (.ref C)), s2⟩
theorem one_size' (v : Value) : [v].length ≤ sizeLine := by
  rw [sizeLine_eq]
  exact (by decide : 1 ≤ 16777216)
theorem kept_but {K : Frag} {h h' : Heap} {x : Addr} (X : K.In h) (hx : K.lookup x = none) (k : ∀ b o, b ≠ x → h.get? b = some o → h'.get? b = some o) : K.In h' := fun a o e =>
  k a o (fun z => by rw [z, hx] at e; cases e) (X a o e)
/-- what super().__init__(text) leaves of a fresh exception at x -/
structure SupEnd (h h' : Heap) (x C t1 : Addr) : Prop where
  keep : ∀ b o, b ≠ x → h.get? b = some o → h'.get? b = some o
  obj : h'.get? x = some (excO C t1)
section
variable {prog : Program} {w : World} {A : Around} {E : Value → Shared → Prop} {s : Shared} {K : Frag} {mg : Str → Option Value} {C fI : Addr} {nm qual : Str} {st : Stmt}
/-- super().__init__(text), in the body of __init__ -/
theorem sup_expr (T : SupTxt prog K mg C fI nm qual st) {body : List Stmt} {cda cc L x t0 : Addr} {m : Str → Option Value} {msg : Str} {p0 p1 p2 p3 p4 : Pos} {j3 : Nat} {ar : Arg} {scope : Scope} {Q : Value → Shared → Prop}
    {oc : Value} {od : Option Addr} {doc pm : Value} {an : Option Addr} {ct : Value} {osl : Array (Option Value)} {vs : Array Value} {file : Str} {tf : Tok} {c1 c2 : Value} {d1 d2 : Option Addr} {s1 s2 : Array (Option Value)} {ps : Arguments}
    (X : K.In s.heap) (hg : s.heap.Ns mainGlobals mg) (hsup : mg "super" = none) (hb : ∃ mb, s.heap.Ns builtinsNs mb ∧ mb "super" = some (.type "super")) (hn : s.heap.Ns L m) (hx : s.heap.get? x = some (excO C t0)) (hv : m "self" = some (.ref x)) (hnx : K.lookup x = none)
    (hf : K.lookup fI = some ⟨oc, od, .func (ksFn "__init__" qual ps body scope .none .none doc pm an (.ref cda) ct cc), osl⟩) (hcode : K.lookup cda = some ⟨c1, d1, .fields vs, s1⟩) (hvs : vs[2]? = some (.str file tf)) (hfile : ((prog.main.file : Str) == file) = true)
    (hcell : K.lookup cc = some ⟨c2, d2, .cell (some (.ref C)), s2⟩) (hp : (ps.posonlyargs ++ ps.args).head? = some ar) (har : ar.arg = "self")
    (hks : scope.names.lookup ("super" : Str) = some .globalImplicit) (hkc : scope.names.lookup ("__class__" : Str) = some .free) (hka : scope.names.lookup ("self" : Str) = some .local) (hk : scope.kind = .function) (htop : (prog.main.scope.names.lookup ("super" : Str)).isSome = false)
    {pl : Sem Bool} (he : eval (.Call (.Attribute (.Call (.Name "super" p0) [] [] p1) "__init__" p2) [.Constant (.str msg) j3 p3] [] p4) (ksEnv qual scope L fI (.ref cda) cc) = (do
      let ov ← attributeBase (.Call (.Name "super" p0) [] [] p1) "__init__" (ksEnv qual scope L fI (.ref cda) cc) (eval (.Call (.Name "super" p0) [] [] p1) (ksEnv qual scope L fI (.ref cda) cc))
      standAt p2.atName
      let (f, first) ← holding [ov] (getMethod ov "__init__" pl)
      callWith p4 f first (backTo p4 (starEach [.Constant (.str msg) j3 p3] (ksEnv qual scope L fI (.ref cda) cc))) []))
    (hq : ∀ h' tk t1, SupEnd s.heap h' x C t1 → Q .none { s with heap := h', toks := tk }) :
    wpAt (model prog w) A (.func body (ksEnv qual scope L fI (.ref cda) cc)) (eval (.Call (.Attribute (.Call (.Name "super" p0) [] [] p1) "__init__" p2) [.Constant (.str msg) j3 p3] [] p4) (ksEnv qual scope L fI (.ref cda) cc)) Q E s := by
  obtain ⟨nmC, q, N, bs, bm, sn, sub, ab, col, dd, k0, k1, k2, k3, k5, hC, hbm⟩ := T.cls
  obtain ⟨mb, hb1, hb2⟩ := hb
  have hcl : clsIn K C = some { name := nmC, bases := bs, mro := .ref C :: bm, ns := N, qualname := q, hasDict := true, slotNames := sn, subclasses := sub, abstract := ab, collection := col, hasDel := false } := by unfold clsIn; rw [hC] <;> rfl
  have I : InstAt s.heap x (excO C t0) C none := ⟨hx, rfl, rfl, trivial⟩
  obtain ⟨hh, g, d, t, os⟩ := s
  refine ks_wpAt_MethodCall (pl := pl) ?_ he
  refine ks_wpAt_super_base (env := ksEnv qual scope L fI (.ref cda) cc) hks hkc (by decide +kernel) rfl (X _ _ hf) rfl hp rfl (X _ _ hcode) rfl hvs hfile htop ?_
  refine ks_loadName_global hk hks (loadGlobal_builtin (env := ksEnv qual scope L fI (.ref cda) cc) hg hsup hb1 hb2 ⟨rfl, ?_⟩)
  refine wpAny_loadName_free hk hkc rfl ⟨_, X _ _ hcell, rfl⟩ ?_
  rw [har]
  refine wpAny_loadName_local hk hka hn hv ?_
  refine ks_wpAny_isType_cls (X _ _ hC) rfl ⟨rfl, ?_⟩
  refine ks_wpAny_call_super (X _ _ hC) rfl I.at_ I.cls (fun c e => nomatch e) (looks_mroIn X T.me) (fun h1 e1 k1' => ?_)
  have X1 : K.In h1 := X.keeps k1'
  have I1 : InstAt h1 x (excO C t0) C none := ⟨k1' _ _ hx, rfl, rfl, trivial⟩
  have hI : Looks (model prog w) h1 (isInstance (.ref x) (.type "ValueError")) true := I1.type.andThen (looks_subIn X1 T.exV)
  have hup := T.up
  unfold ks_superIn at hup
  rw [hcl] at hup
  refine kxs_getMethod kxs_ValueError e1 (looks_opaque X1 T.opq) (l₀ := .ref C :: bm) (fun A Q E s k q => wpAny_bind ((looks_clsIn X1 hcl) A _ E s k (wpAny_pure q))) rfl X1 hup hI (ks_ne X1 I1 hcl) (by decide +kernel) ?_
  have k2' : ∀ b o, h1.get? b = some o → (h1.push (kxs_mw "ValueError.__init__" x)).get? b = some o := fun b o e => Heap.get?_push_of_some _ e
  have hu : (h1.push (kxs_mw "ValueError.__init__" x)).get? h1.objs.size = some (kxs_mw "ValueError.__init__" x) := Heap.get?_push_at rfl rfl
  show wpAny _ _ (callWith p4 (.ref h1.objs.size) [] (backTo p4 (starEach [.Constant (.str msg) j3 p3] (ksEnv qual scope L fI (.ref cda) cc))) []) _ _ _
  refine kxs_callWith (i := "ValueError.__init__") (x := x) (by rfl) ?_
  refine evalArgs_plain ?_
  refine PyProof.Rows.spliced_more (wpAny_Constant_str (PyProof.Rows.spliced_none ⟨?_, ?_⟩))
  · exact hu
  · refine call_mw (k2' _ _ (X1 _ _ hC)) (k2' _ _ I1.at_) hu (one_size' _) fun h3 t3 k3' e3 => ?_
    exact hq h3 _ t3 ⟨fun b o hb ho => k3' b o hb (k2' _ _ (k1' _ _ ho)), e3⟩
/-- what __init__ with a field leaves -/
structure InitEnd (h h' : Heap) (x C dx t1 : Addr) (f : Str) (v : Value) : Prop where
  keep : ∀ b o, b ≠ x → h.get? b = some o → h'.get? b = some o
  obj : h'.get? x = some { cls := .ref C, dict := some dx, data := .fields #[.ref t1, .none, .none, .none, .bool false, .none] }
  dbig : h.objs.size ≤ dx
  dne : dx ≠ x
  ns : h'.Ns1 dx (fun y => if y = f then some v else none)
/-- a made exception with a field -/
structure OwnMade (h h' : Heap) (e C d : Addr) (f : Str) (v : Value) : Prop where
  keep : ∀ b o, h.get? b = some o → h'.get? b = some o
  new : h.objs.size ≤ e
  obj : ∃ oe vs, h'.get? e = some oe ∧ oe.cls = .ref C ∧ oe.dict = some d ∧ oe.data = .fields vs ∧ vs[1]? = some .none
  dbig : h.objs.size ≤ d
  dne : d ≠ e
  ns : h'.Ns1 d (fun y => if y = f then some v else none)
/-- a made exception without one -/
structure OwnMade0 (h h' : Heap) (e C : Addr) : Prop where
  keep : ∀ b o, h.get? b = some o → h'.get? b = some o
  new : h.objs.size ≤ e
  obj : ∃ oe vs, h'.get? e = some oe ∧ oe.cls = .ref C ∧ oe.dict = none ∧ oe.data = .fields vs ∧ vs[1]? = some .none
theorem ldK {M : Model} {s : Shared} {name : Str} {scope : Scope} {L a cc : Addr} {cd : Value} {m : Str → Option Value} {x : Str} {pos : Pos} {v : Value} {Q : Value → Shared → Prop} {A : Around} {E : Value → Shared → Prop} (hn : s.heap.Ns L m) (hv : m x = some v) (h : Q v s)
    (hk : scope.kind = .function := by rfl) (hl : (ksEnv name scope L a cd cc).kindOf x = some .local := by rfl) (hd : (x == ("__debug__" : Str)) = false := by decide) :
    wpAny M A (eval (.Name x pos) (ksEnv name scope L a cd cc)) Q E s := wpAny_Name (wpAny_loadName_local hk hl hn hv h) hd
/-- self.f = f, the last statement of __init__ -/
theorem store_expr (T : SupTxt prog K mg C fI nm qual st) {L x t1 cc : Addr} {cd : Value} {scope : Scope} {m : Str → Option Value} {f : Str} {v : Value} {q1 q2 q3 q4 : Pos} {Q : Flow → Shared → Prop} (X : K.In s.heap) (hn : s.heap.Ns L m) (hL : L ≠ x) (hx : s.heap.get? x = some (excO C t1))
    (hs : m "self" = some (.ref x)) (hf : m f = some v) (no : findIn K (.ref C) f = some none) (hk : scope.kind = .function) (k1 : (ksEnv qual scope L fI cd cc).kindOf "self" = some .local) (k2 : (ksEnv qual scope L fI cd cc).kindOf f = some .local) (hd : (f == ("__debug__" : Str)) = false)
    (hsw : swapsWith (.Name f q3) (some (.Attribute (.Name "self" q1) f q2)) q4.line (ksEnv qual scope L fI cd cc) = pure false)
    (hq : ∀ h' tk dx, InitEnd s.heap h' x C dx t1 f v → Q .next { s with heap := h', toks := tk }) :
    wpAny (model prog w) A (exec (.Assign [.Attribute (.Name "self" q1) f q2] (.Name f q3) q4) (ksEnv qual scope L fI cd cc)) Q E s := by
  obtain ⟨nmC, q, N, bs, bm, sn, sub, ab, col, dd, k0, k1', k2', k3, k5, hC, hbm⟩ := T.cls
  have hcl : clsIn K C = some { name := nmC, bases := bs, mro := .ref C :: bm, ns := N, qualname := q, hasDict := true, slotNames := sn, subclasses := sub, abstract := ab, collection := col, hasDel := false } := by unfold clsIn; rw [hC] <;> rfl
  refine plainObj_wpAny_Assign_Attribute ?_ hsw
  refine ldK (v := v) hn hf (ldK (v := .ref x) hn hs ?_ hk k1) hk k2 hd
  refine set_plain X (ox := excO C t1) (od := none) ⟨hx, rfl, rfl, trivial⟩ T.sa ?_
  exact exc_osa X hx hcl (show refsVE (.ref C :: bm) = true from hbm) rfl no (fun h₃ tk₃ dx k₃ dn dne hx₃ hn₃ => hq h₃ tk₃ dx ⟨k₃, hx₃, dn, dne, hn₃⟩)
theorem ns_keep {h h' : Heap} {L x : Addr} {m : Str → Option Value} (n : h.Ns L m) (hL : L ≠ x) (k : ∀ b o, b ≠ x → h.get? b = some o → h'.get? b = some o) : h'.Ns L m ∧ L < h'.objs.size := by
  obtain ⟨oL, es, ep, h0, r⟩ := n
  have h1 := k _ _ hL h0
  exact ⟨⟨oL, es, ep, h1, r⟩, Heap.lt_size h1⟩
/-- what a class's __init__ with one field does -/
def InitOk (prog : Program) (w : World) (K : Frag) (mg : Str → Option Value) (C fI : Addr) (f : Str) : Prop :=
  ∀ {A : Around} {R : Result → Shared → Prop} {s : Shared} {x t0 : Addr} {v : Value}, K.In s.heap → s.heap.NoLimit → s.heap.Ns mainGlobals mg → (∃ mb, s.heap.Ns builtinsNs mb ∧ mb "super" = some (.type "super")) → s.heap.get? x = some (excO C t0) → K.lookup x = none → A.depth < recursionLimit →
    (∀ h' tk dx t1, InitEnd s.heap h' x C dx t1 f v → R (.ok (.ret .none)) { s with heap := h', toks := tk }) → codeAny (model prog w) A (.call (.ref fI) ⟨[.ref x, v], []⟩) R s
/-- and of one without -/
def InitOk0 (prog : Program) (w : World) (K : Frag) (mg : Str → Option Value) (C fI : Addr) : Prop :=
  ∀ {A : Around} {R : Result → Shared → Prop} {s : Shared} {x t0 : Addr}, K.In s.heap → s.heap.NoLimit → s.heap.Ns mainGlobals mg → (∃ mb, s.heap.Ns builtinsNs mb ∧ mb "super" = some (.type "super")) → s.heap.get? x = some (excO C t0) → K.lookup x = none → A.depth < recursionLimit →
    (∀ h' tk t1, SupEnd s.heap h' x C t1 → R (.ok (.ret .none)) { s with heap := h', toks := tk }) → codeAny (model prog w) A (.call (.ref fI) ⟨[.ref x], []⟩) R s
variable {R : Result → Shared → Prop}
theorem new_free {K : Frag} {hp : Heap} {us : List Value} {C : Addr} (X : K.In hp) : K.lookup (hp.objs.size + 1) = none := by
  cases e : K.lookup (hp.objs.size + 1) with
  | none => rfl
  | some o =>
    have z : hp.get? (hp.objs.size + 1) = some o := X _ _ e
    exact absurd (Nat.lt_of_succ_lt (Heap.lt_size z)) (Nat.lt_irrefl _)
theorem made (T : SupTxt prog K mg C fI nm qual st) {f : Str} (I : InitOk prog w K mg C fI f) {v : Value} (X : K.In s.heap) (hlim : s.heap.NoLimit) (hg : s.heap.Ns mainGlobals mg) (hb : ∃ mb, s.heap.Ns builtinsNs mb ∧ mb "super" = some (.type "super")) (hroom : A.depth + 1 < recursionLimit)
    (hq : ∀ h' tk e d, OwnMade s.heap h' e C d f v → R (.ok (.ret (.ref e))) { s with heap := h', toks := tk }) : codeAny (model prog w) A (.call (.ref C) ⟨[v], []⟩) R s := by
  obtain ⟨nmC, q, N, bs, bm, sn, sub, ab, col, dd, k0, k1, k2, k3, k5, hC, hbm⟩ := T.cls
  obtain ⟨hp, g, dr, tk, os⟩ := s
  have k : ∀ b o, hp.get? b = some o → ((hp.push (kdv_tup [v])).push (excO C hp.objs.size)).get? b = some o := fun b o e => Heap.get?_push_of_some _ (Heap.get?_push_of_some _ e)
  have hget : ((hp.push (kdv_tup [v])).push (excO C hp.objs.size)).get? (hp.objs.size + 1) = some (excO C hp.objs.size) := by heap_get
  have hnx : K.lookup (hp.objs.size + 1) = none := new_free (us := []) (C := C) X
  obtain ⟨mb, hb1, hb2⟩ := hb
  refine call_own F.excBase_ValueError (fun X => refsVE_contains X bm hbm) (X _ _ hC) (looks_findIn X T.iC) (fun self => bind_fn X self T.tC) (one_size' v) ?_
  refine I (s := ⟨(hp.push (kdv_tup [v])).push (excO C hp.objs.size), g, dr, tk, os⟩) (X.keeps k) (hlim.keeps k) (hg.keeps k) ⟨mb, hb1.keeps k, hb2⟩ hget hnx ?_ fun h' tk' dx t1 ⟨k', hx, dn, dne, hns⟩ => ?_
  · show A.depth + 1 < recursionLimit
    exact hroom
  · have old : ∀ b o, hp.get? b = some o → h'.get? b = some o := fun b o e => k' b o (Nat.ne_of_lt (Nat.lt_succ_of_lt (Heap.lt_size e))) (k b o e)
    have z : hp.objs.size + 1 + 1 ≤ dx := by
      first
        | (simpa only [Heap.size_push] using dn)
        | exact dn
        | (have q := dn; rw [Heap.size_push, Heap.size_push] at q; exact q)
    exact ⟨rfl, hq h' tk' (hp.objs.size + 1) dx ⟨old, Nat.le_succ _, ⟨_, _, hx, rfl, rfl, rfl, rfl⟩, Nat.le_trans (Nat.le_trans (Nat.le_succ _) (Nat.le_succ _)) z, dne, hns⟩⟩
theorem made0 (T : SupTxt prog K mg C fI nm qual st) (I : InitOk0 prog w K mg C fI) (X : K.In s.heap) (hlim : s.heap.NoLimit) (hg : s.heap.Ns mainGlobals mg) (hb : ∃ mb, s.heap.Ns builtinsNs mb ∧ mb "super" = some (.type "super")) (hroom : A.depth + 1 < recursionLimit)
    (hq : ∀ h' tk e, OwnMade0 s.heap h' e C → R (.ok (.ret (.ref e))) { s with heap := h', toks := tk }) : codeAny (model prog w) A (.call (.ref C) ⟨[], []⟩) R s := by
  obtain ⟨nmC, q, N, bs, bm, sn, sub, ab, col, dd, k0, k1, k2, k3, k5, hC, hbm⟩ := T.cls
  obtain ⟨hp, g, dr, tk, os⟩ := s
  have k : ∀ b o, hp.get? b = some o → ((hp.push (kdv_tup [])).push (excO C hp.objs.size)).get? b = some o := fun b o e => Heap.get?_push_of_some _ (Heap.get?_push_of_some _ e)
  have hget : ((hp.push (kdv_tup [])).push (excO C hp.objs.size)).get? (hp.objs.size + 1) = some (excO C hp.objs.size) := by heap_get
  have hnx : K.lookup (hp.objs.size + 1) = none := new_free (us := []) (C := C) X
  obtain ⟨mb, hb1, hb2⟩ := hb
  refine call_own F.excBase_ValueError (fun X => refsVE_contains X bm hbm) (X _ _ hC) (looks_findIn X T.iC) (fun self => bind_fn X self T.tC) (Nat.zero_le _) ?_
  refine I (s := ⟨(hp.push (kdv_tup [])).push (excO C hp.objs.size), g, dr, tk, os⟩) (X.keeps k) (hlim.keeps k) (hg.keeps k) ⟨mb, hb1.keeps k, hb2⟩ hget hnx ?_ fun h' tk' t1 ⟨k', hx⟩ => ?_
  · show A.depth + 1 < recursionLimit
    exact hroom
  · have old : ∀ b o, hp.get? b = some o → h'.get? b = some o := fun b o e => k' b o (Nat.ne_of_lt (Nat.lt_succ_of_lt (Heap.lt_size e))) (k b o e)
    exact ⟨rfl, hq h' tk' (hp.objs.size + 1) ⟨old, Nat.le_succ _, ⟨_, _, hx, rfl, rfl, rfl, rfl⟩⟩⟩
end
end PySem.AhX
namespace L2
open PySem PySem.Spec PyProof.Rows PySem.AhX
theorem relO_one {f0 : Str} {v : V} {v' : Value} (r : RelV v v') (f : Str) : RelO (List.lookup f [(f0, v)]) (if f = f0 then some v' else none) := by
  by_cases hw : f = f0
  · subst hw
    rw [if_pos rfl]
    have q : List.lookup f [(f, v)] = some v := by simp [List.lookup]
    rw [q]
    exact r
  · rw [if_neg hw]
    have qw : (f == f0) = false := by simpa using hw
    have q2 : List.lookup f [(f0, v)] = none := by simp [List.lookup, qw]
    rw [q2]
    trivial
/-- what stands written of an own exception with the field f -/
structure XcF (P : Program) (w : World) (K : PySem.W.Frag) (mg : Str → Option Value) (C : Addr) (x f : Str) : Prop where
  ex : ∃ (fI : Addr) (qual : Str) (st : Stmt), SupTxt P K mg C fI x qual st ∧ InitOk P w K mg C fI f
structure Xc0 (P : Program) (w : World) (K : PySem.W.Frag) (mg : Str → Option Value) (C : Addr) (x : Str) : Prop where
  ex : ∃ (fI : Addr) (qual : Str) (st : Stmt), SupTxt P K mg C fI x qual st ∧ InitOk0 P w K mg C fI
section
variable {X : Cx} {C : Addr} {x f : Str}
/-- x(e), an own exception with the field f -/
def tMkF (C : Addr) (f : Str) (ta : TA) : St → Hp → XK → Prop := fun σ H Q => ta σ H fun vs H1 => ∃ v, vs = [v] ∧ ∀ d, H1 d = none → Q (.ref C) (some d) (upd H1 d (.xd [(f, v)]))
theorem Inv.sup {pins : List (Addr × Obj)} {σ : St} {H : Hp} {s : Shared} (I : Inv X pins σ H s) : s.heap.Ns mainGlobals X.mg ∧ ∃ mb, s.heap.Ns builtinsNs mb ∧ mb "super" = some (.type "super") := by
  obtain ⟨mb, h1, h2⟩ := I.mod.blt
  exact ⟨I.mod.glob.keeps I.bk, mb, h1.keeps I.bk, (h2 "super" (by decide +kernel)).trans (by rfl)⟩
theorem pmk_fld {a : Expr} {ta : TA} {p pos : Pos} {k : Nat} (c : XcF X.prog X.w X.K X.mg C x f) (hr : Room k X.A) (ha : PA X [a] ta) (hg : Gl X x := by rfl) (hdb : (x == ("__debug__" : Str)) = false := by decide)
    (he : starEach (a :: []) X.env = (false, eval a X.env) :: starEach [] X.env := by rfl) (hpl : (backTo pos (starEach [] X.env)).any (·.1) = false := by rfl) :
    PMk X (.Call (.Name x p) [a] [] pos) (tMkF C f ta) := by
  obtain ⟨fI, qual, st, T, hI⟩ := c.ex
  intro pins s σ H Q I h
  refine wpAny_Call_Name_kw (ld_glob I hg T.gC ?_ hdb)
  refine PySem.W.callWith_K (h₀ := X.base) I.ok.mod.kin T.kC (thn (ha.run pos pins s σ H _ I h) fun us s1 hh => ?_) he hpl
  obtain ⟨vs, H1, I1, r1, v, ev, q1⟩ := hh
  subst ev
  refine ⟨I1.kIn, ?_⟩
  cases r1 with
  | cons rv rn =>
    rename_i v' us'
    cases rn
    show wpAny _ _ (call (.ref C) [v']) _ _ _
    have hlim := I1.nolimit
    obtain ⟨sg, sb⟩ := I1.sup
    obtain ⟨hp, g, dr, tk, os⟩ := s1
    refine wpAny_call (made T hI I1.kIn hlim sg sb (by have := hr.dp; omega) fun h' tk' e d M => ?_)
    show MkP X pins σ Q (.ref e) ⟨h', g, dr, tk', os⟩
    obtain ⟨oe, fv, hoe, hc, hd, hdat, h1⟩ := M.obj
    have hns := M.ns
    obtain ⟨G', g1, g2⟩ := restrict h' fun b => decide (b ≠ e)
    have gk : ∀ b, b ≠ e → G'.get? b = h'.get? b := fun b hb => g1 b (decide_eq_true hb)
    have ge : G'.get? e = none := g2 e (by simp)
    have old : ∀ b o, hp.get? b = some o → G'.get? b = some o := fun b o q => (gk b (Nat.ne_of_lt (Nat.lt_of_lt_of_le (Heap.lt_size q) M.new))).trans (M.keep b o q)
    have ob : ObjOk X.prog X.w (upd H1 d (.xd [(f, v)])) G' d (.xd [(f, v)]) := ⟨_, hns.at (fun o q => (gk d M.dne).trans q), fun y => relO_one rv y⟩
    have J : Inv X pins σ (upd H1 d (.xd [(f, v)])) ⟨G', g, dr, tk', os⟩ := I1.laid (t' := tk') old M.dbig ob
    refine ⟨e, oe, fv, ⟨G', g, dr, tk', os⟩, _, .ref C, some d, rfl, J, fun b o q => ?_, ge, hoe, ⟨hc, hd⟩, hdat, h1, ?_, rfl, I1.bare, raises_own T.exC T.tyC, q1 d (I1.hok.fresh M.dbig)⟩
    · by_cases hb : b = e
      · have q' : G'.get? b = some o := q
        rw [hb, ge] at q'; cases q'
      · exact (gk b hb).symm.trans q
    · rw [upd_ne (Ne.symm M.dne)]
      exact I1.hok.fresh M.new
def tMk0 (C : Addr) : St → Hp → XK → Prop := fun σ H Q => Q (.ref C) none H
theorem pmk_no {p pos : Pos} {k : Nat} (c : Xc0 X.prog X.w X.K X.mg C x) (hr : Room k X.A) (hg : Gl X x := by rfl) (hdb : (x == ("__debug__" : Str)) = false := by decide) : PMk X (.Call (.Name x p) [] [] pos) (tMk0 C) := by
  obtain ⟨fI, qual, st, T, hI⟩ := c.ex
  intro pins s σ H Q I h
  refine wpAny_Call_Name_kw (ld_glob I hg T.gC ?_ hdb)
  refine PySem.W.callWith_K0 I.kIn T.kC ?_
  have hlim := I.nolimit
  obtain ⟨sg, sb⟩ := I.sup
  obtain ⟨hp, g, dr, tk, os⟩ := s
  refine wpAny_call (made0 T hI I.kIn hlim sg sb (by have := hr.dp; omega) fun h' tk' e M => ?_)
  show MkP X pins σ Q (.ref e) ⟨h', g, dr, tk', os⟩
  obtain ⟨oe, fv, hoe, hc, hd, hdat, h1⟩ := M.obj
  obtain ⟨G', g1, g2⟩ := restrict h' fun b => decide (b ≠ e)
  have gk : ∀ b, b ≠ e → G'.get? b = h'.get? b := fun b hb => g1 b (decide_eq_true hb)
  have ge : G'.get? e = none := g2 e (by simp)
  have old : ∀ b o, hp.get? b = some o → G'.get? b = some o := fun b o q => (gk b (Nat.ne_of_lt (Nat.lt_of_lt_of_le (Heap.lt_size q) M.new))).trans (M.keep b o q)
  have J : Inv X pins σ H ⟨G', g, dr, tk', os⟩ := I.kept (t' := tk') old
  refine ⟨e, oe, fv, ⟨G', g, dr, tk', os⟩, _, .ref C, none, rfl, J, fun b o q => ?_, ge, hoe, ⟨hc, hd⟩, hdat, h1, I.hok.fresh M.new, rfl, I.bare, raises_own T.exC T.tyC, h⟩
  by_cases hb : b = e
  · have q' : G'.get? b = some o := q
    rw [hb, ge] at q'; cases q'
  · exact (gk b hb).symm.trans q
/-- raise x(e) -/
def tRaiseF (C : Addr) (f : Str) (W : WX) (ta : TA) : TS := fun _ σ H => tMkF C f ta σ H fun cls d H' => W cls d σ H'
theorem ps_raiseF {a : Expr} {ta : TA} {W : WX} {p pos pos2 : Pos} {k : Nat} (hc : X.calm = true) (c : XcF X.prog X.w X.K X.mg C x f) (hr : Room k X.A) (tk : Takes X W) (ha : PA X [a] ta) (hg : Gl X x := by rfl) (hdb : (x == ("__debug__" : Str)) = false := by decide)
    (he : starEach (a :: []) X.env = (false, eval a X.env) :: starEach [] X.env := by rfl) (hpl : (backTo pos (starEach [] X.env)).any (·.1) = false := by rfl) :
    PS X (.Raise (some (.Call (.Name x p) [a] [] pos)) none pos2) (tRaiseF C f W ta) := ps_raise hc tk (pmk_fld c hr ha hg hdb he hpl)
def tRaise0 (C : Addr) (W : WX) : TS := fun _ σ H => W (.ref C) none σ H
theorem ps_raise0 {W : WX} {p pos pos2 : Pos} {k : Nat} (hc : X.calm = true) (c : Xc0 X.prog X.w X.K X.mg C x) (hr : Room k X.A) (tk : Takes X W) (hg : Gl X x := by rfl) (hdb : (x == ("__debug__" : Str)) = false := by decide) :
    PS X (.Raise (some (.Call (.Name x p) [] [] pos)) none pos2) (tRaise0 C W) := ps_raise hc tk (pmk_no c hr hg hdb)
end
end L2
/-! Ah22: defs that raise; lines that are wrong. -/
namespace Ah
open PySem PySem.Spec PyProof.Rows L2 Evl

/-- what a def promises that raises an exception of the class C with the field f: for each i a value, for each j the exception -/
def spX {ι κ : Type} (args : ι → List (MP V)) (res : ι → MP V) (bad : κ → List (MP V)) (C : Addr) (f : Str) (z : κ → Int) : Sp := fun vs H Q E =>
  (∃ (i : ι) (G : Hp), Ex G H ∧ AllP vs (args i) G ∧ ∀ v G' H', Ex H H' → Nw H G G' H' → (res i).p v G' → Q v H') ∨
  (∃ (j : κ) (G : Hp), Ex G H ∧ AllP vs (bad j) G ∧ ∀ d H', Ex H H' → H' d = none → E (.ref C) (some d) (upd H' d (.xd [(f, .int (z j))])))
theorem spX_len {ι κ : Type} {args : ι → List (MP V)} {res : ι → MP V} {bad : κ → List (MP V)} {C : Addr} {f : Str} {z : κ → Int} {n : Nat} (hn : ∀ i, (args i).length = n) (hm : ∀ j, (bad j).length = n) : ∀ vs H Q E, spX args res bad C f z vs H Q E → vs.length = n := fun vs H Q E h => by
  rcases h with ⟨i, G, _, h, _⟩ | ⟨j, G, _, h, _⟩
  · rw [AllP.length h, hn i]
  · rw [AllP.length h, hm j]
/-- t raises: the class C, the field f, its value z -/
def Bad (E : XK) (C : Addr) (f : Str) (z : Int) (t : TS) (σ : L2.St) (G : Hp) : Prop := ∀ H, Ex G H → (∀ d H', Ex H H' → H' d = none → E (.ref C) (some d) (upd H' d (.xd [(f, .int z)]))) → ∀ D, t D σ H
def BadE (E : XK) (C : Addr) (f : Str) (z : Int) (t : TE) (σ : L2.St) (G : Hp) : Prop := ∀ H, Ex G H → (∀ d H', Ex H H' → H' d = none → E (.ref C) (some d) (upd H' d (.xd [(f, .int z)]))) → ∀ Q, t σ H Q
section
variable {K : PySem.W.Frag} {w : World} {c : Ad} {σ : L2.St} {G G1 : Hp} {ta tb te : TE} {tas : TA} {tt : TT} {t u tr : TS} {R P : MP V} {E : XK} {C : Addr} {f : Str} {z : Int} {b : Bool}
theorem Bad.up (h : Bad E C f z t σ G) (e : Ex G G1) : Bad E C f z t σ G1 := fun H eH k D => h H (e.trans eH) k D
theorem BadE.up (h : BadE E C f z te σ G) (e : Ex G G1) : BadE E C f z te σ G1 := fun H eH k D => h H (e.trans eH) k D
theorem x_asg {i : Nat} (h : Cm (te σ) G R) (k : ∀ v G1, Ex G G1 → R.p v G1 → Bad E C f z tr (σ.set i (some v)) G1) : Bad E C f z (tSeq (tAsg te (gName i)) tr) σ G :=
  fun H e q D => h H e _ fun v G1 H1 e1 n1 p1 => k v G1 n1.ex p1 H1 n1.le (fun d H' e2 => q d H' (e1.trans e2)) D
theorem x_asgE {i : Nat} (h : BadE E C f z te σ G) : Bad E C f z (tSeq (tAsg te (gName i)) tr) σ G := fun H e q D => h H e q _
theorem x_retE (h : BadE E C f z te σ G) : Bad E C f z (tRet te) σ G := fun H e q D => h H e q _
theorem x_dropE (h : BadE E C f z te σ G) : Bad E C f z (tSeq (tDrop te) tr) σ G := fun H e q D => h H e q _
theorem x_ifT (h : Cm (tt σ) G (MP.eq true)) (k : Bad E C f z t σ G) : Bad E C f z (tSeq (tIfS tt t u) tr) σ G :=
  fun H e q D => h H e _ fun v G1 H1 e1 n1 p1 => by
    have p1 : v = true := p1
    subst p1
    exact iteT (k H1 (e.trans e1) (fun d H' e2 => q d H' (e1.trans e2)) _)
theorem x_ifF (h : Cm (tt σ) G (MP.eq false)) (k : ∀ G1, Ex G G1 → Bad E C f z tr σ G1) : Bad E C f z (tSeq (tIfS tt t tNext) tr) σ G :=
  fun H e q D => h H e _ fun v G1 H1 e1 n1 p1 => by
    have p1 : v = false := p1
    subst p1
    exact iteF (k G1 n1.ex H1 n1.le (fun d H' e2 => q d H' (e1.trans e2)) _)
theorem x_raise (h : Cm (te σ) G (MP.d K (.int z))) : Bad E C f z (tRaiseF C f (fun cls d _ H => E cls d H) (tCons te tNil)) σ G :=
  fun H e q D => h H e _ fun v G1 H1 e1 n1 p1 => by
    rw [dp_int p1]
    exact ⟨_, rfl, fun d hd => q d H1 e1 hd⟩
/-- a test that is false, whatever the branch -/
theorem b_ifX (h : Cm (tt σ) G (MP.eq false)) (k : Cm (bd tr σ) G P) : Cm (bd (tSeq (tIfS tt t tNext) tr) σ) G P := b_if h (fun z => absurd z Bool.false_ne_true) fun _ => k
theorem u_ifX {D : Ends} {H : Hp} (h : Cm (tt σ) G (MP.eq false)) (e : Ex G H) (k : ∀ G' H', Ex H H' → Nw H G G' H' → tr D σ H') : tSeq (tIfS tt t tNext) tr D σ H :=
  h H e _ fun b G' H' e1 n1 p => by
    have p : b = false := p
    subst p
    exact iteF (k G' H' e1 n1)
variable {ι κ : Type} {args : ι → List (MP V)} {res : ι → MP V} {bad : κ → List (MP V)} {zz : κ → Int}
theorem c_callX (i : ι) (h : Cm (tas σ) G (MP.args (args i))) : Cm (tCall (spX args res bad C f zz) [] E tas σ) G (res i) :=
  Cm.bind (t := tas σ) (u := fun (vs : List V) (H : Hp) (Q : VK) => spX args res bad C f zz (vs ++ []) H Q E) h fun vs G1 e1 p => fun H eh Q hq => .inl ⟨i, G1, eh, by rw [List.append_nil]; exact p, hq⟩
theorem x_call (j : κ) (h : Cm (tas σ) G (MP.args (bad j))) : BadE E C f (zz j) (tCall (spX args res bad C f zz) [] E tas) σ G :=
  fun H e q Q => h H e _ fun vs G1 H1 e1 n1 p1 => .inr ⟨j, G1, n1.le, by rw [List.append_nil]; exact p1, fun d H' e2 => q d H' (e1.trans e2)⟩
/-- a body keeps such a promise -/
theorem spX_body {N : List Str} {vs : List V} {H : Hp} {Q : VK} (h : spX args res bad C f zz vs H Q E) (k : ∀ i G, AllP vs (args i) G → Cm (bd t (start N vs)) G (res i)) (kx : ∀ j G, AllP vs (bad j) G → Bad E C f (zz j) t (start N vs) G) :
    t { nx := fun _ H' => Q .non H', rt := Q } (start N vs) H := by
  rcases h with ⟨i, G, e, ha, q⟩ | ⟨j, G, e, ha, q⟩
  · exact k i G ha H e Q q
  · exact kx j G ha H e q _
end
/-! ### calls of such defs, in a def that lets the exception out -/
section
variable {X : Cx} {k j : Nat} {x : Str} {sp : Sp} {p pos : Pos} {e : Expr} {es : List Expr} {t : TA} {E : XK}
theorem pe_calX (c : Cal X.prog X.w X.K X.mg X.base (L2.CX X.prog X.w) k x sp) (hr : Room j X.A) (hk : k ≤ j) (tk : Takes X (fun cls d _ H => E cls d H)) (hg : Gl X x) (ha : PA X (e :: es) t)
    (hdb : (x == ("__debug__" : Str)) = false := by decide) (he : starEach (e :: es) X.env = (false, eval e X.env) :: starEach es X.env := by rfl) (hpl : (backTo pos (starEach es X.env)).any (·.1) = false := by rfl) :
    PE X (.Call (.Name x p) (e :: es) [] pos) (tCall sp [] E t) := by
  obtain ⟨f, fd, ps, F, hm, kp, b⟩ := c.ex
  exact pe_call F (hr.mono hk) hg hm kp b .nil (passes_call tk fun _ _ _ _ h => h) ha hdb he hpl
end
/-! ### isinstance of a caught exception that has a dict -/
section
def rIsD (K : PySem.W.Frag) (D a : Addr) (cls : Value) (d : Option Addr) : List V → Hp → VK → Prop := fun xs H Q => ∃ (c : V) (cv : Value) (b : Bool) (dd : Addr) (fs : List (Str × V)), xs = [.ref a, c] ∧ cls = .ref D ∧ d = some dd ∧ H dd = some (.xd fs) ∧ (∀ u, RelV c u → u = cv) ∧ PySem.W.kitOne K (.ref D) cv = some b ∧ Q (.bl b) H
theorem call_isD {X : Cx} {a D : Addr} {d : Option Addr} {oe : Obj} {pn : List (Addr × Obj)} (C : ExcC X.K D) (hcl : (PySem.W.clsIn X.K D).isSome = true) {cls : Value} (hz : Zc cls d oe) (hf : ∃ vs, oe.data = .fields vs) : CallR (X.suite a ((a, oe) :: pn)) (.builtin "isinstance") (rIsD X.K D a cls d) := by
  intro pins s σ H xs us Q I r h
  obtain ⟨c, cv, b, dd, fs, rfl, hcls, ed, ea, hcv, e, q⟩ := h
  cases r with
  | cons rx rr =>
    cases rr with
    | cons rt rr =>
      cases rr
      cases rx
      have ec := hcv _ rt
      subst ec hcls ed
      obtain ⟨hget, _⟩ := I.pin (a, oe) (List.mem_append.mpr (.inl List.mem_cons_self))
      obtain ⟨vs, hv⟩ := hf
      obtain ⟨mA, hns, _⟩ := (show ObjOk X.prog X.w H s.heap dd (.xd fs) from I.hok dd _ ea)
      obtain ⟨od, ho, _⟩ := lookIn_ns hns
      have J : PySem.W.InstAt s.heap a oe D (some od) := ⟨hget, hz.1, by unfold PySem.W.notCls; rw [hv] <;> rfl, by rw [hz.2]; exact ho⟩
      exact PySem.W.kia_one (PySem.W.kitx_exc hcl C.hg C.hk C.hs C.ha C.hn C.ht C.hm) I.kIn J e (fun z => nomatch z) fun tk => ⟨.bl b, H, I.kept (t' := tk) fun _ _ z => z, rfl, q⟩
end
end Ah
/-! Ah23: lines of a text, right or wrong. -/
namespace Ah
open PySem PySem.Spec PyProof.Rows L2 Evl

/-! ### what a line must be -/
def rowNames : List Str := ["a1", "a2", "b1", "b2"]
def wordNames : List Str := ["join", "sweep"]
/-- the program's look at a line, by its words -/
def badRows (ps : List Str) : Bool := !(decide (ps.headD "" = "rows")) || ((!(decide ((2 : Int) ≤ (ps.length : Int)) && decide ((ps.length : Int) ≤ 3))) || !((ps.drop 1).all fun x => decide (x ∈ rowNames)))
def badWord (part : Str) (al ps : List Str) : Bool := !(decide (ps.length = 2)) || (!(decide (ps.headD "" = part)) || !(decide ((ps.drop 1).headD "" ∈ al)))
def badWords (ps : List Str) : Bool := !(decide (ps.headD "" = "words")) || !(decide (wordNames.filter (fun x => decide (x ∈ ps.drop 1)) = ps.drop 1))
def badAt (k : Nat) (ps : List Str) : Bool :=
  if k = 0 then badRows ps else if k < 7 then badWord ((kvParts.getD (k - 1) ("", [])).1) ((kvParts.getD (k - 1) ("", [])).2) ps else if k = 7 then badWords ps else true
/-- the first line that is wrong, from line k on -/
def fw (k : Nat) : List (List Str) → Option Nat
  | [] => if k < 8 then some (k + 1) else none
  | ps :: r => if badAt k ps then some (k + 1) else fw (k + 1) r
theorem rows_of_good {ps : List Str} (ne : ps ≠ []) (h : badRows ps = false) : ∃ rows : List Row, ps = ("rows" : Str) :: rows.map rowT ∧ (rows.length = 1 ∨ rows.length = 2) := by
  unfold badRows at h
  simp only [Bool.or_eq_false_iff, Bool.not_eq_false', Bool.and_eq_true, decide_eq_true_eq] at h
  obtain ⟨h1, ⟨h2, h3⟩, h4⟩ := h
  match ps, ne with
  | p :: r, _ =>
    have h1 : p = "rows" := h1
    subst h1
    have hl : r.length = 1 ∨ r.length = 2 := by
      rw [List.length_cons] at h2 h3
      omega
    have : ∀ l : List Str, (l.all fun x => decide (x ∈ rowNames)) = true → ∃ rows : List Row, l = rows.map rowT := fun l => by
      induction l with
      | nil => exact fun _ => ⟨[], rfl⟩
      | cons x l ih =>
        intro hx
        rw [List.all_cons, Bool.and_eq_true] at hx
        obtain ⟨rows, e⟩ := ih hx.2
        have hm : x ∈ rowNames := of_decide_eq_true hx.1
        have : ∃ r : Row, x = rowT r := by
          unfold rowNames at hm
          simp only [List.mem_cons, List.not_mem_nil, or_false] at hm
          rcases hm with e | e | e | e
          · exact ⟨(false, false), by rw [e]; decide +kernel⟩
          · exact ⟨(false, true), by rw [e]; decide +kernel⟩
          · exact ⟨(true, false), by rw [e]; decide +kernel⟩
          · exact ⟨(true, true), by rw [e]; decide +kernel⟩
        obtain ⟨r, hr⟩ := this
        exact ⟨r :: rows, by rw [List.map_cons, ← hr, ← e]⟩
    obtain ⟨rows, e⟩ := this r h4
    refine ⟨rows, by rw [e], ?_⟩
    rw [e, List.length_map] at hl
    exact hl
theorem word_of_good {part : Str} {al ps : List Str} (h : badWord part al ps = false) : ∃ s, ps = [part, s] ∧ s ∈ al := by
  unfold badWord at h
  simp only [Bool.or_eq_false_iff, Bool.not_eq_false', decide_eq_true_eq] at h
  obtain ⟨h1, h2, h3⟩ := h
  match ps, h1 with
  | [a, b], _ => exact ⟨b, by rw [← (show a = part from h2)], h3⟩
theorem words_of_good {ps : List Str} (ne : ps ≠ []) (h : badWords ps = false) : ∃ j s : Bool, ∀ rs r, ps = ("words" : Str) :: (Bk.mk rs r j s).words := by
  unfold badWords at h
  simp only [Bool.or_eq_false_iff, Bool.not_eq_false', decide_eq_true_eq] at h
  obtain ⟨h1, h2⟩ := h
  match ps, ne with
  | p :: t, _ =>
    have h1 : p = "words" := h1
    subst h1
    have h2 : wordNames.filter (fun x => decide (x ∈ t)) = t := h2
    refine ⟨decide (("join" : Str) ∈ t), decide (("sweep" : Str) ∈ t), fun rs r => ?_⟩
    refine congrArg (fun l => ("words" : Str) :: l) ?_
    refine h2.symm.trans ?_
    unfold wordNames Bk.words
    simp only [List.filter_cons, List.filter_nil]
    by_cases a : ("join" : Str) ∈ t <;> by_cases b : ("sweep" : Str) ∈ t <;> simp [a, b]
/-- lines that are all right are a book's -/
theorem fw_suff : ∀ {pss : List (List Str)} {k : Nat}, fw k pss = none → ∀ i ps, pss[i]? = some ps → badAt (k + i) ps = false
  | [], _, _, i, ps, e => by simp at e
  | p :: r, k, h, i, ps, e => by
    unfold fw at h
    cases q : badAt k p with
    | true => rw [q] at h; cases h
    | false =>
      rw [q] at h
      cases i with
      | zero => cases e; exact q
      | succ i =>
        have z := fw_suff (k := k + 1) h i ps (by simpa using e)
        rwa [Nat.add_right_comm, Nat.add_assoc] at z
theorem fw_len : ∀ {pss : List (List Str)} {k : Nat}, fw k pss = none → 8 ≤ k + pss.length ∧ (k ≤ 8 → k + pss.length ≤ 8)
  | [], k, h => by
    unfold fw at h
    split at h
    · cases h
    · rw [List.length_nil]; omega
  | p :: r, k, h => by
    unfold fw at h
    cases q : badAt k p with
    | true => rw [q] at h; cases h
    | false =>
      rw [q] at h
      have z := fw_len (k := k + 1) h
      rw [List.length_cons]
      refine ⟨by omega, fun hk => ?_⟩
      by_cases h8 : k = 8
      · subst h8
        unfold badAt at q
        cases q
      · have := z.2 (by omega)
        omega
theorem kvs_good {pss : List (List Str)} (h : ∀ i, i < 6 → ∃ ps, pss[i + 1]? = some ps ∧ badAt (i + 1) ps = false) : ∃ r : Rule, ∀ i q, r.kvs[i]? = some q → pss[i + 1]? = some [q.1, q.2] := by
  have g : ∀ i p, kvParts[i]? = some p → ∃ s, pss[i + 1]? = some [p.1, s] ∧ s ∈ p.2 := fun i p hp => by
    have hi : i < 6 := (List.getElem?_eq_some_iff.mp hp).1
    obtain ⟨ps, h1, h2⟩ := h i hi
    unfold badAt at h2
    rw [if_neg (by omega), if_pos (by omega), Nat.add_sub_cancel, List.getD_eq_getElem?_getD, hp] at h2
    obtain ⟨s, e, hs⟩ := word_of_good h2
    exact ⟨s, by rw [h1, e] <;> rfl, hs⟩
  obtain ⟨s0, a0, b0⟩ := g 0 _ rfl
  obtain ⟨s1, a1, b1⟩ := g 1 _ rfl
  obtain ⟨s2, a2, b2⟩ := g 2 _ rfl
  obtain ⟨s3, a3, b3⟩ := g 3 _ rfl
  obtain ⟨s4, a4, b4⟩ := g 4 _ rfl
  obtain ⟨s5, a5, b5⟩ := g 5 _ rfl
  obtain ⟨t0, b0⟩ := bool_of b0
  obtain ⟨t1, b1⟩ := bool_of b1
  obtain ⟨t2, b2⟩ := bool_of b2
  obtain ⟨t3, b3⟩ := bool_of b3
  obtain ⟨t4, b4⟩ := mis_of b4
  obtain ⟨t5, b5⟩ := bool_of b5
  refine ⟨⟨t0, t1, t2, t3, t4, t5⟩, fun i q hq => ?_⟩
  match i, hq with
  | 0, hq => cases hq; rw [a0, b0]
  | 1, hq => cases hq; rw [a1, b1]
  | 2, hq => cases hq; rw [a2, b2]
  | 3, hq => cases hq; rw [a3, b3]
  | 4, hq => cases hq; rw [a4, b4]
  | 5, hq => cases hq; rw [a5, b5]
  | i + 6, hq => exact absurd hq (by show ¬ (([] : List (Str × Str))[i]? = some q); simp)
theorem book_of {pss : List (List Str)} (ok : ∀ ps ∈ pss, okP ps = true) (h : fw 0 pss = none) : ∃ b : BkO, pss = bkParts b.val := by
  have h1 := fw_suff h
  have h2 := fw_len h
  have hl : pss.length = 8 := by omega
  have at_ : ∀ i, i < 8 → ∃ ps, pss[i]? = some ps ∧ badAt i ps = false := fun i hi => by
    obtain ⟨ps, e⟩ : ∃ ps, pss[i]? = some ps := ⟨_, List.getElem?_eq_getElem (by omega)⟩
    refine ⟨ps, e, ?_⟩
    have := h1 i ps e
    rwa [Nat.zero_add] at this
  obtain ⟨p0, e0, g0⟩ := at_ 0 (by omega)
  obtain ⟨p7, e7, g7⟩ := at_ 7 (by omega)
  obtain ⟨rows, r1, r2⟩ := rows_of_good (okP.ne (ok _ (List.mem_of_getElem? e0))) g0
  obtain ⟨j, s, w1⟩ := words_of_good (okP.ne (ok _ (List.mem_of_getElem? e7))) g7
  obtain ⟨r, k1⟩ := kvs_good (pss := pss) fun i hi => at_ (i + 1) (by omega)
  refine ⟨⟨⟨rows, r, j, s⟩, r2⟩, List.ext_getElem? fun i => ?_⟩
  show pss[i]? = (bkParts ⟨rows, r, j, s⟩)[i]?
  match i with
  | 0 => rw [e0, r1] <;> rfl
  | 1 => exact k1 0 _ rfl
  | 2 => exact k1 1 _ rfl
  | 3 => exact k1 2 _ rfl
  | 4 => exact k1 3 _ rfl
  | 5 => exact k1 4 _ rfl
  | 6 => exact k1 5 _ rfl
  | 7 => rw [e7, w1 rows r] <;> rfl
  | i + 8 =>
    have a : pss[i + 8]? = none := List.getElem?_eq_none (by omega)
    have b : (bkParts ⟨rows, r, j, s⟩)[i + 8]? = none := List.getElem?_eq_none (by show 8 ≤ i + 8; omega)
    rw [a, b]
/-! ### readings -/
section
variable {K : PySem.W.Frag} {w : World} {c : Ad} {σ : L2.St} {G : Hp} {ta tb te td : TE} {ds : List PyData}
theorem eqv_strE (x y : Str) : PyData.eqv (.str x) (.str y) = decide (x = y) := rfl
theorem eqv_strs : ∀ (a b : List Str), PyData.eqvAll (a.map PyData.str) (b.map PyData.str) = decide (a = b)
  | [], [] => rfl
  | [], _ :: _ => rfl
  | _ :: _, [] => rfl
  | x :: a, y :: b => by
    show (decide (x = y) && PyData.eqvAll (a.map PyData.str) (b.map PyData.str)) = decide (x :: a = y :: b)
    rw [eqv_strs a b]
    by_cases h1 : x = y <;> by_cases h2 : a = b <;> simp [h1, h2]
theorem any_dec (x : Str) : ∀ (al : List Str), (al.map PyData.str).any (fun z => PyData.eqv z (.str x)) = decide (x ∈ al)
  | [] => rfl
  | y :: al => by
    rw [List.map_cons, List.any_cons, any_dec x al, eqv_strE]
    by_cases h1 : y = x
    · simp [h1]
    · by_cases h2 : x ∈ al <;> simp [h1, h2, Ne.symm h1]
/-! line_at -/
structure LineBad where
  lines : List Str
abbrev sp_line_atX (K : PySem.W.Frag) (w : World) (c : Ad) : Sp := spX (ι := LineIn) (κ := LineBad) (fun i => [MP.ts K i.lines, MP.d K (.int i.i)]) (fun i => MP.ts K i.ps) (fun j => [MP.ts K j.lines, MP.d K (.int j.lines.length)]) c.InvalidLine "line" (fun j => j.lines.length + 1)
theorem len_line_atX {vs : List V} {H : Hp} {Q : VK} {E : XK} (h : sp_line_atX K w c vs H Q E) : vs.length = 2 := spX_len (by intro i; rfl) (by intro i; rfl) vs H Q E h
def t_line_atX (K : PySem.W.Frag) (w : World) (c : Ad) (E : XK) : TS :=
  (tSeq (tIfS (tTest (tOp rGeI (tVar 1) (tCB (rLenG K) (tCons (tVar 0) tNil)))) (tRaiseF c.InvalidLine "line" (fun cls d _ H => E cls d H) (tCons (tOp (rAddG K) (tCB (rLenG K) (tCons (tVar 0) tNil)) (tC (.int 1))) tNil)) tNext)
    (tRet (tM1 rSplit (tOp (rIx K) (tVar 0) (tVar 1)) (tC (.str " ")))))
theorem rd_line_atX {vs : List V} {H : Hp} {Q : VK} {E : XK} (h : sp_line_atX K w c vs H Q E) : t_line_atX K w c E (Dn Q) (vs.map some ++ List.replicate (2 - vs.length) none) H := by
  have hlen := len_line_atX h
  match vs, hlen with
  | [x, y], _ =>
    refine spX_body (N := ["lines", "index"]) h (fun i G ha => ?_) (fun j G ha => ?_)
    · obtain ⟨lines, i, ps, hat, ok⟩ := i
      cases ha with
      | cons a1 ha => cases ha with
        | cons a2 ha =>
          cases ha
          have h1 : Cm (tVar 0 [some x, some y]) G (MP.ts K lines) := c_var rfl a1
          have h2 : Cm (tVar 1 [some x, some y]) G (MP.d K (.int i)) := c_var rfl a2
          have hi : i < lines.length := (List.getElem?_eq_some_iff.mp hat).1
          refine (b_ifX (c_test (c_to (c_I0 (z := .bool false) h2 (c_lenL h1) fun G => ?_) rfl)) (b_ret ?_) : Cm (bd (t_line_atX K w c E) [some x, some y]) G (MP.ts K ps))
          · have e1 : decide (((lines.map PyData.str).length : Int) ≤ (i : Int)) = false := decide_eq_false (by rw [List.length_map]; omega)
            rw [e1]
            exact .bl false
          · have hs := split_line ok
            rw [← hs]
            refine l_d (c_split (c_ixL h1 h2 (atI_of (by omega) rfl ?_)) c_str (by decide +kernel) ?_)
            · show (lines.map PyData.str)[((i : Nat) : Int).toNat]? = _
              rw [Int.toNat_natCast, List.getElem?_map, hat] <;> rfl
            · have := (okP.and ok).2.2.1
              omega
    · obtain ⟨lines⟩ := j
      cases ha with
      | cons a1 ha => cases ha with
        | cons a2 ha =>
          cases ha
          have h1 : Cm (tVar 0 [some x, some y]) G (MP.ts K lines) := c_var rfl a1
          have h2 : Cm (tVar 1 [some x, some y]) G (MP.d K (.int lines.length)) := c_var rfl a2
          have hL : Cm (tCB (rLenG K) (tCons (tVar 0) tNil) [some x, some y]) G (MP.d K (.int lines.length)) := c_to (c_lenL h1) (by rw [List.length_map])
          refine (x_ifT (c_test (c_to (c_I0 (z := .bool true) h2 hL fun G => ?_) rfl)) (x_raise (c_addI hL c_int)) : Bad E c.InvalidLine "line" (lines.length + 1) (t_line_atX K w c E) [some x, some y] G)
          rw [decide_eq_true (Int.le_refl _)]
          exact .bl true
theorem c_lineX {E : XK} (i : LineIn) (h1 : Cm (ta σ) G (MP.ts K i.lines)) (h2 : Cm (tb σ) G (MP.d K (.int i.i))) : Cm (tCall (sp_line_atX K w c) [] E (tCons ta (tCons tb tNil)) σ) G (MP.ts K i.ps) :=
  c_callX (args := fun i : LineIn => [MP.ts K i.lines, MP.d K (.int i.i)]) (res := fun i => MP.ts K i.ps) i (c_cons h1 (c_cons h2 c_nil))
theorem x_lineX {E : XK} (lines : List Str) (h1 : Cm (ta σ) G (MP.ts K lines)) (h2 : Cm (tb σ) G (MP.d K (.int lines.length))) : BadE E c.InvalidLine "line" (lines.length + 1) (tCall (sp_line_atX K w c) [] E (tCons ta (tCons tb tNil))) σ G :=
  x_call (bad := fun j : LineBad => [MP.ts K j.lines, MP.d K (.int j.lines.length)]) (zz := fun j : LineBad => (j.lines.length : Int) + 1) ⟨lines⟩ (c_cons h1 (c_cons h2 c_nil))
/-! the tests -/
theorem okP.sh {ps : List Str} (h : okP ps = true) : SeqAt.shaped (.list (ps.map PyData.str)) = true := (okP.and h).2.2.2.2
theorem c_hdP {ps : List Str} (ok : okP ps = true) (h : Cm (ta σ) G (MP.ts K ps)) : Cm (tOp (rIx K) ta (tC (.int 0)) σ) G (MP.d K (.str (ps.headD ""))) := by
  match ps, okP.ne ok with
  | p :: r, _ => exact c_hd h
theorem c_tlP {ps : List Str} (ok : okP ps = true) (h : Cm (ta σ) G (MP.ts K ps)) : Cm (tSl (rSlG K) ta (tPart (tC (.int 1))) tNoPart σ) G (MP.ts K (ps.drop 1)) := by
  match ps, okP.ne ok with
  | p :: r, _ => exact c_tl h
theorem okP.hd {ps : List Str} (ok : okP ps = true) : okT (ps.headD "") = true := by
  match ps, okP.ne ok with
  | p :: r, _ => exact (okP.and ok).2.1 p (List.mem_cons_self ..)
theorem okP.tlT {ps : List Str} (ok : okP ps = true) : ∀ x ∈ ps.drop 1, okT x = true := fun x hx => (okP.and ok).2.1 x (List.mem_of_mem_drop hx)
theorem c_neHd {ps : List Str} {x : Str} (ok : okP ps = true) (h : Cm (ta σ) G (MP.ts K ps)) (hb : Cm (tb σ) G (MP.d K (.str x))) (s2 : SeqAt.shaped (.str x) = true) : Cm (tTest (tOp (rNeD K) (tOp (rIx K) ta (tC (.int 0))) tb) σ) G (MP.eq (!(decide (ps.headD "" = x)))) :=
  c_neS (c_hdP ok h) hb (okT.sh (okP.hd ok)) s2
end
end Ah
/-! Ah24: texts read that may be wrong. -/
namespace Ah
open PySem PySem.Spec PyProof.Rows L2 Evl

theorem strs_canLay : ∀ (l : List Str), (∀ x ∈ l, PyData.strOk x = true) → PyData.canLayAll0 (l.map PyData.str) = true ∧ PyData.depthAll (l.map PyData.str) = 0
  | [], _ => ⟨rfl, rfl⟩
  | x :: l, h => by
    obtain ⟨h1, h2⟩ := strs_canLay l fun z hz => h z (List.mem_cons_of_mem _ hz)
    refine ⟨?_, ?_⟩
    · show (PyData.strOk x && PyData.canLayAll0 (l.map PyData.str)) = true
      rw [h x (List.mem_cons_self ..), h1] <;> rfl
    · show max 0 (PyData.depthAll (l.map PyData.str)) = 0
      rw [h2] <;> rfl
theorem strs_shaped {l : List Str} (h : ∀ x ∈ l, SeqAt.shaped (.str x) = true) : SeqAt.shaped (.list (l.map PyData.str)) = true := by
  obtain ⟨h1, h2⟩ := strs_canLay l fun x hx => shaped_strok (h x hx)
  show (PyData.canLayAll0 (l.map PyData.str) && decide (PyData.depthAll (l.map PyData.str) + 1 ≤ 64)) = true
  rw [h1, h2] <;> rfl
section
variable {K : PySem.W.Frag} {w : World} {c : Ad} {σ : L2.St} {G : Hp} {ta tb te td : TE} {ds : List PyData} {E : XK}
/-! ### rows_at -/
structure RowsIn where
  lines : List Str
  rows : List Row
  at_ : lines[0]? = some (lineT (("rows" : Str) :: rows.map rowT))
  len : rows.length = 1 ∨ rows.length = 2
structure RowsBad where
  lines : List Str
  ps : List Str
  at_ : lines[0]? = some (lineT ps)
  ok : okP ps = true
  bad : badRows ps = true
def rule0 : Rule := ⟨false, false, false, false, .none, false⟩
theorem rows_allL {M : List Row → Prop} {l : List Row} (ok : l.length = 1 ∨ l.length = 2) (h1 : ∀ k d, M [(k, d)]) (h2 : ∀ k d l e, M [(k, d), (l, e)]) : M l := rows_all (b := ⟨l, rule0, false, false⟩) ok h1 h2
theorem okP_rowL {l : List Row} (ok : l.length = 1 ∨ l.length = 2) : okP (("rows" : Str) :: l.map rowT) = true := okP_row (b := ⟨l, rule0, false, false⟩) ok
theorem good_rows {l : List Row} (ok : l.length = 1 ∨ l.length = 2) : badRows (("rows" : Str) :: l.map rowT) = false := rows_allL (M := fun l => badRows (("rows" : Str) :: l.map rowT) = false) ok (by decide +kernel) (by decide +kernel)
abbrev sp_rows_atX (K : PySem.W.Frag) (w : World) (c : Ad) : Sp := spX (ι := RowsIn) (κ := RowsBad) (fun i => [MP.ts K i.lines]) (fun i => MP.d K (.tuple (i.rows.map rowD))) (fun j => [MP.ts K j.lines]) c.InvalidLine "line" (fun _ => 1)
theorem len_rows_atX {vs : List V} {H : Hp} {Q : VK} {E : XK} (h : sp_rows_atX K w c vs H Q E) : vs.length = 1 := spX_len (by intro i; rfl) (by intro i; rfl) vs H Q E h
def t_rows_atX (K : PySem.W.Frag) (w : World) (c : Ad) (E : XK) : TS :=
  (tSeq (tAsg (tCall (sp_line_atX K w c) [] E (tCons (tVar 0) (tCons (tC (.int 0)) tNil))) (gName 1))
    (tSeq (tIfS (tOr (tTest (tOp (rNeD K) (tOp (rIx K) (tVar 1) (tC (.int 0))) (tC (.str "rows")))) (tOr (tNot (tTest (tChain rLeI rLeI (tC (.int 2)) (tCB (rLenG K) (tCons (tVar 1) tNil)) (tOp (rAddG K) (tC (.int 2)) (tC (.int 1)))))) (tNot (tB (tCB (rAll K) (tCons (tLc (iSeq K (tSl (rSlG K) (tVar 1) (tPart (tC (.int 1))) tNoPart)) (gName 2) tYes (tOp (rInW K w) (tVar 2) (tC (.ref c.ROWS))) [2]) tNil)))))) (tRaiseF c.InvalidLine "line" (fun cls d _ H => E cls d H) (tCons (tC (.int 1)) tNil)) tNext)
    (tRet (tCB (rTupG K) (tCons (tLc (iSeq K (tSl (rSlG K) (tVar 1) (tPart (tC (.int 1))) tNoPart)) (gName 2) tYes (tOp (rIxW K w) (tC (.ref c.ROWS)) (tVar 2)) [2]) tNil)))))
theorem rowsTab (x : Str) : (rowTab.lookup x).isSome = decide (x ∈ rowNames) := by
  unfold rowTab rowNames
  simp only [List.lookup_cons, List.lookup_nil, List.mem_cons, List.not_mem_nil, or_false]
  by_cases a : x = "a1"
  · subst a; rfl
  · by_cases b : x = "a2"
    · subst b; rfl
    · by_cases c : x = "b1"
      · subst c; rfl
      · by_cases d : x = "b2"
        · subst d; rfl
        · simp [a, b, c, d, beq_eq_false_iff_ne.mpr a, beq_eq_false_iff_ne.mpr b, beq_eq_false_iff_ne.mpr c, beq_eq_false_iff_ne.mpr d]
theorem Axt.rowK (X : Axt K w c) : ∃ kvs : List (Str × V), KD K w c.ROWS kvs ∧ ∀ x, (kvs.lookup x).isSome = decide (x ∈ rowNames) := by
  obtain ⟨vs, D, hl, hd⟩ := X.rows
  refine ⟨_, D, fun x => ?_⟩
  match vs, hl with
  | [a, b, c, d], _ =>
    rw [← rowsTab]
    show (List.lookup x [(("a1" : Str), a), ("a2", b), ("b1", c), ("b2", d)]).isSome = (List.lookup x [(("a1" : Str), _), ("a2", _), ("b1", _), ("b2", _)]).isSome
    simp only [List.lookup_cons, List.lookup_nil]
    cases x == ("a1" : Str) <;> cases x == ("a2" : Str) <;> cases x == ("b1" : Str) <;> cases x == ("b2" : Str) <;> rfl
theorem c_rowsTest (X : Axt K w c) {ps : List Str} {x v : V} (ok : okP ps = true) (hv : ∀ {G2 : Hp} {z : Option V}, Ex G G2 → Cm (tVar 1 [some x, some v, z]) G2 (MP.ts K ps)) :
    Cm (tOr (tTest (tOp (rNeD K) (tOp (rIx K) (tVar 1) (tC (.int 0))) (tC (.str "rows")))) (tOr (tNot (tTest (tChain rLeI rLeI (tC (.int 2)) (tCB (rLenG K) (tCons (tVar 1) tNil)) (tOp (rAddG K) (tC (.int 2)) (tC (.int 1)))))) (tNot (tB (tCB (rAll K) (tCons (tLc (iSeq K (tSl (rSlG K) (tVar 1) (tPart (tC (.int 1))) tNoPart)) (gName 2) tYes (tOp (rInW K w) (tVar 2) (tC (.ref c.ROWS))) [2]) tNil))))) [some x, some v, none]) G (MP.eq (badRows ps)) := by
  obtain ⟨kvs, D, hk⟩ := X.rowK
  have hl := (okP.and ok).1
  refine c_tor (c_neHd ok (hv (Ex.refl _)) c_str (by decide +kernel)) fun _ => c_tor (c_tnot (c_test (c_to (c_chainI (g := fun i j => decide (i ≤ j)) (g' := fun i j => decide (i ≤ j)) c_int (c_lenL (hv (Ex.refl _))) (c_addI c_int c_int)) ?_))) fun _ => c_tnot (c_tB (c_to (c_allL (fun d => match d with | .str s => decide (s ∈ rowNames) | _ => false) (c_tlP ok (hv (Ex.refl _))) (by rw [List.length_map, List.length_drop]; omega) fun v2 d G2 e2 hd pd => ?_) ?_))
  · rw [List.length_map] <;> rfl
  · obtain ⟨s, _, rfl⟩ := List.mem_map.mp hd
    exact ct_name rfl c_yes fun _ => c_inW (c_var (P := MP.d K _) rfl pd) (c_c ⟨_, rfl, D⟩) (hk s)
  · rw [List.all_map] <;> rfl
theorem c_rowsBack (X : Axt K w c) {rows : List Row} {x v : V} (len : rows.length = 1 ∨ rows.length = 2) (hv : ∀ {G2 : Hp} {z : Option V}, Ex G G2 → Cm (tVar 1 [some x, some v, z]) G2 (MP.ts K (("rows" : Str) :: rows.map rowT))) :
    Cm (tCB (rTupG K) (tCons (tLc (iSeq K (tSl (rSlG K) (tVar 1) (tPart (tC (.int 1))) tNoPart)) (gName 2) tYes (tOp (rIxW K w) (tC (.ref c.ROWS)) (tVar 2)) [2]) tNil) [some x, some v, none]) G (MP.d K (.tuple (rows.map rowD))) := by
  have hl9 : ((rows.map rowT).map PyData.str).length ≤ 90000 := by rw [List.length_map, List.length_map]; omega
  have e1 : rows.map rowD = (((rows.map rowT).map PyData.str).filter fun _ => true).map rowOf := by
    rw [filter_yes, List.map_map, List.map_map]
    refine List.map_congr_left fun r _ => ?_
    show _ = rowOf (.str (rowT r))
    unfold rowOf
    simp only
    rw [rowOf_T] <;> rfl
  rw [e1]
  refine c_tupL (l_d (c_lcL (c_tl (hv (Ex.refl _))) hl9 fun v2 d G2 e2 hd pd => ?_))
  obtain ⟨s, hs, rfl⟩ := List.mem_map.mp hd
  obtain ⟨r, _, rfl⟩ := List.mem_map.mp hs
  refine ct_name rfl c_yes fun _ => ?_
  obtain ⟨kvs, u, D, h1, h2⟩ := X.rowAt r
  have e3 : rowOf (.str (rowT r)) = rowD r := by unfold rowOf; simp only; rw [rowOf_T] <;> rfl
  rw [e3]
  exact c_ixW (P := MP.d K (rowD r)) (c_c ⟨_, rfl, D⟩) (c_var (P := MP.d K _) rfl pd) h1 fun G' _ => h2 G'
theorem rd_rows_atX (X : Axt K w c) {vs : List V} {H : Hp} {Q : VK} {E : XK} (h : sp_rows_atX K w c vs H Q E) : t_rows_atX K w c E (Dn Q) (vs.map some ++ List.replicate (3 - vs.length) none) H := by
  have hlen := len_rows_atX h
  match vs, hlen with
  | [x], _ =>
    refine spX_body (N := ["lines", "words", "word"]) h (fun i G ha => ?_) (fun j G ha => ?_)
    · obtain ⟨lines, rows, hat, len⟩ := i
      cases ha with
      | cons a1 ha =>
        cases ha
        refine (b_asg (R := MP.ts K (("rows" : Str) :: rows.map rowT)) (c_lineX ⟨lines, 0, _, hat, okP_rowL len⟩ (c_var rfl a1) c_int) fun v G1 e1 p1 => ?_ : Cm (bd (t_rows_atX K w c E) [some x, none, none]) G (MP.d K (.tuple (rows.map rowD))))
        have hv : ∀ {G2 : Hp} {z : Option V}, Ex G1 G2 → Cm (tVar 1 [some x, some v, z]) G2 (MP.ts K (("rows" : Str) :: rows.map rowT)) := fun e2 => c_var rfl (Dp.up e2 _ _ p1)
        exact b_ifX (c_teq (c_rowsTest X (okP_rowL len) hv) (good_rows len)) (b_ret (c_rowsBack X len hv))
    · obtain ⟨lines, ps, hat, ok, bad⟩ := j
      cases ha with
      | cons a1 ha =>
        cases ha
        refine (x_asg (R := MP.ts K ps) (c_lineX ⟨lines, 0, _, hat, ok⟩ (c_var rfl a1) c_int) fun v G1 e1 p1 => ?_ : Bad E c.InvalidLine "line" 1 (t_rows_atX K w c E) [some x, none, none] G)
        have hv : ∀ {G2 : Hp} {z : Option V}, Ex G1 G2 → Cm (tVar 1 [some x, some v, z]) G2 (MP.ts K ps) := fun e2 => c_var rfl (Dp.up e2 _ _ p1)
        exact x_ifT (c_teq (c_rowsTest X ok hv) bad) (x_raise (K := K) c_int)
/-! ### word_at -/
structure WdOk where
  lines : List Str
  i : Nat
  q : Str × Str
  al : List Str
  at_ : lines[i]? = some (lineT [q.1, q.2])
  ok : okP [q.1, q.2] = true
  mem : q.2 ∈ al
  sh : SeqAt.shaped (.list (al.map PyData.str)) = true
structure WdBad where
  lines : List Str
  i : Nat
  part : Str
  al : List Str
  bad : i = lines.length ∨ ∃ ps, lines[i]? = some (lineT ps) ∧ okP ps = true ∧ badWord part al ps = true
  shp : SeqAt.shaped (.str part) = true
  sh : SeqAt.shaped (.list (al.map PyData.str)) = true
abbrev sp_word_atX (K : PySem.W.Frag) (w : World) (c : Ad) : Sp := spX (ι := WdOk) (κ := WdBad) (fun i => [MP.ts K i.lines, MP.d K (.int i.i), MP.d K (.str i.q.1), MP.d K (.tuple (i.al.map PyData.str))]) (fun i => MP.d K (.str i.q.2))
  (fun j => [MP.ts K j.lines, MP.d K (.int j.i), MP.d K (.str j.part), MP.d K (.tuple (j.al.map PyData.str))]) c.InvalidLine "line" (fun j => j.i + 1)
theorem len_word_atX {vs : List V} {H : Hp} {Q : VK} {E : XK} (h : sp_word_atX K w c vs H Q E) : vs.length = 4 := spX_len (by intro i; rfl) (by intro i; rfl) vs H Q E h
def t_word_atX (K : PySem.W.Frag) (w : World) (c : Ad) (E : XK) : TS :=
  (tSeq (tAsg (tCall (sp_line_atX K w c) [] E (tCons (tVar 0) (tCons (tVar 1) tNil))) (gName 4))
    (tSeq (tIfS (tOr (tTest (tOp (rNeD K) (tCB (rLenG K) (tCons (tVar 4) tNil)) (tC (.int 2)))) (tOr (tTest (tOp (rNeD K) (tOp (rIx K) (tVar 4) (tC (.int 0))) (tVar 2))) (tTest (tOp (rInG K true) (tOp (rIx K) (tVar 4) (tC (.int 1))) (tVar 3))))) (tRaiseF c.InvalidLine "line" (fun cls d _ H => E cls d H) (tCons (tOp (rAddG K) (tVar 1) (tC (.int 1))) tNil)) tNext)
    (tRet (tOp (rIx K) (tVar 4) (tC (.int 1))))))
theorem c_wordTest {ps : List Str} {part : Str} {al : List Str} {tt : TE} (ok : okP ps = true) (hv : Cm (ta σ) G (MP.ts K ps)) (hp : Cm (tb σ) G (MP.d K (.str part))) (hal : Cm (td σ) G (MP.d K (.tuple (al.map PyData.str)))) (shp : SeqAt.shaped (.str part) = true) (sh : SeqAt.shaped (.list (al.map PyData.str)) = true) :
    Cm (tOr (tTest (tOp (rNeD K) (tCB (rLenG K) (tCons ta tNil)) (tC (.int 2)))) (tOr (tTest (tOp (rNeD K) (tOp (rIx K) ta (tC (.int 0))) tb)) (tTest (tOp (rInG K true) (tOp (rIx K) ta (tC (.int 1))) td))) σ) G (MP.eq (badWord part al ps)) := by
  refine c_tor (c_teq (c_test (c_ne (c_lenL hv) c_int rfl rfl)) ?_) fun h2 => c_tor (c_neHd ok hv hp shp) fun _ => ?_
  · rw [List.length_map]
    show (!(((ps.length : Nat) : Int) == 2)) = !(decide (ps.length = 2))
    by_cases h : ps.length = 2
    · rw [h]; rfl
    · rw [decide_eq_false h, beq_eq_false_iff_ne.mpr (by omega)]
  · have h2 : ps.length = 2 := by
      simpa using h2
    match ps, h2 with
    | [a, b], _ =>
      have hb : okT b = true := (okP.and ok).2.1 b (List.mem_cons_of_mem _ (List.mem_cons_self ..))
      refine c_teq (c_test (c_inT (n := true) (c_ixL (i := 1) (d := .str b) hv c_int rfl) hal (okT.sh hb) sh)) ?_
      rw [any_dec] <;> rfl
theorem rd_word_atX {vs : List V} {H : Hp} {Q : VK} {E : XK} (h : sp_word_atX K w c vs H Q E) : t_word_atX K w c E (Dn Q) (vs.map some ++ List.replicate (5 - vs.length) none) H := by
  have hlen := len_word_atX h
  match vs, hlen with
  | [x0, x1, x2, x3], _ =>
    refine spX_body (N := ["lines", "index", "part", "allowed", "words"]) h (fun i G ha => ?_) (fun j G ha => ?_)
    · obtain ⟨lines, i, q1, al, hat, ok, hm, sh⟩ := i
      cases ha with
      | cons a1 ha => cases ha with
        | cons a2 ha => cases ha with
          | cons a3 ha => cases ha with
            | cons a4 ha =>
              cases ha
              refine (b_asg (R := MP.ts K [q1.1, q1.2]) (c_lineX ⟨lines, i, _, hat, ok⟩ (c_var rfl a1) (c_var rfl a2)) fun v G1 e1 p1 => ?_ : Cm (bd (t_word_atX K w c E) [some x0, some x1, some x2, some x3, none]) G (MP.d K (.str q1.2)))
              have hv : Cm (tVar 4 [some x0, some x1, some x2, some x3, some v]) G1 (MP.ts K [q1.1, q1.2]) := c_var rfl p1
              have s1 := okT.sh ((okP.and ok).2.1 q1.1 (List.mem_cons_self ..))
              refine b_ifX (c_teq (c_wordTest (tt := tVar 0) ok hv (c_var rfl (Dp.up e1 _ _ a3)) (c_var rfl (Dp.up e1 _ _ a4)) s1 sh) ?_) (b_ret (c_ixL hv c_int rfl))
              unfold badWord
              simp [hm]
    · obtain ⟨lines, i, part, al, bad, shp, sh⟩ := j
      cases ha with
      | cons a1 ha => cases ha with
        | cons a2 ha => cases ha with
          | cons a3 ha => cases ha with
            | cons a4 ha =>
              cases ha
              rcases bad with e0 | ⟨ps, hat, ok, bad⟩
              · subst e0
                exact (x_asgE (x_lineX lines (c_var rfl a1) (c_var rfl a2)) : Bad E c.InvalidLine "line" (lines.length + 1) (t_word_atX K w c E) [some x0, some x1, some x2, some x3, none] G)
              · refine (x_asg (R := MP.ts K ps) (c_lineX ⟨lines, i, _, hat, ok⟩ (c_var rfl a1) (c_var rfl a2)) fun v G1 e1 p1 => ?_ : Bad E c.InvalidLine "line" (i + 1) (t_word_atX K w c E) [some x0, some x1, some x2, some x3, none] G)
                have hv : Cm (tVar 4 [some x0, some x1, some x2, some x3, some v]) G1 (MP.ts K ps) := c_var rfl p1
                exact x_ifT (c_teq (c_wordTest (tt := tVar 0) ok hv (c_var rfl (Dp.up e1 _ _ a3)) (c_var rfl (Dp.up e1 _ _ a4)) shp sh) bad) (x_raise (c_addI (c_var rfl (Dp.up e1 _ _ a2)) c_int))
/-! ### words_at -/
structure WsOk where
  lines : List Str
  b : Bk
  at_ : lines[7]? = some (lineT (("words" : Str) :: b.words))
structure WsBad where
  lines : List Str
  bad : lines.length = 7 ∨ ∃ ps, lines[7]? = some (lineT ps) ∧ okP ps = true ∧ badWords ps = true
abbrev sp_words_atX (K : PySem.W.Frag) (w : World) (c : Ad) : Sp := spX (ι := WsOk) (κ := WsBad) (fun i => [MP.ts K i.lines, MP.d K (.int 7)]) (fun i => MP.d K (wordsD i.b)) (fun j => [MP.ts K j.lines, MP.d K (.int 7)]) c.InvalidLine "line" (fun _ => 8)
theorem len_words_atX {vs : List V} {H : Hp} {Q : VK} {E : XK} (h : sp_words_atX K w c vs H Q E) : vs.length = 2 := spX_len (by intro i; rfl) (by intro i; rfl) vs H Q E h
def t_words_atX (K : PySem.W.Frag) (w : World) (c : Ad) (E : XK) : TS :=
  (tSeq (tAsg (tCall (sp_line_atX K w c) [] E (tCons (tVar 0) (tCons (tVar 1) tNil))) (gName 2))
    (tSeq (tIfS (tOr (tTest (tOp (rNeD K) (tOp (rIx K) (tVar 2) (tC (.int 0))) (tC (.str "words")))) (tTest (tOp (rNeD K) (tLc (iSeq K (tC (.ref c.WORDS))) (gName 3) (tTest (tOp (rInG K false) (tVar 3) (tSl (rSlG K) (tVar 2) (tPart (tC (.int 1))) tNoPart))) (tVar 3) [3]) (tSl (rSlG K) (tVar 2) (tPart (tC (.int 1))) tNoPart)))) (tRaiseF c.InvalidLine "line" (fun cls d _ H => E cls d H) (tCons (tOp (rAddG K) (tVar 1) (tC (.int 1))) tNil)) tNext)
    (tRet (tCB (rTupG K) (tCons (tSl (rSlG K) (tVar 2) (tPart (tC (.int 1))) tNoPart) tNil)))))
theorem filt_words (t : List Str) : (([("join" : Str), "sweep"].map PyData.str).filter (fun d => (t.map PyData.str).any fun z => PyData.eqv z d)).map (fun d => d) = (wordNames.filter fun x => decide (x ∈ t)).map PyData.str := by
  rw [List.map_id', List.filter_map]
  refine congrArg (List.map PyData.str) (List.filter_congr fun x _ => ?_)
  exact any_dec x t
theorem c_wordsTest (X : Ax K w c) {ps : List Str} {x y v : V} (ok : okP ps = true) (hv : ∀ {G2 : Hp} {z : Option V}, Ex G G2 → Cm (tVar 2 [some x, some y, some v, z]) G2 (MP.ts K ps)) :
    Cm (tOr (tTest (tOp (rNeD K) (tOp (rIx K) (tVar 2) (tC (.int 0))) (tC (.str "words")))) (tTest (tOp (rNeD K) (tLc (iSeq K (tC (.ref c.WORDS))) (gName 3) (tTest (tOp (rInG K false) (tVar 3) (tSl (rSlG K) (tVar 2) (tPart (tC (.int 1))) tNoPart))) (tVar 3) [3]) (tSl (rSlG K) (tVar 2) (tPart (tC (.int 1))) tNoPart))) [some x, some y, some v, none]) G (MP.eq (badWords ps)) := by
  have shT : SeqAt.shaped (.list ((ps.drop 1).map PyData.str)) = true := strs_shaped fun z hz => okT.sh (okP.tlT ok z hz)
  refine c_tor (c_neHd ok (hv (Ex.refl _)) c_str (by decide +kernel)) fun _ => c_teq (c_test (c_ne (l_d (c_lcT (K := K) (ds := [("join" : Str), "sweep"].map PyData.str) (t := fun d => ((ps.drop 1).map PyData.str).any fun z => PyData.eqv z d) (F := fun d => d) (c_c (X.wds G)) (by decide) fun v d G5 eG hm hw => ct_name rfl (c_test (c_to (c_inL (n := false) (c_var (P := MP.d K d) rfl hw) (c_tlP ok (hv eG)) ?_ shT) rfl)) fun _ => c_var (P := MP.d K d) rfl hw)) (c_tlP ok (hv (Ex.refl _))) ?_ shT)) ?_
  · rcases List.mem_cons.mp hm with z | z
    · rw [z]; decide +kernel
    · rw [List.mem_singleton.mp z]; decide +kernel
  · rw [filt_words]
    refine strs_shaped fun z hz => ?_
    have := (List.mem_filter.mp hz).1
    unfold wordNames at this
    rcases List.mem_cons.mp this with e | e
    · rw [e]; decide +kernel
    · rw [List.mem_singleton.mp e]; decide +kernel
  · rw [filt_words]
    show (!PyData.eqvAll _ _) = _
    rw [eqv_strs]
theorem good_words (b : Bk) : badWords (("words" : Str) :: b.words) = false := words_all (M := fun l => badWords (("words" : Str) :: l) = false) b (by decide +kernel) (by decide +kernel) (by decide +kernel) (by decide +kernel)
theorem rd_words_atX (X : Ax K w c) {vs : List V} {H : Hp} {Q : VK} {E : XK} (h : sp_words_atX K w c vs H Q E) : t_words_atX K w c E (Dn Q) (vs.map some ++ List.replicate (4 - vs.length) none) H := by
  have hlen := len_words_atX h
  match vs, hlen with
  | [x, y], _ =>
    refine spX_body (N := ["lines", "index", "words", "word"]) h (fun i G ha => ?_) (fun j G ha => ?_)
    · obtain ⟨lines, b, hat⟩ := i
      cases ha with
      | cons a1 ha => cases ha with
        | cons a2 ha =>
          cases ha
          refine (b_asg (R := MP.ts K (("words" : Str) :: b.words)) (c_lineX ⟨lines, 7, _, hat, okP_words b⟩ (c_var rfl a1) (c_var rfl a2)) fun v G1 e1 p1 => ?_ : Cm (bd (t_words_atX K w c E) [some x, some y, none, none]) G (MP.d K (wordsD b)))
          have hv : ∀ {G2 : Hp} {z : Option V}, Ex G1 G2 → Cm (tVar 2 [some x, some y, some v, z]) G2 (MP.ts K (("words" : Str) :: b.words)) := fun e2 => c_var rfl (Dp.up e2 _ _ p1)
          exact b_ifX (c_teq (c_wordsTest X (okP_words b) hv) (good_words b)) (b_ret (c_tupL (c_tl (hv (Ex.refl _)))))
    · obtain ⟨lines, bad⟩ := j
      cases ha with
      | cons a1 ha => cases ha with
        | cons a2 ha =>
          cases ha
          rcases bad with e0 | ⟨ps, hat, ok, bad⟩
          · have z := x_lineX (K := K) (w := w) (c := c) (E := E) (ta := tVar 0) (tb := tVar 1) (σ := [some x, some y, none, none]) lines (c_var rfl a1) (c_var rfl (by rw [e0]; exact a2))
            rw [e0] at z
            exact (x_asgE z : Bad E c.InvalidLine "line" 8 (t_words_atX K w c E) [some x, some y, none, none] G)
          · refine (x_asg (R := MP.ts K ps) (c_lineX ⟨lines, 7, _, hat, ok⟩ (c_var rfl a1) (c_var rfl a2)) fun v G1 e1 p1 => ?_ : Bad E c.InvalidLine "line" 8 (t_words_atX K w c E) [some x, some y, none, none] G)
            have hv : ∀ {G2 : Hp} {z : Option V}, Ex G1 G2 → Cm (tVar 2 [some x, some y, some v, z]) G2 (MP.ts K ps) := fun e2 => c_var rfl (Dp.up e2 _ _ p1)
            exact x_ifT (c_teq (c_wordsTest X ok hv) bad) (x_raise (c_addI (c_var rfl (Dp.up e1 _ _ a2)) c_int))
end
end Ah
/-! Ah25: a whole text read, that may be wrong. -/
namespace Ah
open PySem PySem.Spec PyProof.Rows L2 Evl

theorem split_pss {pss : List (List Str)} (ne : pss ≠ []) (ok : ∀ ps ∈ pss, okP ps = true) : Txt.split (Txt.join ("\n" : Str) (pss.map lineT)) ("\n" : Str) = pss.map lineT :=
  TL.split_join (s := 10) (S := []) (by decide +kernel) (by decide +kernel) (fun z => ne (List.map_eq_nil_iff.mp z)) fun p hp => by
    obtain ⟨ps, hps, rfl⟩ := List.mem_map.mp hp
    exact (okP.and (ok ps hps)).2.2.2.1
theorem pss_len {pss : List (List Str)} (hl : pss.length ≤ 100) (ok : ∀ ps ∈ pss, okP ps = true) : (Txt.join ("\n" : Str) (pss.map lineT)).length ≤ 10000 := by
  rw [TL.join_eq]
  have h := join_len 60 ("\n" : Str) (pss.map lineT) fun x hx => by
    obtain ⟨ps, hps, rfl⟩ := List.mem_map.mp hx
    exact (okP.and (ok ps hps)).2.2.1
  have e : ("\n" : Str).length = 1 := by decide +kernel
  rw [List.length_map, e] at h
  omega
theorem fw_at : ∀ {pss : List (List Str)} {k n : Nat}, fw k pss = some n → ∃ i, n = k + i + 1 ∧ (∀ j, j < i → ∃ ps, pss[j]? = some ps ∧ badAt (k + j) ps = false) ∧ ((pss.length = i ∧ k + i < 8) ∨ ∃ ps, pss[i]? = some ps ∧ badAt (k + i) ps = true)
  | [], k, n, h => by
    unfold fw at h
    split at h
    · exact ⟨0, (Option.some.inj h).symm, fun j hj => absurd hj (Nat.not_lt_zero _), .inl ⟨rfl, by omega⟩⟩
    · cases h
  | p :: r, k, n, h => by
    unfold fw at h
    cases q : badAt k p with
    | true =>
      rw [q] at h
      exact ⟨0, (Option.some.inj h).symm, fun j hj => absurd hj (Nat.not_lt_zero _), .inr ⟨p, rfl, q⟩⟩
    | false =>
      rw [q] at h
      obtain ⟨i, e, g, b⟩ := fw_at (k := k + 1) h
      refine ⟨i + 1, by omega, fun j hj => ?_, ?_⟩
      · cases j with
        | zero => exact ⟨p, rfl, q⟩
        | succ j =>
          obtain ⟨ps, e1, e2⟩ := g j (by omega)
          exact ⟨ps, by simpa using e1, by rw [show k + (j + 1) = k + 1 + j by omega]; exact e2⟩
      · rw [show k + (i + 1) = k + 1 + i by omega]
        rcases b with ⟨b1, b2⟩ | ⟨ps, b1, b2⟩
        · exact .inl ⟨by rw [List.length_cons]; omega, b2⟩
        · exact .inr ⟨ps, by simpa using b1, b2⟩
theorem take_putL {l : List (Str × Str)} (hk : okKvs l) {n : Nat} {q : Str × Str} (h : l[n]? = some q) : putS (l.take n) q.1 q.2 = l.take (n + 1) := by
  have hn := (List.getElem?_eq_some_iff.mp h).1
  have ok : okKvs (l.take n) := fun j z hz => by
    rw [List.getElem?_take] at hz
    split at hz
    · exact hk j z hz
    · cases hz
  obtain ⟨p, hp, e1, e2⟩ := hk n q h
  have hf := ok.fresh (i := n) (by rw [List.length_take]; omega) hp
  unfold putS
  rw [e1, hf, List.take_succ, h, ← e1] <;> rfl
section
variable {K : PySem.W.Frag} {w : World} {c : Ad} {σ : L2.St} {G : Hp} {ta tb te td : TE}
structure RdBad where
  pss : List (List Str)
  ok : ∀ ps ∈ pss, okP ps = true
  ne : pss ≠ []
  len : pss.length ≤ 100
  n : Nat
  bad : fw 0 pss = some n
abbrev textOf (pss : List (List Str)) : Str := Txt.join ("\n" : Str) (pss.map lineT)
abbrev sp_readX (K : PySem.W.Frag) (w : World) (c : Ad) : Sp := spX (ι := BkO) (κ := RdBad) (fun b => [MP.d K (.str (bkText b.val))]) (fun b => MP.bk K c b.val) (fun j => [MP.d K (.str (textOf j.pss))]) c.InvalidLine "line" (fun j => j.n)
theorem len_readX {vs : List V} {H : Hp} {Q : VK} {E : XK} (h : sp_readX K w c vs H Q E) : vs.length = 1 := spX_len (by intro i; rfl) (by intro i; rfl) vs H Q E h
def t_readB (K : PySem.W.Frag) (w : World) (c : Ad) (E : XK) : TS :=
    (tSeq (tAsg (tCall (sp_words_atX K w c) [] E (tCons (tVar 1) (tCons (tVar 3) tNil))) (gName 7))
    (tSeq (tIfS (tTest (tOp rGtI (tCB (rLenG K) (tCons (tVar 1) tNil)) (tOp (rAddG K) (tVar 3) (tC (.int 1))))) (tRaiseF c.InvalidLine "line" (fun cls d _ H => E cls d H) (tCons (tOp (rAddG K) (tVar 3) (tC (.int 2))) tNil)) tNext)
    (tRet (tMake c.Book (sp_Book_init K w c) [] E0 (tCons (tVar 4) (tCons (tVar 2) (tCons (tVar 7) tNil)))))))
def t_readX (K : PySem.W.Frag) (w : World) (c : Ad) (E : XK) : TS :=
  (tSeq (tPar3 1 2 3 (tCons (tM1 rSplit (tVar 0) (tC (.str "\n"))) (tCons tDNewK (tCons (tC (.int 1)) tNil))))
    (tSeq (tAsg (tCall (sp_rows_atX K w c) [] E (tCons (tVar 1) tNil)) (gName 4))
    (tSeq (tFor (iItemsW K w (tC (.ref c.PARTS))) (gTup K 2 (gCons (gName 5) (gCons (gName 6) gNil)))
    (tSeq (sDPut (tVar 2) (tVar 5) (tCall (sp_word_atX K w c) [] E (tCons (tVar 1) (tCons (tVar 3) (tCons (tVar 5) (tCons (tVar 6) tNil))))))
    (tAug 3 (tC (.int 1)) (ipI fun i j => i + j))))
    (t_readB K w c E))))
/-- what is read of the lines up to the first that is wrong -/
theorem read_go (X : Ax K w c) {E : XK} {pss : List (List Str)} (ok : ∀ ps ∈ pss, okP ps = true) (ne : pss ≠ []) (hlen : pss.length ≤ 100) {x : V} {H : Hp} {Q : VK} (hx : Dp K G x (.str (textOf pss))) (e : Ex G H)
    -- the first line
    (h0 : (∃ rows : List Row, pss[0]? = some (("rows" : Str) :: rows.map rowT) ∧ (rows.length = 1 ∨ rows.length = 2) ∧
      -- the parts' lines
      ∃ L : List (Str × Str), okKvs L ∧ L.length ≤ 6 ∧ (∀ n q, L[n]? = some q → pss[n + 1]? = some [q.1, q.2]) ∧
        ((L.length < 6 ∧ (∀ p, kvParts[L.length]? = some p → L.length + 1 = pss.length ∨ ∃ ps, pss[L.length + 1]? = some ps ∧ badWord p.1 p.2 ps = true) ∧ ∀ d H', Ex H H' → H' d = none → E (.ref c.InvalidLine) (some d) (upd H' d (.xd [("line", .int ((L.length : Int) + 2))])))
        ∨ (L.length = 6 ∧ ∀ (al p : Addr) (v4 : V) (G7 H7 : Hp) (x5 x6 : Option V), Ex H H7 → Nw H G G7 H7 → Dp K G7 v4 (.tuple (rows.map rowD)) → Dp K G7 (.ref al) (.list ((pss.map lineT).map PyData.str)) → G7 p = some (.dK (kvD L)) →
          t_readB K w c E (Dn Q) [some x, some (.ref al), some (.ref p), some (.int 7), some v4, x5, x6, none] H7)))
      ∨ (∃ ps, pss[0]? = some ps ∧ badRows ps = true ∧ ∀ d H', Ex H H' → H' d = none → E (.ref c.InvalidLine) (some d) (upd H' d (.xd [("line", .int 1)])))) :
    t_readX K w c E (Dn Q) [some x, none, none, none, none, none, none, none] H := by
  obtain ⟨kvs, k1, D, k3⟩ := X.kd
  refine (c_split (K := K) (σ := [some x, none, none, none, none, none, none, none]) (a := textOf pss) (b := "\n") (c_var rfl hx) c_str (by decide +kernel) (Nat.le_trans (pss_len hlen ok) (by decide)) : Cm _ G _) H e _ fun v1 G1 H1 e1 n1 p1 => ?_
  rw [split_pss ne ok] at p1
  obtain ⟨al, xl, rfl, hal, hxl⟩ := p1
  intro p hp
  refine ⟨_, _, _, rfl, ?_⟩
  have e2 := e1.trans (Ex.new (o := .dK []) hp)
  have n2 : Nw H G G1 (upd H1 p (.dK [])) := ⟨n1.ex, n1.le.trans (Ex.new hp), n1.old⟩
  have gp1 : G1 p = none := fresh_back n1.le hp
  have hp0 : H p = none := fresh_back e1 hp
  have hL : ∀ {G2 : Hp}, Ex G1 G2 → Dp K G2 (.ref al) (.list ((pss.map lineT).map PyData.str)) := fun e3 => .lst (SqL.of (e3 _ _ hal)) (DpAll.up e3 _ _ hxl)
  have hat : ∀ {i ps}, pss[i]? = some ps → (pss.map lineT)[i]? = some (lineT ps) := fun h => by rw [List.getElem?_map, h] <;> rfl
  rcases h0 with ⟨rows, r1, r2, L, hk, hl6, hLat, hend⟩ | ⟨ps, r1, bad, k⟩
  · refine (c_callX (args := fun i : RowsIn => [MP.ts K i.lines]) (res := fun i => MP.d K (.tuple (i.rows.map rowD))) ⟨pss.map lineT, rows, hat r1, r2⟩ (c_cons (c_var rfl (hL (Ex.refl _))) c_nil)) _ n2.le _ fun v4 G3 H3 e3 n3 p3 => ?_
    have gp3 : G3 p = none := n3.old p (by rw [upd_same]; exact fun z => nomatch z) gp1
    refine ⟨_, kvs, rfl, D, for_itemsW (fun n σ' H' => n ≤ L.length ∧ (∃ x5 x6, σ' = [some x, some (.ref al), some (.ref p), some (.int (n + 1 : Nat)), some v4, x5, x6, none]) ∧ (∃ G', Nw H G G' H' ∧ Ex H H' ∧ Ex G3 G' ∧ G' p = none) ∧ H' p = some (.dK (kvD (L.take n)))) ⟨Nat.zero_le _, ⟨_, _, rfl⟩, ⟨G3, n2.trans e2 n3, e2.trans e3, Ex.refl _, gp3⟩, e3 _ _ upd_same⟩ ?_ ?_⟩
    · rintro n r T σ' H' hr ⟨hnl, ⟨x5, x6, rfl⟩, ⟨G', n', e', x3, gp'⟩, hpd⟩ hT
      have hTp : T ≠ p := fun z => by rw [z, hpd] at hT; cases hT
      refine ⟨T, [.str r.1, r.2], rfl, SqT.of upd_same, rfl, _, _, rfl, _, _, rfl, rfl, ?_⟩
      have n4 := n'.trans e' (Nw.own (o := .tup [.str r.1, r.2]) n'.le hT)
      have e4 := e'.trans (Ex.new (o := .tup [.str r.1, r.2]) hT)
      obtain ⟨pt, hpt, er, hpr⟩ := k3 n r hr
      have hn6 : n < 6 := (List.getElem?_eq_some_iff.mp hpt).1
      have shal := parts_shaped pt (List.mem_of_getElem? hpt)
      by_cases hn : n < L.length
      · obtain ⟨qq, hqq⟩ : ∃ qq, L[n]? = some qq := ⟨_, List.getElem?_eq_getElem hn⟩
        obtain ⟨pt', hpt', f1, f2⟩ := hk n qq hqq
        rw [hpt] at hpt'
        cases hpt'
        have er2 : r.1 = qq.1 := er.trans f1.symm
        have hps := hLat n qq hqq
        refine (c_callX (args := fun i : WdOk => [MP.ts K i.lines, MP.d K (.int i.i), MP.d K (.str i.q.1), MP.d K (.tuple (i.al.map PyData.str))]) (res := fun i => MP.d K (.str i.q.2)) ⟨pss.map lineT, n + 1, qq, pt.2, hat hps, ok _ (List.mem_of_getElem? hps), f2, shal⟩
          (c_cons (c_var rfl (hL (n3.ex.trans x3))) (c_cons (c_var rfl (.int _)) (c_cons (c_var rfl (by rw [er2]; exact .str _)) (c_cons (c_var rfl (hpr G')) c_nil))))) _ n4.le _ fun u G5 H5 e5 n5 p5 => ?_
        have eu := dp_str p5
        subst eu
        have hp5 : H5 p = some (.dK (kvD (L.take n))) := e5 _ _ (by rw [upd_ne (Ne.symm hTp)]; exact hpd)
        have gp5 : G5 p = none := n5.old p (by rw [upd_ne (Ne.symm hTp), hpd]; exact fun z => nomatch z) gp'
        have n6 := n4.trans e4 n5
        refine ⟨_, rfl, _, rfl, p, _, rfl, DPut.k (k := Sum.inr r.1) hp5 ?_, ?_⟩
        · unfold kvD
          rw [List.length_map, List.length_take]
          exact sz_lt (by omega)
        · refine ⟨_, rfl, _, _, rfl, rfl, hn, ⟨some (.str r.1), some r.2, rfl⟩, ⟨G5, ⟨n6.ex, n6.le.mut gp5, n6.old⟩, Ex.mut (e4.trans e5) hp0, x3.trans n5.ex, gp5⟩, ?_⟩
          rw [upd_same, put_kv, er2]
          rw [take_putL hk hqq]
      · have hnL : n = L.length := by omega
        rcases hend with ⟨hl, hbad, k⟩ | ⟨hl, _⟩
        · have hb : n + 1 = (pss.map lineT).length ∨ ∃ ps, (pss.map lineT)[n + 1]? = some (lineT ps) ∧ okP ps = true ∧ badWord pt.1 pt.2 ps = true := by
            rcases hbad pt (by rw [← hnL]; exact hpt) with h | ⟨ps, h1, h2⟩
            · exact .inl (by rw [List.length_map, hnL]; exact h)
            · rw [← hnL] at h1
              exact .inr ⟨ps, hat h1, ok _ (List.mem_of_getElem? h1), h2⟩
          refine (x_call (bad := fun j : WdBad => [MP.ts K j.lines, MP.d K (.int j.i), MP.d K (.str j.part), MP.d K (.tuple (j.al.map PyData.str))]) (zz := fun j : WdBad => (j.i : Int) + 1) ⟨pss.map lineT, n + 1, pt.1, pt.2, hb, key_ok pt (List.mem_of_getElem? hpt), shal⟩
            (c_cons (c_var rfl (hL (n3.ex.trans x3))) (c_cons (c_var rfl (.int _)) (c_cons (c_var rfl (by rw [er]; exact .str _)) (c_cons (c_var rfl (hpr G')) c_nil))))) _ n4.le (fun d H8 e8 hd => ?_) _
          have z := k d H8 (e4.trans e8) hd
          rw [← hnL] at z
          have ez : (((n + 1 : Nat) : Int) + 1) = (n : Int) + 2 := by omega
          show E _ _ (upd H8 d (.xd [("line", .int (((n + 1 : Nat) : Int) + 1))]))
          rw [ez]
          exact z
        · exact absurd hn6 (by omega)
    · rintro σ' H' ⟨hnl, ⟨x5, x6, rfl⟩, ⟨G', n', e', x3, gp'⟩, hpd⟩
      have hk6 : kvs.length = 6 := by
        have := congrArg List.length k1
        rw [List.length_map, List.length_map] at this
        exact this
      rw [hk6] at hpd hnl ⊢
      rcases hend with ⟨hl, _⟩ | ⟨hl, k⟩
      · omega
      · rw [List.take_of_length_le (by omega)] at hpd
        have n7 := Nw.keep n' gp' hp0 hpd
        have x7 : Ex G3 (upd G' p (.dK (kvD L))) := x3.trans (Ex.new gp')
        exact k al p v4 _ H' x5 x6 e' n7 (Dp.up x7 _ _ p3) (hL (n3.ex.trans x7)) upd_same
  · exact (x_call (bad := fun j : RowsBad => [MP.ts K j.lines]) (zz := fun j : RowsBad => 1) ⟨pss.map lineT, ps, hat r1, ok _ (List.mem_of_getElem? r1), bad⟩ (c_cons (c_var rfl (hL (Ex.refl _))) c_nil)) _ n2.le (fun d H8 e8 hd => k d H8 (e2.trans e8) hd) _
theorem badAt_word {n : Nat} {ps : List Str} {p : Str × List Str} (hn : n < 6) (hp : kvParts[n]? = some p) : badAt (n + 1) ps = badWord p.1 p.2 ps := by
  unfold badAt
  rw [if_neg (by omega), if_pos (by omega), Nat.add_sub_cancel, List.getD_eq_getElem?_getD, hp] <;> rfl
/-- the parts' lines up to m -/
theorem words_upto {pss : List (List Str)} : ∀ (m : Nat), m ≤ 6 → (∀ j, j < m → ∃ ps, pss[j + 1]? = some ps ∧ badAt (j + 1) ps = false) → ∃ L : List (Str × Str), okKvs L ∧ L.length = m ∧ ∀ n q, L[n]? = some q → pss[n + 1]? = some [q.1, q.2]
  | 0, _, _ => ⟨[], fun j q h => by simp at h, rfl, fun n q h => by simp at h⟩
  | m + 1, hm, h => by
    obtain ⟨L, k, l, at_⟩ := words_upto m (by omega) fun j hj => h j (by omega)
    obtain ⟨ps, e1, e2⟩ := h m (by omega)
    obtain ⟨p, hp⟩ : ∃ p, kvParts[m]? = some p := ⟨_, List.getElem?_eq_getElem (by show m < 6; omega)⟩
    rw [badAt_word (by omega) hp] at e2
    obtain ⟨s, es, hs⟩ := word_of_good e2
    refine ⟨L ++ [(p.1, s)], k.snoc l hp hs, by rw [List.length_append, l] <;> rfl, fun n q hq => ?_⟩
    rw [List.getElem?_append] at hq
    split at hq
    · exact at_ n q hq
    · next hlt =>
      have : n = m := by
        have := (List.getElem?_eq_some_iff.mp hq).1
        simp at this
        omega
      subst this
      rw [l, Nat.sub_self] at hq
      cases hq
      rw [e1, es]
theorem rd_readX (X : Ax K w c) {vs : List V} {H : Hp} {Q : VK} {E : XK} (h : sp_readX K w c vs H Q E) : t_readX K w c E (Dn Q) (vs.map some ++ List.replicate (8 - vs.length) none) H := by
  rcases h with ⟨b, G, e, ha, q⟩ | ⟨j, G, e, ha, q⟩
  · cases ha with
    | cons a1 ha =>
      cases ha
      rename_i x
      refine read_go X (pss := bkParts b.val) (okP_bk b.property) (fun z => nomatch z) (by show 8 ≤ 100; decide) a1 e (.inl ⟨b.val.rows, rfl, b.property, b.val.rule.kvs, fun j z hz => rule_word b.val.rule j z hz, by show 6 ≤ 6; decide, fun n z hz => ?_, .inr ⟨rfl, fun al p v4 G7 H7 x5 x6 e7 n7 p4 pl hp => ?_⟩⟩)
      · have hi := (List.getElem?_eq_some_iff.mp hz).1
        unfold bkParts
        rw [List.getElem?_cons_succ, List.getElem?_append_left (by rw [List.length_map]; exact hi), List.getElem?_map, hz] <;> rfl
      · have key : Cm (bd (t_readB K w c E) [some x, some (.ref al), some (.ref p), some (.int 7), some v4, x5, x6, none]) G7 (MP.bk K c b.val) := by
          refine b_asg (R := MP.d K (wordsD b.val)) (c_callX (args := fun i : WsOk => [MP.ts K i.lines, MP.d K (.int 7)]) (res := fun i => MP.d K (wordsD i.b)) ⟨(bkParts b.val).map lineT, b.val, rfl⟩ (c_cons (c_var rfl pl) (c_cons (c_var rfl (.int 7)) c_nil))) fun v7 G8 e8 p8 => ?_
          refine b_ifX (c_test (c_to (c_I0 (z := .bool false) (c_lenL (c_var rfl (Dp.up e8 _ _ pl))) (c_addI (c_var rfl (.int 7)) c_int) fun G => ?_) rfl)) (b_ret (c_mkBook b.val b.property (c_var rfl (Dp.up e8 _ _ p4)) (c_var (P := MP.dk b.val.rule.kvs) rfl ⟨p, rfl, e8 _ _ hp⟩) (c_var rfl p8)))
          exact .bl false
        exact key H7 n7.le Q fun v G8 H8 e8 n8 p8 => q v G8 H8 (e7.trans e8) (n7.trans e7 n8) p8
  · obtain ⟨pss, ok, ne, hlen, n, bad⟩ := j
    obtain ⟨i, en, good, stop⟩ := fw_at bad
    cases ha with
    | cons a1 ha =>
      cases ha
      rename_i x
      refine read_go X ok ne hlen a1 e ?_
      have q : ∀ d H', Ex H H' → H' d = none → E (.ref c.InvalidLine) (some d) (upd H' d (.xd [("line", .int ((0 + i + 1 : Nat) : Int))])) := by rw [← en]; exact q
      cases i with
      | zero =>
        rcases stop with ⟨s1, s2⟩ | ⟨ps, s1, s2⟩
        · exact absurd (List.eq_nil_of_length_eq_zero s1) ne
        · exact .inr ⟨ps, s1, s2, q⟩
      | succ i =>
        obtain ⟨p0, g1, g2⟩ := good 0 (by omega)
        obtain ⟨rows, r1, r2⟩ := rows_of_good (okP.ne (ok _ (List.mem_of_getElem? g1))) g2
        have good' : ∀ j, j < i → ∃ ps, pss[j + 1]? = some ps ∧ badAt (j + 1) ps = false := fun j hj => by
          obtain ⟨ps, z1, z2⟩ := good (j + 1) (by omega)
          rw [Nat.zero_add] at z2
          exact ⟨ps, z1, z2⟩
        by_cases hi : i < 6
        · obtain ⟨L, k1, k2, k3⟩ := words_upto i (by omega) good'
          refine .inl ⟨rows, by rw [g1, r1], r2, L, k1, by omega, k3, .inl ⟨by omega, fun p hp => ?_, fun d H' e' hd => ?_⟩⟩
          · rcases stop with ⟨s1, s2⟩ | ⟨ps, s1, s2⟩
            · exact .inl (by omega)
            · refine .inr ⟨ps, by rw [k2]; exact s1, ?_⟩
              rw [Nat.zero_add, badAt_word hi (by rw [← k2]; exact hp)] at s2
              exact s2
          · have z := q d H' e' hd
            have ez : ((0 + (i + 1) + 1 : Nat) : Int) = (L.length : Int) + 2 := by omega
            rw [ez] at z
            exact z
        · obtain ⟨L, k1, k2, k3⟩ := words_upto 6 (by omega) fun j hj => good' j (by omega)
          refine .inl ⟨rows, by rw [g1, r1], r2, L, k1, by omega, k3, .inr ⟨k2, fun al p v4 G7 H7 x5 x6 e7 n7 p4 pl hp => ?_⟩⟩
          have hat : ∀ {i ps}, pss[i]? = some ps → (pss.map lineT)[i]? = some (lineT ps) := fun h => by rw [List.getElem?_map, h] <;> rfl
          by_cases h7 : i = 6
          · subst h7
            have hb : (pss.map lineT).length = 7 ∨ ∃ ps, (pss.map lineT)[7]? = some (lineT ps) ∧ okP ps = true ∧ badWords ps = true := by
              rcases stop with ⟨s1, s2⟩ | ⟨ps, s1, s2⟩
              · exact .inl (by rw [List.length_map]; exact s1)
              · exact .inr ⟨ps, hat s1, ok _ (List.mem_of_getElem? s1), s2⟩
            exact (x_asgE (x_call (bad := fun j : WsBad => [MP.ts K j.lines, MP.d K (.int 7)]) (zz := fun _ : WsBad => 8) ⟨_, hb⟩ (c_cons (c_var rfl pl) (c_cons (c_var rfl (.int 7)) c_nil))) : Bad E c.InvalidLine "line" 8 (t_readB K w c E) [some x, some (.ref al), some (.ref p), some (.int 7), some v4, x5, x6, none] G7) H7 n7.le (fun d H' e8 hd => q d H' (e7.trans e8) hd) _
          · have h8 : i = 7 := by
              by_cases h9 : i = 7
              · exact h9
              · obtain ⟨ps, z1, z2⟩ := good 8 (by omega)
                cases z2
            subst h8
            obtain ⟨p7, w1, w2⟩ := good 7 (by omega)
            obtain ⟨j, s, w3⟩ := words_of_good (okP.ne (ok _ (List.mem_of_getElem? w1))) w2
            have hlen9 : 9 ≤ pss.length := by
              rcases stop with ⟨s1, s2⟩ | ⟨ps, s1, s2⟩
              · omega
              · have := (List.getElem?_eq_some_iff.mp s1).1
                omega
            refine (x_asg (R := MP.d K (wordsD ⟨rows, rule0, j, s⟩)) (c_callX (args := fun i : WsOk => [MP.ts K i.lines, MP.d K (.int 7)]) (res := fun i => MP.d K (wordsD i.b)) ⟨_, ⟨rows, rule0, j, s⟩, by rw [hat w1, w3 rows rule0]⟩ (c_cons (c_var rfl pl) (c_cons (c_var rfl (.int 7)) c_nil))) fun v7 G8 e8 p8 => x_ifT (c_test (c_to (c_I0 (z := .bool true) (c_lenL (c_var rfl (Dp.up e8 _ _ pl))) (c_addI (c_var rfl (.int 7)) c_int) fun G => ?_) rfl)) (x_raise (c_addI (c_var rfl (.int 7)) c_int)) : Bad E c.InvalidLine "line" 9 (t_readB K w c E) [some x, some (.ref al), some (.ref p), some (.int 7), some v4, x5, x6, none] G7) H7 n7.le (fun d H' e8 hd => q d H' (e7.trans e8) hd) _
            have e9 : decide ((7 : Int) + 1 < (((pss.map lineT).map PyData.str).length : Int)) = true := decide_eq_true (by rw [List.length_map, List.length_map]; omega)
            rw [e9]
            exact .bl true
end
end Ah
/-! Ah26: the law k15's own looks. -/
namespace Ah
open PySem PySem.Spec PyProof.Rows L2 Evl

def oI : Option Int → PyData
  | none => .none
  | some i => .int i
section
variable {K : PySem.W.Frag} {w : World} {c : Ad} {σ : L2.St} {G : Hp} {ta tb te td : TE} {d : PyData} {E : XK}
/-! ### values -/
theorem c_isiT {T1 T2 : String} {b1 b2 : Bool} (ha : Cm (ta σ) G (MP.d K d)) (h1 : kitB (tyD d) T1 = some b1) (h2 : kitB (tyD d) T2 = some b2) : Cm (tCB (rIsiG K) (tCons ta (tCons (tTup (tCons (tC (.ty T1)) (tCons (tC (.ty T2)) tNil))) tNil)) σ) G (MP.d K (.bool (b1 || b2))) := fun H e Q k =>
  ha H e _ fun x G1 H1 e1 n1 p1 => by
    refine ⟨sz_of (n := 2) (by decide), fun p hp => .inr ⟨x, p, [.ty T1, .ty T2], _, [.type T1, .type T2], b1 || b2, rfl, upd_same, .cons (.ty T1) (.cons (.ty T2) .nil), ty_of (Dp.up (n1.le.trans (Ex.new hp)) _ _ p1), ?_, k _ G1 _ (e1.trans (Ex.new hp)) ⟨n1.ex, n1.le.trans (Ex.new hp), n1.old⟩ (.bl _)⟩⟩
    cases b1 with
    | true => exact kitAny_cons (r := true) (kit_ty h1) (fun hb => Bool.noConfusion hb) (fun _ => rfl)
    | false => exact kitAny_cons (r := b2) (kit_ty h1) (fun _ => kitAny_cons (r := b2) (kit_ty h2) (fun hb2 => by rw [hb2] <;> rfl) fun hb2 => hb2) (fun hb => Bool.noConfusion hb)
theorem kit_oi (x : Option Int) : kitB (tyD (oI x)) "dict" = some false ∧ kitB (tyD (oI x)) "tuple" = some false ∧ kitB (tyD (oI x)) "list" = some false ∧ kitB (tyD (oI x)) "str" = some false ∧ kitB (tyD (oI x)) "int" = some x.isSome ∧ kitB (tyD (oI x)) "bool" = some false := by
  cases x
  · decide +kernel
  · exact ⟨by rfl, by rfl, by rfl, by rfl, by rfl, by rfl⟩
theorem oi_shaped (x : Option Int) : SeqAt.shaped (oI x) = true := by cases x <;> rfl
theorem oi_eqv (x y : Option Int) : PyData.eqv (oI x) (oI y) = decide (x = y) := by
  cases x <;> cases y
  · rfl
  · rfl
  · rfl
  · rename_i i j
    show (i == j) = decide (some i = some j)
    by_cases h : i = j <;> simp [h]
abbrev sp__law_alike (K : PySem.W.Frag) (w : World) (c : Ad) : Sp := spOf (ι := Option Int × Option Int) (fun i => [MP.d K (oI i.1), MP.d K (oI i.2)]) (fun i => MP.d K (.bool (decide (i.1 = i.2))))
theorem len__law_alike {vs : List V} {H : Hp} {Q : VK} {E : XK} (h : sp__law_alike K w c vs H Q E) : vs.length = 2 := spOf_len (by intro i; rfl) vs H Q E h
def t__law_alike (K : PySem.W.Frag) (w : World) (c : Ad) : TS :=
  (tSeq (tIfS (tB (tCB (rIsiG K) (tCons (tVar 1) (tCons (tC (.ty "dict")) tNil)))) tNever tNext)
    (tSeq (tIfS (tB (tCB (rIsiG K) (tCons (tVar 1) (tCons (tTup (tCons (tC (.ty "tuple")) (tCons (tC (.ty "list")) tNil))) tNil)))) tNever tNext)
    (tSeq (tIfS (tOr (tTest (tOp rIsN (tVar 1) (tC .non))) (tB (tCB (rIsiG K) (tCons (tVar 1) (tCons (tC (.ty "str")) tNil))))) (tRet (tAndV (tOp (rEqD K) (tVar 0) (tVar 1)) (tOp (rEqD K) (tCB (rIsiG K) (tCons (tVar 0) (tCons (tC (.ty "str")) tNil))) (tCB (rIsiG K) (tCons (tVar 1) (tCons (tC (.ty "str")) tNil)))))) tNext)
    (tRet (tAndV (tCB (rIsiG K) (tCons (tVar 0) (tCons (tC (.ty "int")) tNil))) (tAndV (tOp (rEqD K) (tCB (rIsiG K) (tCons (tVar 0) (tCons (tC (.ty "bool")) tNil))) (tCB (rIsiG K) (tCons (tVar 1) (tCons (tC (.ty "bool")) tNil)))) (tOp (rEqD K) (tVar 0) (tVar 1))))))))
theorem rd__law_alike {vs : List V} {H : Hp} {Q : VK} {E : XK} (h : sp__law_alike K w c vs H Q E) : t__law_alike K w c (Dn Q) (vs.map some ++ List.replicate (3 - vs.length) none) H := by
  obtain ⟨⟨f, d⟩, G, e, ha, q⟩ := h
  cases ha with
  | cons a1 ha => cases ha with
    | cons a2 ha =>
      cases ha
      rename_i x y
      have h1 : Cm (tVar 0 [some x, some y, none]) G (MP.d K (oI f)) := c_var rfl a1
      have h2 : Cm (tVar 1 [some x, some y, none]) G (MP.d K (oI d)) := c_var rfl a2
      obtain ⟨f1, f2, f3, f4, f5, f6⟩ := kit_oi f
      obtain ⟨d1, d2, d3, d4, d5, d6⟩ := kit_oi d
      refine (b_ifN (c_tB (c_isi h2 d1)) (b_ifN (c_tB (c_isiT h2 d2 d3)) ?_) : Cm (bd (t__law_alike K w c) [some x, some y, none]) G (MP.d K (.bool (decide (f = d))))) H e Q q
      cases d with
      | none =>
        refine b_if (b := true) (c_teq (c_tor (a := true) (b := false) (c_test (c_isN h2)) fun z => absurd z.symm Bool.false_ne_true) rfl) (fun _ => b_rets ?_) fun z => absurd z.symm Bool.false_ne_true
        refine c_to (c_andV (c_eq h1 h2 (oi_shaped f) rfl) fun _ => c_eq (c_isi h1 f4) (c_isi h2 d4) rfl rfl) ?_
        rw [oi_eqv]
        cases decide (f = none) <;> rfl
      | some i =>
        refine b_if (b := false) (c_teq (c_tor (a := false) (c_test (c_isN h2)) fun _ => c_tB (c_isi h2 d4)) rfl) (fun z => absurd z Bool.false_ne_true) fun _ => b_nexts (b_ret ?_)
        refine c_to (c_andV (c_isi h1 f5) fun _ => c_andV (c_eq (c_isi h1 f6) (c_isi h2 d6) rfl rfl) fun _ => c_eq h1 h2 (oi_shaped f) rfl) ?_
        rw [oi_eqv]
        cases f with
        | none => rfl
        | some j => cases decide (some j = some i) <;> rfl
/-! ### _law_is_line -/
structure LnIn where
  ps : List Str
  k : Nat
  ok : okP ps = true
  hk : k ≤ 1000
abbrev sp__law_is_line (K : PySem.W.Frag) (w : World) (c : Ad) : Sp := spOf (ι := LnIn) (fun i => [MP.ts K i.ps, MP.d K (.int i.k)]) (fun i => MP.d K (.bool (!badAt i.k i.ps)))
theorem len__law_is_line {vs : List V} {H : Hp} {Q : VK} {E : XK} (h : sp__law_is_line K w c vs H Q E) : vs.length = 2 := spOf_len (by intro i; rfl) vs H Q E h
def t__law_is_line (K : PySem.W.Frag) (w : World) (c : Ad) : TS :=
  (tSeq (tIfS (tTest (tOp (rEqD K) (tVar 1) (tC (.int 0)))) (tSeq (tIfS (tOr (tTest (tOp (rNeD K) (tOp (rIx K) (tVar 0) (tC (.int 0))) (tC (.str "rows")))) (tTest (tOp (rInG K true) (tCB (rLenG K) (tCons (tVar 0) tNil)) (tLst (tCons (tC (.int 2)) (tCons (tC (.int 3)) tNil)))))) (tRet (tC (.bl false))) tNext)
    (tRet (tOp (rEqD K) (tLc (iSeq K (tSl (rSlG K) (tVar 0) (tPart (tC (.int 1))) tNoPart)) (gName 3) (tTest (tOp (rInG K true) (tVar 3) (tLst (tCons (tC (.str "a1")) (tCons (tC (.str "a2")) (tCons (tC (.str "b1")) (tCons (tC (.str "b2")) tNil))))))) (tVar 3) [3]) (tLst tNil)))) tNext)
    (tSeq (tIfS (tTest (tOp rLtI (tVar 1) (tC (.int 7)))) (tSeq (tAsg (tOp (rIx K) (tCall (sp__law_parts K w c) [] E0 tNil) (tOp rSubI (tVar 1) (tC (.int 1)))) (gName 2))
    (tRet (tAndV (tOp (rEqD K) (tCB (rLenG K) (tCons (tVar 0) tNil)) (tC (.int 2))) (tAndV (tOp (rEqD K) (tOp (rIx K) (tVar 0) (tC (.int 0))) (tOp (rIx K) (tVar 2) (tC (.int 0)))) (tOp (rInG K false) (tOp (rIx K) (tVar 0) (tC (.int 1))) (tSl (rSlG K) (tVar 2) (tPart (tC (.int 1))) tNoPart)))))) tNext)
    (tSeq (tIfS (tOr (tTest (tOp rGtI (tVar 1) (tC (.int 7)))) (tTest (tOp (rNeD K) (tOp (rIx K) (tVar 0) (tC (.int 0))) (tC (.str "words"))))) (tRet (tC (.bl false))) tNext)
    (tRet (tOp (rInG K false) (tSl (rSlG K) (tVar 0) (tPart (tC (.int 1))) tNoPart) (tLst (tCons (tLst tNil) (tCons (tLst (tCons (tC (.str "join")) tNil)) (tCons (tLst (tCons (tC (.str "sweep")) tNil)) (tCons (tLst (tCons (tC (.str "join")) (tCons (tC (.str "sweep")) tNil))) tNil))))))))))
theorem seq_ret {t1 : TE} {t : TS} {P : MP V} (h : Cm (bd (tRet t1) σ) G P) : Cm (bd (tSeq (tRet t1) t) σ) G P := h
theorem b_if2 {tt : TT} {t tr : TS} {P : MP V} {b : Bool} (h : Cm (tt σ) G (MP.eq b)) (h1 : b = true → Cm (bd (tSeq t tr) σ) G P) (h2 : b = false → Cm (bd tr σ) G P) : Cm (bd (tSeq (tIfS tt t tNext) tr) σ) G P := b_if h h1 fun z => b_nexts (h2 z)
theorem tail_words (t : List Str) : ([PyData.list [], .list [.str "join"], .list [.str "sweep"], .list [.str "join", .str "sweep"]].any fun z => PyData.eqv z (.list (t.map PyData.str))) = decide (wordNames.filter (fun x => decide (x ∈ t)) = t) := by
  have e1 : ∀ l : List Str, PyData.eqv (.list (l.map PyData.str)) (.list (t.map PyData.str)) = decide (l = t) := fun l => eqv_strs l t
  have a0 := e1 []
  have a1 := e1 ["join"]
  have a2 := e1 ["sweep"]
  have a3 := e1 ["join", "sweep"]
  simp only [List.map_cons, List.map_nil] at a0 a1 a2 a3
  simp only [List.any_cons, List.any_nil, a0, a1, a2, a3, Bool.or_false]
  unfold wordNames
  simp only [List.filter_cons, List.filter_nil]
  by_cases j : ("join" : Str) ∈ t <;> by_cases s : ("sweep" : Str) ∈ t <;> simp only [j, s, decide_true, decide_false, if_true, Bool.false_eq_true, if_false]
  · have n0 : ¬ ([] : List Str) = t := fun e => by rw [← e] at j; cases j
    have n1 : ¬ [("join" : Str)] = t := fun e => by rw [← e] at s; exact absurd (List.mem_singleton.mp s) (by decide +kernel)
    have n2 : ¬ [("sweep" : Str)] = t := fun e => by rw [← e] at j; exact absurd (List.mem_singleton.mp j) (by decide +kernel)
    simp [n0, n1, n2]
  · have n0 : ¬ ([] : List Str) = t := fun e => by rw [← e] at j; cases j
    have n2 : ¬ [("sweep" : Str)] = t := fun e => by rw [← e] at s; exact s (List.mem_singleton.mpr rfl)
    have n3 : ¬ [("join" : Str), "sweep"] = t := fun e => by rw [← e] at s; exact s (List.mem_cons_of_mem _ (List.mem_singleton.mpr rfl))
    simp [n0, n2, n3]
  · have n0 : ¬ ([] : List Str) = t := fun e => by rw [← e] at s; cases s
    have n1 : ¬ [("join" : Str)] = t := fun e => by rw [← e] at j; exact j (List.mem_singleton.mpr rfl)
    have n3 : ¬ [("join" : Str), "sweep"] = t := fun e => by rw [← e] at j; exact j (List.mem_cons_self ..)
    simp [n0, n1, n3]
  · have n1 : ¬ [("join" : Str)] = t := fun e => by rw [← e] at j; exact j (List.mem_singleton.mpr rfl)
    have n2 : ¬ [("sweep" : Str)] = t := fun e => by rw [← e] at s; exact s (List.mem_singleton.mpr rfl)
    have n3 : ¬ [("join" : Str), "sweep"] = t := fun e => by rw [← e] at j; exact j (List.mem_cons_self ..)
    simp [n1, n2, n3]
theorem rd__law_is_line {vs : List V} {H : Hp} {Q : VK} {E : XK} (h : sp__law_is_line K w c vs H Q E) : t__law_is_line K w c (Dn Q) (vs.map some ++ List.replicate (4 - vs.length) none) H := by
  obtain ⟨⟨ps, k, ok, hk⟩, G, e, ha, q⟩ := h
  cases ha with
  | cons a1 ha => cases ha with
    | cons a2 ha =>
      cases ha
      rename_i x y
      have h1 : ∀ {G2 : Hp} {a b : Option V}, Ex G G2 → Cm (tVar 0 [some x, some y, a, b]) G2 (MP.ts K ps) := fun e2 => c_var rfl (Dp.up e2 _ _ a1)
      have h2 : Cm (tVar 1 [some x, some y, none, none]) G (MP.d K (.int k)) := c_var rfl a2
      have hl := (okP.and ok).1
      have hl0 : 1 ≤ ps.length := by
        have := okP.ne ok
        cases ps with
        | nil => exact absurd rfl this
        | cons a r => simp
      refine (b_if2 (b := decide (k = 0)) (c_teq (c_test (c_eq h2 c_int rfl rfl)) ?_) (fun hz => ?_) (fun hz => ?_) : Cm (bd (t__law_is_line K w c) [some x, some y, none, none]) G (MP.d K (.bool (!badAt k ps)))) H e Q q
      · show (((k : Nat) : Int) == 0) = decide (k = 0)
        by_cases h : k = 0
        · rw [h]; rfl
        · rw [decide_eq_false h, beq_eq_false_iff_ne.mpr (by omega)]
      · have hz : k = 0 := of_decide_eq_true hz
        subst hz
        have eb : badAt 0 ps = badRows ps := rfl
        rw [eb]
        have hin : Cm (tTest (tOp (rInG K true) (tCB (rLenG K) (tCons (tVar 0) tNil)) (tLst (tCons (tC (.int 2)) (tCons (tC (.int 3)) tNil)))) [some x, some y, none, none]) G (MP.eq (!(decide ((2 : Int) ≤ (ps.length : Int)) && decide ((ps.length : Int) ≤ 3)))) := by
          refine c_teq (c_test (c_inL (n := true) (c_lenL (h1 (Ex.refl _))) (c_lst (c_dcons c_int (c_dcons c_int c_dnil)) (by show 2 ≤ 100000; decide)) rfl rfl)) ?_
          rw [List.length_map]
          match ps.length, hl, hl0 with
          | 1, _, _ => rfl
          | 2, _, _ => rfl
          | 3, _, _ => rfl
          | 4, _, _ => rfl
        refine b_seqA (b_if2 (c_tor (c_neHd ok (h1 (Ex.refl _)) c_str (by decide +kernel)) fun _ => hin) (fun hb => b_rets (c_to (c_bl (b := false)) ?_)) (fun hb => b_rets ?_))
        · refine congrArg PyData.bool ?_
          unfold badRows
          rw [← Bool.or_assoc, hb] <;> rfl
        · have hf : (((ps.drop 1).map PyData.str).filter (fun d => !([PyData.str "a1", .str "a2", .str "b1", .str "b2"].any fun z => PyData.eqv z d))).map (fun d => d) = ((ps.drop 1).filter fun x => !decide (x ∈ rowNames)).map PyData.str := by
            rw [List.map_id', List.filter_map]
            refine congrArg (List.map PyData.str) (List.filter_congr fun x _ => ?_)
            exact congrArg (fun b => !b) (any_dec x rowNames)
          have hc : Cm (tLc (iSeq K (tSl (rSlG K) (tVar 0) (tPart (tC (.int 1))) tNoPart)) (gName 3) (tTest (tOp (rInG K true) (tVar 3) (tLst (tCons (tC (.str "a1")) (tCons (tC (.str "a2")) (tCons (tC (.str "b1")) (tCons (tC (.str "b2")) tNil))))))) (tVar 3) [3] [some x, some y, none, none]) G (MP.d K (.list (((ps.drop 1).filter fun x => !decide (x ∈ rowNames)).map PyData.str))) := by
            rw [← hf]
            refine l_d (c_lcL (c_tlP ok (h1 (Ex.refl _))) (by rw [List.length_map, List.length_drop]; omega) fun v d G5 eG hm hw => ct_name rfl (c_test (c_to (c_inL (n := true) (c_var (P := MP.d K d) rfl hw) (c_lst (c_dcons c_str (c_dcons c_str (c_dcons c_str (c_dcons c_str c_dnil)))) (by show 4 ≤ 100000; decide)) ?_ (by decide +kernel)) rfl)) fun _ => c_var (P := MP.d K d) rfl hw)
            obtain ⟨z, hz, rfl⟩ := List.mem_map.mp hm
            exact okT.sh (okP.tlT ok z hz)
          refine c_to (c_eq hc (c_lst c_dnil (by show 0 ≤ 100000; decide)) (strs_shaped fun z hz => okT.sh (okP.tlT ok z (List.mem_filter.mp hz).1)) rfl) (congrArg PyData.bool ?_)
          have e2 : PyData.eqv (.list (((ps.drop 1).filter fun x => !decide (x ∈ rowNames)).map PyData.str)) (.list []) = decide (((ps.drop 1).filter fun x => !decide (x ∈ rowNames)) = []) := eqv_strs _ []
          rw [e2]
          unfold badRows
          rw [← Bool.or_assoc, hb, Bool.false_or, Bool.not_not]
          rw [Bool.eq_iff_iff, decide_eq_true_eq, List.filter_eq_nil_iff, List.all_eq_true]
          exact forall_congr' fun z => forall_congr' fun _ => by simp
      · have hz : ¬ k = 0 := of_decide_eq_false hz
        refine b_if2 (b := decide (k < 7)) (c_test (c_I0 (z := .bool (decide (k < 7))) h2 c_int fun G => ?_)) (fun h7 => ?_) (fun h7 => ?_)
        · have : decide ((k : Int) < 7) = decide (k < 7) := by
            by_cases h : k < 7
            · rw [decide_eq_true h, decide_eq_true (by omega)]
            · rw [decide_eq_false h, decide_eq_false (by omega)]
          rw [this]
          exact .bl _
        · have h7 : k < 7 := of_decide_eq_true h7
          obtain ⟨p, hp⟩ : ∃ p, kvParts[k - 1]? = some p := ⟨_, List.getElem?_eq_getElem (by show k - 1 < 6; omega)⟩
          have eb : badAt k ps = badWord p.1 p.2 ps := by
            have := badAt_word (n := k - 1) (ps := ps) (by omega) hp
            rwa [Nat.sub_add_cancel (by omega)] at this
          rw [eb]
          have hpm := List.mem_of_getElem? hp
          have hpd : (partsL.map fun l => PyData.list (l.map PyData.str))[k - 1]? = some (.list (.str p.1 :: p.2.map PyData.str)) := by
            have e : (partsL.map fun l => PyData.list (l.map PyData.str)) = kvParts.map fun p => .list (.str p.1 :: p.2.map PyData.str) := rfl
            rw [e, List.getElem?_map, hp] <;> rfl
          refine b_seqA (b_asg (R := MP.ts K (p.1 :: p.2)) (c_ixL (i := (k : Int) - 1) (d := .list (.str p.1 :: p.2.map PyData.str)) (l_d (c_call (args := fun _ : Unit => []) (res := fun _ => MP.l K _) () c_nil)) (c_I0 (z := .int ((k : Int) - 1)) h2 c_int fun G => .int _) (atI_of (by omega) rfl ?_)) fun v G3 e3 p3 => b_rets ?_)
          · rw [show ((k : Int) - 1).toNat = k - 1 by omega]
            exact hpd
          · have hv : Cm (tVar 2 [some x, some y, some v, none]) G3 (MP.ts K (p.1 :: p.2)) := c_var rfl p3
            have hx := h1 (a := some v) (b := none) e3
            refine c_to (c_andV (a := decide (ps.length = 2)) (c_to (c_eq (c_lenL hx) c_int rfl rfl) ?_) fun h => c_andV (c_eq (c_hdP ok hx) (c_hd hv) (okT.sh (okP.hd ok)) (key_ok p hpm)) fun _ => (?_ : Cm _ _ (MP.d K (.bool (decide ((ps.drop 1).headD "" ∈ p.2)))))) ?_
            · rw [List.length_map]
              refine congrArg PyData.bool ?_
              show (((ps.length : Nat) : Int) == 2) = decide (ps.length = 2)
              by_cases h : ps.length = 2
              · rw [h]; rfl
              · rw [decide_eq_false h, beq_eq_false_iff_ne.mpr (by omega)]
            · have h : ps.length = 2 := of_decide_eq_true h
              match ps, h with
              | [a, b], _ =>
                have hb : okT b = true := (okP.and ok).2.1 b (List.mem_cons_of_mem _ (List.mem_cons_self ..))
                refine c_to (c_inL (n := false) (c_ixL (i := 1) (d := .str b) hx c_int rfl) (c_tl hv) (okT.sh hb) (parts_shaped p hpm)) (congrArg PyData.bool ?_)
                show (List.any _ _) = _
                rw [any_dec] <;> rfl
            · refine congrArg PyData.bool ?_
              unfold badWord
              rw [eqv_strE]
              cases decide (ps.length = 2) <;> cases decide (ps.headD "" = p.1) <;> cases decide ((ps.drop 1).headD "" ∈ p.2) <;> rfl
        · have h7 : ¬ k < 7 := of_decide_eq_false h7
          refine b_if2 (b := decide (7 < k) || !(decide (ps.headD "" = "words"))) (c_tor (c_test (c_I0 (z := .bool (decide (7 < k))) h2 c_int fun G => ?_)) fun _ => c_neHd ok (h1 (Ex.refl _)) c_str (by decide +kernel)) (fun hb => b_rets (c_to (c_bl (b := false)) ?_)) (fun hb => b_ret ?_)
          · have : decide ((7 : Int) < (k : Int)) = decide (7 < k) := by
              by_cases h : 7 < k
              · rw [decide_eq_true h, decide_eq_true (by omega)]
              · rw [decide_eq_false h, decide_eq_false (by omega)]
            rw [this]
            exact .bl _
          · refine congrArg PyData.bool ?_
            unfold badAt
            rw [if_neg hz, if_neg h7]
            by_cases h8 : k = 7
            · subst h8
              rw [if_pos rfl]
              have hb : (!(decide (ps.headD "" = "words"))) = true := hb
              unfold badWords
              rw [hb] <;> rfl
            · rw [if_neg h8] <;> rfl
          · obtain ⟨hb1, hb2⟩ := Bool.or_eq_false_iff.mp hb
            have h8 : k = 7 := by
              have := of_decide_eq_false hb1
              omega
            subst h8
            have e3 : badAt 7 ps = badWords ps := rfl
            rw [e3]
            have shT : SeqAt.shaped (.list ((ps.drop 1).map PyData.str)) = true := strs_shaped fun z hz => okT.sh (okP.tlT ok z hz)
            refine c_to (c_inL (n := false) (c_tlP ok (h1 (Ex.refl _))) (c_lst (c_dcons (c_lst c_dnil (by show 0 ≤ 100000; decide)) (c_dcons (c_lst (c_dcons c_str c_dnil) (by show 1 ≤ 100000; decide)) (c_dcons (c_lst (c_dcons c_str c_dnil) (by show 1 ≤ 100000; decide)) (c_dcons (c_lst (c_dcons c_str (c_dcons c_str c_dnil)) (by show 2 ≤ 100000; decide)) c_dnil)))) (by show 4 ≤ 100000; decide)) shT (by decide +kernel)) (congrArg PyData.bool ?_)
            show (List.any _ _) = _
            rw [tail_words]
            unfold badWords
            rw [hb2, Bool.false_or, Bool.not_not]
end
end Ah
/-! Ah27: the first wrong line, by the law; what read answers. -/
namespace Ah
open PySem PySem.Spec PyProof.Rows L2 Evl

section
variable {K : PySem.W.Frag} {w : World} {c : Ad} {σ : L2.St} {G : Hp} {ta tb te td : TE} {d : PyData} {E : XK}
structure PsIn where
  pss : List (List Str)
  ok : ∀ ps ∈ pss, okP ps = true
  len : pss.length ≤ 100
def fwI (pss : List (List Str)) : Option Int := Option.map (fun n : Nat => (n : Int)) (fw 0 pss)
theorem fw_drop : ∀ (pss : List (List Str)) (k : Nat), (∀ j, j < k → ∃ ps, pss[j]? = some ps ∧ badAt j ps = false) → fw 0 pss = fw k (pss.drop k) := by
  have gen : ∀ (k : Nat) (pss : List (List Str)) (b : Nat), (∀ j, j < k → ∃ ps, pss[j]? = some ps ∧ badAt (b + j) ps = false) → fw b pss = fw (b + k) (pss.drop k) := fun k => by
    induction k with
    | zero => exact fun pss b _ => rfl
    | succ k ih =>
      intro pss b h
      match pss, h 0 (by omega) with
      | p :: r, ⟨ps, e1, e2⟩ =>
        cases e1
        have e2 : badAt b p = false := e2
        show (if badAt b p then some (b + 1) else fw (b + 1) r) = fw (b + (k + 1)) (r.drop k)
        rw [e2, if_neg Bool.false_ne_true, ih r (b + 1) fun j hj => ?_, Nat.add_right_comm b 1 k, Nat.add_assoc b k 1]
        obtain ⟨ps, z1, z2⟩ := h (j + 1) (by omega)
        exact ⟨ps, by simpa using z1, by rw [show b + 1 + j = b + (j + 1) by omega]; exact z2⟩
  intro pss k h
  have := gen k pss 0 fun j hj => by
    obtain ⟨ps, e1, e2⟩ := h j hj
    exact ⟨ps, e1, by rw [Nat.zero_add]; exact e2⟩
  rwa [Nat.zero_add] at this
abbrev sp__law_first_wrong (K : PySem.W.Frag) (w : World) (c : Ad) : Sp := spOf (ι := PsIn) (fun i => [MP.ts K (i.pss.map lineT)]) (fun i => MP.d K (oI (fwI i.pss)))
theorem len__law_first_wrong {vs : List V} {H : Hp} {Q : VK} {E : XK} (h : sp__law_first_wrong K w c vs H Q E) : vs.length = 1 := spOf_len (by intro i; rfl) vs H Q E h
def t__law_first_wrong (K : PySem.W.Frag) (w : World) (c : Ad) : TS :=
  (tSeq (tFor (iRng1 (tCons (tCB (rLenG K) (tCons (tVar 0) tNil)) tNil)) (gName 1)
    (tIfS (tNot (tB (tCall (sp__law_is_line K w c) [] E0 (tCons (tM1 rSplit (tOp (rIx K) (tVar 0) (tVar 1)) (tC (.str " "))) (tCons (tVar 1) tNil))))) (tRet (tOp (rAddG K) (tVar 1) (tC (.int 1)))) tNext))
    (tRet (tIf (tTest (tOp rLtI (tCB (rLenG K) (tCons (tVar 0) tNil)) (tC (.int 8)))) (tOp (rAddG K) (tCB (rLenG K) (tCons (tVar 0) tNil)) (tC (.int 1))) (tC .non))))
theorem rd__law_first_wrong {vs : List V} {H : Hp} {Q : VK} {E : XK} (h : sp__law_first_wrong K w c vs H Q E) : t__law_first_wrong K w c (Dn Q) (vs.map some ++ List.replicate (2 - vs.length) none) H := by
  obtain ⟨⟨pss, ok, len⟩, G, e, ha, q⟩ := h
  cases ha with
  | cons a1 ha =>
    cases ha
    rename_i x
    have h0 : ∀ {G2 : Hp} {v : Option V}, Ex G G2 → Cm (tVar 0 [some x, v]) G2 (MP.ts K (pss.map lineT)) := fun e2 => c_var rfl (Dp.up e2 _ _ a1)
    have hL : ∀ {G2 : Hp} {v : Option V}, Ex G G2 → Cm (tCB (rLenG K) (tCons (tVar 0) tNil) [some x, v]) G2 (MP.d K (.int pss.length)) := fun e2 => c_to (c_lenL (h0 e2)) (by rw [List.length_map, List.length_map])
    obtain ⟨ar, xs, rfl, hx, hxs⟩ := dp_lst a1
    have hxl : xs.length = pss.length := by rw [DpAll.length hxs, List.length_map, List.length_map]
    refine ⟨_, rfl, _, xs.length, rfl, .inl ⟨_, ex_l e hx, rfl⟩, xs.length, rfl, by omega, by omega, ?_⟩
    rw [hxl]
    have n1 : Nw H G G H := Nw.refl e
    generalize hxx : V.ref ar = x at *
    · skip
      refine for_range (lo := 0) (n := ((pss.length : Nat) : Int).toNat) (fun k σ H' => (∃ v, σ = [some x, v]) ∧ (∃ G', Nw H G G' H' ∧ Ex H H') ∧ ∀ j, j < k → ∃ ps, pss[j]? = some ps ∧ badAt j ps = false) ⟨⟨none, rfl⟩, ⟨G, n1, Ex.refl H⟩, fun j hj => absurd hj (Nat.not_lt_zero _)⟩ ?_ ?_
      · rintro k σ H' hk ⟨⟨v, rfl⟩, ⟨G', n', e'⟩, good⟩
        have hk : k < pss.length := by omega
        obtain ⟨ps, hps⟩ : ∃ ps, pss[k]? = some ps := ⟨_, List.getElem?_eq_getElem hk⟩
        have okps := ok _ (List.mem_of_getElem? hps)
        have e0 : (0 : Int) + (k : Int) = (k : Int) := Int.zero_add _
        rw [e0]
        have h1 : ∀ {G2 : Hp}, Cm (tVar 1 [some x, some (.int k)]) G2 (MP.d K (.int k)) := c_var rfl (.int _)
        have hs : Cm (tM1 rSplit (tOp (rIx K) (tVar 0) (tVar 1)) (tC (.str " ")) [some x, some (.int k)]) G' (MP.ts K ps) := by
          have hs := split_line okps
          rw [← hs]
          refine l_d (c_split (c_ixL (h0 n'.ex) h1 (atI_of (by omega) rfl ?_)) c_str (by decide +kernel) ?_)
          · rw [Int.toNat_natCast, List.getElem?_map, List.getElem?_map, hps] <;> rfl
          · have := (okP.and okps).2.2.1
            omega
        change tIfS _ _ _ _ _ _
        refine (c_tnot (c_tB (c_call (args := fun i : LnIn => [MP.ts K i.ps, MP.d K (.int i.k)]) (res := fun i => MP.d K (.bool (!badAt i.k i.ps))) ⟨ps, k, okps, by omega⟩ (c_cons hs (c_cons h1 c_nil)))) : Cm _ G' (MP.eq (!(!badAt k ps)))) H' n'.le _ fun b G3 H3 e3 n3 p3 => ?_
        have p3 : b = !(!badAt k ps) := p3
        rw [Bool.not_not] at p3
        subst p3
        cases hb : badAt k ps with
        | true =>
          refine iteT ?_
          have en : fwI pss = some ((k : Int) + 1) := by
            unfold fwI
            rw [fw_drop pss k good, List.drop_eq_getElem_cons hk]
            have ep : pss[k] = ps := by
              have := List.getElem?_eq_getElem hk
              rw [hps] at this
              exact (Option.some.inj this).symm
            rw [ep]
            show Option.map (fun n : Nat => (n : Int)) (if badAt k ps = true then some (k + 1) else _) = _
            rw [hb, if_pos rfl] <;> rfl
          refine ⟨_, rfl, u_addI (q _ G3 H3 (e'.trans e3) (n'.trans e' n3) ?_)⟩
          show Dp K G3 _ (oI (fwI pss))
          rw [en]
          exact .int _
        | false =>
          refine iteF ⟨⟨_, rfl⟩, ⟨G3, n'.trans e' n3, e'.trans e3⟩, fun j hj => ?_⟩
          by_cases hjk : j = k
          · subst hjk; exact ⟨ps, hps, hb⟩
          · exact good j (by omega)
      · rintro σ H' ⟨⟨v, rfl⟩, ⟨G', n', e'⟩, good⟩
        rw [Int.toNat_natCast] at good
        have en : fw 0 pss = fw pss.length [] := by rw [fw_drop pss _ good, List.drop_length]
        have key : Cm (tIf (tTest (tOp rLtI (tCB (rLenG K) (tCons (tVar 0) tNil)) (tC (.int 8)))) (tOp (rAddG K) (tCB (rLenG K) (tCons (tVar 0) tNil)) (tC (.int 1))) (tC .non) [some x, v]) G' (MP.d K (oI (fwI pss))) := by
          refine c_if (b := decide (pss.length < 8)) (c_test (c_I0 (z := .bool (decide (pss.length < 8))) (hL n'.ex) c_int fun G => ?_)) (fun h8 => ?_) (fun h8 => ?_)
          · have : decide ((pss.length : Int) < 8) = decide (pss.length < 8) := by
              by_cases h : pss.length < 8
              · rw [decide_eq_true h, decide_eq_true (by omega)]
              · rw [decide_eq_false h, decide_eq_false (by omega)]
            rw [this]
            exact .bl _
          · have h8 := of_decide_eq_true h8
            have : fwI pss = some ((pss.length : Int) + 1) := by
              unfold fwI
              rw [en]
              show Option.map (fun n : Nat => (n : Int)) (if pss.length < 8 then some (pss.length + 1) else none) = _
              rw [if_pos h8] <;> rfl
            rw [this]
            exact c_addI (hL n'.ex) c_int
          · have h8 := of_decide_eq_false h8
            have : fwI pss = none := by
              unfold fwI
              rw [en]
              show Option.map (fun n : Nat => (n : Int)) (if pss.length < 8 then some (pss.length + 1) else none) = _
              rw [if_neg h8] <;> rfl
            rw [this]
            exact c_non
        exact key H' n'.le _ fun v G3 H3 e3 n3 p3 => q v G3 H3 (e'.trans e3) (n'.trans e' n3) p3
/-! ### _law_answer -/
structure Axx (K : PySem.W.Frag) (w : World) (c : Ad) : Prop where
  ie : PySem.W.exmOne K (.ref c.InvalidLine) (.ref c.InvalidLine) = some true
  ik : PySem.W.kitOne K (.ref c.InvalidLine) (.ref c.AheadError) = some true
abbrev sp__law_answer (K : PySem.W.Frag) (w : World) (c : Ad) : Sp := spOf (ι := { i : PsIn // i.pss ≠ [] }) (fun i => [MP.d K (.str (textOf i.val.pss))]) (fun i => MP.d K (oI (fwI i.val.pss)))
theorem len__law_answer {vs : List V} {H : Hp} {Q : VK} {E : XK} (h : sp__law_answer K w c vs H Q E) : vs.length = 1 := spOf_len (by intro i; rfl) vs H Q E h
def t_suite (K : PySem.W.Frag) (w : World) (c : Ad) : Addr → Value → Option Addr → TS := fun a cls d =>
  tAsg (tIf (tB (tCB (rIsD K c.InvalidLine a cls d) (tCons (tVar 2) (tCons (tC (.ref c.AheadError)) tNil)))) (tXf a cls d c.InvalidLine "line" (tVar 2)) (tUn (rU fun i => .int (-i)) (tC (.int 1)))) (gName 1)
def t_try (K : PySem.W.Frag) (w : World) (c : Ad) : TS := fun D σ H => tDrop (tCallS (sp_readX K w c) (WE (wAs K (.ref c.InvalidLine) 2 (t_suite K w c) (fun _ _ _ _ => False) D)) (tCons (tVar 0) tNil)) D σ H
def t__law_answer (K : PySem.W.Frag) (w : World) (c : Ad) : TS :=
  (tSeq (tAsg (tC .non) (gName 1)) (tSeq (t_try K w c) (tRet (tVar 1))))
theorem rd__law_answer (X : Axx K w c) {vs : List V} {H : Hp} {Q : VK} {E : XK} (h : sp__law_answer K w c vs H Q E) : t__law_answer K w c (Dn Q) (vs.map some ++ List.replicate (3 - vs.length) none) H := by
  obtain ⟨⟨⟨pss, ok, len⟩, ne⟩, G, e, ha, q⟩ := h
  have ne : pss ≠ [] := ne
  cases ha with
  | cons a1 ha =>
    cases ha
    rename_i x
    refine ⟨_, rfl, ?_⟩
    cases hf : fw 0 pss with
    | none =>
      obtain ⟨b, hb⟩ := book_of ok hf
      have a1 : Dp K G x (.str (bkText b.val)) := by
        have : textOf pss = bkText b.val := by rw [hb] <;> rfl
        rw [← this]; exact a1
      refine .inl ⟨b, G, e, .cons a1 .nil, fun v G' H' e1 n1 p1 => ⟨_, rfl, q .non G' H' e1 n1 ?_⟩⟩
      show Dp K G' .non (oI (fwI pss))
      unfold fwI
      rw [hf]
      exact .non
    | some n =>
      refine .inr ⟨⟨pss, ok, ne, len, n, hf⟩, G, e, .cons a1 .nil, fun d H' e1 hd => ?_⟩
      refine ⟨true, X.ie, fun _ a ha => ?_, fun z => Bool.noConfusion z⟩
      refine ⟨_, rfl, ⟨_, _, true, d, _, rfl, rfl, rfl, upd_same, fun u r => ?_, X.ik, _, rfl, ?_⟩⟩
      · exact r
      · refine iteT ⟨_, rfl, rfl, rfl, d, _, .int n, rfl, upd_same, ?_, ?_⟩
        · rw [List.lookup_cons, beq_self_eq_true]
        · refine ⟨_, rfl, q (.int n) G _ (e1.trans (Ex.new hd)) ⟨Ex.refl G, e.trans (e1.trans (Ex.new hd)), fun _ _ z => z⟩ ?_⟩
          show Dp K G (.int n) (oI (fwI pss))
          unfold fwI
          rw [hf]
          exact .int _
end
end Ah
/-! Ah28: loops of a law, statement by statement. -/
namespace Ah
open PySem PySem.Spec PyProof.Rows L2 Evl

section
variable {K : PySem.W.Frag} {w : World} {c : Ad} {σ : L2.St} {G : Hp} {ta tb te tl : TE} {tas : TA} {ds es : List PyData} {h d : Addr} {P P1 P2 R : MP V} {i j : Nat} {tt : TT} {t u tr : TS} {D : Ends}
/-- to go on from here -/
def Go (h d : Addr) (nx : L2.St → Hp → Prop) (σ : L2.St) (G : Hp) : Prop := ∀ H, Ex G H → Src H h d → G h = none → G d = none → nx σ H
theorem s_end (k : Go h d D.nx σ G) : St h d tNext D σ G := k
theorem s_asgL (k : Dw h d (te σ) G R) (l : ∀ v G1, Ex G G1 → R.p v G1 → Go h d D.nx (σ.set i (some v)) G1) : St h d (tAsg te (gName i)) D σ G :=
  fun H e S gh gd => k H e S gh gd _ fun a G1 H1 p1 D1 => l a G1 D1.ex p1 H1 D1.le D1.src (D1.gh S gh) (D1.gd S gd)
theorem s_par (k : Dw h d (tas σ) G (MP.args [P1, P2])) (l : ∀ v u G1, Ex G G1 → P1.p v G1 → P2.p u G1 → St h d tr D ((σ.set i (some v)).set j (some u)) G1) : St h d (tSeq (tPar i j tas) tr) D σ G :=
  fun H e S gh gd => k H e S gh gd _ fun vs G1 H1 p1 D1 => by
    match vs, p1 with
    | [v, u], .cons a (.cons b .nil) => exact ⟨v, u, rfl, l v u G1 D1.ex a b H1 D1.le D1.src (D1.gh S gh) (D1.gd S gd)⟩
theorem s_ifb {b : Bool} (k : Cm (tt σ) G (MP.eq b)) (h1 : b = true → St h d t D σ G) (h2 : b = false → St h d u D σ G) : St h d (tIfS tt t u) D σ G :=
  fun H e S gh gd => k H e _ fun a G1 H1 e1 n1 p1 => by
    have p1 : a = b := p1
    subst p1
    cases a with
    | true => exact iteT (h1 rfl H1 (e.trans e1) (S.ext e1) gh gd)
    | false => exact iteF (h2 rfl H1 (e.trans e1) (S.ext e1) gh gd)
theorem s_ret (k : Cm (te σ) G P) (q : ∀ v G' H', P.p v G' → D.rt v H') : St h d (tRet te) D σ G := fun H e S gh gd => k H e _ fun v G' H' e1 n1 p1 => q v G' H' p1
/-- for x in range(..): body; rest -/
theorem s_loop {ta : TA} {ι : Type} {fn : ι → Nat} (I : Nat → L2.St → Hp → Prop) (hn : Dw h d (ta σ) G (MP.args [MP.ex fun i : ι => MP.d K (.int (fn i : Nat))])) (hb : ∀ i, fn i ≤ 90000) (h0 : ∀ G1, Ex G G1 → I 0 σ G1)
    (turn : ∀ (i : Nat) (k : ι) σ v N G1, i < fn k → Ex G G1 → I i σ G1 → (∀ σ' G2, Ex G1 G2 → I (i + 1) σ' G2 → Go h d N.nx σ' G2) → St h d t N (σ.set j (some v)) G1)
    (after : ∀ (k : ι) σ G1, Ex G G1 → I (fn k) σ G1 → St h d tr D σ G1) : St h d (tSeq (tFor (iRng1 ta) (gName j) t) tr) D σ G := fun H e S gh gd =>
  hn H e S gh gd _ fun xs G1 H1 p1 D1 => by
    match xs, p1 with
    | [a], .cons ⟨k, pa⟩ .nil =>
      rw [dp_int pa]
      have hk := hb k
      refine ⟨fn k, rfl, by omega, by omega, ?_⟩
      refine for_range (lo := 0) (n := ((fn k : Nat) : Int).toNat) (fun i σ H' => ∃ G2, Ex G1 G2 ∧ Ex G2 H' ∧ Src H' h d ∧ G2 h = none ∧ G2 d = none ∧ I i σ G2) ⟨G1, Ex.refl _, D1.le, D1.src, D1.gh S gh, D1.gd S gd, h0 G1 D1.ex⟩ ?_ ?_
      · rintro i σ' H' hi ⟨G2, e2, l2, S2, g1, g2, hI⟩
        exact turn i k σ' _ { D with nx := fun σ H' => ∃ G2, Ex G1 G2 ∧ Ex G2 H' ∧ Src H' h d ∧ G2 h = none ∧ G2 d = none ∧ I (i + 1) σ G2, ct := fun σ H' => ∃ G2, Ex G1 G2 ∧ Ex G2 H' ∧ Src H' h d ∧ G2 h = none ∧ G2 d = none ∧ I (i + 1) σ G2, bk := tr D } G2 (by omega) (D1.ex.trans e2) hI (fun σ'' G3 e3 hI3 H3 l3 S3 g3 g4 => ⟨G3, e2.trans e3, l3, S3, g3, g4, hI3⟩) H' l2 S2 g1 g2
      · rintro σ' H' ⟨G2, e2, l2, S2, g1, g2, hI⟩
        rw [Int.toNat_natCast] at hI
        exact after k σ' G2 (D1.ex.trans e2) hI H' l2 S2 g1 g2
/-! ### lists that grow -/
theorem v_cat {x y : V} (p : (MP.l K ds).p x G) (q : (MP.l K es).p y G) (hl : ds.length + es.length ≤ 100000) : Cm (rAddG K x y) G (MP.l K (ds ++ es)) := by
  obtain ⟨a, xs, rfl, h1, h2⟩ := p
  obtain ⟨b, ys, rfl, k1, k2⟩ := q
  exact c_newV (o := .lst (xs ++ ys)) (fun H eh Q h => u_cat (eh _ _ h1) (eh _ _ k1) (by rw [DpAll.length h2, DpAll.length k2]; exact hl) h) fun p hp => ⟨p, _, rfl, upd_same, DpAll.up (Ex.new hp) _ _ (DpAll.app h2 k2)⟩
theorem c_slLl {tl th : TO} {lo hi : Option Int} (ha : Cm (ta σ) G (MP.l K ds)) (h1 : Cm (tl σ) G (MP.eq lo)) (h2 : Cm (th σ) G (MP.eq hi)) : Cm (tSl (rSlG K) ta tl th σ) G (MP.l K (cutD ds lo hi)) :=
  c_sl ha h1 h2 fun x G1 e1 p => by
    obtain ⟨a, xs, rfl, h1, h2⟩ := p
    exact c_newV (o := .lst (cutV xs lo hi)) (fun H eh Q h => .inl ⟨a, xs, rfl, SqL.of (eh _ _ h1), h⟩) fun p hp => ⟨p, _, rfl, upd_same, DpAll.up (Ex.new hp) _ _ (cut_dp h2)⟩
theorem cut_to {r : Nat} (hr : r ≤ ds.length) : cutD ds none (some (r : Int)) = ds.take r := by
  unfold cutD
  have e1 : HT.sIx ds.length 0 none = 0 := rfl
  have e2 : HT.sIx ds.length ds.length (some (r : Int)) = r := by rw [HT.sIx_nat]; omega
  rw [e1, e2, List.drop_zero, Nat.sub_zero]
theorem cut_from {r : Nat} : cutD ds (some (r : Int)) none = ds.drop r := by
  unfold cutD
  have e2 : HT.sIx ds.length ds.length none = ds.length := rfl
  rw [e2]
  by_cases hr : r ≤ ds.length
  · have e1 : HT.sIx ds.length 0 (some (r : Int)) = r := by rw [HT.sIx_nat]; omega
    rw [e1]
    exact List.take_of_length_le (by simp)
  · have e1 : HT.sIx ds.length 0 (some (r : Int)) = ds.length := by rw [HT.sIx_nat]; omega
    rw [e1, List.drop_length, List.drop_eq_nil_of_le (by omega), List.take_nil]
theorem d_nextE {n : Nat} (hi : σ[i]? = some (some (.ref h))) (hc : Cm (te σ) G (MP.d K (.int n))) (h0 : 0 < n) (h1 : n < 1000000000) : Dw h d (tCall (sp__law_next K w c) [] E0 (tCons (tVar i) (tCons te tNil)) σ) G (MP.ex fun r : Fin n => MP.d K (.int r.val)) :=
  fun H e S gh gd Q q => ⟨_, hi, hc H e _ fun v G1 H1 e1 n1 p1 => by
    rw [dp_int p1]
    have D1 := Dr.of e1 n1 S
    refine ⟨h, d, n, rfl, D1.src, by omega, by omega, fun r H' r0 r1 S' f => ?_⟩
    refine q _ G1 H' ⟨⟨r.toNat, by omega⟩, ?_⟩ (D1.trans (Dr.drawn n1.le (D1.gh S gh) (D1.gd S gd) f S'))
    have : (r.toNat : Int) = r := by omega
    show Dp K G1 _ (.int (r.toNat : Int))
    rw [this]
    exact .int r⟩
theorem d_lst1 {S : PyData → Prop} (hx : Dw h d (te σ) G (MP.ex fun x : { x : PyData // S x } => MP.d K x.val)) : Dw h d (tLst (tCons te tNil) σ) G (MP.ex fun x : { x : PyData // S x } => MP.l K [x.val]) :=
  Dw.bind (t := (tCons te tNil) σ) (u := fun (xs : List V) (H : Hp) (Q : VK) => xs.length ≤ sizeLine ∧ ∀ p, H p = none → Q (V.ref p) (upd H p (.lst xs))) (d_cons hx d_nil) fun xs G1 e1 p1 => by
    match xs, p1 with
    | [v], .cons ⟨x, p⟩ .nil => exact .of (c_and (sz_of (n := 1) (by decide)) (c_new fun q hq => ⟨x, q, _, rfl, upd_same, .cons (Dp.up (Ex.new hq) _ _ p) .nil⟩))
end
end Ah
/-! Ah29: a call in a try's body. -/
namespace Ah
open PySem PySem.Spec PyProof.Rows L2 Evl
/-- statements that are never reached -/
theorem pss_never {X : Cx} {sts : List Stmt} : PSs X sts tNever := ⟨fun _ _ _ _ _ _ h => h.elim⟩
section
variable {X : Cx} {k j : Nat} {x : Str} {sp : Sp} {p pos : Pos} {e : Expr} {es : List Expr} {t : TA} {E : L2.St → XK}
theorem pe_calS (c : Cal X.prog X.w X.K X.mg X.base (L2.CX X.prog X.w) k x sp) (hr : Room j X.A) (hk : k ≤ j) (hx : ∀ σ, PassesAt (L2.CX X.prog X.w) X σ (E σ)) (hg : Gl X x) (ha : PA X (e :: es) t)
    (hdb : (x == ("__debug__" : Str)) = false := by decide) (he : starEach (e :: es) X.env = (false, eval e X.env) :: starEach es X.env := by rfl) (hpl : (backTo pos (starEach es X.env)).any (·.1) = false := by rfl) :
    PE X (.Call (.Name x p) (e :: es) [] pos) (tCallS sp E t) := by
  obtain ⟨f, fd, ps, F, hm, kp, b⟩ := c.ex
  exact pe_callS F (hr.mono hk) hg hm kp b hx ha hdb he hpl
end
end Ah
/-! L15: the law k15, read. -/
namespace Ah
open PySem PySem.Spec PyProof.Rows L2 Evl
section
variable {K : PySem.W.Frag} {w : World} {c : Ad}
def t_law (K : PySem.W.Frag) (w : World) (c : Ad) : TS :=
  (tSeq (tAsg (tCall (sp__law_mix K w c) [] E0 (tCons (tVar 0) (tCons (tC (.int 15)) tNil))) (gName 1))
    (tSeq (tAsg (tLst (tCons (tC (.str "")) (tCons (tC (.str "rows a3")) (tCons (tC (.str "rows")) (tCons (tC (.str "rows a1 a2 b1")) (tCons (tC (.str "again skip ")) (tCons (tC (.str "fill")) (tCons (tC (.str "swept two")) tNil)))))))) (gName 2))
    (tSeq (tAsg (tOp (rAddG K) (tVar 2) (tLst (tCons (tC (.str "fill fills fills")) (tCons (tC (.str " missing place")) tNil)))) (gName 2))
    (tSeq (tAsg (tOp (rAddG K) (tVar 2) (tLst (tCons (tC (.str "words sweep join")) (tCons (tC (.str "words row")) (tCons (tC (.str "words ")) (tCons (tC (.str "words")) (tCons (tC (.str "joined  moves")) tNil))))))) (gName 2))
    (tSeq (tAsg (tOp (rAddG K) (tVar 2) (tLst (tCons (tC (.str "rows a1")) (tCons (tC (.str "rows 1a")) (tCons (tC (.str "word join")) tNil))))) (gName 2))
    (tSeq (tFor (iRng1 (tCons (tC (.int 8)) tNil)) (gName 3)
    (tSeq (tAsg (tCall (sp__law_draw K w c) [] E0 (tCons (tVar 1) tNil)) (gName 4))
    (tSeq (tAsg (tLst (tCons (tM1 (rJoin K) (tC (.str " ")) (tOp (rAddG K) (tLst (tCons (tC (.str "rows")) tNil)) (tLc (iSeq K (tOp (rIx K) (tVar 4) (tC (.int 0)))) (gTup K 2 (gCons (gName 9) (gCons (gName 10) gNil))) tYes (tOp (rAddG K) (tVar 9) (tCB rStrI (tCons (tVar 10) tNil))) [9, 10]))) tNil)) (gName 5))
    (tSeq (tAsg (tOp (rAddG K) (tVar 5) (tLc (iSeq K (tCall (sp__law_parts K w c) [] E0 tNil)) (gName 11) tYes (tOp (rAddG K) (tOp (rAddG K) (tOp (rIx K) (tVar 11) (tC (.int 0))) (tC (.str " "))) (tDGet (tOp (rIx K) (tVar 4) (tC (.int 1))) (tOp (rIx K) (tVar 11) (tC (.int 0))))) [11])) (gName 5))
    (tSeq (tAsg (tOp (rAddG K) (tVar 5) (tLst (tCons (tM1 (rJoin K) (tC (.str " ")) (tOp (rAddG K) (tLst (tCons (tC (.str "words")) tNil)) (tCB (rListG K) (tCons (tOp (rIx K) (tVar 4) (tC (.int 2))) tNil)))) tNil))) (gName 5))
    (tSeq (tFor (iRng1 (tCons (tCall (sp__law_next K w c) [] E0 (tCons (tVar 1) (tCons (tC (.int 3)) tNil))) tNil)) (gName 6)
    (tSeq (tPar 7 8 (tCons (tCall (sp__law_next K w c) [] E0 (tCons (tVar 1) (tCons (tOp (rAddG K) (tCB (rLenG K) (tCons (tVar 5) tNil)) (tC (.int 1))) tNil))) (tCons (tCall (sp__law_next K w c) [] E0 (tCons (tVar 1) (tCons (tC (.int 4)) tNil))) tNil)))
    (tIfS (tTest (tOp (rEqD K) (tVar 8) (tC (.int 0)))) (tAsg (tOp (rAddG K) (tOp (rAddG K) (tSl (rSlG K) (tVar 5) tNoPart (tPart (tVar 7))) (tLst (tCons (tCall (sp__law_pick K w c) [] E0 (tCons (tVar 1) (tCons (tVar 2) tNil))) tNil))) (tSl (rSlG K) (tVar 5) (tPart (tVar 7)) tNoPart)) (gName 5)) (tIfS (tTest (tOp (rEqD K) (tVar 8) (tC (.int 1)))) (tAsg (tOp (rAddG K) (tOp (rAddG K) (tSl (rSlG K) (tVar 5) tNoPart (tPart (tVar 7))) (tLst (tCons (tCall (sp__law_pick K w c) [] E0 (tCons (tVar 1) (tCons (tVar 2) tNil))) tNil))) (tSl (rSlG K) (tVar 5) (tPart (tOp (rAddG K) (tVar 7) (tC (.int 1)))) tNoPart)) (gName 5)) (tAsg (tIf (tAnd (tTest (tOp (rEqD K) (tVar 8) (tC (.int 2)))) (tTest (tOp rGtI (tCB (rLenG K) (tCons (tVar 5) tNil)) (tC (.int 1))))) (tOp (rAddG K) (tSl (rSlG K) (tVar 5) tNoPart (tPart (tVar 7))) (tSl (rSlG K) (tVar 5) (tPart (tOp (rAddG K) (tVar 7) (tC (.int 1)))) tNoPart)) (tOp (rAddG K) (tSl (rSlG K) (tVar 5) (tPart (tVar 7)) tNoPart) (tSl (rSlG K) (tVar 5) tNoPart (tPart (tVar 7))))) (gName 5))))))
    (tIfS (tNot (tB (tCall (sp__law_alike K w c) [] E0 (tCons (tCall (sp__law_answer K w c) [] E0 (tCons (tM1 (rJoin K) (tC (.str "\n")) (tVar 5)) tNil)) (tCons (tCall (sp__law_first_wrong K w c) [] E0 (tCons (tVar 5) tNil)) tNil))))) (tRet (tC (.bl false))) tNext)))))))
    (tRet (tOp (rEqD K) (tCall (sp__law_answer K w c) [] E0 (tCons (tC (.str "")) tNil)) (tC (.int 1))))))))))
/-- the lines that are put in, by their words -/
def odd1 : List (List Str) := [[""], ["rows", "a3"], ["rows"], ["rows", "a1", "a2", "b1"], ["again", "skip", ""], ["fill"], ["swept", "two"]]
def odd2 : List (List Str) := [["fill", "fills", "fills"], ["", "missing", "place"]]
def odd3 : List (List Str) := [["words", "sweep", "join"], ["words", "row"], ["words", ""], ["words"], ["joined", "", "moves"]]
def odd4 : List (List Str) := [["rows", "a1"], ["rows", "1a"], ["word", "join"]]
def odds : List (List Str) := odd1 ++ odd2 ++ odd3 ++ odd4
theorem odds_ok : ∀ ps ∈ odds, okP ps = true := by decide +kernel
theorem odd1_t : odd1.map lineT = (["", "rows a3", "rows", "rows a1 a2 b1", "again skip ", "fill", "swept two"] : List Str) := by decide +kernel
theorem odd2_t : odd2.map lineT = (["fill fills fills", " missing place"] : List Str) := by decide +kernel
theorem odd3_t : odd3.map lineT = (["words sweep join", "words row", "words ", "words", "joined  moves"] : List Str) := by decide +kernel
theorem odd4_t : odd4.map lineT = (["rows a1", "rows 1a", "word join"] : List Str) := by decide +kernel
abbrev MP.ls (K : PySem.W.Frag) (pss : List (List Str)) : MP V := MP.l K ((pss.map lineT).map PyData.str)
variable {σ : L2.St} {G : Hp} {ta tb te : TE} {h d : Addr} {i : Nat}
/-- a law's lines behind n changes -/
def LnOk (pss : List (List Str)) (n : Nat) : Prop := (∀ ps ∈ pss, okP ps = true) ∧ pss ≠ [] ∧ pss.length ≤ 8 + n
abbrev MP.ln (K : PySem.W.Frag) (n : Nat) : MP V := MP.ex fun x : { pss : List (List Str) // LnOk pss n } => MP.ls K x.val
theorem ls_take {pss : List (List Str)} {r : Nat} : ((pss.map lineT).map PyData.str).take r = ((pss.take r).map lineT).map PyData.str := by rw [← List.map_take, ← List.map_take]
theorem ls_drop {pss : List (List Str)} {r : Nat} : ((pss.map lineT).map PyData.str).drop r = ((pss.drop r).map lineT).map PyData.str := by rw [← List.map_drop, ← List.map_drop]
theorem c_head {pss : List (List Str)} {r : Nat} (hr : r ≤ pss.length) (h1 : Cm (ta σ) G (MP.ls K pss)) (h2 : Cm (tb σ) G (MP.d K (.int r))) : Cm (tSl (rSlG K) ta tNoPart (tPart tb) σ) G (MP.ls K (pss.take r)) := by
  have z := c_slLl h1 c_nopart (c_part h2)
  rwa [cut_to (by rw [List.length_map, List.length_map]; exact hr), ls_take] at z
theorem c_tail {pss : List (List Str)} {r : Nat} (h1 : Cm (ta σ) G (MP.ls K pss)) (h2 : Cm (tb σ) G (MP.d K (.int r))) : Cm (tSl (rSlG K) ta (tPart tb) tNoPart σ) G (MP.ls K (pss.drop r)) := by
  have z := c_slLl h1 (c_part h2) c_nopart
  rwa [cut_from, ls_drop] at z
theorem c_cat2 {p q : List (List Str)} (h1 : Cm (ta σ) G (MP.ls K p)) (h2 : Cm (tb σ) G (MP.ls K q)) (hl : p.length + q.length ≤ 1000) : Cm (tOp (rAddG K) ta tb σ) G (MP.ls K (p ++ q)) := by
  have z := c_addL h1 h2 (by simp only [List.length_map]; omega)
  rwa [← List.map_append, ← List.map_append] at z
/-- lines[:at] + [pick(odd)] + lines[b:] -/
theorem d_put {pss : List (List Str)} {r s : Nat} {tp tl tr' : TE} {n : Nat} (ok : LnOk pss n) (hn : n ≤ 100) (hr : r ≤ pss.length) (hs : r ≤ s) (h1 : Cm (ta σ) G (MP.ls K (pss.take r))) (h2 : Cm (tl σ) G (MP.ls K odds)) (h3 : Cm (tb σ) G (MP.ls K (pss.drop s))) (hi : σ[i]? = some (some (.ref h))) :
    Dw h d (tOp (rAddG K) (tOp (rAddG K) ta (tLst (tCons (tCall (sp__law_pick K w c) [] E0 (tCons (tVar i) (tCons tl tNil))) tNil))) tb σ) G (MP.ln K (n + 1)) := by
  have hp : Dw h d (tLst (tCons (tCall (sp__law_pick K w c) [] E0 (tCons (tVar i) (tCons tl tNil))) tNil) σ) G (MP.ex fun x : { ps : List Str // ps ∈ odds } => MP.ls K [x.val]) := by
    refine (d_lst1 (d_pick (ds := (odds.map lineT).map PyData.str) hi (l_d h2) (by decide) (by decide))).imp fun v G1 e1 ⟨⟨x, hx⟩, p⟩ => ?_
    obtain ⟨z, hz, rfl⟩ := List.mem_map.mp hx
    obtain ⟨ps, hps, rfl⟩ := List.mem_map.mp hz
    exact ⟨⟨ps, hps⟩, p⟩
  refine d_op (d_op (.of h1) hp fun x y G1 e1 p ⟨k, q⟩ => ?_) (.of h3) (P := MP.ln K (n + 1)) (P1 := MP.ex fun x : { ps : List Str // ps ∈ odds } => MP.ls K (pss.take r ++ [x.val])) fun x y G1 e1 ⟨k, p⟩ q => ?_
  · refine (v_cat p q (by simp only [List.length_map, List.length_take]; have := ok.2.2; simp; omega)).imp fun v G2 e2 z => ⟨k, ?_⟩
    rwa [← List.map_append, ← List.map_append] at z
  · refine (v_cat p q (by simp only [List.length_map, List.length_append, List.length_take, List.length_drop]; have := ok.2.2; simp; omega)).imp fun v G2 e2 z => ?_
    rw [← List.map_append, ← List.map_append] at z
    refine ⟨⟨pss.take r ++ [k.val] ++ pss.drop s, fun ps hps => ?_, fun z => ?_, ?_⟩, z⟩
    · rcases List.mem_append.mp hps with hps | hps
      · rcases List.mem_append.mp hps with hps | hps
        · exact ok.1 ps (List.mem_of_mem_take hps)
        · rw [List.mem_singleton.mp hps]; exact odds_ok _ k.property
      · exact ok.1 ps (List.mem_of_mem_drop hps)
    · have := congrArg List.length z
      simp at this
    · have := ok.2.2
      simp only [List.length_append, List.length_take, List.length_drop, List.length_cons, List.length_nil]
      omega
theorem c_alike {f g : Option Int} (h1 : Cm (ta σ) G (MP.d K (oI f))) (h2 : Cm (tb σ) G (MP.d K (oI g))) : Cm (tCall (sp__law_alike K w c) [] E0 (tCons ta (tCons tb tNil)) σ) G (MP.d K (.bool (decide (f = g)))) :=
  c_call (args := fun i : Option Int × Option Int => [MP.d K (oI i.1), MP.d K (oI i.2)]) (res := fun i => MP.d K (.bool (decide (i.1 = i.2)))) (f, g) (c_cons h1 (c_cons h2 c_nil))
theorem c_answer {pss : List (List Str)} (ok : ∀ ps ∈ pss, okP ps = true) (ne : pss ≠ []) (len : pss.length ≤ 100) (h1 : Cm (ta σ) G (MP.d K (.str (textOf pss)))) : Cm (tCall (sp__law_answer K w c) [] E0 (tCons ta tNil) σ) G (MP.d K (oI (fwI pss))) :=
  c_call (args := fun i : { i : PsIn // i.pss ≠ [] } => [MP.d K (.str (textOf i.val.pss))]) (res := fun i => MP.d K (oI (fwI i.val.pss))) ⟨⟨pss, ok, len⟩, ne⟩ (c_cons h1 c_nil)
theorem c_first {pss : List (List Str)} (ok : ∀ ps ∈ pss, okP ps = true) (len : pss.length ≤ 100) (h1 : Cm (ta σ) G (MP.ls K pss)) : Cm (tCall (sp__law_first_wrong K w c) [] E0 (tCons ta tNil) σ) G (MP.d K (oI (fwI pss))) :=
  c_call (args := fun i : PsIn => [MP.ts K (i.pss.map lineT)]) (res := fun i => MP.d K (oI (fwI i.pss))) ⟨pss, ok, len⟩ (c_cons (l_d h1) c_nil)
theorem c_textOf {pss : List (List Str)} (ok : ∀ ps ∈ pss, okP ps = true) (len : pss.length ≤ 100) (h1 : Cm (ta σ) G (MP.ls K pss)) : Cm (tM1 (rJoin K) (tC (.str "\n")) ta σ) G (MP.d K (.str (textOf pss))) :=
  c_join (n := 60) c_str (l_d h1) (fun y hy => by
    obtain ⟨ps, hps, rfl⟩ := List.mem_map.mp hy
    exact (okP.and (ok ps hps)).2.2.1) (by
    have e : ("\n" : Str).length = 1 := by decide +kernel
    rw [List.length_map, e]
    omega)
theorem ls_lst {pss : List (List Str)} {xs : List Str} {t : TA} (e : pss.map lineT = xs) (h1 : Cm (t σ) G (MP.ds K (xs.map PyData.str))) (hl : xs.length ≤ 1000) : Cm (tLst t σ) G (MP.ls K pss) := by
  have z := c_lstl h1 (by rw [List.length_map]; omega)
  rw [← e] at z
  exact z
theorem rd_law (X : Axx K w c) {vs : List V} {H : Hp} {Q : VK} {E : XK} (h : sp_law K w c vs H Q E) : t_law K w c (Dn Q) (vs.map some ++ List.replicate (12 - vs.length) none) H := by
  obtain ⟨a, ns, rfl, hs, hl, k⟩ := h
  refine u_mix (seed := 15) rfl hs hl (by decide) fun h d H1 S => ?_
  suffices hS : St h d _ (Dn Q) [some (.ref a), some (.ref h), none, none, none, none, none, none, none, none, none, none] noH from hS H1 noH_ex S rfl rfl
  refine s_asg (i := 2) (R := MP.ls K odd1) (.of (ls_lst odd1_t (c_dcons c_str (c_dcons c_str (c_dcons c_str (c_dcons c_str (c_dcons c_str (c_dcons c_str (c_dcons c_str c_dnil))))))) (by decide))) fun v0 G0 e0 q0 => ?_
  refine s_asg (i := 2) (.of (c_cat2 (c_var (P := MP.ls K odd1) rfl q0) (ls_lst odd2_t (c_dcons c_str (c_dcons c_str c_dnil)) (by decide)) (by decide))) fun v1 G1 e1 q1 => ?_
  refine s_asg (i := 2) (.of (c_cat2 (c_var (P := MP.ls K (odd1 ++ odd2)) rfl q1) (ls_lst odd3_t (c_dcons c_str (c_dcons c_str (c_dcons c_str (c_dcons c_str (c_dcons c_str c_dnil))))) (by decide)) (by decide))) fun v2 G2 e2 q2 => ?_
  refine s_asg (i := 2) (.of (c_cat2 (c_var (P := MP.ls K (odd1 ++ odd2 ++ odd3)) rfl q2) (ls_lst odd4_t (c_dcons c_str (c_dcons c_str (c_dcons c_str c_dnil))) (by decide)) (by decide))) fun vo G3 e3 q3 => ?_
  have hodd : ∀ {G5 : Hp} {σ2 : L2.St}, Ex G3 G5 → σ2[2]? = some (some vo) → Cm (tVar 2 σ2) G5 (MP.ls K odds) := fun e hσ => c_var hσ ((MP.ls K odds).mono e q3)
  refine s_loop (K := K) (j := 3) (ι := Unit) (fn := fun _ => 8) (fun _ σ _ => ∃ x3 x4 x5 x6 x7 x8, σ = [some (.ref a), some (.ref h), some vo, x3, x4, x5, x6, x7, x8, none, none, none]) (d_cons (.of (c_int.imp fun _ _ _ p => ⟨(), p⟩)) d_nil) (fun _ => by decide) (fun _ _ => ⟨_, _, _, _, _, _, rfl⟩) ?_ ?_
  · rintro _ _ σ v N G4 _ e4 ⟨x3, x4, x5, x6, x7, x8, rfl⟩ hN
    refine s_asg (i := 4) (d_draw rfl) fun vr G5 e5 ⟨⟨b, hb⟩, p1⟩ => ?_
    have ok := hb.1
    have hr : ∀ {G6 : Hp} {σ2 : L2.St}, Ex G5 G6 → σ2[4]? = some (some vr) → Cm (tVar 4 σ2) G6 (MP.rw K b) := fun e2 hσ => c_var hσ ((MP.rw K b).mono e2 p1)
    refine s_asg (i := 5) (.of (c_law0 ok (c_rw0 (hr (Ex.refl _) rfl)) (fun _ _ => rfl) (fun _ _ => rfl) (fun _ _ => rfl))) fun w1 G6 e6 p2 => ?_
    refine s_asg (i := 5) (.of (c_addL (c_var (P := MP.l K _) rfl p2) (c_law1 (fun x eG => c_rw1 (hr (e6.trans eG) rfl)) (fun _ => rfl) (fun _ => rfl)) (by show 1 + 6 ≤ 100000; decide))) fun w2 G7 e7 p3 => ?_
    have hwl : (b.words.map PyData.str).length ≤ 2 := words_all (M := fun l => (l.map PyData.str).length ≤ 2) b (by decide) (by decide) (by decide) (by decide)
    refine s_asg (i := 5) (R := MP.ls K (bkParts b)) (.of (c_addL (c_var (P := MP.l K _) rfl p3) (c_lstl (c_dcons (c_lineT (okP_words b) (l_d (c_addL lst1 (c_listTl (c_rw2 (hr (e6.trans e7) rfl))) (by show 1 + _ ≤ 100000; omega)))) c_dnil) (by show 1 ≤ 100000; decide)) (by show 7 + 1 ≤ 100000; decide))) fun w3 G8 e8 p4 => ?_
    have e48 := ((e5.trans e6).trans e7).trans e8
    refine s_loop (K := K) (j := 6) (ι := Fin 3) (fn := fun r => r.val) (fun n σ G => ∃ w x6 x7 x8, σ = [some (.ref a), some (.ref h), some vo, some v, some vr, some w, x6, x7, x8, none, none, none] ∧ (MP.ln K n).p w G) (d_cons (d_next (n := 3) rfl (by decide) (by decide)) d_nil) (fun r => by omega) (fun G9 e9 => ⟨w3, _, _, _, rfl, ⟨bkParts b, okP_bk ok, (fun z => nomatch z), by show 8 ≤ 8 + 0; decide⟩, (MP.ls K (bkParts b)).mono e9 p4⟩) ?_ ?_
    · rintro n m σ u N2 G9 hnm e9 ⟨w, x6, x7, x8, rfl, ⟨pss, lok⟩, pl⟩ hN2
      have hn2 : n ≤ 100 := by omega
      have hlen := lok.2.2
      have hv : ∀ {G10 : Hp} {σ2 : L2.St}, Ex G9 G10 → σ2[5]? = some (some w) → Cm (tVar 5 σ2) G10 (MP.ls K pss) := fun e hσ => c_var hσ ((MP.ls K pss).mono e pl)
      have hlenC : ∀ {G10 : Hp} {σ2 : L2.St}, Ex G9 G10 → σ2[5]? = some (some w) → Cm (tCB (rLenG K) (tCons (tVar 5) tNil) σ2) G10 (MP.d K (.int pss.length)) := fun e hσ => c_to (c_lenL (l_d (hv e hσ))) (by rw [List.length_map, List.length_map])
      refine s_par (P1 := MP.ex fun r : Fin (pss.length + 1) => MP.d K (.int r.val)) (P2 := MP.ex fun r : Fin 4 => MP.d K (.int r.val)) (d_cons (d_nextE (n := pss.length + 1) rfl (c_addI (hlenC (Ex.refl _) rfl) c_int) (by omega) (by omega)) (d_cons (d_next (n := 4) rfl (by decide) (by decide)) d_nil)) fun va vk G10 e10 ⟨r, pa⟩ ⟨kd, pk⟩ => ?_
      rw [dp_int pa, dp_int pk]
      have hr' : r.val ≤ pss.length := by omega
      have hat : ∀ {G11 : Hp}, Cm (tVar 7 [some (.ref a), some (.ref h), some vo, some v, some vr, some w, some u, some (.int r.val), some (.int kd.val), none, none, none]) G11 (MP.d K (.int r.val)) := c_var rfl (.int _)
      have hat1 : ∀ {G11 : Hp}, Cm (tOp (rAddG K) (tVar 7) (tC (.int 1)) [some (.ref a), some (.ref h), some vo, some v, some vr, some w, some u, some (.int r.val), some (.int kd.val), none, none, none]) G11 (MP.d K (.int (r.val + 1 : Nat))) := c_addI hat c_int
      have hkd : ∀ {G11 : Hp} (z : Nat), Cm (tTest (tOp (rEqD K) (tVar 8) (tC (.int z))) [some (.ref a), some (.ref h), some vo, some v, some vr, some w, some u, some (.int r.val), some (.int kd.val), none, none, none]) G11 (MP.eq (decide (kd.val = z))) := fun z => by
        refine c_teq (c_test (c_eq (c_var rfl (.int _)) c_int rfl rfl)) ?_
        show (((kd.val : Nat) : Int) == (z : Int)) = decide (kd.val = z)
        by_cases h : kd.val = z
        · rw [h, decide_eq_true rfl, beq_self_eq_true]
        · rw [decide_eq_false h, beq_eq_false_iff_ne.mpr (by omega)]
      have hodd' := hodd (σ2 := [some (.ref a), some (.ref h), some vo, some v, some vr, some w, some u, some (.int r.val), some (.int kd.val), none, none, none]) ((e4.trans e48).trans (e9.trans e10)) rfl
      have hv' := hv (σ2 := [some (.ref a), some (.ref h), some vo, some v, some vr, some w, some u, some (.int r.val), some (.int kd.val), none, none, none]) e10 rfl
      have fin : ∀ w' G11, Ex G10 G11 → (MP.ln K (n + 1)).p w' G11 → Go h d N2.nx [some (.ref a), some (.ref h), some vo, some v, some vr, some w', some u, some (.int r.val), some (.int kd.val), none, none, none] G11 := fun w' G11 e11 p' => hN2 _ G11 (e10.trans e11) ⟨w', _, _, _, rfl, p'⟩
      refine s_ifb (hkd 0) (fun _ => s_asgL (d_put (tp := tVar 0) (tr' := tVar 0) lok hn2 hr' (Nat.le_refl _) (c_head hr' hv' hat) hodd' (c_tail hv' hat) rfl) fin) fun _ => s_ifb (hkd 1) (fun _ => s_asgL (d_put (tp := tVar 0) (tr' := tVar 0) lok hn2 hr' (Nat.le_succ _) (c_head hr' hv' hat) hodd' (c_tail hv' hat1) rfl) fin) fun _ => s_asgL (.of ?_) fin
      refine c_if (c_tand (hkd 2) fun _ => c_test (c_I0 (z := .bool (decide (1 < pss.length))) (hlenC e10 rfl) c_int fun G => ?_)) (fun hc => ?_) (fun hc => ?_)
      · have : decide ((1 : Int) < (pss.length : Int)) = decide (1 < pss.length) := by
          by_cases h : 1 < pss.length
          · rw [decide_eq_true h, decide_eq_true (by omega)]
          · rw [decide_eq_false h, decide_eq_false (by omega)]
        rw [this]
        exact .bl _
      · have h1 := of_decide_eq_true (Bool.and_eq_true_iff.mp hc).2
        refine (c_cat2 (c_head hr' hv' hat) (c_tail hv' hat1) (by rw [List.length_take, List.length_drop]; omega)).imp fun w' G11 e11 p' => ⟨⟨pss.take r.val ++ pss.drop (r.val + 1), fun ps hps => ?_, fun z => ?_, ?_⟩, p'⟩
        · rcases List.mem_append.mp hps with hps | hps
          · exact lok.1 ps (List.mem_of_mem_take hps)
          · exact lok.1 ps (List.mem_of_mem_drop hps)
        · have := congrArg List.length z
          simp only [List.length_append, List.length_take, List.length_drop, List.length_nil] at this
          omega
        · rw [List.length_append, List.length_take, List.length_drop]; omega
      · refine (c_cat2 (c_tail hv' hat) (c_head hr' hv' hat) (by rw [List.length_take, List.length_drop]; omega)).imp fun w' G11 e11 p' => ⟨⟨pss.drop r.val ++ pss.take r.val, fun ps hps => ?_, fun z => ?_, ?_⟩, p'⟩
        · rcases List.mem_append.mp hps with hps | hps
          · exact lok.1 ps (List.mem_of_mem_drop hps)
          · exact lok.1 ps (List.mem_of_mem_take hps)
        · have := congrArg List.length z
          have ne := lok.2.1
          have : 0 < pss.length := List.length_pos_iff.mpr ne
          simp only [List.length_append, List.length_take, List.length_drop, List.length_nil] at *
          omega
        · rw [List.length_append, List.length_take, List.length_drop]; omega
    · rintro m σ G9 e9 ⟨w, x6, x7, x8, rfl, ⟨pss, lok⟩, pl⟩
      have hlen : pss.length ≤ 100 := by have := lok.2.2; omega
      have hv : Cm (tVar 5 [some (.ref a), some (.ref h), some vo, some v, some vr, some w, x6, x7, x8, none, none, none]) G9 (MP.ls K pss) := c_var rfl pl
      refine s_ifb (b := false) (c_teq (c_tnot (a := true) (c_tB (c_to (c_alike (c_answer lok.1 lok.2.1 hlen (c_textOf lok.1 hlen hv)) (c_first lok.1 hlen hv)) (congrArg PyData.bool (decide_eq_true rfl))))) rfl) (fun z => absurd z Bool.false_ne_true) fun _ => s_end (hN _ G9 (e48.trans e9) ⟨_, _, _, _, _, _, rfl⟩)
  · rintro _ σ G4 e4 ⟨x3, x4, x5, x6, x7, x8, rfl⟩
    refine s_ret (P := MP.d K (.bool true)) (c_to (c_eq (c_answer (pss := [[""]]) (by decide +kernel) (fun z => nomatch z) (by decide) (c_to c_str (congrArg PyData.str (by decide +kernel)))) c_int (oi_shaped _) rfl) (congrArg PyData.bool (by decide +kernel))) fun v G' H' p => ?_
    rw [dp_bl p]
    exact k H'
end
end Ah
namespace Ah
open PySem PySem.Spec PyProof.Rows L2 Evl
def top (i : Nat) : Stmt := PySem.Challenge.pw_aheadrows_k15_texts_refused.main.body.getD i (.Pass ⟨0, 0, 0, 0⟩)
structure Tx (K : PySem.W.Frag) (w : World) (mg : Str → Option Value) (c : Ad) : Prop where
  axt : Axt K w c
  axx : Axx K w c
  xC : ExcC K c.InvalidLine
  xcl : (PySem.W.clsIn K c.InvalidLine).isSome = true
  xF : XfC K c.InvalidLine
  xn : PySem.W.findIn K (.ref c.InvalidLine) "line" = some none
  m_InvalidLine : mg "InvalidLine" = some (.ref c.InvalidLine)
  g_AheadError : ∃ u, mg "AheadError" = some u ∧ RelV (.ref c.AheadError) u
  g_KEYS : ∃ u, mg "KEYS" = some u ∧ RelV (.ref c.KEYS) u
  g_MOST_ROWS : ∃ u, mg "MOST_ROWS" = some u ∧ RelV (.int 2) u
  g_PARTS : ∃ u, mg "PARTS" = some u ∧ RelV (.ref c.PARTS) u
  g_ROWS : ∃ u, mg "ROWS" = some u ∧ RelV (.ref c.ROWS) u
  g_WORDS : ∃ u, mg "WORDS" = some u ∧ RelV (.ref c.WORDS) u
  b_all : mg "all" = none
  b_bool : mg "bool" = none
  b_dict : mg "dict" = none
  b_int : mg "int" = none
  b_isinstance : mg "isinstance" = none
  b_len : mg "len" = none
  b_list : mg "list" = none
  b_max : mg "max" = none
  b_range : mg "range" = none
  b_str : mg "str" = none
  b_tuple : mg "tuple" = none
section
variable {P : Program} {w : World} {K : PySem.W.Frag} {mg : Str → Option Value} {base : Heap} {c : Ad}
abbrev s_is_integer : Stmt := top 12
abbrev is_integer_N : List Str := ["thing", "low", "high"]
theorem sc_is_integer : FnScope is_integer_N ["thing", "low", "high"] (defScope s_is_integer) := ⟨rfl, rfl, rfl, by decide +kernel, rfl, by decide +kernel, by decide +kernel⟩
theorem ok_is_integer {f : Addr} {fd : FuncData} (F : Fun K "is_integer" "is_integer" s_is_integer f fd) (T : Tx K w mg c) : FnOk P w K mg base CX0 1 f fd ["thing", "low", "high"] (sp_is_integer K w c) := by
  refine F.ok sc_is_integer (fun vs H Q E h => len_is_integer h) (fun cdv A outer s H vs Q E hr h => ⟨t_is_integer K w c, ?_, rd_is_integer h⟩)
  exact (pss_one (ps_ret (pe_and (pe_callB call_isiG rfl T.b_isinstance (by decide +kernel) (pa_cons (pv 0) (pa_cons (pe_bltn rfl T.b_int (by decide +kernel) rfl) pa_nil))) (pe_and (pe_not (pe_callB call_isiG rfl T.b_isinstance (by decide +kernel) (pa_cons (pv 0) (pa_cons (pe_bltn rfl T.b_bool (by decide +kernel) rfl) pa_nil)))) (pe_one (pe_chain op_le op_le (pv 1) (pv 0) (pv 2)))))))
abbrev s_is_word : Stmt := top 13
abbrev is_word_N : List Str := ["thing", "words"]
theorem sc_is_word : FnScope is_word_N ["thing", "words"] (defScope s_is_word) := ⟨rfl, rfl, rfl, by decide +kernel, rfl, by decide +kernel, by decide +kernel⟩
theorem ok_is_word {f : Addr} {fd : FuncData} (F : Fun K "is_word" "is_word" s_is_word f fd) (T : Tx K w mg c) : FnOk P w K mg base CX0 1 f fd ["thing", "words"] (sp_is_word K w c) := by
  refine F.ok sc_is_word (fun vs H Q E h => len_is_word h) (fun cdv A outer s H vs Q E hr h => ⟨t_is_word K w c, ?_, rd_is_word h⟩)
  exact (pss_one (ps_ret (pe_and (pe_callB call_isiG rfl T.b_isinstance (by decide +kernel) (pa_cons (pv 0) (pa_cons (pe_bltn rfl T.b_str (by decide +kernel) rfl) pa_nil))) (pe_one (pe_cmpR (op_inG (hu65 hr)) (pv 0) (pv 1) rfl)))))
abbrev s_is_edition : Stmt := top 14
abbrev is_edition_N : List Str := ["thing", "least"]
theorem sc_is_edition : FnScope is_edition_N ["thing", "least"] (defScope s_is_edition) := ⟨rfl, rfl, rfl, by decide +kernel, rfl, by decide +kernel, by decide +kernel⟩
theorem ok_is_edition {f : Addr} {fd : FuncData} (F : Fun K "is_edition" "is_edition" s_is_edition f fd) (T : Tx K w mg c) (C_is_word : Cal P w K mg base CX0 1 "is_word" (sp_is_word K w c)) (C_is_integer : Cal P w K mg base CX0 1 "is_integer" (sp_is_integer K w c)) : FnOk P w K mg base CX0 2 f fd ["thing", "least"] (sp_is_edition K w c) := by
  refine F.ok sc_is_edition (fun vs H Q E h => len_is_edition h) (fun cdv A outer s H vs Q E hr h => ⟨t_is_edition K w c, ?_, rd_is_edition T.axt.ax h⟩)
  exact (pss_one (ps_ret (pe_and (pe_callB call_isiG rfl T.b_isinstance (by decide +kernel) (pa_cons (pv 0) (pa_cons (pe_bltn rfl T.b_tuple (by decide +kernel) rfl) pa_nil))) (pe_and (pe_cmpR (op_eqD hr.units) (pe_callB call_lenG rfl T.b_len (by decide +kernel) (pa_cons (pv 0) pa_nil)) pe_int (nomark _)) (pe_and (pe_cal C_is_word hr (by decide) rfl (pa_cons (pe_ix ix_seq (pv 0) pe_int (fun _ _ => rfl)) (pa_cons (C8.pe_gc rfl T.g_KEYS) pa_nil))) (pe_one (pe_cal C_is_integer hr (by decide) rfl (pa_cons (pe_ix ix_seq (pv 0) pe_int (fun _ _ => rfl)) (pa_cons (pv 1) (pa_cons pe_int pa_nil))))))))))
abbrev s_check_rule : Stmt := top 15
abbrev check_rule_N : List Str := ["rule", "part", "words"]
theorem sc_check_rule : FnScope check_rule_N ["rule"] (defScope s_check_rule) := ⟨rfl, rfl, rfl, by decide +kernel, rfl, by decide +kernel, by decide +kernel⟩
theorem ok_check_rule {f : Addr} {fd : FuncData} (F : Fun K "check_rule" "check_rule" s_check_rule f fd) (T : Tx K w mg c) (C_is_word : Cal P w K mg base CX0 1 "is_word" (sp_is_word K w c)) : FnOk P w K mg base CX0 2 f fd ["rule"] (sp_check_rule K w c) := by
  refine F.ok sc_check_rule (fun vs H Q E h => len_check_rule h) (fun cdv A outer s H vs Q E hr h => ⟨t_check_rule K w c, ?_, rd_check_rule T.axt.ax h⟩)
  exact (pss_cons (ps_if (PW.pt (pw_or (pt_not (pt_val (pe_callB call_isiG rfl T.b_isinstance (by decide +kernel) (pa_cons (pv 0) (pa_cons (pe_bltn rfl T.b_dict (by decide +kernel) rfl) pa_nil))))) (pw_or (pt_cmpR (op_neD hr.units) (pe_callB call_lenK rfl T.b_len (by decide +kernel) (pa_cons (pv 0) pa_nil)) (pe_callB call_lenW rfl T.b_len (by decide +kernel) (pa_cons (C8.pe_gc rfl T.g_PARTS) pa_nil)) (nomark _)) (pw_or1 (pt_not (pt_val (pe_callB (cr_all rfl) rfl T.b_all (by decide +kernel) (pa_cons (pe_lock (pe_lc (own := [("part", 1)]) (g := (gName 1)) (tt := tYes) rfl sc_check_rule.nd (pi_keys (pv 0)) (blkOk_by (own := [("part", 1)]) (N := check_rule_N) (sc := defScope s_check_rule) (by decide +kernel)) (fun _ _ _ _ _ => (pg_name (i := 1) sc_check_rule.nd rfl (Or.inl rfl))) (fun _ _ _ _ _ => pts_nil) (fun _ _ _ _ _ => (pe_cal C_is_word hr (by decide) rfl (pa_cons (pv 1) (pa_cons (pe_callTy (call_listW rfl) rfl T.b_list (by decide +kernel) (pa_cons (C8.pe_gc rfl T.g_PARTS) pa_nil)) pa_nil)))))) pa_nil)))))))) (pss_one ps_never) pss_nil)
      (pss_one (ps_for PassesOwn.never rfl (pi_itemsW (C8.pe_gc rfl T.g_PARTS)) (pg_tup rfl (pgs_cons (pg_name (i := 1) sc_check_rule.nd rfl (Or.inl rfl)) (pgs_cons (pg_name (i := 2) sc_check_rule.nd rfl (Or.inl rfl)) pgs_nil)))
      (pss_one (ps_if (pt_not (pt_val (pe_cal C_is_word hr (by decide) rfl (pa_cons (pe_dget (hu_of hr) (pv 0) (pv 1) (fun _ _ => rfl)) (pa_cons (pv 2) pa_nil))))) (pss_one ps_never) pss_nil)))))
abbrev s_Book_init : Stmt := inClass (top 16) 0
abbrev Book_init_N : List Str := ["self", "rows", "rule", "words", "row", "word", "part"]
theorem sc_Book_init : FnScope Book_init_N ["self", "rows", "rule", "words"] (defScope s_Book_init) := ⟨rfl, rfl, rfl, by decide +kernel, rfl, by decide +kernel, by decide +kernel⟩
theorem ok_Book_init {f : Addr} {fd : FuncData} (F : Fun K "__init__" "Book.__init__" s_Book_init f fd) (T : Tx K w mg c) (C_is_edition : Cal P w K mg base CX0 2 "is_edition" (sp_is_edition K w c)) (C_check_rule : Cal P w K mg base CX0 2 "check_rule" (sp_check_rule K w c)) (C_is_word : Cal P w K mg base CX0 1 "is_word" (sp_is_word K w c)) : FnOk P w K mg base CX0 3 f fd ["self", "rows", "rule", "words"] (sp_Book_init K w c) := by
  refine F.ok sc_Book_init (fun vs H Q E h => len_Book_init h) (fun cdv A outer s H vs Q E hr h => ⟨t_Book_init K w c, ?_, rd_Book_init T.axt.ax h⟩)
  exact (pss_cons (ps_if (PW.pt (pw_or (pt_not (pt_val (pe_callB call_isiG rfl T.b_isinstance (by decide +kernel) (pa_cons (pv 1) (pa_cons (pe_bltn rfl T.b_tuple (by decide +kernel) rfl) pa_nil))))) (pw_or1 (pt_not (pt_chain op_le op_le pe_int (pe_callB call_lenG rfl T.b_len (by decide +kernel) (pa_cons (pv 1) pa_nil)) (C8.pe_gc rfl T.g_MOST_ROWS)))))) (pss_one ps_never) pss_nil)
      (pss_cons (ps_if (pt_not (pt_val (pe_callB (cr_all rfl) rfl T.b_all (by decide +kernel) (pa_cons (pe_lc (own := [("row", 4)]) (g := (gName 4)) (tt := tYes) rfl sc_Book_init.nd (pi_seq (pv 1)) (blkOk_by (own := [("row", 4)]) (N := Book_init_N) (sc := defScope s_Book_init) (by decide +kernel)) (fun _ _ _ _ _ => (pg_name (i := 4) sc_Book_init.nd rfl (Or.inl rfl))) (fun _ _ _ _ _ => pts_nil) (fun _ _ _ _ _ => (pe_cal C_is_edition hr (by decide) rfl (pa_cons (pv 4) (pa_cons pe_int pa_nil))))) pa_nil)))) (pss_one ps_never) pss_nil)
      (pss_cons (ps_expr (pe_cal C_check_rule hr (by decide) rfl (pa_cons (pv 2) pa_nil)))
      (pss_cons (ps_if (PW.pt (pw_or (pt_not (pt_val (pe_callB call_isiG rfl T.b_isinstance (by decide +kernel) (pa_cons (pv 3) (pa_cons (pe_bltn rfl T.b_tuple (by decide +kernel) rfl) pa_nil))))) (pw_or1 (pt_not (pt_val (pe_callB (cr_all rfl) rfl T.b_all (by decide +kernel) (pa_cons (pe_lc (own := [("word", 5)]) (g := (gName 5)) (tt := tYes) rfl sc_Book_init.nd (pi_seq (pv 3)) (blkOk_by (own := [("word", 5)]) (N := Book_init_N) (sc := defScope s_Book_init) (by decide +kernel)) (fun _ _ _ _ _ => (pg_name (i := 5) sc_Book_init.nd rfl (Or.inl rfl))) (fun _ _ _ _ _ => pts_nil) (fun _ _ _ _ _ => (pe_cal C_is_word hr (by decide) rfl (pa_cons (pv 5) (pa_cons (C8.pe_gc rfl T.g_WORDS) pa_nil))))) pa_nil))))))) (pss_one ps_never) pss_nil)
      (pss_cons (ps_if (pt_cmpR (op_neD hr.units) (pe_lc (own := [("word", 5)]) (g := (gName 5)) (tt := (tTest (tOp (rInG K false) (tVar 5) (tVar 3)))) rfl sc_Book_init.nd (pi_seq (C8.pe_gc rfl T.g_WORDS)) (blkOk_by (own := [("word", 5)]) (N := Book_init_N) (sc := defScope s_Book_init) (by decide +kernel)) (fun _ _ _ _ _ => (pg_name (i := 5) sc_Book_init.nd rfl (Or.inl rfl))) (fun _ _ _ _ _ => (pts_one (pt_cmpR (op_inG (hu65 hr)) (pv 5) (pv 3) rfl))) (fun _ _ _ _ _ => (pv 5))) (pe_callTy call_listG rfl T.b_list (by decide +kernel) (pa_cons (pv 3) pa_nil)) (nomark _)) (pss_one ps_never) pss_nil)
      (pss_cons (ps_fld (pv 0) (pv 1) rfl)
      (pss_cons (ps_fld (pv 0) (pe_dc (own := [("part", 6)]) (g := (gName 6)) (tt := tYes) rfl sc_Book_init.nd (pi_keysW (C8.pe_gc rfl T.g_PARTS)) (blkOk_by (own := [("part", 6)]) (N := Book_init_N) (sc := defScope s_Book_init) (by decide +kernel)) (fun _ _ _ _ _ => (pg_name (i := 6) sc_Book_init.nd rfl (Or.inl rfl))) (fun _ _ _ _ _ => pts_nil) (fun _ _ _ _ _ => (pv 6)) (fun _ _ _ _ _ => (pe_dget (hu_of hr) (pv 2) (pv 6) (fun _ _ => rfl)))) rfl)
      (pss_one (ps_fld (pv 0) (pv 3) rfl)))))))))
abbrev s_line_atX : Stmt := top 19
abbrev line_atX_N : List Str := ["lines", "index"]
theorem sc_line_at : FnScope line_atX_N ["lines", "index"] (defScope s_line_atX) := ⟨rfl, rfl, rfl, by decide +kernel, rfl, by decide +kernel, by decide +kernel⟩
theorem ok_line_atX {f : Addr} {fd : FuncData} (F : Fun K "line_at" "line_at" s_line_atX f fd) (T : Tx K w mg c) (X_InvalidLine : XcF P w K mg c.InvalidLine "InvalidLine" "line") : FnOk P w K mg base (L2.CX P w) 1 f fd ["lines", "index"] (sp_line_atX K w c) := by
  refine F.okX sc_line_at (fun vs H Q E h => len_line_atX h) (fun cdv A outer s H vs Q E hr h => ⟨t_line_atX K w c E, ?_, rd_line_atX h⟩)
  exact (pss_cons (ps_if (pt_cmpR op_ge (pv 1) (pe_callB call_lenG rfl T.b_len (by decide +kernel) (pa_cons (pv 0) pa_nil)) (nomark _)) (pss_one (ps_raiseF rfl X_InvalidLine hr (takes_of rfl rfl rfl rfl) (by exact (pa_cons (pe_op op_addG (pe_callB call_lenG rfl T.b_len (by decide +kernel) (pa_cons (pv 0) pa_nil)) pe_int) pa_nil)))) pss_nil)
      (pss_one (ps_ret (pe_split (pe_ix ix_seq (pv 0) (pv 1) (fun _ _ => rfl)) pe_str))))
abbrev s_rows_atX : Stmt := top 20
abbrev rows_atX_N : List Str := ["lines", "words", "word"]
theorem sc_rows_at : FnScope rows_atX_N ["lines"] (defScope s_rows_atX) := ⟨rfl, rfl, rfl, by decide +kernel, rfl, by decide +kernel, by decide +kernel⟩
theorem ok_rows_atX {f : Addr} {fd : FuncData} (F : Fun K "rows_at" "rows_at" s_rows_atX f fd) (T : Tx K w mg c) (C_line_at : Cal P w K mg base (L2.CX P w) 1 "line_at" (sp_line_atX K w c)) (X_InvalidLine : XcF P w K mg c.InvalidLine "InvalidLine" "line") : FnOk P w K mg base (L2.CX P w) 2 f fd ["lines"] (sp_rows_atX K w c) := by
  refine F.okX sc_rows_at (fun vs H Q E h => len_rows_atX h) (fun cdv A outer s H vs Q E hr h => ⟨t_rows_atX K w c E, ?_, rd_rows_atX T.axt h⟩)
  exact (pss_cons (ps_set (i := 1) sc_rows_at.nd rfl (Or.inl rfl) (pe_calX C_line_at hr (by decide) (takes_of rfl rfl rfl rfl) rfl (pa_cons (pv 0) (pa_cons pe_int pa_nil))))
      (pss_cons (ps_if (PW.pt (pw_or (pt_cmpR (op_neD hr.units) (pe_ix ix_seq (pv 1) pe_int (fun _ _ => rfl)) pe_str (nomark _)) (pw_or (pt_not (pt_chain op_le op_le pe_int (pe_callB call_lenG rfl T.b_len (by decide +kernel) (pa_cons (pv 1) pa_nil)) (pe_op op_addG (C8.pe_gc rfl T.g_MOST_ROWS) pe_int))) (pw_or1 (pt_not (pt_val (pe_callB (cr_all rfl) rfl T.b_all (by decide +kernel) (pa_cons (pe_lc (own := [("word", 2)]) (g := (gName 2)) (tt := tYes) rfl sc_rows_at.nd (pi_seq (pe_slice sl_G (pv 1) (po_some pe_int) po_none)) (blkOk_by (own := [("word", 2)]) (N := rows_atX_N) (sc := defScope s_rows_atX) (by decide +kernel)) (fun _ _ _ _ _ => (pg_name (i := 2) sc_rows_at.nd rfl (Or.inl rfl))) (fun _ _ _ _ _ => pts_nil) (fun _ _ _ _ _ => (pe_cmpR op_inW (pv 2) (C8.pe_gc rfl T.g_ROWS) rfl))) pa_nil)))))))) (pss_one (ps_raiseF rfl X_InvalidLine hr (takes_of rfl rfl rfl rfl) (by exact (pa_cons pe_int pa_nil)))) pss_nil)
      (pss_one (ps_ret (pe_callTy call_tupG rfl T.b_tuple (by decide +kernel) (pa_cons (pe_lc (own := [("word", 2)]) (g := (gName 2)) (tt := tYes) rfl sc_rows_at.nd (pi_seq (pe_slice sl_G (pv 1) (po_some pe_int) po_none)) (blkOk_by (own := [("word", 2)]) (N := rows_atX_N) (sc := defScope s_rows_atX) (by decide +kernel)) (fun _ _ _ _ _ => (pg_name (i := 2) sc_rows_at.nd rfl (Or.inl rfl))) (fun _ _ _ _ _ => pts_nil) (fun _ _ _ _ _ => (pe_ix ix_W (C8.pe_gc rfl T.g_ROWS) (pv 2) (fun _ _ => rfl)))) pa_nil))))))
abbrev s_word_atX : Stmt := top 21
abbrev word_atX_N : List Str := ["lines", "index", "part", "allowed", "words"]
theorem sc_word_at : FnScope word_atX_N ["lines", "index", "part", "allowed"] (defScope s_word_atX) := ⟨rfl, rfl, rfl, by decide +kernel, rfl, by decide +kernel, by decide +kernel⟩
theorem ok_word_atX {f : Addr} {fd : FuncData} (F : Fun K "word_at" "word_at" s_word_atX f fd) (T : Tx K w mg c) (C_line_at : Cal P w K mg base (L2.CX P w) 1 "line_at" (sp_line_atX K w c)) (X_InvalidLine : XcF P w K mg c.InvalidLine "InvalidLine" "line") : FnOk P w K mg base (L2.CX P w) 2 f fd ["lines", "index", "part", "allowed"] (sp_word_atX K w c) := by
  refine F.okX sc_word_at (fun vs H Q E h => len_word_atX h) (fun cdv A outer s H vs Q E hr h => ⟨t_word_atX K w c E, ?_, rd_word_atX h⟩)
  exact (pss_cons (ps_set (i := 4) sc_word_at.nd rfl (Or.inl rfl) (pe_calX C_line_at hr (by decide) (takes_of rfl rfl rfl rfl) rfl (pa_cons (pv 0) (pa_cons (pv 1) pa_nil))))
      (pss_cons (ps_if (PW.pt (pw_or (pt_cmpR (op_neD hr.units) (pe_callB call_lenG rfl T.b_len (by decide +kernel) (pa_cons (pv 4) pa_nil)) pe_int (nomark _)) (pw_or (pt_cmpR (op_neD hr.units) (pe_ix ix_seq (pv 4) pe_int (fun _ _ => rfl)) (pv 2) (nomark _)) (pw_or1 (pt_cmpR (op_notInG (hu65 hr)) (pe_ix ix_seq (pv 4) pe_int (fun _ _ => rfl)) (pv 3) rfl))))) (pss_one (ps_raiseF rfl X_InvalidLine hr (takes_of rfl rfl rfl rfl) (by exact (pa_cons (pe_op op_addG (pv 1) pe_int) pa_nil)))) pss_nil)
      (pss_one (ps_ret (pe_ix ix_seq (pv 4) pe_int (fun _ _ => rfl))))))
abbrev s_words_atX : Stmt := top 22
abbrev words_atX_N : List Str := ["lines", "index", "words", "word"]
theorem sc_words_at : FnScope words_atX_N ["lines", "index"] (defScope s_words_atX) := ⟨rfl, rfl, rfl, by decide +kernel, rfl, by decide +kernel, by decide +kernel⟩
theorem ok_words_atX {f : Addr} {fd : FuncData} (F : Fun K "words_at" "words_at" s_words_atX f fd) (T : Tx K w mg c) (C_line_at : Cal P w K mg base (L2.CX P w) 1 "line_at" (sp_line_atX K w c)) (X_InvalidLine : XcF P w K mg c.InvalidLine "InvalidLine" "line") : FnOk P w K mg base (L2.CX P w) 2 f fd ["lines", "index"] (sp_words_atX K w c) := by
  refine F.okX sc_words_at (fun vs H Q E h => len_words_atX h) (fun cdv A outer s H vs Q E hr h => ⟨t_words_atX K w c E, ?_, rd_words_atX T.axt.ax h⟩)
  exact (pss_cons (ps_set (i := 2) sc_words_at.nd rfl (Or.inr rfl) (pe_calX C_line_at hr (by decide) (takes_of rfl rfl rfl rfl) rfl (pa_cons (pv 0) (pa_cons (pv 1) pa_nil))))
      (pss_cons (ps_if (PW.pt (pw_or (pt_cmpR (op_neD hr.units) (pe_ix ix_seq (pv 2) pe_int (fun _ _ => rfl)) pe_str (nomark _)) (pw_or1 (pt_cmpR (op_neD hr.units) (pe_lc (own := [("word", 3)]) (g := (gName 3)) (tt := (tTest (tOp (rInG K false) (tVar 3) (tSl (rSlG K) (tVar 2) (tPart (tC (.int 1))) tNoPart)))) rfl sc_words_at.nd (pi_seq (C8.pe_gc rfl T.g_WORDS)) (blkOk_by (own := [("word", 3)]) (N := words_atX_N) (sc := defScope s_words_atX) (by decide +kernel)) (fun _ _ _ _ _ => (pg_name (i := 3) sc_words_at.nd rfl (Or.inl rfl))) (fun _ _ _ _ _ => (pts_one (pt_cmpR (op_inG (hu65 hr)) (pv 3) (pe_slice sl_G (pv 2) (po_some pe_int) po_none) rfl))) (fun _ _ _ _ _ => (pv 3))) (pe_slice sl_G (pv 2) (po_some pe_int) po_none) (nomark _))))) (pss_one (ps_raiseF rfl X_InvalidLine hr (takes_of rfl rfl rfl rfl) (by exact (pa_cons (pe_op op_addG (pv 1) pe_int) pa_nil)))) pss_nil)
      (pss_one (ps_ret (pe_callTy call_tupG rfl T.b_tuple (by decide +kernel) (pa_cons (pe_slice sl_G (pv 2) (po_some pe_int) po_none) pa_nil))))))
abbrev s_readX : Stmt := top 23
abbrev readX_N : List Str := ["text", "lines", "rule", "index", "rows", "part", "allowed", "words"]
theorem sc_read : FnScope readX_N ["text"] (defScope s_readX) := ⟨rfl, rfl, rfl, by decide +kernel, rfl, by decide +kernel, by decide +kernel⟩
theorem ok_readX {f : Addr} {fd : FuncData} (F : Fun K "read" "read" s_readX f fd) (T : Tx K w mg c) (C_rows_at : Cal P w K mg base (L2.CX P w) 2 "rows_at" (sp_rows_atX K w c)) (C_word_at : Cal P w K mg base (L2.CX P w) 2 "word_at" (sp_word_atX K w c)) (C_words_at : Cal P w K mg base (L2.CX P w) 2 "words_at" (sp_words_atX K w c)) (C_Book_init : Mak P w K mg base CX0 3 "Book" c.Book (sp_Book_init K w c)) (X_InvalidLine : XcF P w K mg c.InvalidLine "InvalidLine" "line") : FnOk P w K mg base (L2.CX P w) 5 f fd ["text"] (sp_readX K w c) := by
  refine F.okX sc_read (fun vs H Q E h => len_readX h) (fun cdv A outer s H vs Q E hr h => ⟨t_readX K w c E, ?_, rd_readX T.axt.ax h⟩)
  exact (pss_cons (ps_par3 (i := 1) (j := 2) (l := 3) rfl sc_read.nd rfl rfl rfl (by decide) (by decide) (by decide) rfl rfl rfl (pa_cons (pe_split (pv 0) pe_str) (pa_cons pe_dnewK (pa_cons pe_int pa_nil))) rfl)
      (pss_cons (ps_set (i := 4) sc_read.nd rfl (Or.inl rfl) (pe_calX C_rows_at hr (by decide) (takes_of rfl rfl rfl rfl) rfl (pa_cons (pv 1) pa_nil)))
      (pss_cons (ps_for (passes_of rfl) rfl (pi_itemsW (C8.pe_gc rfl T.g_PARTS)) (pg_tup rfl (pgs_cons (pg_name (i := 5) sc_read.nd rfl (Or.inl rfl)) (pgs_cons (pg_name (i := 6) sc_read.nd rfl (Or.inl rfl)) pgs_nil)))
      (pss_cons (ps_dput (hu_of hr) (pv 2) (pv 5) (pe_calX C_word_at hr (by decide) (takes_of rfl rfl rfl rfl) rfl (pa_cons (pv 1) (pa_cons (pv 3) (pa_cons (pv 5) (pa_cons (pv 6) pa_nil))))) rfl)
      (pss_one (ps_aug (i := 3) sc_read.nd rfl (.inl rfl) pe_int ip_add))))
      (pss_cons (ps_set (i := 7) sc_read.nd rfl (Or.inl rfl) (pe_calX C_words_at hr (by decide) (takes_of rfl rfl rfl rfl) rfl (pa_cons (pv 1) (pa_cons (pv 3) pa_nil))))
      (pss_cons (ps_if (pt_cmpR op_gt (pe_callB call_lenG rfl T.b_len (by decide +kernel) (pa_cons (pv 1) pa_nil)) (pe_op op_addG (pv 3) pe_int) (nomark _)) (pss_one (ps_raiseF rfl X_InvalidLine hr (takes_of rfl rfl rfl rfl) (by exact (pa_cons (pe_op op_addG (pv 3) pe_int) pa_nil)))) pss_nil)
      (pss_one (ps_ret (pe_mak C_Book_init hr (by decide) rfl (pa_cons (pv 4) (pa_cons (pv 2) (pa_cons (pv 7) pa_nil)))))))))))
abbrev s__law_mix : Stmt := top 25
abbrev _law_mix_N : List Str := ["_law_script", "_law_seed", "_law_state", "_law_cell"]
theorem sc__law_mix : FnScope _law_mix_N ["_law_script", "_law_seed"] (defScope s__law_mix) := ⟨rfl, rfl, rfl, by decide +kernel, rfl, by decide +kernel, by decide +kernel⟩
theorem ok__law_mix {f : Addr} {fd : FuncData} (F : Fun K "_law_mix" "_law_mix" s__law_mix f fd) (T : Tx K w mg c) : FnOk P w K mg base CX0 1 f fd ["_law_script", "_law_seed"] (sp__law_mix K w c) := by
  refine F.ok sc__law_mix (fun vs H Q E h => len__law_mix h) (fun cdv A outer s H vs Q E hr h => ⟨t__law_mix K w c, ?_, rd__law_mix h⟩)
  exact (pss_cons (ps_set (i := 2) sc__law_mix.nd rfl (Or.inl rfl) (pv 1))
      (pss_cons (ps_for PassesOwn.never rfl (pi_seq (pv 0)) (pg_name (i := 3) sc__law_mix.nd rfl (Or.inl rfl))
      (pss_one (ps_set (i := 2) sc__law_mix.nd rfl (Or.inl rfl) (pe_op op_modN (pe_callTy call_intG rfl T.b_int (by decide +kernel) (pa_cons (pe_op op_addG (pe_op op_addG (pe_op op_mul (pv 2) pe_int) (pe_op op_modN (pe_callTy call_intG rfl T.b_int (by decide +kernel) (pa_cons (pv 3) pa_nil)) pe_int)) pe_int) pa_nil)) pe_int))))
      (pss_one (ps_ret (pe_lst (pa_cons (pv 2) (pa_cons (pe_callTy call_listG rfl T.b_list (by decide +kernel) (pa_cons (pv 0) pa_nil)) (pa_cons pe_int pa_nil))))))))
abbrev s__law_next : Stmt := top 26
abbrev _law_next_N : List Str := ["_law_h", "_law_cap", "_law_cell"]
theorem sc__law_next : FnScope _law_next_N ["_law_h", "_law_cap"] (defScope s__law_next) := ⟨rfl, rfl, rfl, by decide +kernel, rfl, by decide +kernel, by decide +kernel⟩
theorem ok__law_next {f : Addr} {fd : FuncData} (F : Fun K "_law_next" "_law_next" s__law_next f fd) (T : Tx K w mg c) : FnOk P w K mg base CX0 1 f fd ["_law_h", "_law_cap"] (sp__law_next K w c) := by
  refine F.ok sc__law_next (fun vs H Q E h => len__law_next h) (fun cdv A outer s H vs Q E hr h => ⟨t__law_next K w c, ?_, rd__law_next h⟩)
  exact (pss_cons (ps_set (i := 2) sc__law_next.nd rfl (Or.inl rfl) (pe_ix ix_seq (pe_op op_addG (pe_ix ix_seq (pv 0) pe_int (fun _ _ => rfl)) (pe_lst (pa_cons pe_int pa_nil))) (pe_op op_modN (pe_callTy call_intG rfl T.b_int (by decide +kernel) (pa_cons (pe_ix ix_seq (pv 0) pe_int (fun _ _ => rfl)) pa_nil)) (pe_callB (call_max2G rfl) rfl T.b_max (by decide +kernel) (pa_cons pe_int (pa_cons (pe_callB call_lenG rfl T.b_len (by decide +kernel) (pa_cons (pe_ix ix_seq (pv 0) pe_int (fun _ _ => rfl)) pa_nil)) pa_nil)))) (fun _ _ => rfl)))
      (pss_cons (ps_if (pt_cmpR op_ge (pv 2) (pe_op op_pow pe_int pe_int) (nomark _)) (pss_cons (ps_asg (pe_op op_fdivN (pv 2) (pv 1)) (pg_sub (pe_ix ix_seq (pv 0) pe_int (fun _ _ => rfl)) (pe_op op_modN (pe_callTy call_intG rfl T.b_int (by decide +kernel) (pa_cons (pe_ix ix_seq (pv 0) pe_int (fun _ _ => rfl)) pa_nil)) (pe_callB call_lenG rfl T.b_len (by decide +kernel) (pa_cons (pe_ix ix_seq (pv 0) pe_int (fun _ _ => rfl)) pa_nil))) set_list))
      (pss_one (ps_ret (pe_op op_modN (pe_callTy call_intG rfl T.b_int (by decide +kernel) (pa_cons (pv 2) pa_nil)) (pv 1))))) pss_nil)
      (pss_cons (ps_asg (pe_op op_modN (pe_callTy call_intG rfl T.b_int (by decide +kernel) (pa_cons (pe_op op_addG (pe_op op_addG (pe_op op_mul (pe_ix ix_seq (pv 0) pe_int (fun _ _ => rfl)) pe_int) (pe_op op_mul (pv 2) pe_int)) pe_int) pa_nil)) pe_int) (pg_sub (pv 0) pe_int set_list))
      (pss_cons (ps_asg (pe_op op_addG (pe_ix ix_seq (pv 0) pe_int (fun _ _ => rfl)) pe_int) (pg_sub (pv 0) pe_int set_list))
      (pss_one (ps_ret (pe_op op_modN (pe_callTy call_intG rfl T.b_int (by decide +kernel) (pa_cons (pe_op op_fdivN (pe_ix ix_seq (pv 0) pe_int (fun _ _ => rfl)) pe_int) pa_nil)) (pv 1))))))))
abbrev s__law_alike : Stmt := top 27
abbrev _law_alike_N : List Str := ["_law_found", "_law_due", "_law_k"]
theorem sc__law_alike : FnScope _law_alike_N ["_law_found", "_law_due"] (defScope s__law_alike) := ⟨rfl, rfl, rfl, by decide +kernel, rfl, by decide +kernel, by decide +kernel⟩
theorem ok__law_alike {f : Addr} {fd : FuncData} (F : Fun K "_law_alike" "_law_alike" s__law_alike f fd) (T : Tx K w mg c) : FnOk P w K mg base CX0 1 f fd ["_law_found", "_law_due"] (sp__law_alike K w c) := by
  refine F.ok sc__law_alike (fun vs H Q E h => len__law_alike h) (fun cdv A outer s H vs Q E hr h => ⟨t__law_alike K w c, ?_, rd__law_alike h⟩)
  exact (pss_cons (ps_if (pt_val (pe_callB call_isiG rfl T.b_isinstance (by decide +kernel) (pa_cons (pv 1) (pa_cons (pe_bltn rfl T.b_dict (by decide +kernel) rfl) pa_nil)))) pss_never pss_nil)
      (pss_cons (ps_if (pt_val (pe_callB call_isiG rfl T.b_isinstance (by decide +kernel) (pa_cons (pv 1) (pa_cons (pe_tup (pa_cons (pe_bltn rfl T.b_tuple (by decide +kernel) rfl) (pa_cons (pe_bltn rfl T.b_list (by decide +kernel) rfl) pa_nil))) pa_nil)))) pss_never pss_nil)
      (pss_cons (ps_if (PW.pt (pw_or (pt_cmpR op_isN (pv 1) pe_non (nomark _)) (pw_or1 (pt_val (pe_callB call_isiG rfl T.b_isinstance (by decide +kernel) (pa_cons (pv 1) (pa_cons (pe_bltn rfl T.b_str (by decide +kernel) rfl) pa_nil))))))) (pss_one (ps_ret (pe_and (pe_cmpR (op_eqD hr.units) (pv 0) (pv 1) (nomark _)) (pe_one (pe_cmpR (op_eqD hr.units) (pe_callB call_isiG rfl T.b_isinstance (by decide +kernel) (pa_cons (pv 0) (pa_cons (pe_bltn rfl T.b_str (by decide +kernel) rfl) pa_nil))) (pe_callB call_isiG rfl T.b_isinstance (by decide +kernel) (pa_cons (pv 1) (pa_cons (pe_bltn rfl T.b_str (by decide +kernel) rfl) pa_nil))) (nomark _)))))) pss_nil)
      (pss_one (ps_ret (pe_and (pe_callB call_isiG rfl T.b_isinstance (by decide +kernel) (pa_cons (pv 0) (pa_cons (pe_bltn rfl T.b_int (by decide +kernel) rfl) pa_nil))) (pe_and (pe_cmpR (op_eqD hr.units) (pe_callB call_isiG rfl T.b_isinstance (by decide +kernel) (pa_cons (pv 0) (pa_cons (pe_bltn rfl T.b_bool (by decide +kernel) rfl) pa_nil))) (pe_callB call_isiG rfl T.b_isinstance (by decide +kernel) (pa_cons (pv 1) (pa_cons (pe_bltn rfl T.b_bool (by decide +kernel) rfl) pa_nil))) (nomark _)) (pe_one (pe_cmpR (op_eqD hr.units) (pv 0) (pv 1) (nomark _))))))))))
abbrev s__law_pick : Stmt := top 28
abbrev _law_pick_N : List Str := ["_law_h", "_law_things"]
theorem sc__law_pick : FnScope _law_pick_N ["_law_h", "_law_things"] (defScope s__law_pick) := ⟨rfl, rfl, rfl, by decide +kernel, rfl, by decide +kernel, by decide +kernel⟩
theorem ok__law_pick {f : Addr} {fd : FuncData} (F : Fun K "_law_pick" "_law_pick" s__law_pick f fd) (T : Tx K w mg c) (C__law_next : Cal P w K mg base CX0 1 "_law_next" (sp__law_next K w c)) : FnOk P w K mg base CX0 2 f fd ["_law_h", "_law_things"] (sp__law_pick K w c) := by
  refine F.ok sc__law_pick (fun vs H Q E h => len__law_pick h) (fun cdv A outer s H vs Q E hr h => ⟨t__law_pick K w c, ?_, rd__law_pick h⟩)
  exact (pss_one (ps_ret (pe_ix ix_seq (pv 1) (pe_cal C__law_next hr (by decide) rfl (pa_cons (pv 0) (pa_cons (pe_callB call_lenG rfl T.b_len (by decide +kernel) (pa_cons (pv 1) pa_nil)) pa_nil))) (fun _ _ => rfl))))
abbrev s__law_parts : Stmt := top 29
abbrev _law_parts_N : List Str := ["_law_found"]
theorem sc__law_parts : FnScope _law_parts_N [] (defScope s__law_parts) := ⟨rfl, rfl, rfl, by decide +kernel, rfl, by decide +kernel, by decide +kernel⟩
theorem ok__law_parts {f : Addr} {fd : FuncData} (F : Fun K "_law_parts" "_law_parts" s__law_parts f fd) (T : Tx K w mg c) : FnOk P w K mg base CX0 1 f fd [] (sp__law_parts K w c) := by
  refine F.ok sc__law_parts (fun vs H Q E h => len__law_parts h) (fun cdv A outer s H vs Q E hr h => ⟨t__law_parts K w c, ?_, rd__law_parts h⟩)
  exact (pss_cons (ps_set (i := 0) sc__law_parts.nd rfl (Or.inl rfl) (pe_lst (pa_cons (pe_lst (pa_cons pe_str (pa_cons pe_str (pa_cons pe_str pa_nil)))) (pa_cons (pe_lst (pa_cons pe_str (pa_cons pe_str (pa_cons pe_str pa_nil)))) (pa_cons (pe_lst (pa_cons pe_str (pa_cons pe_str (pa_cons pe_str pa_nil)))) pa_nil)))))
      (pss_one (ps_ret (pe_op op_addG (pv 0) (pe_lst (pa_cons (pe_lst (pa_cons pe_str (pa_cons pe_str (pa_cons pe_str pa_nil)))) (pa_cons (pe_lst (pa_cons pe_str (pa_cons pe_str (pa_cons pe_str (pa_cons pe_str pa_nil))))) (pa_cons (pe_lst (pa_cons pe_str (pa_cons pe_str (pa_cons pe_str pa_nil)))) pa_nil))))))))
abbrev s__law_rule : Stmt := top 30
abbrev _law_rule_N : List Str := ["_law_h", "_law_rule_here", "_law_row"]
theorem sc__law_rule : FnScope _law_rule_N ["_law_h"] (defScope s__law_rule) := ⟨rfl, rfl, rfl, by decide +kernel, rfl, by decide +kernel, by decide +kernel⟩
theorem ok__law_rule {f : Addr} {fd : FuncData} (F : Fun K "_law_rule" "_law_rule" s__law_rule f fd) (T : Tx K w mg c) (C__law_parts : Cal P w K mg base CX0 1 "_law_parts" (sp__law_parts K w c)) (C__law_pick : Cal P w K mg base CX0 2 "_law_pick" (sp__law_pick K w c)) (C__law_next : Cal P w K mg base CX0 1 "_law_next" (sp__law_next K w c)) : FnOk P w K mg base CX0 3 f fd ["_law_h"] (sp__law_rule K w c) := by
  refine F.ok sc__law_rule (fun vs H Q E h => len__law_rule h) (fun cdv A outer s H vs Q E hr h => ⟨t__law_rule K w c, ?_, rd__law_rule h⟩)
  exact (pss_cons (ps_set (i := 1) sc__law_rule.nd rfl (Or.inl rfl) pe_dnewK)
      (pss_cons (ps_for PassesOwn.never rfl (pi_seq (pe_cal0 C__law_parts hr (by decide) rfl)) (pg_name (i := 2) sc__law_rule.nd rfl (Or.inl rfl))
      (pss_one (ps_dput (hu_of hr) (pv 1) (pe_ix ix_seq (pv 2) pe_int (fun _ _ => rfl)) (pe_cal C__law_pick hr (by decide) rfl (pa_cons (pv 0) (pa_cons (pe_slice sl_G (pv 2) (po_some pe_int) po_none) pa_nil))) rfl)))
      (pss_cons (ps_if (pt_cmpR (op_eqD hr.units) (pe_cal C__law_next hr (by decide) rfl (pa_cons (pv 0) (pa_cons pe_int pa_nil))) pe_int (nomark _)) (pss_one (ps_dput (hu_of hr) (pv 1) pe_str pe_str rfl)) pss_nil)
      (pss_one (ps_ret (pv 1))))))
abbrev s__law_with : Stmt := top 31
abbrev _law_with_N : List Str := ["_law_rule_here", "_law_part", "_law_word", "_law_found"]
theorem sc__law_with : FnScope _law_with_N ["_law_rule_here", "_law_part", "_law_word"] (defScope s__law_with) := ⟨rfl, rfl, rfl, by decide +kernel, rfl, by decide +kernel, by decide +kernel⟩
theorem ok__law_with {f : Addr} {fd : FuncData} (F : Fun K "_law_with" "_law_with" s__law_with f fd) (T : Tx K w mg c) : FnOk P w K mg base CX0 1 f fd ["_law_rule_here", "_law_part", "_law_word"] (sp__law_with K w c) := by
  refine F.ok sc__law_with (fun vs H Q E h => len__law_with h) (fun cdv A outer s H vs Q E hr h => ⟨t__law_with K w c, ?_, rd__law_with h⟩)
  exact (pss_cons (ps_set (i := 3) sc__law_with.nd rfl (Or.inl rfl) (pe_callTy call_dictK rfl T.b_dict (by decide +kernel) (pa_cons (pv 0) pa_nil)))
      (pss_cons (ps_dput (hu_of hr) (pv 3) (pv 1) (pv 2) rfl)
      (pss_one (ps_ret (pv 3)))))
abbrev s__law_draw : Stmt := top 32
abbrev _law_draw_N : List Str := ["_law_h", "_law_rows", "_law_rule_here", "_law_k"]
theorem sc__law_draw : FnScope _law_draw_N ["_law_h"] (defScope s__law_draw) := ⟨rfl, rfl, rfl, by decide +kernel, rfl, by decide +kernel, by decide +kernel⟩
theorem ok__law_draw {f : Addr} {fd : FuncData} (F : Fun K "_law_draw" "_law_draw" s__law_draw f fd) (T : Tx K w mg c) (C__law_next : Cal P w K mg base CX0 1 "_law_next" (sp__law_next K w c)) (C__law_pick : Cal P w K mg base CX0 2 "_law_pick" (sp__law_pick K w c)) (C__law_rule : Cal P w K mg base CX0 3 "_law_rule" (sp__law_rule K w c)) (C__law_with : Cal P w K mg base CX0 1 "_law_with" (sp__law_with K w c)) : FnOk P w K mg base CX0 4 f fd ["_law_h"] (sp__law_draw K w c) := by
  refine F.ok sc__law_draw (fun vs H Q E h => len__law_draw h) (fun cdv A outer s H vs Q E hr h => ⟨t__law_draw K w c, ?_, rd__law_draw h⟩)
  exact (pss_cons (ps_set (i := 1) sc__law_draw.nd rfl (Or.inl rfl) (pe_callTy call_tupG rfl T.b_tuple (by decide +kernel) (pa_cons (pe_lc (own := [("_law_k", 3)]) (g := (gName 3)) (tt := tYes) rfl sc__law_draw.nd (pi_range1 rfl T.b_range (pa_cons (pe_op op_addG pe_int (pe_cal C__law_next hr (by decide) rfl (pa_cons (pv 0) (pa_cons pe_int pa_nil)))) pa_nil)) (blkOk_by (own := [("_law_k", 3)]) (N := _law_draw_N) (sc := defScope s__law_draw) (by decide +kernel)) (fun _ _ _ _ _ => (pg_name (i := 3) sc__law_draw.nd rfl (Or.inl rfl))) (fun _ _ _ _ _ => pts_nil) (fun _ _ _ _ _ => (pe_tup (pa_cons (pe_cal C__law_pick hr (by decide) rfl (pa_cons (pv 0) (pa_cons (pe_lst (pa_cons pe_str (pa_cons pe_str pa_nil))) pa_nil))) (pa_cons (pe_op op_addG pe_int (pe_cal C__law_next hr (by decide) rfl (pa_cons (pv 0) (pa_cons pe_int pa_nil)))) pa_nil))))) pa_nil)))
      (pss_cons (ps_set (i := 2) sc__law_draw.nd rfl (Or.inl rfl) (pe_cal C__law_rule hr (by decide) rfl (pa_cons (pv 0) pa_nil)))
      (pss_cons (ps_if (pt_cmpR (op_eqD hr.units) (pe_callB call_lenG rfl T.b_len (by decide +kernel) (pa_cons (pv 1) pa_nil)) pe_int (nomark _)) (pss_one (ps_ret (pe_lst (pa_cons (pv 1) (pa_cons (pv 2) (pa_cons (pe_cal C__law_pick hr (by decide) rfl (pa_cons (pv 0) (pa_cons (pe_lst (pa_cons (pe_tup pa_nil) (pa_cons (pe_tup (pa_cons pe_str pa_nil)) (pa_cons (pe_tup (pa_cons pe_str pa_nil)) (pa_cons (pe_tup (pa_cons pe_str (pa_cons pe_str pa_nil))) (pa_cons (pe_tup (pa_cons pe_str (pa_cons pe_str pa_nil))) pa_nil)))))) pa_nil))) pa_nil)))))) pss_nil)
      (pss_one (ps_ret (pe_lst (pa_cons (pv 1) (pa_cons (pe_cal C__law_with hr (by decide) rfl (pa_cons (pv 2) (pa_cons pe_str (pa_cons pe_str pa_nil)))) (pa_cons (pe_cal C__law_pick hr (by decide) rfl (pa_cons (pv 0) (pa_cons (pe_lst (pa_cons (pe_tup pa_nil) (pa_cons (pe_tup (pa_cons pe_str pa_nil)) (pa_cons (pe_tup (pa_cons pe_str pa_nil)) pa_nil)))) pa_nil))) pa_nil)))))))))
abbrev s__law_is_line : Stmt := top 33
abbrev _law_is_line_N : List Str := ["_law_words", "_law_k", "_law_part", "_law_word"]
theorem sc__law_is_line : FnScope _law_is_line_N ["_law_words", "_law_k"] (defScope s__law_is_line) := ⟨rfl, rfl, rfl, by decide +kernel, rfl, by decide +kernel, by decide +kernel⟩
theorem ok__law_is_line {f : Addr} {fd : FuncData} (F : Fun K "_law_is_line" "_law_is_line" s__law_is_line f fd) (T : Tx K w mg c) (C__law_parts : Cal P w K mg base CX0 1 "_law_parts" (sp__law_parts K w c)) : FnOk P w K mg base CX0 2 f fd ["_law_words", "_law_k"] (sp__law_is_line K w c) := by
  refine F.ok sc__law_is_line (fun vs H Q E h => len__law_is_line h) (fun cdv A outer s H vs Q E hr h => ⟨t__law_is_line K w c, ?_, rd__law_is_line h⟩)
  exact (pss_cons (ps_if (pt_cmpR (op_eqD hr.units) (pv 1) pe_int (nomark _)) (pss_cons (ps_if (PW.pt (pw_or (pt_cmpR (op_neD hr.units) (pe_ix ix_seq (pv 0) pe_int (fun _ _ => rfl)) pe_str (nomark _)) (pw_or1 (pt_cmpR (op_notInG (hu65 hr)) (pe_callB call_lenG rfl T.b_len (by decide +kernel) (pa_cons (pv 0) pa_nil)) (pe_lst (pa_cons pe_int (pa_cons pe_int pa_nil))) rfl)))) (pss_one (ps_ret pe_bl)) pss_nil)
      (pss_one (ps_ret (pe_cmpR (op_eqD hr.units) (pe_lc (own := [("_law_word", 3)]) (g := (gName 3)) (tt := (tTest (tOp (rInG K true) (tVar 3) (tLst (tCons (tC (.str "a1")) (tCons (tC (.str "a2")) (tCons (tC (.str "b1")) (tCons (tC (.str "b2")) tNil)))))))) rfl sc__law_is_line.nd (pi_seq (pe_slice sl_G (pv 0) (po_some pe_int) po_none)) (blkOk_by (own := [("_law_word", 3)]) (N := _law_is_line_N) (sc := defScope s__law_is_line) (by decide +kernel)) (fun _ _ _ _ _ => (pg_name (i := 3) sc__law_is_line.nd rfl (Or.inl rfl))) (fun _ _ _ _ _ => (pts_one (pt_cmpR (op_notInG (hu65 hr)) (pv 3) (pe_lst (pa_cons pe_str (pa_cons pe_str (pa_cons pe_str (pa_cons pe_str pa_nil))))) rfl))) (fun _ _ _ _ _ => (pv 3))) (pe_lst pa_nil) (nomark _))))) pss_nil)
      (pss_cons (ps_if (pt_cmpR op_lt (pv 1) pe_int (nomark _)) (pss_cons (ps_set (i := 2) sc__law_is_line.nd rfl (Or.inl rfl) (pe_ix ix_seq (pe_cal0 C__law_parts hr (by decide) rfl) (pe_op op_sub (pv 1) pe_int) (fun _ _ => rfl)))
      (pss_one (ps_ret (pe_and (pe_cmpR (op_eqD hr.units) (pe_callB call_lenG rfl T.b_len (by decide +kernel) (pa_cons (pv 0) pa_nil)) pe_int (nomark _)) (pe_and (pe_cmpR (op_eqD hr.units) (pe_ix ix_seq (pv 0) pe_int (fun _ _ => rfl)) (pe_ix ix_seq (pv 2) pe_int (fun _ _ => rfl)) (nomark _)) (pe_one (pe_cmpR (op_inG (hu65 hr)) (pe_ix ix_seq (pv 0) pe_int (fun _ _ => rfl)) (pe_slice sl_G (pv 2) (po_some pe_int) po_none) rfl))))))) pss_nil)
      (pss_cons (ps_if (PW.pt (pw_or (pt_cmpR op_gt (pv 1) pe_int (nomark _)) (pw_or1 (pt_cmpR (op_neD hr.units) (pe_ix ix_seq (pv 0) pe_int (fun _ _ => rfl)) pe_str (nomark _))))) (pss_one (ps_ret pe_bl)) pss_nil)
      (pss_one (ps_ret (pe_cmpR (op_inG (hu65 hr)) (pe_slice sl_G (pv 0) (po_some pe_int) po_none) (pe_lst (pa_cons (pe_lst pa_nil) (pa_cons (pe_lst (pa_cons pe_str pa_nil)) (pa_cons (pe_lst (pa_cons pe_str pa_nil)) (pa_cons (pe_lst (pa_cons pe_str (pa_cons pe_str pa_nil))) pa_nil))))) rfl))))))
abbrev s__law_first_wrong : Stmt := top 34
abbrev _law_first_wrong_N : List Str := ["_law_lines", "_law_k"]
theorem sc__law_first_wrong : FnScope _law_first_wrong_N ["_law_lines"] (defScope s__law_first_wrong) := ⟨rfl, rfl, rfl, by decide +kernel, rfl, by decide +kernel, by decide +kernel⟩
theorem ok__law_first_wrong {f : Addr} {fd : FuncData} (F : Fun K "_law_first_wrong" "_law_first_wrong" s__law_first_wrong f fd) (T : Tx K w mg c) (C__law_is_line : Cal P w K mg base CX0 2 "_law_is_line" (sp__law_is_line K w c)) : FnOk P w K mg base CX0 3 f fd ["_law_lines"] (sp__law_first_wrong K w c) := by
  refine F.ok sc__law_first_wrong (fun vs H Q E h => len__law_first_wrong h) (fun cdv A outer s H vs Q E hr h => ⟨t__law_first_wrong K w c, ?_, rd__law_first_wrong h⟩)
  exact (pss_cons (ps_for PassesOwn.never rfl (pi_range1 rfl T.b_range (pa_cons (pe_callB call_lenG rfl T.b_len (by decide +kernel) (pa_cons (pv 0) pa_nil)) pa_nil)) (pg_name (i := 1) sc__law_first_wrong.nd rfl (Or.inl rfl))
      (pss_one (ps_if (pt_not (pt_val (pe_cal C__law_is_line hr (by decide) rfl (pa_cons (pe_split (pe_ix ix_seq (pv 0) (pv 1) (fun _ _ => rfl)) pe_str) (pa_cons (pv 1) pa_nil))))) (pss_one (ps_ret (pe_op op_addG (pv 1) pe_int))) pss_nil)))
      (pss_one (ps_ret (pe_ifExp (pt_cmpR op_lt (pe_callB call_lenG rfl T.b_len (by decide +kernel) (pa_cons (pv 0) pa_nil)) pe_int (nomark _)) (pe_op op_addG (pe_callB call_lenG rfl T.b_len (by decide +kernel) (pa_cons (pv 0) pa_nil)) pe_int) pe_non))))
abbrev s__law_answer : Stmt := top 35
abbrev _law_answer_N : List Str := ["_law_text", "_law_found", "error"]
theorem sc__law_answer : FnScope _law_answer_N ["_law_text"] (defScope s__law_answer) := ⟨rfl, rfl, rfl, by decide +kernel, rfl, by decide +kernel, by decide +kernel⟩
theorem ok__law_answer {f : Addr} {fd : FuncData} (F : Fun K "_law_answer" "_law_answer" s__law_answer f fd) (T : Tx K w mg c) (C_read : Cal P w K mg base (L2.CX P w) 5 "read" (sp_readX K w c)) : FnOk P w K mg base CX0 6 f fd ["_law_text"] (sp__law_answer K w c) := by
  refine F.ok sc__law_answer (fun vs H Q E h => len__law_answer h) (fun cdv A outer s H vs Q E hr h => ⟨t__law_answer K w c, ?_, rd__law_answer T.axx h⟩)
  exact (pss_cons (ps_set (i := 1) sc__law_answer.nd rfl (Or.inl rfl) pe_non)
      (pss_cons (ps_try_as (i := 2) (tb := fun W => (tDrop (tCallS (sp_readX K w c) (WE W) (tCons (tVar 0) tNil)))) (ts := t_suite K w c) (Wout := fun _ _ _ _ => False) rfl rfl sc__law_answer.nd rfl rfl ⟨rfl, by decide, Or.inl T.m_InvalidLine⟩ takes0
      (fun W pn xe tk _ => (pss_one (ps_expr (pe_calS C_read hr (by decide) (fun σ => passAt tk σ) rfl (by exact (pa_cons (pv 0) pa_nil))))))
      (fun a oe cls d pn hz hf => (pss_one (ps_set (i := 1) sc__law_answer.nd rfl (Or.inl rfl) (pe_ifExp (pt_val (pe_callB (call_isD T.xC T.xcl hz hf) rfl T.b_isinstance (by decide +kernel) (pa_cons (pv 2) (pa_cons (C8.pe_gc rfl T.g_AheadError) pa_nil)))) (pe_xf T.xF T.xn hz hf (pv 2)) (pe_un un_neg pe_int))))))
      (pss_one (ps_ret (pv 1)))))
abbrev s_law : Stmt := top 36
abbrev law_N : List Str := ["_law_script", "_law_h", "_law_odd", "_law_turn", "_law_row", "_law_lines", "_law_change", "_law_at", "_law_kind", "_law_key", "_law_day", "_law_part"]
theorem sc_law : FnScope law_N ["_law_script"] (defScope s_law) := ⟨rfl, rfl, rfl, by decide +kernel, rfl, by decide +kernel, by decide +kernel⟩
theorem ok_law {f : Addr} {fd : FuncData} (F : Fun K "law" "law" s_law f fd) (T : Tx K w mg c) (C__law_mix : Cal P w K mg base CX0 1 "_law_mix" (sp__law_mix K w c)) (C__law_draw : Cal P w K mg base CX0 4 "_law_draw" (sp__law_draw K w c)) (C__law_parts : Cal P w K mg base CX0 1 "_law_parts" (sp__law_parts K w c)) (C__law_next : Cal P w K mg base CX0 1 "_law_next" (sp__law_next K w c)) (C__law_pick : Cal P w K mg base CX0 2 "_law_pick" (sp__law_pick K w c)) (C__law_alike : Cal P w K mg base CX0 1 "_law_alike" (sp__law_alike K w c)) (C__law_first_wrong : Cal P w K mg base CX0 3 "_law_first_wrong" (sp__law_first_wrong K w c)) (C__law_answer : Cal P w K mg base CX0 6 "_law_answer" (sp__law_answer K w c)) : FnOk P w K mg base CX0 7 f fd ["_law_script"] (sp_law K w c) := by
  refine F.ok sc_law (fun vs H Q E h => len_law h) (fun cdv A outer s H vs Q E hr h => ⟨t_law K w c, ?_, rd_law T.axx h⟩)
  exact (pss_cons (ps_set (i := 1) sc_law.nd rfl (Or.inl rfl) (pe_cal C__law_mix hr (by decide) rfl (pa_cons (pv 0) (pa_cons pe_int pa_nil))))
      (pss_cons (ps_set (i := 2) sc_law.nd rfl (Or.inl rfl) (pe_lst (pa_cons pe_str (pa_cons pe_str (pa_cons pe_str (pa_cons pe_str (pa_cons pe_str (pa_cons pe_str (pa_cons pe_str pa_nil)))))))))
      (pss_cons (ps_set (i := 2) sc_law.nd rfl (Or.inl rfl) (pe_op op_addG (pv 2) (pe_lst (pa_cons pe_str (pa_cons pe_str pa_nil)))))
      (pss_cons (ps_set (i := 2) sc_law.nd rfl (Or.inl rfl) (pe_op op_addG (pv 2) (pe_lst (pa_cons pe_str (pa_cons pe_str (pa_cons pe_str (pa_cons pe_str (pa_cons pe_str pa_nil))))))))
      (pss_cons (ps_set (i := 2) sc_law.nd rfl (Or.inl rfl) (pe_op op_addG (pv 2) (pe_lst (pa_cons pe_str (pa_cons pe_str (pa_cons pe_str pa_nil))))))
      (pss_cons (ps_for PassesOwn.never rfl (pi_range1 rfl T.b_range (pa_cons pe_int pa_nil)) (pg_name (i := 3) sc_law.nd rfl (Or.inl rfl))
      (pss_cons (ps_set (i := 4) sc_law.nd rfl (Or.inr rfl) (pe_cal C__law_draw hr (by decide) rfl (pa_cons (pv 1) pa_nil)))
      (pss_cons (ps_set (i := 5) sc_law.nd rfl (Or.inl rfl) (pe_lst (pa_cons (pe_join pe_str (pe_op op_addG (pe_lst (pa_cons pe_str pa_nil)) (pe_lc (own := [("_law_key", 9), ("_law_day", 10)]) (g := (gTup K 2 (gCons (gName 9) (gCons (gName 10) gNil)))) (tt := tYes) rfl sc_law.nd (pi_seq (pe_ix ix_seq (pv 4) pe_int (fun _ _ => rfl))) (blkOk_by (own := [("_law_key", 9), ("_law_day", 10)]) (N := law_N) (sc := defScope s_law) (by decide +kernel)) (fun _ _ _ _ _ => (pg_tup rfl (pgs_cons (pg_name (i := 9) sc_law.nd rfl (Or.inl rfl)) (pgs_cons (pg_name (i := 10) sc_law.nd rfl (Or.inl rfl)) pgs_nil)))) (fun _ _ _ _ _ => pts_nil) (fun _ _ _ _ _ => (pe_op op_addG (pv 9) (pe_callTy call_strI rfl T.b_str (by decide +kernel) (pa_cons (pv 10) pa_nil))))))) pa_nil)))
      (pss_cons (ps_set (i := 5) sc_law.nd rfl (Or.inl rfl) (pe_op op_addG (pv 5) (pe_lc (own := [("_law_part", 11)]) (g := (gName 11)) (tt := tYes) rfl sc_law.nd (pi_seq (pe_cal0 C__law_parts hr (by decide) rfl)) (blkOk_by (own := [("_law_part", 11)]) (N := law_N) (sc := defScope s_law) (by decide +kernel)) (fun _ _ _ _ _ => (pg_name (i := 11) sc_law.nd rfl (Or.inl rfl))) (fun _ _ _ _ _ => pts_nil) (fun _ _ _ _ _ => (pe_op op_addG (pe_op op_addG (pe_ix ix_seq (pv 11) pe_int (fun _ _ => rfl)) pe_str) (pe_dget (hu_of hr) (pe_ix ix_seq (pv 4) pe_int (fun _ _ => rfl)) (pe_ix ix_seq (pv 11) pe_int (fun _ _ => rfl)) (fun _ _ => rfl)))))))
      (pss_cons (ps_set (i := 5) sc_law.nd rfl (Or.inl rfl) (pe_op op_addG (pv 5) (pe_lst (pa_cons (pe_join pe_str (pe_op op_addG (pe_lst (pa_cons pe_str pa_nil)) (pe_callTy call_listG rfl T.b_list (by decide +kernel) (pa_cons (pe_ix ix_seq (pv 4) pe_int (fun _ _ => rfl)) pa_nil)))) pa_nil))))
      (pss_cons (ps_for PassesOwn.never rfl (pi_range1 rfl T.b_range (pa_cons (pe_cal C__law_next hr (by decide) rfl (pa_cons (pv 1) (pa_cons pe_int pa_nil))) pa_nil)) (pg_name (i := 6) sc_law.nd rfl (Or.inl rfl))
      (pss_cons (ps_par (i := 7) (j := 8) rfl sc_law.nd rfl rfl (by decide) rfl rfl (pa_cons (pe_cal C__law_next hr (by decide) rfl (pa_cons (pv 1) (pa_cons (pe_op op_addG (pe_callB call_lenG rfl T.b_len (by decide +kernel) (pa_cons (pv 5) pa_nil)) pe_int) pa_nil))) (pa_cons (pe_cal C__law_next hr (by decide) rfl (pa_cons (pv 1) (pa_cons pe_int pa_nil))) pa_nil)) rfl)
      (pss_one (ps_if (pt_cmpR (op_eqD hr.units) (pv 8) pe_int (nomark _)) (pss_one (ps_set (i := 5) sc_law.nd rfl (Or.inl rfl) (pe_op op_addG (pe_op op_addG (pe_slice sl_G (pv 5) po_none (po_some (pv 7))) (pe_lst (pa_cons (pe_cal C__law_pick hr (by decide) rfl (pa_cons (pv 1) (pa_cons (pv 2) pa_nil))) pa_nil))) (pe_slice sl_G (pv 5) (po_some (pv 7)) po_none)))) (pss_one (ps_if (pt_cmpR (op_eqD hr.units) (pv 8) pe_int (nomark _)) (pss_one (ps_set (i := 5) sc_law.nd rfl (Or.inl rfl) (pe_op op_addG (pe_op op_addG (pe_slice sl_G (pv 5) po_none (po_some (pv 7))) (pe_lst (pa_cons (pe_cal C__law_pick hr (by decide) rfl (pa_cons (pv 1) (pa_cons (pv 2) pa_nil))) pa_nil))) (pe_slice sl_G (pv 5) (po_some (pe_op op_addG (pv 7) pe_int)) po_none)))) (pss_one (ps_set (i := 5) sc_law.nd rfl (Or.inl rfl) (pe_ifExp (PW.pt (pw_and (pt_cmpR (op_eqD hr.units) (pv 8) pe_int (nomark _)) (pw_and1 (pt_cmpR op_gt (pe_callB call_lenG rfl T.b_len (by decide +kernel) (pa_cons (pv 5) pa_nil)) pe_int (nomark _))))) (pe_op op_addG (pe_slice sl_G (pv 5) po_none (po_some (pv 7))) (pe_slice sl_G (pv 5) (po_some (pe_op op_addG (pv 7) pe_int)) po_none)) (pe_op op_addG (pe_slice sl_G (pv 5) (po_some (pv 7)) po_none) (pe_slice sl_G (pv 5) po_none (po_some (pv 7)))))))))))))
      (pss_one (ps_if (pt_not (pt_val (pe_cal C__law_alike hr (by decide) rfl (pa_cons (pe_cal C__law_answer hr (by decide) rfl (pa_cons (pe_join pe_str (pv 5)) pa_nil)) (pa_cons (pe_cal C__law_first_wrong hr (by decide) rfl (pa_cons (pv 5) pa_nil)) pa_nil))))) (pss_one (ps_ret pe_bl)) pss_nil))))))))
      (pss_one (ps_ret (pe_cmpR (op_eqD hr.units) (pe_cal C__law_answer hr (by decide) rfl (pa_cons pe_str pa_nil)) pe_int (nomark _))))))))))
end
end Ah
namespace Ah
open PySem PySem.Spec PyProof.Rows L2 Evl
theorem kit_sub {K : PySem.W.Frag} {t C : Addr} (h1 : PySem.W.isClsIn K C = true) (h2 : PySem.W.typeIn K (.ref C) = some (.type "type")) (h3 : PySem.W.subIn K (.ref t) (.ref C) = some true) : PySem.W.kitOne K (.ref t) (.ref C) = some true := by
  unfold PySem.W.kitOne
  split
  · rfl
  · show (if ((PySem.W.clsIn K C).isSome && PySem.W.typeIn K (.ref C) == some (.type "type")) = true then PySem.W.subIn K (.ref t) (.ref C) else none) = some true
    have h1' : (PySem.W.clsIn K C).isSome = true := h1
    rw [h1', h2, h3] <;> rfl
theorem exm_own {K : PySem.W.Frag} {S : Addr} (h2 : PySem.W.isClsIn K S = true) (h1 : PySem.W.subIn K (.ref S) (.type "BaseException") = some true) (h3 : PySem.W.typeIn K (.ref S) = some (.type "type")) (h4 : PySem.W.subIn K (.ref S) (.ref S) = some true) : PySem.W.exmOne K (.ref S) (.ref S) = some true := by
  have e1 : (PySem.W.subIn K (.ref S) (.type "BaseException") == some true) = true := by rw [h1] <;> rfl
  have e2 : ((PySem.W.clsIn K S).isSome && PySem.W.typeIn K (.ref S) == some (.type "type")) = true := by
    have h2' : (PySem.W.clsIn K S).isSome = true := h2
    rw [h2', h3] <;> rfl
  show (if (PySem.W.subIn K (.ref S) (.type "BaseException") == some true) = true then (if ((PySem.W.clsIn K S).isSome && PySem.W.typeIn K (.ref S) == some (.type "type")) = true then PySem.W.subIn K (.ref S) (.ref S) else none) else none) = some true
  rw [if_pos e1, if_pos e2]
  exact h4
def ad0 : Ad := { KEYS := 0, PARTS := 0, WORDS := 0, ROWS := 0, Book := 0 }
theorem vals_len {xs : List V} {its : Array Value} (h : Vals xs its.toList) : its.size = xs.length := by
  have e := Paired.length h
  rw [e]; simp
theorem tup_at {K : PySem.W.Frag} {G : Hp} {a : Addr} {od : Option Addr} {its : Array Value} {n : Nat} {sl : Array (Option Value)} {xs : List V} (l : K.lookup a = some ⟨.type "tuple", od, .seq its n, sl⟩) (v : Vals xs its.toList) (hx : xs.length ≤ 100 := by decide) : SqT K G a xs :=
  .inr ⟨_, its, n, l, rfl, rfl, by rw [vals_len v]; exact sz_of (by omega), v⟩
theorem kd_at {K : PySem.W.Frag} {w : World} {a : Addr} {es : Array DictEntry} {n : Nat} {kvs : List (Str × V)} (l : K.lookup a = some ⟨.type "dict", none, .dict es n, #[]⟩) (v : EnL w.params es.toList kvs) (lo : (a == sysModules) = false) (nd : (kvs.map (·.1)).Nodup) (hl : kvs.length ≤ 1000) : KD K w a kvs :=
  ⟨⟨es, n, l, v⟩, lo, nd, hl⟩
abbrev s_InvalidLine_init : Stmt := L2.inClass (top 6) 0
section
variable {prog : Program} {w : World} {K : PySem.W.Frag} {mg : Str → Option Value} {C fI : Addr}
open PySem.W PySem.Calls PySem.HandSPX PySem.AhX in
theorem init_InvalidLine (T : SupTxt prog K mg C fI "InvalidLine" "InvalidLine.__init__" s_InvalidLine_init) (no : findIn K (.ref C) "line" = some none) (hsup : mg "super" = none) (htop : (prog.main.scope.names.lookup ("super" : Str)).isSome = false) : InitOk prog w K mg C fI "line" := by
  intro A R s x t0 v X hlim hg hb hx hnx hroom hq
  obtain ⟨oc, od, doc, pm, an, cda, cc, ct, osl, vs, file, tf, c1, c2, d1, d2, s1, s2, ho, hcd, hcode, hvs, hfile, hcell⟩ := T.fn
  refine ks_codeAny_call_defAt (binds := [("self", .ref x), ("line", v)]) hroom (X _ _ ho) rfl hlim (codeRec_of X hcd) rfl (BindsTo.of_eq (by first | rfl | with_unfolding_all rfl)) (show ∀ y ∈ (L2.defScope s_InvalidLine_init).names, y.2 ≠ .cell from by decide +kernel) (by intro y hy; simp only [List.mem_cons, List.not_mem_nil, or_false] at hy; rcases hy with e | e <;> rw [e] <;> rfl) (fun h₁ hns hk₁ => ?_)
  obtain ⟨mb, hb1, hb2⟩ := hb
  have X1 := X.keeps hk₁
  have hL : s.heap.objs.size ≠ x := Nat.ne_of_gt (Heap.lt_size hx)
  refine ks_wpAt_execs_cons (ks_wpAt_Expr_any ?_)
  refine sup_expr T X1 (hg.keeps hk₁) hsup ⟨mb, hb1.keeps hk₁, hb2⟩ hns (hk₁ _ _ hx) (by rfl) hnx ho hcode hvs hfile hcell (by rfl) (by rfl) (by rfl) (by rfl) (by rfl) (by rfl) htop (by rfl) (fun h2 tk2 t1 S => ?_)
  obtain ⟨hns2, hlt⟩ := ns_keep hns hL S.keep
  refine wpAt_of_wpAny (wpAny_execs_cons ?_)
  refine store_expr T (kept_but X1 hnx S.keep) hns2 hL S.obj (by rfl) (by rfl) no (by rfl) (by rfl) (by rfl) (by rfl) (by rfl) (fun h3 tk3 dx I => ?_)
  exact wpAny_execs_nil (hq h3 tk3 dx t1 ⟨fun b o hb hh => I.keep b o hb (S.keep b o hb (hk₁ b o hh)), I.obj, Nat.le_of_lt (Nat.lt_of_lt_of_le hlt I.dbig), I.dne, I.ns⟩)
end
theorem all_mk {l : PySem.W.OpenLaw} {w : World} {K : PySem.W.Frag} {h : Heap} {mg : Str → Option Value} {fa : Addr}
    {f_is_integer : Addr} {od_is_integer an_is_integer : Option Addr} {sl_is_integer : Array (Option Value)} {oc_is_integer kV_is_integer dc_is_integer pm_is_integer cd_is_integer ct_is_integer : Value}
    {f_is_word : Addr} {od_is_word an_is_word : Option Addr} {sl_is_word : Array (Option Value)} {oc_is_word kV_is_word dc_is_word pm_is_word cd_is_word ct_is_word : Value}
    {f_is_edition : Addr} {od_is_edition an_is_edition : Option Addr} {sl_is_edition : Array (Option Value)} {oc_is_edition kV_is_edition dc_is_edition pm_is_edition cd_is_edition ct_is_edition : Value}
    {f_check_rule : Addr} {od_check_rule an_check_rule : Option Addr} {sl_check_rule : Array (Option Value)} {oc_check_rule kV_check_rule dc_check_rule pm_check_rule cd_check_rule ct_check_rule : Value}
    {f_Book_init : Addr} {od_Book_init an_Book_init : Option Addr} {sl_Book_init : Array (Option Value)} {oc_Book_init kV_Book_init dc_Book_init pm_Book_init cd_Book_init ct_Book_init : Value}
    {f_line_atX : Addr} {od_line_atX an_line_atX : Option Addr} {sl_line_atX : Array (Option Value)} {oc_line_atX kV_line_atX dc_line_atX pm_line_atX cd_line_atX ct_line_atX : Value}
    {f_rows_atX : Addr} {od_rows_atX an_rows_atX : Option Addr} {sl_rows_atX : Array (Option Value)} {oc_rows_atX kV_rows_atX dc_rows_atX pm_rows_atX cd_rows_atX ct_rows_atX : Value}
    {f_word_atX : Addr} {od_word_atX an_word_atX : Option Addr} {sl_word_atX : Array (Option Value)} {oc_word_atX kV_word_atX dc_word_atX pm_word_atX cd_word_atX ct_word_atX : Value}
    {f_words_atX : Addr} {od_words_atX an_words_atX : Option Addr} {sl_words_atX : Array (Option Value)} {oc_words_atX kV_words_atX dc_words_atX pm_words_atX cd_words_atX ct_words_atX : Value}
    {f_readX : Addr} {od_readX an_readX : Option Addr} {sl_readX : Array (Option Value)} {oc_readX kV_readX dc_readX pm_readX cd_readX ct_readX : Value}
    {f__law_mix : Addr} {od__law_mix an__law_mix : Option Addr} {sl__law_mix : Array (Option Value)} {oc__law_mix kV__law_mix dc__law_mix pm__law_mix cd__law_mix ct__law_mix : Value}
    {f__law_next : Addr} {od__law_next an__law_next : Option Addr} {sl__law_next : Array (Option Value)} {oc__law_next kV__law_next dc__law_next pm__law_next cd__law_next ct__law_next : Value}
    {f__law_alike : Addr} {od__law_alike an__law_alike : Option Addr} {sl__law_alike : Array (Option Value)} {oc__law_alike kV__law_alike dc__law_alike pm__law_alike cd__law_alike ct__law_alike : Value}
    {f__law_pick : Addr} {od__law_pick an__law_pick : Option Addr} {sl__law_pick : Array (Option Value)} {oc__law_pick kV__law_pick dc__law_pick pm__law_pick cd__law_pick ct__law_pick : Value}
    {f__law_parts : Addr} {od__law_parts an__law_parts : Option Addr} {sl__law_parts : Array (Option Value)} {oc__law_parts kV__law_parts dc__law_parts pm__law_parts cd__law_parts ct__law_parts : Value}
    {f__law_rule : Addr} {od__law_rule an__law_rule : Option Addr} {sl__law_rule : Array (Option Value)} {oc__law_rule kV__law_rule dc__law_rule pm__law_rule cd__law_rule ct__law_rule : Value}
    {f__law_with : Addr} {od__law_with an__law_with : Option Addr} {sl__law_with : Array (Option Value)} {oc__law_with kV__law_with dc__law_with pm__law_with cd__law_with ct__law_with : Value}
    {f__law_draw : Addr} {od__law_draw an__law_draw : Option Addr} {sl__law_draw : Array (Option Value)} {oc__law_draw kV__law_draw dc__law_draw pm__law_draw cd__law_draw ct__law_draw : Value}
    {f__law_is_line : Addr} {od__law_is_line an__law_is_line : Option Addr} {sl__law_is_line : Array (Option Value)} {oc__law_is_line kV__law_is_line dc__law_is_line pm__law_is_line cd__law_is_line ct__law_is_line : Value}
    {f__law_first_wrong : Addr} {od__law_first_wrong an__law_first_wrong : Option Addr} {sl__law_first_wrong : Array (Option Value)} {oc__law_first_wrong kV__law_first_wrong dc__law_first_wrong pm__law_first_wrong cd__law_first_wrong ct__law_first_wrong : Value}
    {f__law_answer : Addr} {od__law_answer an__law_answer : Option Addr} {sl__law_answer : Array (Option Value)} {oc__law_answer kV__law_answer dc__law_answer pm__law_answer cd__law_answer ct__law_answer : Value}
    {f_law : Addr} {od_law an_law : Option Addr} {sl_law : Array (Option Value)} {oc_law kV_law dc_law pm_law cd_law ct_law : Value}
    {C_Book : Addr}
    {A_KEYS : Addr}
    {od_KEYS : Option Addr} {it_KEYS : Array Value} {n_KEYS : Nat} {sl_KEYS : Array (Option Value)}
    {A_WORDS : Addr}
    {od_WORDS : Option Addr} {it_WORDS : Array Value} {n_WORDS : Nat} {sl_WORDS : Array (Option Value)}
    {A_PARTS : Addr} {es_PARTS : Array DictEntry} {m_PARTS : Nat}
    {p_PARTS0 p_PARTS1 p_PARTS2 p_PARTS3 p_PARTS4 p_PARTS5 : Addr}
    {A_ROWS : Addr} {es_ROWS : Array DictEntry} {m_ROWS : Nat}
    {p_ROWS0 p_ROWS1 p_ROWS2 p_ROWS3 : Addr}
    {t_MOST_ROWS : Tok}
    {C_InvalidLine f_InvalidLine cda_InvalidLine cc_InvalidLine : Addr} {nm_InvalidLine q_InvalidLine file_InvalidLine : Str} {N_InvalidLine : Addr} {bs_InvalidLine bm_InvalidLine : List Value} {sn_InvalidLine : List Str} {sub_InvalidLine : List Value} {ab_InvalidLine : Bool} {col_InvalidLine : Option Bool} {dd_InvalidLine : Option Addr} {k0_InvalidLine k1_InvalidLine k2_InvalidLine k3_InvalidLine k5_InvalidLine : Option Value} {od_InvalidLine an_InvalidLine d1_InvalidLine d2_InvalidLine : Option Addr} {sl_InvalidLine s1_InvalidLine s2_InvalidLine : Array (Option Value)} {oc_InvalidLine dc_InvalidLine pm_InvalidLine ct_InvalidLine c1_InvalidLine c2_InvalidLine : Value} {vs_InvalidLine : Array Value} {tf_InvalidLine : Tok}
    {C_AheadError : Addr}
    {od_PARTS0 : Option Addr} {it_PARTS0 : Array Value} {n_PARTS0 : Nat} {sl_PARTS0 : Array (Option Value)}
    {od_PARTS1 : Option Addr} {it_PARTS1 : Array Value} {n_PARTS1 : Nat} {sl_PARTS1 : Array (Option Value)}
    {od_PARTS2 : Option Addr} {it_PARTS2 : Array Value} {n_PARTS2 : Nat} {sl_PARTS2 : Array (Option Value)}
    {od_PARTS3 : Option Addr} {it_PARTS3 : Array Value} {n_PARTS3 : Nat} {sl_PARTS3 : Array (Option Value)}
    {od_PARTS4 : Option Addr} {it_PARTS4 : Array Value} {n_PARTS4 : Nat} {sl_PARTS4 : Array (Option Value)}
    {od_PARTS5 : Option Addr} {it_PARTS5 : Array Value} {n_PARTS5 : Nat} {sl_PARTS5 : Array (Option Value)}
    {od_ROWS0 : Option Addr} {it_ROWS0 : Array Value} {n_ROWS0 : Nat} {sl_ROWS0 : Array (Option Value)}
    {od_ROWS1 : Option Addr} {it_ROWS1 : Array Value} {n_ROWS1 : Nat} {sl_ROWS1 : Array (Option Value)}
    {od_ROWS2 : Option Addr} {it_ROWS2 : Array Value} {n_ROWS2 : Nat} {sl_ROWS2 : Array (Option Value)}
    {od_ROWS3 : Option Addr} {it_ROWS3 : Array Value} {n_ROWS3 : Nat} {sl_ROWS3 : Array (Option Value)}
    (X : K.In h) (G : h.Ns mainGlobals mg) (hfa : mg "law" = some (.ref fa))
    (a_Book : PySem.W.nsIn K mainGlobals "Book" = some (some (.ref C_Book)))
    (a_is_integer : PySem.W.nsIn K mainGlobals "is_integer" = some (some (.ref f_is_integer)))
    (l_is_integer : K.lookup f_is_integer = some ⟨oc_is_integer, od_is_integer, .func (PySem.W.fnOf "is_integer" "is_integer" (defArgs s_is_integer) (defBody s_is_integer) (defScope s_is_integer) .none kV_is_integer dc_is_integer pm_is_integer an_is_integer cd_is_integer ct_is_integer), sl_is_integer⟩)
    (c_is_integer : PySem.W.codeIn K cd_is_integer "is_integer" = true)
    (k_is_integer : PySem.W.keepIn K (.ref f_is_integer) = true)
    (a_is_word : PySem.W.nsIn K mainGlobals "is_word" = some (some (.ref f_is_word)))
    (l_is_word : K.lookup f_is_word = some ⟨oc_is_word, od_is_word, .func (PySem.W.fnOf "is_word" "is_word" (defArgs s_is_word) (defBody s_is_word) (defScope s_is_word) .none kV_is_word dc_is_word pm_is_word an_is_word cd_is_word ct_is_word), sl_is_word⟩)
    (c_is_word : PySem.W.codeIn K cd_is_word "is_word" = true)
    (k_is_word : PySem.W.keepIn K (.ref f_is_word) = true)
    (a_is_edition : PySem.W.nsIn K mainGlobals "is_edition" = some (some (.ref f_is_edition)))
    (l_is_edition : K.lookup f_is_edition = some ⟨oc_is_edition, od_is_edition, .func (PySem.W.fnOf "is_edition" "is_edition" (defArgs s_is_edition) (defBody s_is_edition) (defScope s_is_edition) .none kV_is_edition dc_is_edition pm_is_edition an_is_edition cd_is_edition ct_is_edition), sl_is_edition⟩)
    (c_is_edition : PySem.W.codeIn K cd_is_edition "is_edition" = true)
    (k_is_edition : PySem.W.keepIn K (.ref f_is_edition) = true)
    (a_check_rule : PySem.W.nsIn K mainGlobals "check_rule" = some (some (.ref f_check_rule)))
    (l_check_rule : K.lookup f_check_rule = some ⟨oc_check_rule, od_check_rule, .func (PySem.W.fnOf "check_rule" "check_rule" (defArgs s_check_rule) (defBody s_check_rule) (defScope s_check_rule) .none kV_check_rule dc_check_rule pm_check_rule an_check_rule cd_check_rule ct_check_rule), sl_check_rule⟩)
    (c_check_rule : PySem.W.codeIn K cd_check_rule "check_rule" = true)
    (k_check_rule : PySem.W.keepIn K (.ref f_check_rule) = true)
    (a_Book_init : PySem.W.findIn K (.ref C_Book) "__init__" = some (some (.ref f_Book_init)))
    (i_Book_init : PySem.W.isFn K (.ref f_Book_init) = true)
    (l_Book_init : K.lookup f_Book_init = some ⟨oc_Book_init, od_Book_init, .func (PySem.W.fnOf "__init__" "Book.__init__" (defArgs s_Book_init) (defBody s_Book_init) (defScope s_Book_init) .none kV_Book_init dc_Book_init pm_Book_init an_Book_init cd_Book_init ct_Book_init), sl_Book_init⟩)
    (c_Book_init : PySem.W.codeIn K cd_Book_init "Book.__init__" = true)
    (k_Book_init : PySem.W.keepIn K (.ref f_Book_init) = true)
    (a_line_atX : PySem.W.nsIn K mainGlobals "line_at" = some (some (.ref f_line_atX)))
    (l_line_atX : K.lookup f_line_atX = some ⟨oc_line_atX, od_line_atX, .func (PySem.W.fnOf "line_at" "line_at" (defArgs s_line_atX) (defBody s_line_atX) (defScope s_line_atX) .none kV_line_atX dc_line_atX pm_line_atX an_line_atX cd_line_atX ct_line_atX), sl_line_atX⟩)
    (c_line_atX : PySem.W.codeIn K cd_line_atX "line_at" = true)
    (k_line_atX : PySem.W.keepIn K (.ref f_line_atX) = true)
    (a_rows_atX : PySem.W.nsIn K mainGlobals "rows_at" = some (some (.ref f_rows_atX)))
    (l_rows_atX : K.lookup f_rows_atX = some ⟨oc_rows_atX, od_rows_atX, .func (PySem.W.fnOf "rows_at" "rows_at" (defArgs s_rows_atX) (defBody s_rows_atX) (defScope s_rows_atX) .none kV_rows_atX dc_rows_atX pm_rows_atX an_rows_atX cd_rows_atX ct_rows_atX), sl_rows_atX⟩)
    (c_rows_atX : PySem.W.codeIn K cd_rows_atX "rows_at" = true)
    (k_rows_atX : PySem.W.keepIn K (.ref f_rows_atX) = true)
    (a_word_atX : PySem.W.nsIn K mainGlobals "word_at" = some (some (.ref f_word_atX)))
    (l_word_atX : K.lookup f_word_atX = some ⟨oc_word_atX, od_word_atX, .func (PySem.W.fnOf "word_at" "word_at" (defArgs s_word_atX) (defBody s_word_atX) (defScope s_word_atX) .none kV_word_atX dc_word_atX pm_word_atX an_word_atX cd_word_atX ct_word_atX), sl_word_atX⟩)
    (c_word_atX : PySem.W.codeIn K cd_word_atX "word_at" = true)
    (k_word_atX : PySem.W.keepIn K (.ref f_word_atX) = true)
    (a_words_atX : PySem.W.nsIn K mainGlobals "words_at" = some (some (.ref f_words_atX)))
    (l_words_atX : K.lookup f_words_atX = some ⟨oc_words_atX, od_words_atX, .func (PySem.W.fnOf "words_at" "words_at" (defArgs s_words_atX) (defBody s_words_atX) (defScope s_words_atX) .none kV_words_atX dc_words_atX pm_words_atX an_words_atX cd_words_atX ct_words_atX), sl_words_atX⟩)
    (c_words_atX : PySem.W.codeIn K cd_words_atX "words_at" = true)
    (k_words_atX : PySem.W.keepIn K (.ref f_words_atX) = true)
    (a_readX : PySem.W.nsIn K mainGlobals "read" = some (some (.ref f_readX)))
    (l_readX : K.lookup f_readX = some ⟨oc_readX, od_readX, .func (PySem.W.fnOf "read" "read" (defArgs s_readX) (defBody s_readX) (defScope s_readX) .none kV_readX dc_readX pm_readX an_readX cd_readX ct_readX), sl_readX⟩)
    (c_readX : PySem.W.codeIn K cd_readX "read" = true)
    (k_readX : PySem.W.keepIn K (.ref f_readX) = true)
    (a__law_mix : PySem.W.nsIn K mainGlobals "_law_mix" = some (some (.ref f__law_mix)))
    (l__law_mix : K.lookup f__law_mix = some ⟨oc__law_mix, od__law_mix, .func (PySem.W.fnOf "_law_mix" "_law_mix" (defArgs s__law_mix) (defBody s__law_mix) (defScope s__law_mix) .none kV__law_mix dc__law_mix pm__law_mix an__law_mix cd__law_mix ct__law_mix), sl__law_mix⟩)
    (c__law_mix : PySem.W.codeIn K cd__law_mix "_law_mix" = true)
    (k__law_mix : PySem.W.keepIn K (.ref f__law_mix) = true)
    (a__law_next : PySem.W.nsIn K mainGlobals "_law_next" = some (some (.ref f__law_next)))
    (l__law_next : K.lookup f__law_next = some ⟨oc__law_next, od__law_next, .func (PySem.W.fnOf "_law_next" "_law_next" (defArgs s__law_next) (defBody s__law_next) (defScope s__law_next) .none kV__law_next dc__law_next pm__law_next an__law_next cd__law_next ct__law_next), sl__law_next⟩)
    (c__law_next : PySem.W.codeIn K cd__law_next "_law_next" = true)
    (k__law_next : PySem.W.keepIn K (.ref f__law_next) = true)
    (a__law_alike : PySem.W.nsIn K mainGlobals "_law_alike" = some (some (.ref f__law_alike)))
    (l__law_alike : K.lookup f__law_alike = some ⟨oc__law_alike, od__law_alike, .func (PySem.W.fnOf "_law_alike" "_law_alike" (defArgs s__law_alike) (defBody s__law_alike) (defScope s__law_alike) .none kV__law_alike dc__law_alike pm__law_alike an__law_alike cd__law_alike ct__law_alike), sl__law_alike⟩)
    (c__law_alike : PySem.W.codeIn K cd__law_alike "_law_alike" = true)
    (k__law_alike : PySem.W.keepIn K (.ref f__law_alike) = true)
    (a__law_pick : PySem.W.nsIn K mainGlobals "_law_pick" = some (some (.ref f__law_pick)))
    (l__law_pick : K.lookup f__law_pick = some ⟨oc__law_pick, od__law_pick, .func (PySem.W.fnOf "_law_pick" "_law_pick" (defArgs s__law_pick) (defBody s__law_pick) (defScope s__law_pick) .none kV__law_pick dc__law_pick pm__law_pick an__law_pick cd__law_pick ct__law_pick), sl__law_pick⟩)
    (c__law_pick : PySem.W.codeIn K cd__law_pick "_law_pick" = true)
    (k__law_pick : PySem.W.keepIn K (.ref f__law_pick) = true)
    (a__law_parts : PySem.W.nsIn K mainGlobals "_law_parts" = some (some (.ref f__law_parts)))
    (l__law_parts : K.lookup f__law_parts = some ⟨oc__law_parts, od__law_parts, .func (PySem.W.fnOf "_law_parts" "_law_parts" (defArgs s__law_parts) (defBody s__law_parts) (defScope s__law_parts) .none kV__law_parts dc__law_parts pm__law_parts an__law_parts cd__law_parts ct__law_parts), sl__law_parts⟩)
    (c__law_parts : PySem.W.codeIn K cd__law_parts "_law_parts" = true)
    (k__law_parts : PySem.W.keepIn K (.ref f__law_parts) = true)
    (a__law_rule : PySem.W.nsIn K mainGlobals "_law_rule" = some (some (.ref f__law_rule)))
    (l__law_rule : K.lookup f__law_rule = some ⟨oc__law_rule, od__law_rule, .func (PySem.W.fnOf "_law_rule" "_law_rule" (defArgs s__law_rule) (defBody s__law_rule) (defScope s__law_rule) .none kV__law_rule dc__law_rule pm__law_rule an__law_rule cd__law_rule ct__law_rule), sl__law_rule⟩)
    (c__law_rule : PySem.W.codeIn K cd__law_rule "_law_rule" = true)
    (k__law_rule : PySem.W.keepIn K (.ref f__law_rule) = true)
    (a__law_with : PySem.W.nsIn K mainGlobals "_law_with" = some (some (.ref f__law_with)))
    (l__law_with : K.lookup f__law_with = some ⟨oc__law_with, od__law_with, .func (PySem.W.fnOf "_law_with" "_law_with" (defArgs s__law_with) (defBody s__law_with) (defScope s__law_with) .none kV__law_with dc__law_with pm__law_with an__law_with cd__law_with ct__law_with), sl__law_with⟩)
    (c__law_with : PySem.W.codeIn K cd__law_with "_law_with" = true)
    (k__law_with : PySem.W.keepIn K (.ref f__law_with) = true)
    (a__law_draw : PySem.W.nsIn K mainGlobals "_law_draw" = some (some (.ref f__law_draw)))
    (l__law_draw : K.lookup f__law_draw = some ⟨oc__law_draw, od__law_draw, .func (PySem.W.fnOf "_law_draw" "_law_draw" (defArgs s__law_draw) (defBody s__law_draw) (defScope s__law_draw) .none kV__law_draw dc__law_draw pm__law_draw an__law_draw cd__law_draw ct__law_draw), sl__law_draw⟩)
    (c__law_draw : PySem.W.codeIn K cd__law_draw "_law_draw" = true)
    (k__law_draw : PySem.W.keepIn K (.ref f__law_draw) = true)
    (a__law_is_line : PySem.W.nsIn K mainGlobals "_law_is_line" = some (some (.ref f__law_is_line)))
    (l__law_is_line : K.lookup f__law_is_line = some ⟨oc__law_is_line, od__law_is_line, .func (PySem.W.fnOf "_law_is_line" "_law_is_line" (defArgs s__law_is_line) (defBody s__law_is_line) (defScope s__law_is_line) .none kV__law_is_line dc__law_is_line pm__law_is_line an__law_is_line cd__law_is_line ct__law_is_line), sl__law_is_line⟩)
    (c__law_is_line : PySem.W.codeIn K cd__law_is_line "_law_is_line" = true)
    (k__law_is_line : PySem.W.keepIn K (.ref f__law_is_line) = true)
    (a__law_first_wrong : PySem.W.nsIn K mainGlobals "_law_first_wrong" = some (some (.ref f__law_first_wrong)))
    (l__law_first_wrong : K.lookup f__law_first_wrong = some ⟨oc__law_first_wrong, od__law_first_wrong, .func (PySem.W.fnOf "_law_first_wrong" "_law_first_wrong" (defArgs s__law_first_wrong) (defBody s__law_first_wrong) (defScope s__law_first_wrong) .none kV__law_first_wrong dc__law_first_wrong pm__law_first_wrong an__law_first_wrong cd__law_first_wrong ct__law_first_wrong), sl__law_first_wrong⟩)
    (c__law_first_wrong : PySem.W.codeIn K cd__law_first_wrong "_law_first_wrong" = true)
    (k__law_first_wrong : PySem.W.keepIn K (.ref f__law_first_wrong) = true)
    (a__law_answer : PySem.W.nsIn K mainGlobals "_law_answer" = some (some (.ref f__law_answer)))
    (l__law_answer : K.lookup f__law_answer = some ⟨oc__law_answer, od__law_answer, .func (PySem.W.fnOf "_law_answer" "_law_answer" (defArgs s__law_answer) (defBody s__law_answer) (defScope s__law_answer) .none kV__law_answer dc__law_answer pm__law_answer an__law_answer cd__law_answer ct__law_answer), sl__law_answer⟩)
    (c__law_answer : PySem.W.codeIn K cd__law_answer "_law_answer" = true)
    (k__law_answer : PySem.W.keepIn K (.ref f__law_answer) = true)
    (a_law : PySem.W.nsIn K mainGlobals "law" = some (some (.ref f_law)))
    (l_law : K.lookup f_law = some ⟨oc_law, od_law, .func (PySem.W.fnOf "law" "law" (defArgs s_law) (defBody s_law) (defScope s_law) .none kV_law dc_law pm_law an_law cd_law ct_law), sl_law⟩)
    (c_law : PySem.W.codeIn K cd_law "law" = true)
    (k_law : PySem.W.keepIn K (.ref f_law) = true)
    (pg : PySem.W.plainGet K C_Book Str.empty = true)
    (hd : PySem.W.hasDictIn K C_Book = true)
    (po : PySem.W.plainOver K C_Book = true)
    (sa : PySem.W.findIn K (.ref C_Book) "__setattr__" = some (some (.builtin "object.__setattr__")))
    (mk : PySem.W.makesIn K C_Book = true)
    (kc : PySem.W.keepIn K (.ref C_Book) = true)
    (n_wanted : PySem.W.findIn K (.ref C_Book) "wanted" = some none)
    (n_terms : PySem.W.findIn K (.ref C_Book) "terms" = some none)
    (n_kinds : PySem.W.findIn K (.ref C_Book) "kinds" = some none)
    (ha : PySem.W.findIn K (.ref C_Book) "__class__" = some (some (.builtin "object.__class__")))
    (hn : PySem.W.specialIn K (.builtin "object.__class__") "__get__" = some (some (.builtin "getset_descriptor.__get__")))
    (htk : PySem.W.takesIn K (.builtin "object.__class__") = some true)
    (hm : PySem.W.mroIn K C_Book (.type "object") = some true)
    (a_KEYS : PySem.W.nsIn K mainGlobals "KEYS" = some (some (.ref A_KEYS)))
    (l_KEYS : K.lookup A_KEYS = some ⟨.type "tuple", od_KEYS, .seq it_KEYS n_KEYS, sl_KEYS⟩)
    (a_WORDS : PySem.W.nsIn K mainGlobals "WORDS" = some (some (.ref A_WORDS)))
    (l_WORDS : K.lookup A_WORDS = some ⟨.type "tuple", od_WORDS, .seq it_WORDS n_WORDS, sl_WORDS⟩)
    (a_PARTS : PySem.W.nsIn K mainGlobals "PARTS" = some (some (.ref A_PARTS)))
    (l_PARTS : K.lookup A_PARTS = some ⟨.type "dict", none, .dict es_PARTS m_PARTS, #[]⟩)
    (a_ROWS : PySem.W.nsIn K mainGlobals "ROWS" = some (some (.ref A_ROWS)))
    (l_ROWS : K.lookup A_ROWS = some ⟨.type "dict", none, .dict es_ROWS m_ROWS, #[]⟩)
    (a_MOST_ROWS : PySem.W.nsIn K mainGlobals "MOST_ROWS" = some (some (.int 2 t_MOST_ROWS)))
    (b_all : PySem.W.nsIn K mainGlobals "all" = some none)
    (b_bool : PySem.W.nsIn K mainGlobals "bool" = some none)
    (b_dict : PySem.W.nsIn K mainGlobals "dict" = some none)
    (b_int : PySem.W.nsIn K mainGlobals "int" = some none)
    (b_isinstance : PySem.W.nsIn K mainGlobals "isinstance" = some none)
    (b_len : PySem.W.nsIn K mainGlobals "len" = some none)
    (b_list : PySem.W.nsIn K mainGlobals "list" = some none)
    (b_max : PySem.W.nsIn K mainGlobals "max" = some none)
    (b_range : PySem.W.nsIn K mainGlobals "range" = some none)
    (b_str : PySem.W.nsIn K mainGlobals "str" = some none)
    (b_tuple : PySem.W.nsIn K mainGlobals "tuple" = some none)
    (a_InvalidLine : PySem.W.nsIn K mainGlobals "InvalidLine" = some (some (.ref C_InvalidLine)))
    (x_InvalidLine : K.lookup C_InvalidLine = some (excClassObj nm_InvalidLine q_InvalidLine C_InvalidLine N_InvalidLine bs_InvalidLine bm_InvalidLine true sn_InvalidLine sub_InvalidLine ab_InvalidLine col_InvalidLine dd_InvalidLine k0_InvalidLine k1_InvalidLine k2_InvalidLine k3_InvalidLine k5_InvalidLine "ValueError.__new__"))
    (sa_InvalidLine : PySem.W.findIn K (.ref C_InvalidLine) "__setattr__" = some (some (.builtin "object.__setattr__")))
    (ga_InvalidLine : PySem.W.findIn K (.ref C_InvalidLine) "__getattribute__" = some (some (.builtin "BaseException.__getattribute__")))
    (gg_InvalidLine : PySem.W.findIn K (.ref C_InvalidLine) "__getattr__" = some none)
    (i_InvalidLine : PySem.W.findIn K (.ref C_InvalidLine) "__init__" = some (some (.ref f_InvalidLine)))
    (k_InvalidLine : PySem.W.keepIn K (.ref C_InvalidLine) = true)
    (eb_InvalidLine : PySem.W.subIn K (.ref C_InvalidLine) (.type "BaseException") = some true)
    (ev_InvalidLine : PySem.W.subIn K (.ref C_InvalidLine) (.type "ValueError") = some true)
    (ty_InvalidLine : PySem.W.typeIn K (.ref C_InvalidLine) = some (.type "type"))
    (me_InvalidLine : PySem.W.mroIn K C_InvalidLine (.ref C_InvalidLine) = some true)
    (hd_InvalidLine : PySem.W.hasDictIn K C_InvalidLine = true)
    (ic_InvalidLine : PySem.W.isClsIn K C_InvalidLine = true)
    (se_InvalidLine : PySem.W.subIn K (.ref C_InvalidLine) (.ref C_InvalidLine) = some true)
    (hac_InvalidLine : PySem.W.findIn K (.ref C_InvalidLine) "__class__" = some (some (.builtin "object.__class__")))
    (mo_InvalidLine : PySem.W.mroIn K C_InvalidLine (.type "object") = some true)
    (t_InvalidLine : PySem.W.typeIn K (.ref f_InvalidLine) = some (.type "function"))
    (up_InvalidLine : PySem.W.ks_superIn K C_InvalidLine C_InvalidLine "__init__" = some (some (.builtin "ValueError.__init__")))
    (nf_InvalidLine : PySem.W.findIn K (.ref C_InvalidLine) "line" = some none)
    (l_InvalidLine : K.lookup f_InvalidLine = some ⟨oc_InvalidLine, od_InvalidLine, .func (PySem.W.ksFn "__init__" "InvalidLine.__init__" (defArgs s_InvalidLine_init) (defBody s_InvalidLine_init) (defScope s_InvalidLine_init) .none .none dc_InvalidLine pm_InvalidLine an_InvalidLine (.ref cda_InvalidLine) ct_InvalidLine cc_InvalidLine), sl_InvalidLine⟩)
    (c_InvalidLine : PySem.W.codeIn K (.ref cda_InvalidLine) "InvalidLine.__init__" = true)
    (cd_InvalidLine : K.lookup cda_InvalidLine = some ⟨c1_InvalidLine, d1_InvalidLine, .fields vs_InvalidLine, s1_InvalidLine⟩)
    (ce_InvalidLine : K.lookup cc_InvalidLine = some ⟨c2_InvalidLine, d2_InvalidLine, .cell (some (.ref C_InvalidLine)), s2_InvalidLine⟩)
    (opq : PySem.W.nsIn K cStatics "thirdparty.any" = some none)
    (b_super : PySem.W.nsIn K mainGlobals "super" = some none)
    (a_AheadError : PySem.W.nsIn K mainGlobals "AheadError" = some (some (.ref C_AheadError)))
    (icA : PySem.W.isClsIn K C_AheadError = true)
    (tyA : PySem.W.typeIn K (.ref C_AheadError) = some (.type "type"))
    (suA : PySem.W.subIn K (.ref C_InvalidLine) (.ref C_AheadError) = some true)
    (v_KEYS : Vals [V.str "a", V.str "b"] it_KEYS.toList)
    (v_WORDS : Vals [V.str "join", V.str "sweep"] it_WORDS.toList)
    (lo_PARTS : (A_PARTS == sysModules) = false)
    (v_PARTS : EnL w.params es_PARTS.toList [("again", V.ref p_PARTS0), ("editions", V.ref p_PARTS1), ("fill", V.ref p_PARTS2), ("joined", V.ref p_PARTS3), ("missing", V.ref p_PARTS4), ("swept", V.ref p_PARTS5)])
    (lo_ROWS : (A_ROWS == sysModules) = false)
    (v_ROWS : EnL w.params es_ROWS.toList [("a1", V.ref p_ROWS0), ("a2", V.ref p_ROWS1), ("b1", V.ref p_ROWS2), ("b2", V.ref p_ROWS3)])
    (r_InvalidLine : PySem.HandSPX.refsVE bm_InvalidLine = true)
    (vs_InvalidLine : vs_InvalidLine[2]? = some (.str file_InvalidLine tf_InvalidLine))
    (fi_InvalidLine : ((l.prog.main.file : Str) == file_InvalidLine) = true)
    (htop : (l.prog.main.scope.names.lookup ("super" : Str)).isSome = false)
    (l_PARTS0 : K.lookup p_PARTS0 = some ⟨.type "tuple", od_PARTS0, .seq it_PARTS0 n_PARTS0, sl_PARTS0⟩)
    (l_PARTS1 : K.lookup p_PARTS1 = some ⟨.type "tuple", od_PARTS1, .seq it_PARTS1 n_PARTS1, sl_PARTS1⟩)
    (l_PARTS2 : K.lookup p_PARTS2 = some ⟨.type "tuple", od_PARTS2, .seq it_PARTS2 n_PARTS2, sl_PARTS2⟩)
    (l_PARTS3 : K.lookup p_PARTS3 = some ⟨.type "tuple", od_PARTS3, .seq it_PARTS3 n_PARTS3, sl_PARTS3⟩)
    (l_PARTS4 : K.lookup p_PARTS4 = some ⟨.type "tuple", od_PARTS4, .seq it_PARTS4 n_PARTS4, sl_PARTS4⟩)
    (l_PARTS5 : K.lookup p_PARTS5 = some ⟨.type "tuple", od_PARTS5, .seq it_PARTS5 n_PARTS5, sl_PARTS5⟩)
    (l_ROWS0 : K.lookup p_ROWS0 = some ⟨.type "tuple", od_ROWS0, .seq it_ROWS0 n_ROWS0, sl_ROWS0⟩)
    (l_ROWS1 : K.lookup p_ROWS1 = some ⟨.type "tuple", od_ROWS1, .seq it_ROWS1 n_ROWS1, sl_ROWS1⟩)
    (l_ROWS2 : K.lookup p_ROWS2 = some ⟨.type "tuple", od_ROWS2, .seq it_ROWS2 n_ROWS2, sl_ROWS2⟩)
    (l_ROWS3 : K.lookup p_ROWS3 = some ⟨.type "tuple", od_ROWS3, .seq it_ROWS3 n_ROWS3, sl_ROWS3⟩)
    (v_PARTS0 : Vals [V.str "skip", V.str "twice"] it_PARTS0.toList)
    (v_PARTS1 : Vals [V.str "moves", V.str "stays"] it_PARTS1.toList)
    (v_PARTS2 : Vals [V.str "beside", V.str "fills"] it_PARTS2.toList)
    (v_PARTS3 : Vals [V.str "moves", V.str "stays"] it_PARTS3.toList)
    (v_PARTS4 : Vals [V.str "none", V.str "place", V.str "waits"] it_PARTS4.toList)
    (v_PARTS5 : Vals [V.str "all", V.str "empty"] it_PARTS5.toList)
    (v_ROWS0 : Vals [V.str "a", V.int 1] it_ROWS0.toList)
    (v_ROWS1 : Vals [V.str "a", V.int 2] it_ROWS1.toList)
    (v_ROWS2 : Vals [V.str "b", V.int 1] it_ROWS2.toList)
    (v_ROWS3 : Vals [V.str "b", V.int 2] it_ROWS3.toList) :
    ∃ fd : FuncData, (∀ (s : Shared) (v : Value), BindsTo s fd ⟨[v], []⟩ [("_law_script", v)]) ∧ ∀ base : Heap, K.In base → base.Ns mainGlobals mg → FnOk l.prog w K mg base CX0 7 fa fd ["_law_script"] (sp_law K w ad0) := by
  have e := hfa.symm.trans (PySem.W.mg_of X G a_law)
  cases e
  have ax : Ax K w { KEYS := A_KEYS, PARTS := A_PARTS, WORDS := A_WORDS, ROWS := A_ROWS, Book := C_Book, InvalidLine := C_InvalidLine, AheadError := C_AheadError } := by
    exact ⟨fun G => .tup (tup_at l_KEYS v_KEYS) (.cons (.str _) (.cons (.str _) .nil)), fun G => .tup (tup_at l_WORDS v_WORDS) (.cons (.str _) (.cons (.str _) .nil)), ⟨[V.ref p_PARTS0, V.ref p_PARTS1, V.ref p_PARTS2, V.ref p_PARTS3, V.ref p_PARTS4, V.ref p_PARTS5], kd_at l_PARTS v_PARTS lo_PARTS (by rw [List.map_fst_zip (by show 6 ≤ 6; decide)]; decide +kernel) (by show 6 ≤ 1000; decide), rfl, fun G => (.cons (.tup (tup_at l_PARTS0 v_PARTS0) (.cons (.str _) (.cons (.str _) .nil))) (.cons (.tup (tup_at l_PARTS1 v_PARTS1) (.cons (.str _) (.cons (.str _) .nil))) (.cons (.tup (tup_at l_PARTS2 v_PARTS2) (.cons (.str _) (.cons (.str _) .nil))) (.cons (.tup (tup_at l_PARTS3 v_PARTS3) (.cons (.str _) (.cons (.str _) .nil))) (.cons (.tup (tup_at l_PARTS4 v_PARTS4) (.cons (.str _) (.cons (.str _) (.cons (.str _) .nil)))) (.cons (.tup (tup_at l_PARTS5 v_PARTS5) (.cons (.str _) (.cons (.str _) .nil))) .nil))))))⟩, ⟨pg, hd, po, sa⟩, n_wanted, n_terms, n_kinds⟩
  have axt : Axt K w { KEYS := A_KEYS, PARTS := A_PARTS, WORDS := A_WORDS, ROWS := A_ROWS, Book := C_Book, InvalidLine := C_InvalidLine, AheadError := C_AheadError } := ⟨ax, ⟨⟨pg, hd, po, sa⟩, ha, hn, htk, hm, if_pos (beq_self_eq_true _)⟩, ⟨[V.ref p_ROWS0, V.ref p_ROWS1, V.ref p_ROWS2, V.ref p_ROWS3], kd_at l_ROWS v_ROWS lo_ROWS (by rw [List.map_fst_zip (by show 4 ≤ 4; decide)]; decide +kernel) (by show 4 ≤ 1000; decide), rfl, fun G => (.cons (.tup (tup_at l_ROWS0 v_ROWS0) (.cons (.str _) (.cons (.int _) .nil))) (.cons (.tup (tup_at l_ROWS1 v_ROWS1) (.cons (.str _) (.cons (.int _) .nil))) (.cons (.tup (tup_at l_ROWS2 v_ROWS2) (.cons (.str _) (.cons (.int _) .nil))) (.cons (.tup (tup_at l_ROWS3 v_ROWS3) (.cons (.str _) (.cons (.int _) .nil))) .nil))))⟩⟩
  have T : Tx K w mg { KEYS := A_KEYS, PARTS := A_PARTS, WORDS := A_WORDS, ROWS := A_ROWS, Book := C_Book, InvalidLine := C_InvalidLine, AheadError := C_AheadError } := ⟨axt, ⟨exm_own ic_InvalidLine eb_InvalidLine ty_InvalidLine se_InvalidLine, kit_sub icA tyA suA⟩, ⟨ga_InvalidLine, gg_InvalidLine, eb_InvalidLine, hd_InvalidLine, hac_InvalidLine, hn, htk, mo_InvalidLine⟩, ic_InvalidLine, ⟨ga_InvalidLine, gg_InvalidLine, eb_InvalidLine, hd_InvalidLine⟩, nf_InvalidLine, PySem.W.mg_of X G a_InvalidLine, ⟨_, PySem.W.mg_of X G a_AheadError, rfl⟩, ⟨_, PySem.W.mg_of X G a_KEYS, rfl⟩, ⟨_, PySem.W.mg_of X G a_MOST_ROWS, _, rfl⟩, ⟨_, PySem.W.mg_of X G a_PARTS, rfl⟩, ⟨_, PySem.W.mg_of X G a_ROWS, rfl⟩, ⟨_, PySem.W.mg_of X G a_WORDS, rfl⟩, PySem.W.mg_none_of X G b_all, PySem.W.mg_none_of X G b_bool, PySem.W.mg_none_of X G b_dict, PySem.W.mg_none_of X G b_int, PySem.W.mg_none_of X G b_isinstance, PySem.W.mg_none_of X G b_len, PySem.W.mg_none_of X G b_list, PySem.W.mg_none_of X G b_max, PySem.W.mg_none_of X G b_range, PySem.W.mg_none_of X G b_str, PySem.W.mg_none_of X G b_tuple⟩
  have F_is_integer := fun_mk (st := s_is_integer) l_is_integer c_is_integer k_is_integer
  have B_is_integer := F_is_integer.binds (ps := ["thing", "low", "high"]) fun _ _ _ _ _ _ us hl => match us, hl with | [_, _, _], _ => rfl
  have F_is_word := fun_mk (st := s_is_word) l_is_word c_is_word k_is_word
  have B_is_word := F_is_word.binds (ps := ["thing", "words"]) fun _ _ _ _ _ _ us hl => match us, hl with | [_, _], _ => rfl
  have F_is_edition := fun_mk (st := s_is_edition) l_is_edition c_is_edition k_is_edition
  have B_is_edition := F_is_edition.binds (ps := ["thing", "least"]) fun _ _ _ _ _ _ us hl => match us, hl with | [_, _], _ => rfl
  have F_check_rule := fun_mk (st := s_check_rule) l_check_rule c_check_rule k_check_rule
  have B_check_rule := F_check_rule.binds (ps := ["rule"]) fun _ _ _ _ _ _ us hl => match us, hl with | [_], _ => rfl
  have F_Book_init := fun_mk (st := s_Book_init) l_Book_init c_Book_init k_Book_init
  have B_Book_init := F_Book_init.binds (ps := ["self", "rows", "rule", "words"]) fun _ _ _ _ _ _ us hl => match us, hl with | [_, _, _, _], _ => rfl
  have F_line_atX := fun_mk (st := s_line_atX) l_line_atX c_line_atX k_line_atX
  have B_line_atX := F_line_atX.binds (ps := ["lines", "index"]) fun _ _ _ _ _ _ us hl => match us, hl with | [_, _], _ => rfl
  have F_rows_atX := fun_mk (st := s_rows_atX) l_rows_atX c_rows_atX k_rows_atX
  have B_rows_atX := F_rows_atX.binds (ps := ["lines"]) fun _ _ _ _ _ _ us hl => match us, hl with | [_], _ => rfl
  have F_word_atX := fun_mk (st := s_word_atX) l_word_atX c_word_atX k_word_atX
  have B_word_atX := F_word_atX.binds (ps := ["lines", "index", "part", "allowed"]) fun _ _ _ _ _ _ us hl => match us, hl with | [_, _, _, _], _ => rfl
  have F_words_atX := fun_mk (st := s_words_atX) l_words_atX c_words_atX k_words_atX
  have B_words_atX := F_words_atX.binds (ps := ["lines", "index"]) fun _ _ _ _ _ _ us hl => match us, hl with | [_, _], _ => rfl
  have F_readX := fun_mk (st := s_readX) l_readX c_readX k_readX
  have B_readX := F_readX.binds (ps := ["text"]) fun _ _ _ _ _ _ us hl => match us, hl with | [_], _ => rfl
  have F__law_mix := fun_mk (st := s__law_mix) l__law_mix c__law_mix k__law_mix
  have B__law_mix := F__law_mix.binds (ps := ["_law_script", "_law_seed"]) fun _ _ _ _ _ _ us hl => match us, hl with | [_, _], _ => rfl
  have F__law_next := fun_mk (st := s__law_next) l__law_next c__law_next k__law_next
  have B__law_next := F__law_next.binds (ps := ["_law_h", "_law_cap"]) fun _ _ _ _ _ _ us hl => match us, hl with | [_, _], _ => rfl
  have F__law_alike := fun_mk (st := s__law_alike) l__law_alike c__law_alike k__law_alike
  have B__law_alike := F__law_alike.binds (ps := ["_law_found", "_law_due"]) fun _ _ _ _ _ _ us hl => match us, hl with | [_, _], _ => rfl
  have F__law_pick := fun_mk (st := s__law_pick) l__law_pick c__law_pick k__law_pick
  have B__law_pick := F__law_pick.binds (ps := ["_law_h", "_law_things"]) fun _ _ _ _ _ _ us hl => match us, hl with | [_, _], _ => rfl
  have F__law_parts := fun_mk (st := s__law_parts) l__law_parts c__law_parts k__law_parts
  have B__law_parts := F__law_parts.binds (ps := []) fun _ _ _ _ _ _ us hl => match us, hl with | [], _ => rfl
  have F__law_rule := fun_mk (st := s__law_rule) l__law_rule c__law_rule k__law_rule
  have B__law_rule := F__law_rule.binds (ps := ["_law_h"]) fun _ _ _ _ _ _ us hl => match us, hl with | [_], _ => rfl
  have F__law_with := fun_mk (st := s__law_with) l__law_with c__law_with k__law_with
  have B__law_with := F__law_with.binds (ps := ["_law_rule_here", "_law_part", "_law_word"]) fun _ _ _ _ _ _ us hl => match us, hl with | [_, _, _], _ => rfl
  have F__law_draw := fun_mk (st := s__law_draw) l__law_draw c__law_draw k__law_draw
  have B__law_draw := F__law_draw.binds (ps := ["_law_h"]) fun _ _ _ _ _ _ us hl => match us, hl with | [_], _ => rfl
  have F__law_is_line := fun_mk (st := s__law_is_line) l__law_is_line c__law_is_line k__law_is_line
  have B__law_is_line := F__law_is_line.binds (ps := ["_law_words", "_law_k"]) fun _ _ _ _ _ _ us hl => match us, hl with | [_, _], _ => rfl
  have F__law_first_wrong := fun_mk (st := s__law_first_wrong) l__law_first_wrong c__law_first_wrong k__law_first_wrong
  have B__law_first_wrong := F__law_first_wrong.binds (ps := ["_law_lines"]) fun _ _ _ _ _ _ us hl => match us, hl with | [_], _ => rfl
  have F__law_answer := fun_mk (st := s__law_answer) l__law_answer c__law_answer k__law_answer
  have B__law_answer := F__law_answer.binds (ps := ["_law_text"]) fun _ _ _ _ _ _ us hl => match us, hl with | [_], _ => rfl
  have F_law := fun_mk (st := s_law) l_law c_law k_law
  have B_law := F_law.binds (ps := ["_law_script"]) fun _ _ _ _ _ _ us hl => match us, hl with | [_], _ => rfl
  refine ⟨PySem.W.fnOf "law" "law" (defArgs s_law) (defBody s_law) (defScope s_law) .none kV_law dc_law pm_law an_law cd_law ct_law, fun s v => .of_eq rfl, fun base _ _ => ?_⟩
  have X_InvalidLine : XcF l.prog w K mg C_InvalidLine "InvalidLine" "line" := by
    have S : PySem.AhX.SupTxt l.prog K mg C_InvalidLine f_InvalidLine "InvalidLine" "InvalidLine.__init__" s_InvalidLine_init := ⟨PySem.W.mg_of X G a_InvalidLine, ⟨_, _, _, _, _, _, _, _, _, _, _, _, _, _, _, x_InvalidLine, r_InvalidLine⟩, sa_InvalidLine, i_InvalidLine, t_InvalidLine, k_InvalidLine, eb_InvalidLine, ev_InvalidLine, ty_InvalidLine, me_InvalidLine, up_InvalidLine, opq, ⟨_, _, _, _, _, _, _, _, _, _, _, _, _, _, _, _, _, _, l_InvalidLine, c_InvalidLine, cd_InvalidLine, vs_InvalidLine, fi_InvalidLine, ce_InvalidLine⟩⟩
    exact ⟨_, _, _, S, init_InvalidLine S nf_InvalidLine (PySem.W.mg_none_of X G b_super) htop⟩
  have C_is_integer := Cal.mk ⟨_, _, _, ok_is_integer (P := l.prog) (base := base) F_is_integer T, PySem.W.mg_of X G a_is_integer, k_is_integer, B_is_integer⟩
  have C_is_word := Cal.mk ⟨_, _, _, ok_is_word (P := l.prog) (base := base) F_is_word T, PySem.W.mg_of X G a_is_word, k_is_word, B_is_word⟩
  have C_is_edition := Cal.mk ⟨_, _, _, ok_is_edition (P := l.prog) (base := base) F_is_edition T C_is_word C_is_integer, PySem.W.mg_of X G a_is_edition, k_is_edition, B_is_edition⟩
  have C_check_rule := Cal.mk ⟨_, _, _, ok_check_rule (P := l.prog) (base := base) F_check_rule T C_is_word, PySem.W.mg_of X G a_check_rule, k_check_rule, B_check_rule⟩
  have C_Book_init := Mak.mk ⟨_, _, _, ⟨mk, a_Book_init, i_Book_init, kc⟩, ok_Book_init (P := l.prog) (base := base) F_Book_init T C_is_edition C_check_rule C_is_word, PySem.W.mg_of X G a_Book, B_Book_init⟩
  have C_line_at := Cal.mk ⟨_, _, _, ok_line_atX (P := l.prog) (base := base) F_line_atX T X_InvalidLine, PySem.W.mg_of X G a_line_atX, k_line_atX, B_line_atX⟩
  have C_rows_at := Cal.mk ⟨_, _, _, ok_rows_atX (P := l.prog) (base := base) F_rows_atX T C_line_at X_InvalidLine, PySem.W.mg_of X G a_rows_atX, k_rows_atX, B_rows_atX⟩
  have C_word_at := Cal.mk ⟨_, _, _, ok_word_atX (P := l.prog) (base := base) F_word_atX T C_line_at X_InvalidLine, PySem.W.mg_of X G a_word_atX, k_word_atX, B_word_atX⟩
  have C_words_at := Cal.mk ⟨_, _, _, ok_words_atX (P := l.prog) (base := base) F_words_atX T C_line_at X_InvalidLine, PySem.W.mg_of X G a_words_atX, k_words_atX, B_words_atX⟩
  have C_read := Cal.mk ⟨_, _, _, ok_readX (P := l.prog) (base := base) F_readX T C_rows_at C_word_at C_words_at C_Book_init X_InvalidLine, PySem.W.mg_of X G a_readX, k_readX, B_readX⟩
  have C__law_mix := Cal.mk ⟨_, _, _, ok__law_mix (P := l.prog) (base := base) F__law_mix T, PySem.W.mg_of X G a__law_mix, k__law_mix, B__law_mix⟩
  have C__law_next := Cal.mk ⟨_, _, _, ok__law_next (P := l.prog) (base := base) F__law_next T, PySem.W.mg_of X G a__law_next, k__law_next, B__law_next⟩
  have C__law_alike := Cal.mk ⟨_, _, _, ok__law_alike (P := l.prog) (base := base) F__law_alike T, PySem.W.mg_of X G a__law_alike, k__law_alike, B__law_alike⟩
  have C__law_pick := Cal.mk ⟨_, _, _, ok__law_pick (P := l.prog) (base := base) F__law_pick T C__law_next, PySem.W.mg_of X G a__law_pick, k__law_pick, B__law_pick⟩
  have C__law_parts := Cal.mk ⟨_, _, _, ok__law_parts (P := l.prog) (base := base) F__law_parts T, PySem.W.mg_of X G a__law_parts, k__law_parts, B__law_parts⟩
  have C__law_rule := Cal.mk ⟨_, _, _, ok__law_rule (P := l.prog) (base := base) F__law_rule T C__law_parts C__law_pick C__law_next, PySem.W.mg_of X G a__law_rule, k__law_rule, B__law_rule⟩
  have C__law_with := Cal.mk ⟨_, _, _, ok__law_with (P := l.prog) (base := base) F__law_with T, PySem.W.mg_of X G a__law_with, k__law_with, B__law_with⟩
  have C__law_draw := Cal.mk ⟨_, _, _, ok__law_draw (P := l.prog) (base := base) F__law_draw T C__law_next C__law_pick C__law_rule C__law_with, PySem.W.mg_of X G a__law_draw, k__law_draw, B__law_draw⟩
  have C__law_is_line := Cal.mk ⟨_, _, _, ok__law_is_line (P := l.prog) (base := base) F__law_is_line T C__law_parts, PySem.W.mg_of X G a__law_is_line, k__law_is_line, B__law_is_line⟩
  have C__law_first_wrong := Cal.mk ⟨_, _, _, ok__law_first_wrong (P := l.prog) (base := base) F__law_first_wrong T C__law_is_line, PySem.W.mg_of X G a__law_first_wrong, k__law_first_wrong, B__law_first_wrong⟩
  have C__law_answer := Cal.mk ⟨_, _, _, ok__law_answer (P := l.prog) (base := base) F__law_answer T C_read, PySem.W.mg_of X G a__law_answer, k__law_answer, B__law_answer⟩
  have z := ok_law (P := l.prog) (base := base) F_law T C__law_mix C__law_draw C__law_parts C__law_next C__law_pick C__law_alike C__law_first_wrong C__law_answer
  exact z
theorem walk {l : PySem.W.OpenLaw} {q : Program} {loose : List Str} {XP : (Str → Option Value) → Heap → Prop} {YP : World → Heap → Prop} {d : DefRec} {K : Params → PySem.W.Frag} (hn : l.most = some 63) (hdf : d.params.defaults = [])
    (hY : ∀ (w : World) (h : Heap), YP w h → (K w.params).In h)
    (F : ∀ (w : World) (mg : Str → Option Value) (fa : Addr) (h : Heap), (K w.params).In h → h.Ns mainGlobals mg → mg d.name = some (.ref fa) →
      ∃ fd : FuncData, (∀ (s : Shared) (u : Value), BindsTo s fd ⟨[u], []⟩ [("_law_script", u)]) ∧ ∀ base : Heap, (K w.params).In base → base.Ns mainGlobals mg → FnOk l.prog w (K w.params) mg base CX0 7 fa fd ["_law_script"] (sp_law (K w.params) w ad0)) :
    PySem.W.WalkO q loose XP YP l.row.toRowW d [] (fun f vs => PySem.call f vs) :=
  L2.walk_of (n := 63) (k := 7) (x := "_law_script") (CX := fun _ => CX0) (sp := fun w => sp_law (K w.params) w ad0) hn (by decide) hdf ⟨rfl, by decide, by decide⟩ hY F (fun _ _ a ns hl _ hS => ⟨a, ns, rfl, hS, hl, fun _ => rfl⟩) fun _ _ _ _ _ z => z
end Ah
open PySem PySem.W PyProof.Rows
set_option maxRecDepth 100000 in
set_option maxHeartbeats 0 in
theorem PySem.Challenge.cw_aheadrows_k15_texts_refused_holds : PySem.Challenge.rw_aheadrows_k15_texts_refused.Holds := by
  w_on; o_law; k_head; (case hw => w_witness2)
  k_fill
  refine Ah.walk (l := PySem.Challenge.rw_aheadrows_k15_texts_refused) rfl rfl (fun w h Y => PySem.W.kIn_of Y) ?F
  case F =>
    intro w mg fa h KX G hmg
    refine' Ah.all_mk KX G hmg ?a_Book ?a_is_integer ?l_is_integer ?c_is_integer ?k_is_integer ?a_is_word ?l_is_word ?c_is_word ?k_is_word ?a_is_edition ?l_is_edition ?c_is_edition ?k_is_edition ?a_check_rule ?l_check_rule ?c_check_rule ?k_check_rule ?a_Book_init ?i_Book_init ?l_Book_init ?c_Book_init ?k_Book_init ?a_line_atX ?l_line_atX ?c_line_atX ?k_line_atX ?a_rows_atX ?l_rows_atX ?c_rows_atX ?k_rows_atX ?a_word_atX ?l_word_atX ?c_word_atX ?k_word_atX ?a_words_atX ?l_words_atX ?c_words_atX ?k_words_atX ?a_readX ?l_readX ?c_readX ?k_readX ?a__law_mix ?l__law_mix ?c__law_mix ?k__law_mix ?a__law_next ?l__law_next ?c__law_next ?k__law_next ?a__law_alike ?l__law_alike ?c__law_alike ?k__law_alike ?a__law_pick ?l__law_pick ?c__law_pick ?k__law_pick ?a__law_parts ?l__law_parts ?c__law_parts ?k__law_parts ?a__law_rule ?l__law_rule ?c__law_rule ?k__law_rule ?a__law_with ?l__law_with ?c__law_with ?k__law_with ?a__law_draw ?l__law_draw ?c__law_draw ?k__law_draw ?a__law_is_line ?l__law_is_line ?c__law_is_line ?k__law_is_line ?a__law_first_wrong ?l__law_first_wrong ?c__law_first_wrong ?k__law_first_wrong ?a__law_answer ?l__law_answer ?c__law_answer ?k__law_answer ?a_law ?l_law ?c_law ?k_law ?pg ?hd ?po ?sa ?mk ?kc ?n_wanted ?n_terms ?n_kinds ?ha ?hn ?htk ?hm ?a_KEYS ?l_KEYS ?a_WORDS ?l_WORDS ?a_PARTS ?l_PARTS ?a_ROWS ?l_ROWS ?a_MOST_ROWS ?b_all ?b_bool ?b_dict ?b_int ?b_isinstance ?b_len ?b_list ?b_max ?b_range ?b_str ?b_tuple ?a_InvalidLine ?x_InvalidLine ?sa_InvalidLine ?ga_InvalidLine ?gg_InvalidLine ?i_InvalidLine ?k_InvalidLine ?eb_InvalidLine ?ev_InvalidLine ?ty_InvalidLine ?me_InvalidLine ?hd_InvalidLine ?ic_InvalidLine ?se_InvalidLine ?hac_InvalidLine ?mo_InvalidLine ?t_InvalidLine ?up_InvalidLine ?nf_InvalidLine ?l_InvalidLine ?c_InvalidLine ?cd_InvalidLine ?ce_InvalidLine ?opq ?b_super ?a_AheadError ?icA ?tyA ?suA ?v_KEYS ?v_WORDS ?lo_PARTS ?v_PARTS ?lo_ROWS ?v_ROWS ?r_InvalidLine ?vs_InvalidLine ?fi_InvalidLine ?htop ?l_PARTS0 ?l_PARTS1 ?l_PARTS2 ?l_PARTS3 ?l_PARTS4 ?l_PARTS5 ?l_ROWS0 ?l_ROWS1 ?l_ROWS2 ?l_ROWS3 ?v_PARTS0 ?v_PARTS1 ?v_PARTS2 ?v_PARTS3 ?v_PARTS4 ?v_PARTS5 ?v_ROWS0 ?v_ROWS1 ?v_ROWS2 ?v_ROWS3
    (case a_Book => k_is)
    (case a_is_integer => k_is)
    (case l_is_integer => k_is)
    (case c_is_integer => k_is)
    (case k_is_integer => k_is)
    (case a_is_word => k_is)
    (case l_is_word => k_is)
    (case c_is_word => k_is)
    (case k_is_word => k_is)
    (case a_is_edition => k_is)
    (case l_is_edition => k_is)
    (case c_is_edition => k_is)
    (case k_is_edition => k_is)
    (case a_check_rule => k_is)
    (case l_check_rule => k_is)
    (case c_check_rule => k_is)
    (case k_check_rule => k_is)
    (case a_Book_init => k_is)
    (case i_Book_init => k_is)
    (case l_Book_init => k_is)
    (case c_Book_init => k_is)
    (case k_Book_init => k_is)
    (case a_line_atX => k_is)
    (case l_line_atX => k_is)
    (case c_line_atX => k_is)
    (case k_line_atX => k_is)
    (case a_rows_atX => k_is)
    (case l_rows_atX => k_is)
    (case c_rows_atX => k_is)
    (case k_rows_atX => k_is)
    (case a_word_atX => k_is)
    (case l_word_atX => k_is)
    (case c_word_atX => k_is)
    (case k_word_atX => k_is)
    (case a_words_atX => k_is)
    (case l_words_atX => k_is)
    (case c_words_atX => k_is)
    (case k_words_atX => k_is)
    (case a_readX => k_is)
    (case l_readX => k_is)
    (case c_readX => k_is)
    (case k_readX => k_is)
    (case a__law_mix => k_is)
    (case l__law_mix => k_is)
    (case c__law_mix => k_is)
    (case k__law_mix => k_is)
    (case a__law_next => k_is)
    (case l__law_next => k_is)
    (case c__law_next => k_is)
    (case k__law_next => k_is)
    (case a__law_alike => k_is)
    (case l__law_alike => k_is)
    (case c__law_alike => k_is)
    (case k__law_alike => k_is)
    (case a__law_pick => k_is)
    (case l__law_pick => k_is)
    (case c__law_pick => k_is)
    (case k__law_pick => k_is)
    (case a__law_parts => k_is)
    (case l__law_parts => k_is)
    (case c__law_parts => k_is)
    (case k__law_parts => k_is)
    (case a__law_rule => k_is)
    (case l__law_rule => k_is)
    (case c__law_rule => k_is)
    (case k__law_rule => k_is)
    (case a__law_with => k_is)
    (case l__law_with => k_is)
    (case c__law_with => k_is)
    (case k__law_with => k_is)
    (case a__law_draw => k_is)
    (case l__law_draw => k_is)
    (case c__law_draw => k_is)
    (case k__law_draw => k_is)
    (case a__law_is_line => k_is)
    (case l__law_is_line => k_is)
    (case c__law_is_line => k_is)
    (case k__law_is_line => k_is)
    (case a__law_first_wrong => k_is)
    (case l__law_first_wrong => k_is)
    (case c__law_first_wrong => k_is)
    (case k__law_first_wrong => k_is)
    (case a__law_answer => k_is)
    (case l__law_answer => k_is)
    (case c__law_answer => k_is)
    (case k__law_answer => k_is)
    (case a_law => k_is)
    (case l_law => k_is)
    (case c_law => k_is)
    (case k_law => k_is)
    (case pg => k_is)
    (case hd => k_is)
    (case po => k_is)
    (case sa => k_is)
    (case mk => k_is)
    (case kc => k_is)
    (case n_wanted => k_is)
    (case n_terms => k_is)
    (case n_kinds => k_is)
    (case ha => k_is)
    (case hn => k_is)
    (case htk => k_is)
    (case hm => k_is)
    (case a_KEYS => k_is)
    (case l_KEYS => k_is)
    (case a_WORDS => k_is)
    (case l_WORDS => k_is)
    (case a_PARTS => k_is)
    (case l_PARTS => k_is)
    (case a_ROWS => k_is)
    (case l_ROWS => k_is)
    (case a_MOST_ROWS => k_is)
    (case b_all => k_is)
    (case b_bool => k_is)
    (case b_dict => k_is)
    (case b_int => k_is)
    (case b_isinstance => k_is)
    (case b_len => k_is)
    (case b_list => k_is)
    (case b_max => k_is)
    (case b_range => k_is)
    (case b_str => k_is)
    (case b_tuple => k_is)
    (case a_InvalidLine => k_is)
    (case x_InvalidLine => k_is)
    (case sa_InvalidLine => k_is)
    (case ga_InvalidLine => k_is)
    (case gg_InvalidLine => k_is)
    (case i_InvalidLine => k_is)
    (case k_InvalidLine => k_is)
    (case eb_InvalidLine => k_is)
    (case ev_InvalidLine => k_is)
    (case ty_InvalidLine => k_is)
    (case me_InvalidLine => k_is)
    (case hd_InvalidLine => k_is)
    (case ic_InvalidLine => k_is)
    (case se_InvalidLine => k_is)
    (case hac_InvalidLine => k_is)
    (case mo_InvalidLine => k_is)
    (case t_InvalidLine => k_is)
    (case up_InvalidLine => ks_is)
    (case nf_InvalidLine => k_is)
    (case l_InvalidLine => k_is)
    (case c_InvalidLine => k_is)
    (case cd_InvalidLine => k_is)
    (case ce_InvalidLine => k_is)
    (case opq => k_is)
    (case b_super => k_is)
    (case a_AheadError => k_is)
    (case icA => k_is)
    (case tyA => k_is)
    (case suA => k_is)
    (case v_KEYS => exact (.cons ⟨_, rfl⟩ (.cons ⟨_, rfl⟩ .nil)))
    (case v_WORDS => exact (.cons ⟨_, rfl⟩ (.cons ⟨_, rfl⟩ .nil)))
    (case lo_PARTS => exact (by first | rfl | decide +kernel))
    (case v_PARTS => exact ⟨⟨_, rfl⟩, rfl, rfl, ⟨⟨_, rfl⟩, rfl, rfl, ⟨⟨_, rfl⟩, rfl, rfl, ⟨⟨_, rfl⟩, rfl, rfl, ⟨⟨_, rfl⟩, rfl, rfl, ⟨⟨_, rfl⟩, rfl, rfl, trivial⟩⟩⟩⟩⟩⟩)
    (case lo_ROWS => exact (by first | rfl | decide +kernel))
    (case v_ROWS => exact ⟨⟨_, rfl⟩, rfl, rfl, ⟨⟨_, rfl⟩, rfl, rfl, ⟨⟨_, rfl⟩, rfl, rfl, ⟨⟨_, rfl⟩, rfl, rfl, trivial⟩⟩⟩⟩)
    (case r_InvalidLine => exact (by first | rfl | decide +kernel))
    (case vs_InvalidLine => exact (by first | rfl | decide +kernel))
    (case fi_InvalidLine => exact (by first | rfl | decide +kernel))
    (case htop => exact (by first | rfl | decide +kernel))
    (case l_PARTS0 => k_is)
    (case l_PARTS1 => k_is)
    (case l_PARTS2 => k_is)
    (case l_PARTS3 => k_is)
    (case l_PARTS4 => k_is)
    (case l_PARTS5 => k_is)
    (case l_ROWS0 => k_is)
    (case l_ROWS1 => k_is)
    (case l_ROWS2 => k_is)
    (case l_ROWS3 => k_is)
    (case v_PARTS0 => exact (.cons ⟨_, rfl⟩ (.cons ⟨_, rfl⟩ .nil)))
    (case v_PARTS1 => exact (.cons ⟨_, rfl⟩ (.cons ⟨_, rfl⟩ .nil)))
    (case v_PARTS2 => exact (.cons ⟨_, rfl⟩ (.cons ⟨_, rfl⟩ .nil)))
    (case v_PARTS3 => exact (.cons ⟨_, rfl⟩ (.cons ⟨_, rfl⟩ .nil)))
    (case v_PARTS4 => exact (.cons ⟨_, rfl⟩ (.cons ⟨_, rfl⟩ (.cons ⟨_, rfl⟩ .nil))))
    (case v_PARTS5 => exact (.cons ⟨_, rfl⟩ (.cons ⟨_, rfl⟩ .nil)))
    (case v_ROWS0 => exact (.cons ⟨_, rfl⟩ (.cons ⟨_, rfl⟩ .nil)))
    (case v_ROWS1 => exact (.cons ⟨_, rfl⟩ (.cons ⟨_, rfl⟩ .nil)))
    (case v_ROWS2 => exact (.cons ⟨_, rfl⟩ (.cons ⟨_, rfl⟩ .nil)))
    (case v_ROWS3 => exact (.cons ⟨_, rfl⟩ (.cons ⟨_, rfl⟩ .nil)))

